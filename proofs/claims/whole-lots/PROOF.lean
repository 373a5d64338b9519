import PyProof.Rows.All
import Wide.All
import OpenK.AllK
import Wide.FinOn
import HandS.ForMost
import HandS.Walk
import HandS.Zip
import HandS.TupAny
import HandS.TupLe
import HandS.IsInst
import HandS.SortRule
import HandS.Evl
import HandS.Lambda
import HandS.EndTab
import KE.GoesEnum
import PySem.PyData
import KE.SortKeyHeap
import HandS.SortKw
import HandS.Conv
import HandS.Style
import KE.KNestM
import PySem.Challenge.RW_hearthbook_k77_whole_lots
set_option Elab.async false
set_option linter.all false
set_option maxRecDepth 100000
set_option maxHeartbeats 4000000
namespace Hb
open PySem PySem.Spec PyProof.Rows L2
open Evl (Ex)

/-! ## what is weakest ahead of a piece -/
section
variable {X : Cx} {e : Expr} {es : List Expr} {sts : List Stmt} {st : Stmt} {σ : L2.St} {H : Hp}
def WE (X : Cx) (e : Expr) : TE := fun σ H Q => ∀ (pins : List (Addr × Obj)) (s : Shared), Inv X pins σ H s →
  wpAny (model X.prog X.w) X.A (eval e X.env) (EP X pins σ Q) X.xe s
def WT (X : Cx) (e : Expr) : TT := fun σ H Q => ∀ (pins : List (Addr × Obj)) (s : Shared), Inv X pins σ H s →
  wpAny (model X.prog X.w) X.A (isTrue e X.env (eval e X.env)) (TP X pins σ Q) X.xe s
def WA (X : Cx) (es : List Expr) : TA := fun σ H Q => ∀ (pos : Pos) (pins : List (Addr × Obj)) (s : Shared), Inv X pins σ H s →
  wpAny (model X.prog X.w) X.A (spliced (backTo pos (starEach es X.env))) (AP X pins σ Q) X.xe s
def WS (X : Cx) (st : Stmt) : TS := fun D σ H => ∀ (pins : List (Addr × Obj)) (s : Shared), Inv X pins σ H s →
  wpAny (model X.prog X.w) X.A (exec st X.env) (SP X pins D) X.xe s
def WB (X : Cx) (sts : List Stmt) : TS := fun D σ H => ∀ (pins : List (Addr × Obj)) (s : Shared), Inv X pins σ H s →
  wpAny (model X.prog X.w) X.A (execs sts X.env) (SP X pins D) X.xe s
theorem we_pe : PE X e (WE X e) := ⟨fun pins s _ _ _ I h => h pins s I⟩
theorem wt_pt : PT X e (WT X e) := ⟨fun pins s _ _ _ I h => h pins s I⟩
theorem wa_pa : PA X es (WA X es) := ⟨fun pos pins s _ _ _ I h => h pos pins s I⟩
theorem ws_ps : PS X st (WS X st) := ⟨fun pins s _ _ _ I h => h pins s I⟩
theorem wb_pss : PSs X sts (WB X sts) := ⟨fun pins s _ _ _ I h => h pins s I⟩
theorem we_of {t : TE} {Q : VK} (h : PE X e t) (q : t σ H Q) : WE X e σ H Q := fun pins s I => h.run pins s σ H Q I q
theorem wt_of {t : TT} {Q : Bool → Hp → Prop} (h : PT X e t) (q : t σ H Q) : WT X e σ H Q := fun pins s I => h.run pins s σ H Q I q
theorem wa_of {t : TA} {Q : List V → Hp → Prop} (h : PA X es t) (q : t σ H Q) : WA X es σ H Q := fun pos pins s I => h.run pos pins s σ H Q I q
theorem ws_of {t : TS} {D : Ends} (h : PS X st t) (q : t D σ H) : WS X st D σ H := fun pins s I => h.run pins s σ H D I q
theorem wb_of {t : TS} {D : Ends} (h : PSs X sts t) (q : t D σ H) : WB X sts D σ H := fun pins s I => h.run pins s σ H D I q
theorem we_mono {Q Q' : VK} (h : WE X e σ H Q) (k : ∀ v H', Q v H' → Q' v H') : WE X e σ H Q' := fun pins s I =>
  thn (h pins s I) fun _ _ ⟨v, H', I', r, q⟩ => ⟨v, H', I', r, k v H' q⟩
end

/-! ## heaps, cut -/
def Kd (Z : Addr → Prop) (H H2 : Hp) : Prop := ∀ a o, ¬ Z a → H a = some o → H2 a = some o
def PenAt (H : Hp) (p : Addr) : Prop := ∃ i j k : Int, H p = some (.lst [.int i, .int j, .int k])
/-- the name of the lambda's code objects -/
abbrev qLam : Str := (("sets_of" : Str) ++ ".<locals>.") ++ "<lambda>"
def TabAt (H : Hp) (P : Addr) : Prop := LamX.TabS H P qLam
def Vol (H : Hp) (a : Addr) : Prop := PenAt H a ∨ TabAt H a
/-- what may turn within an expression: the pen, the table of the lambda's code -/
structure Vz where
  has : Addr → Prop
  tab : Addr
  ht : has tab
instance : CoeFun Vz fun _ => Addr → Prop := ⟨Vz.has⟩
abbrev vz1 (P : Addr) : Vz := ⟨fun a => a = P, P, rfl⟩
abbrev vz2 (p P : Addr) : Vz := ⟨fun a => a = p ∨ a = P, P, .inr rfl⟩
def Chg (Z : Vz) (H H2 : Hp) : Prop := Kd Z.has H H2 ∧ ∀ a, Z a → (PenAt H a → PenAt H2 a) ∧ (TabAt H a → TabAt H2 a)
noncomputable def cut (H : Hp) (F : Addr → Prop) : Hp := fun a => @ite _ (F a) (Classical.propDecidable _) none (H a)
theorem cut_out {H : Hp} {F : Addr → Prop} {a : Addr} (h : ¬ F a) : cut H F a = H a := by
  unfold cut
  exact if_neg h
theorem cut_in {H : Hp} {F : Addr → Prop} {a : Addr} (h : F a) : cut H F a = none := by
  unfold cut
  exact if_pos h
theorem cut_some {H : Hp} {F : Addr → Prop} {a : Addr} {o : HO} (h : cut H F a = some o) : ¬ F a ∧ H a = some o := by
  by_cases hF : F a
  · rw [cut_in hF] at h; cases h
  · rw [cut_out hF] at h; exact ⟨hF, h⟩
theorem cut_ex {H : Hp} {F : Addr → Prop} : Ex (cut H F) H := fun _ _ h => (cut_some h).2
theorem cut_sub {H : Hp} {F F' : Addr → Prop} (h : ∀ a, F a → F' a) : Ex (cut H F') (cut H F) := fun a o q => by
  obtain ⟨n, e⟩ := cut_some q
  rw [cut_out fun z => n (h a z)]
  exact e
theorem Kd.cut {Z F : Addr → Prop} {H H2 : Hp} (k : Kd Z H H2) (h : ∀ a, Z a → F a) : Ex (cut H F) (cut H2 F) := fun a o q => by
  obtain ⟨n, e⟩ := cut_some q
  rw [cut_out n]
  exact k a o (fun z => n (h a z)) e
theorem Kd.refl {Z : Addr → Prop} {H : Hp} : Kd Z H H := fun _ _ _ h => h
theorem Kd.trans {Z : Addr → Prop} {H H1 H2 : Hp} (a : Kd Z H H1) (b : Kd Z H1 H2) : Kd Z H H2 := fun c o n h => b c o n (a c o n h)
theorem Kd.mono {Z Z' : Addr → Prop} {H H2 : Hp} (k : Kd Z H H2) (h : ∀ a, Z a → Z' a) : Kd Z' H H2 := fun a o n q => k a o (fun z => n (h a z)) q
theorem Kd.of_ex {Z : Addr → Prop} {H H2 : Hp} (k : Ex H H2) : Kd Z H H2 := fun a o _ q => k a o q
theorem Chg.refl {Z : Vz} {H : Hp} : Chg Z H H := ⟨Kd.refl, fun _ _ => ⟨fun h => h, fun h => h⟩⟩
theorem Chg.trans {Z : Vz} {H H1 H2 : Hp} (a : Chg Z H H1) (b : Chg Z H1 H2) : Chg Z H H2 := ⟨a.1.trans b.1, fun c z => ⟨fun h => (b.2 c z).1 ((a.2 c z).1 h), fun h => (b.2 c z).2 ((a.2 c z).2 h)⟩⟩
theorem PenAt.ex {H H2 : Hp} {p : Addr} (h : PenAt H p) (k : Ex H H2) : PenAt H2 p := by
  obtain ⟨i, j, l, e⟩ := h
  exact ⟨i, j, l, k _ _ e⟩
theorem Chg.of_ex {Z : Vz} {H H2 : Hp} (k : Ex H H2) : Chg Z H H2 := ⟨Kd.of_ex k, fun _ _ => ⟨fun h => h.ex k, fun h => h.ext k⟩⟩
theorem Vol.some_ {H : Hp} {a : Addr} (h : Vol H a) : ∃ o, H a = some o := by
  rcases h with ⟨_, _, _, e⟩ | ⟨_, e, _⟩
  · exact ⟨_, e⟩
  · exact ⟨_, e⟩
theorem Vol.chg {Z : Vz} {H H2 : Hp} {a : Addr} (c : Chg Z H H2) (z : Z a) (h : Vol H a) : Vol H2 a := h.elim (fun q => .inl ((c.2 a z).1 q)) fun q => .inr ((c.2 a z).2 q)
/-- an object that is neither is written -/
def Plain (o : HO) : Prop := (∀ ps, o ≠ .tbl ps) ∧ ∀ φ, o ≠ .ext φ
theorem TabAt.upd {H : Hp} {a P : Addr} {o u : HO} (h : TabAt H P) (ha : H a = some o) (p : Plain o) : TabAt (upd H a u) P := by
  obtain ⟨ps, e1, e2, e3⟩ := h
  refine ⟨ps, ?_, e2, fun pos cv hc => ?_⟩
  · rw [upd_ne fun (z : P = a) => by rw [z, ha] at e1; exact p.1 ps (Option.some.inj e1)]
    exact e1
  · obtain ⟨c, q1, q2⟩ := e3 pos cv hc
    refine ⟨c, q1, ?_⟩
    rw [upd_ne fun (z : c = a) => by rw [z, ha] at q2; exact p.2 _ (Option.some.inj q2)]
    exact q2
theorem plain_lst {xs : List V} : Plain (.lst xs) := ⟨fun _ z => (nomatch z), fun _ z => (nomatch z)⟩
theorem plain_dT {kvs : List (List Key × V)} : Plain (.dT kvs) := ⟨fun _ z => (nomatch z), fun _ z => (nomatch z)⟩
theorem ex_new {H : Hp} {p : Addr} {o : HO} (h : H p = none) : Ex H (upd H p o) := Evl.Ex.new h
theorem ex_none {H H' : Hp} {p : Addr} (e : Ex H H') (h : H' p = none) : H p = none := Evl.fresh_back e h
theorem kd_none {Z : Addr → Prop} {H H' : Hp} {p : Addr} (e : Kd Z H H') (hz : ¬ Z p) (h : H' p = none) : H p = none := by
  cases h1 : H p with
  | none => rfl
  | some o =>
    rw [e p o hz h1] at h
    cases h
/-- a new object beside the cut -/
theorem cut_new {H : Hp} {F : Addr → Prop} {p : Addr} {o : HO} (hF : ¬ F p) : cut (upd H p o) F p = some o := by
  rw [cut_out hF]
  exact upd_same
theorem cut_upd_in {H : Hp} {F : Addr → Prop} {p : Addr} {o : HO} (hF : F p) : cut (upd H p o) F = cut H F := by
  funext b
  by_cases hb : F b
  · rw [cut_in hb, cut_in hb]
  · rw [cut_out hb, cut_out hb, upd_ne fun (e : b = p) => hb (by rw [e]; exact hF)]
/-- a new object within a greater cut -/
theorem ex_cut_new {H : Hp} {F : Addr → Prop} {p : Addr} {o : HO} (h : H p = none) : Ex (cut H F) (cut (upd H p o) fun b => F b ∨ b = p) := fun a u q => by
  obtain ⟨n, e⟩ := cut_some q
  have ne : a ≠ p := fun z => by rw [z, h] at e; cases e
  rw [cut_out fun z => z.elim n ne, upd_ne ne]
  exact e

/-! ## data -/
section
variable {K : PySem.W.Frag} {H H' : Hp}
mutual
theorem dp_ex (e : Ex H H') : ∀ {v : V} {d : PyData}, Dp K H v d → Dp K H' v d
  | _, _, .non => .non
  | _, _, .bl b => .bl b
  | _, _, .int i => .int i
  | _, _, .str x => .str x
  | _, _, .lst h a => .lst (Evl.ex_l e h) (dpa_ex e a)
  | _, _, .tup h a => .tup (Evl.ex_t e h) (dpa_ex e a)
theorem dpa_ex (e : Ex H H') : ∀ {vs : List V} {ds : List PyData}, DpAll K H vs ds → DpAll K H' vs ds
  | _, _, .nil => .nil
  | _, _, .cons h t => .cons (dp_ex e h) (dpa_ex e t)
end
theorem dp_int {v : V} {i : Int} (h : Dp K H v (.int i)) : v = .int i := by cases h; rfl
theorem dp_bl {v : V} {b : Bool} (h : Dp K H v (.bool b)) : v = .bl b := by cases h; rfl
theorem dp_str {v : V} {x : Str} (h : Dp K H v (.str x)) : v = .str x := by cases h; rfl
theorem dp_non {v : V} (h : Dp K H v .none) : v = .non := by cases h; rfl
theorem dp_tup {v : V} {ds : List PyData} (h : Dp K H v (.tuple ds)) : ∃ a xs, v = .ref a ∧ SqT K H a xs ∧ DpAll K H xs ds := by
  cases h with
  | tup h1 h2 => exact ⟨_, _, rfl, h1, h2⟩
theorem dp_lst {v : V} {ds : List PyData} (h : Dp K H v (.list ds)) : ∃ a xs, v = .ref a ∧ SqL K H a xs ∧ DpAll K H xs ds := by
  cases h with
  | lst h1 h2 => exact ⟨_, _, rfl, h1, h2⟩
theorem dpa_len : ∀ {vs : List V} {ds : List PyData}, DpAll K H vs ds → vs.length = ds.length
  | _, _, .nil => rfl
  | _, _, .cons _ t => by rw [List.length_cons, List.length_cons, dpa_len t]
theorem dpa_get : ∀ {vs : List V} {ds : List PyData} {i : Nat} {d : PyData}, DpAll K H vs ds → ds[i]? = some d → ∃ v, vs[i]? = some v ∧ Dp K H v d
  | _, _, _, _, .nil, e => by simp at e
  | _, _, 0, _, .cons h _, e => by
    simp at e
    subst e
    exact ⟨_, rfl, h⟩
  | _, _, i + 1, _, .cons _ t, e => by
    obtain ⟨v, h1, h2⟩ := dpa_get (i := i) t (by simpa using e)
    exact ⟨v, by simpa using h1, h2⟩
theorem dpa_of : ∀ {vs : List V} {ds : List PyData}, vs.length = ds.length → (∀ (i : Nat) (v : V) (d : PyData), vs[i]? = some v → ds[i]? = some d → Dp K H v d) → DpAll K H vs ds
  | [], [], _, _ => .nil
  | [], _ :: _, e, _ => by simp at e
  | _ :: _, [], e, _ => by simp at e
  | v :: vs, d :: ds, e, h => .cons (h 0 v d rfl rfl) (dpa_of (by simpa using e) fun i v' d' h1 h2 => h (i + 1) v' d' (by simpa using h1) (by simpa using h2))
theorem dpa_at {vs : List V} {ds : List PyData} {i : Nat} {v : V} {d : PyData} (h : DpAll K H vs ds) (h1 : vs[i]? = some v) (h2 : ds[i]? = some d) : Dp K H v d := by
  obtain ⟨v', e, q⟩ := dpa_get h h2
  rw [h1] at e
  cases e
  exact q
theorem dpa_get' {vs : List V} {ds : List PyData} {i : Nat} {v : V} (h : DpAll K H vs ds) (h1 : vs[i]? = some v) : ∃ d, ds[i]? = some d ∧ Dp K H v d := by
  have hl := dpa_len h
  obtain ⟨hi, _⟩ := List.getElem?_eq_some_iff.mp h1
  have e : ds[i]? = some (ds[i]'(by omega)) := List.getElem?_eq_getElem _
  exact ⟨_, e, dpa_at h h1 e⟩
theorem dpa_app : ∀ {vs ws : List V} {ds es : List PyData}, DpAll K H vs ds → DpAll K H ws es → DpAll K H (vs ++ ws) (ds ++ es)
  | _, _, _, _, .nil, h => h
  | _, _, _, _, .cons h t, q => .cons h (dpa_app t q)
theorem dpa_set {vs : List V} {ds : List PyData} {v : V} {d : PyData} (h : DpAll K H vs ds) (hd : Dp K H v d) (i : Nat) : DpAll K H (vs.set i v) (ds.set i d) := by
  refine dpa_of (by simp [dpa_len h]) fun j w e h1 h2 => ?_
  by_cases hj : i = j
  · subst hj
    have hl : i < vs.length := by
      have := (List.getElem?_eq_some_iff.mp h1).1
      simpa using this
    rw [List.getElem?_set_self hl] at h1
    rw [List.getElem?_set_self (by rw [← dpa_len h]; exact hl)] at h2
    cases h1
    cases h2
    exact hd
  · rw [List.getElem?_set_ne hj] at h1 h2
    exact dpa_at h h1 h2
theorem dpa_drop : ∀ {vs : List V} {ds : List PyData} (n : Nat), DpAll K H vs ds → DpAll K H (vs.drop n) (ds.drop n)
  | _, _, 0, h => h
  | _, _, _ + 1, .nil => .nil
  | _, _, n + 1, .cons _ t => dpa_drop n t
theorem dpa_take : ∀ {vs : List V} {ds : List PyData} (n : Nat), DpAll K H vs ds → DpAll K H (vs.take n) (ds.take n)
  | _, _, 0, _ => by rw [List.take_zero, List.take_zero]; exact .nil
  | _, _, _ + 1, .nil => .nil
  | _, _, n + 1, .cons h t => .cons h (dpa_take n t)
theorem dpa_rev {vs : List V} {ds : List PyData} (h : DpAll K H vs ds) : DpAll K H vs.reverse ds.reverse := by
  have go : ∀ {vs : List V} {ds : List PyData}, DpAll K H vs ds → DpAll K H vs.reverse ds.reverse := by
    intro vs
    induction vs with
    | nil => intro ds h; cases h; exact .nil
    | cons v vs ih =>
      intro ds h
      cases h with
      | cons h t =>
        rw [List.reverse_cons, List.reverse_cons]
        exact dpa_app (ih t) (.cons h .nil)
  exact go h
theorem dpa_ints : ∀ {vs : List V} {ns : List Int}, DpAll K H vs (ns.map PyData.int) → vs = ns.map V.int
  | _, [], .nil => rfl
  | _, n :: ns, .cons h t => by rw [dp_int h, dpa_ints (ns := ns) t]; rfl
theorem dpa_bools : ∀ {vs : List V} {bs : List Bool}, DpAll K H vs (bs.map PyData.bool) → vs = bs.map V.bl
  | _, [], .nil => rfl
  | _, n :: ns, .cons h t => by rw [dp_bl h, dpa_bools (bs := ns) t]; rfl
theorem ints_dpa : ∀ (ns : List Int), DpAll K H (ns.map V.int) (ns.map PyData.int)
  | [] => .nil
  | n :: ns => .cons (.int n) (ints_dpa ns)
theorem dpa_atI {vs : List V} {ds : List PyData} {i : Int} {d : PyData} (h : DpAll K H vs ds) (e : atI ds i = some d) : ∃ v, atI vs i = some v ∧ Dp K H v d := by
  unfold atI at e ⊢
  rw [← dpa_len h] at e
  cases q : ixN vs.length i with
  | none => rw [q] at e; cases e
  | some j =>
    rw [q] at e
    exact dpa_get (i := j) h e
end
end Hb

namespace Hb
open PySem PySem.Spec PyProof.Rows L2
open Evl (Ex)

/-! ## abstract slots -/
inductive AV where
  | no
  | d (x : PyData)
  | own (a : Addr) (ds : List PyData)
  | pen (p : Addr)
  | dic (a : Addr) (kvs : List (List Key × PyData))
  | fd (a : Addr) (kvs : List (List Key × PyData))
def AV.addr : AV → Option Addr
  | .own a _ => some a
  | .dic a _ => some a
  | _ => none
def KvAll (K : PySem.W.Frag) (H : Hp) (vs : List (List Key × V)) (kvs : List (List Key × PyData)) : Prop :=
  vs.map (·.1) = kvs.map (·.1) ∧ DpAll K H (vs.map (·.2)) (kvs.map (·.2))
def SlotOk (Z : Vz) (F : Addr → Prop) (K : PySem.W.Frag) (H : Hp) : Option V → AV → Prop
  | _, .no => True
  | ov, .d x => ∃ v, ov = some v ∧ Dp K (cut H F) v x
  | ov, .own a ds => ov = some (.ref a) ∧ F a ∧ ¬ Z a ∧ ∃ xs, H a = some (.lst xs) ∧ DpAll K (cut H F) xs ds
  | ov, .pen p => ov = some (.ref p) ∧ Z p ∧ PenAt H p
  | ov, .dic a kvs => ov = some (.ref a) ∧ F a ∧ ¬ Z a ∧ ∃ vs, H a = some (.dT vs) ∧ KvAll K (cut H F) vs kvs
  | ov, .fd a kvs => ov = some (.ref a) ∧ ∃ o vs, cut H F a = some (.frz o (.dT vs)) ∧ KvAll K (cut H F) vs kvs
structure StOk (Z : Vz) (F : Addr → Prop) (K : PySem.W.Frag) (H : Hp) (σ : L2.St) (ρ : List AV) : Prop where
  pen : ∀ a, Z a → F a ∧ Vol H a
  tb : TabAt H Z.tab
  dom : ∀ a, F a → H a ≠ none
  len : σ.length = ρ.length
  inj : ∀ (i j : Nat) (a : Addr), (ρ[i]?.bind AV.addr) = some a → (ρ[j]?.bind AV.addr) = some a → i = j
  slot : ∀ (i : Nat) av, ρ[i]? = some av → ∃ ov, σ[i]? = some ov ∧ SlotOk Z F K H ov av
section
variable {Z : Vz} {F : Addr → Prop} {K : PySem.W.Frag} {H H2 : Hp} {σ : L2.St} {ρ : List AV} {v : V} {x : PyData} {i : Nat}
theorem StOk.zf (S : StOk Z F K H σ ρ) : ∀ a, Z a → F a := fun a z => (S.pen a z).1
theorem StOk.exC (S : StOk Z F K H σ ρ) (c : Chg Z H H2) : Ex (cut H F) (cut H2 F) := c.1.cut S.zf
theorem StOk.domC (S : StOk Z F K H σ ρ) (c : Chg Z H H2) : ∀ a, F a → H2 a ≠ none := fun a h => by
  by_cases hz : Z a
  · obtain ⟨o, e⟩ := ((S.pen a hz).2.chg c hz).some_
    rw [e]
    exact fun q => nomatch q
  · cases q : H a with
    | none => exact absurd q (S.dom a h)
    | some o =>
      rw [c.1 a o hz q]
      exact fun q => nomatch q
theorem SlotOk.chg {ov : Option V} {av : AV} (s : SlotOk Z F K H ov av) (c : Chg Z H H2) (e : Ex (cut H F) (cut H2 F)) : SlotOk Z F K H2 ov av := by
  cases av with
  | no => trivial
  | d x =>
    obtain ⟨v, h1, h2⟩ := s
    exact ⟨v, h1, dp_ex e h2⟩
  | own a ds =>
    obtain ⟨h1, h2, h3, xs, h4, h5⟩ := s
    exact ⟨h1, h2, h3, xs, c.1 _ _ h3 h4, dpa_ex e h5⟩
  | pen p => exact ⟨s.1, s.2.1, (c.2 _ s.2.1).1 s.2.2⟩
  | dic a kvs =>
    obtain ⟨h1, h2, h3, xs, h4, h5, h6⟩ := s
    exact ⟨h1, h2, h3, xs, c.1 _ _ h3 h4, h5, dpa_ex e h6⟩
  | fd a kvs =>
    obtain ⟨h1, o, xs, h4, h5, h6⟩ := s
    exact ⟨h1, o, xs, e _ _ h4, h5, dpa_ex e h6⟩
theorem StOk.chg (S : StOk Z F K H σ ρ) (c : Chg Z H H2) : StOk Z F K H2 σ ρ where
  pen := fun a z => ⟨(S.pen a z).1, (S.pen a z).2.chg c z⟩
  tb := (c.2 _ Z.ht).2 S.tb
  dom := S.domC c
  len := S.len
  inj := S.inj
  slot := fun i av e => by
    obtain ⟨ov, h1, h2⟩ := S.slot i av e
    exact ⟨ov, h1, h2.chg c (S.exC c)⟩
theorem StOk.set {ov : Option V} {av : AV} (S : StOk Z F K H σ ρ) (i : Nat) (hs : SlotOk Z F K H ov av) (ha : ∀ (j : Nat) (a : Addr), j ≠ i → av.addr = some a → (ρ[j]?.bind AV.addr) ≠ some a) :
    StOk Z F K H (σ.set i ov) (ρ.set i av) where
  pen := S.pen
  tb := S.tb
  dom := S.dom
  len := by simp [S.len]
  inj := fun j l a h1 h2 => by
    have key : ∀ j : Nat, ((ρ.set i av)[j]?.bind AV.addr) = some a → (j = i ∧ av.addr = some a) ∨ (j ≠ i ∧ (ρ[j]?.bind AV.addr) = some a) := fun j h => by
      by_cases e : j = i
      · subst e
        by_cases hl : j < ρ.length
        · rw [List.getElem?_set_self hl] at h
          exact .inl ⟨rfl, h⟩
        · rw [List.getElem?_eq_none (by simpa using hl)] at h
          cases h
      · rw [List.getElem?_set_ne (Ne.symm e)] at h
        exact .inr ⟨e, h⟩
    rcases key j h1 with ⟨e1, q1⟩ | ⟨e1, q1⟩ <;> rcases key l h2 with ⟨e2, q2⟩ | ⟨e2, q2⟩
    · rw [e1, e2]
    · exact absurd q2 (ha l a e2 q1)
    · exact absurd q1 (ha j a e1 q2)
    · exact S.inj j l a q1 q2
  slot := fun j w e => by
    by_cases q : i = j
    · subst q
      have hl : i < ρ.length := by
        have := (List.getElem?_eq_some_iff.mp e).1
        simpa using this
      rw [List.getElem?_set_self hl] at e
      cases e
      exact ⟨ov, List.getElem?_set_self (by rw [S.len]; exact hl), hs⟩
    · rw [List.getElem?_set_ne q] at e ⊢
      exact S.slot j w e
theorem StOk.put (S : StOk Z F K H σ ρ) (i : Nat) (h : Dp K (cut H F) v x) : StOk Z F K H (σ.set i (some v)) (ρ.set i (.d x)) :=
  S.set i ⟨v, rfl, h⟩ fun _ _ _ e => nomatch e
theorem StOk.drop (S : StOk Z F K H σ ρ) (i : Nat) (ov : Option V) : StOk Z F K H (σ.set i ov) (ρ.set i .no) :=
  S.set i trivial fun _ _ _ e => nomatch e
/-- a greater cut: all that is told of data is told without the new part too -/
theorem StOk.at_ (S : StOk Z F K H σ ρ) {i : Nat} (e : ρ[i]? = some (.d x)) : ∃ v, σ[i]? = some (some v) ∧ Dp K (cut H F) v x := by
  obtain ⟨ov, h1, v, h2, h3⟩ := S.slot i _ e
  exact ⟨v, by rw [h1, h2], h3⟩
def wipeA (ρ : List AV) : List Nat → List AV
  | [] => ρ
  | v :: vs => (wipeA ρ vs).set v .no
theorem StOk.wipe (S : StOk Z F K H σ ρ) : ∀ vs : List Nat, StOk Z F K H (L2.wipe σ vs) (wipeA ρ vs)
  | [] => S
  | v :: vs => (StOk.wipe S vs).drop v none
end
theorem wipe_get (σ : L2.St) : ∀ (vs : List Nat) (i : Nat), (L2.wipe σ vs)[i]? = if i ∈ vs then σ[i]?.map (fun _ => none) else σ[i]?
  | [], i => by simp [L2.wipe]
  | v :: vs, i => by
    unfold L2.wipe
    have ih := wipe_get σ vs i
    by_cases hv : v = i
    · subst hv
      rw [if_pos List.mem_cons_self]
      by_cases hl : v < (L2.wipe σ vs).length
      · rw [List.getElem?_set_self hl]
        rw [wipe_length] at hl
        rw [List.getElem?_eq_getElem hl]
        rfl
      · rw [List.getElem?_eq_none (by simpa using hl)]
        rw [wipe_length] at hl
        rw [List.getElem?_eq_none (by simpa using hl)]
        rfl
    · rw [List.getElem?_set_ne hv, ih]
      have : i ∈ v :: vs ↔ i ∈ vs := by
        rw [List.mem_cons]
        exact ⟨fun h => h.elim (fun e => absurd e.symm hv) id, .inr⟩
      simp only [this]
/-- slots that the wipe forgets may be stored before it -/
theorem wipe_same {σ τ : L2.St} {vs : List Nat} (h : ∀ i : Nat, i ∉ vs → τ[i]? = σ[i]?) (hl : τ.length = σ.length) : L2.wipe τ vs = L2.wipe σ vs := by
  refine List.ext_getElem? fun i => ?_
  rw [wipe_get, wipe_get]
  by_cases hi : i ∈ vs
  · rw [if_pos hi, if_pos hi]
    by_cases h1 : i < σ.length
    · rw [List.getElem?_eq_getElem h1, List.getElem?_eq_getElem (by rw [hl]; exact h1)]
      rfl
    · rw [List.getElem?_eq_none (l := σ) (by omega), List.getElem?_eq_none (l := τ) (by omega)]
  · rw [if_neg hi, if_neg hi, h i hi]
theorem wipe_get_out {σ : L2.St} {vs : List Nat} {i : Nat} (hi : i ∉ vs) : (L2.wipe σ vs)[i]? = σ[i]? := by rw [wipe_get, if_neg hi]

/-! ## what an expression evaluates to -/
section
variable {Z : Vz} {X : Cx} {e : Expr} {es : List Expr} {ρ : List AV}
def Dw (Z : Vz) (X : Cx) (e : Expr) (ρ : List AV) (φ : PyData → Prop) : Prop :=
  ∀ (F : Addr → Prop) (σ : L2.St) (H : Hp), StOk Z F X.K H σ ρ → ∀ Q : VK, (∀ v H2 d, Chg Z H H2 → φ d → Dp X.K (cut H2 F) v d → Q v H2) → WE X e σ H Q
abbrev Dv (Z : Vz) (X : Cx) (e : Expr) (ρ : List AV) (d : PyData) : Prop := Dw Z X e ρ fun x => x = d
/-- a list that may be grown: tracked -/
def Dl (Z : Vz) (X : Cx) (e : Expr) (ρ : List AV) (φ : List PyData → Prop) : Prop :=
  ∀ (F : Addr → Prop) (σ : L2.St) (H : Hp), StOk Z F X.K H σ ρ → ∀ Q : VK, (∀ a xs H2 ds, Chg Z H H2 → H2 a = some (.lst xs) → φ ds → ¬ Z a → DpAll X.K (cut H2 F) xs ds → Q (.ref a) H2) → WE X e σ H Q
/-- a new list -/
def Dn (Z : Vz) (X : Cx) (e : Expr) (ρ : List AV) (φ : List PyData → Prop) : Prop :=
  ∀ (F : Addr → Prop) (σ : L2.St) (H : Hp), StOk Z F X.K H σ ρ → ∀ Q : VK, (∀ a xs H2 ds, Chg Z H H2 → H a = none → H2 a = some (.lst xs) → φ ds → DpAll X.K (cut H2 fun b => F b ∨ b = a) xs ds → Q (.ref a) H2) → WE X e σ H Q
def Dt (Z : Vz) (X : Cx) (e : Expr) (ρ : List AV) (b : Bool) : Prop :=
  ∀ (F : Addr → Prop) (σ : L2.St) (H : Hp), StOk Z F X.K H σ ρ → ∀ Q : Bool → Hp → Prop, (∀ H2, Chg Z H H2 → Q b H2) → WT X e σ H Q
def Da (Z : Vz) (X : Cx) (es : List Expr) (ρ : List AV) (φ : List PyData → Prop) : Prop :=
  ∀ (F : Addr → Prop) (σ : L2.St) (H : Hp), StOk Z F X.K H σ ρ → ∀ Q : List V → Hp → Prop, (∀ vs H2 ds, Chg Z H H2 → φ ds → DpAll X.K (cut H2 F) vs ds → Q vs H2) → WA X es σ H Q
theorem Dw.mono {φ ψ : PyData → Prop} (h : Dw Z X e ρ φ) (k : ∀ d, φ d → ψ d) : Dw Z X e ρ ψ := fun F σ H S Q q => h F σ H S Q fun v H2 d c p => q v H2 d c (k d p)
theorem Dn.mono {φ ψ : List PyData → Prop} (h : Dn Z X e ρ φ) (k : ∀ d, φ d → ψ d) : Dn Z X e ρ ψ := fun F σ H S Q q => h F σ H S Q fun a xs H2 ds c n l p => q a xs H2 ds c n l (k ds p)
theorem Da.mono {φ ψ : List PyData → Prop} (h : Da Z X es ρ φ) (k : ∀ d, φ d → ψ d) : Da Z X es ρ ψ := fun F σ H S Q q => h F σ H S Q fun v H2 d c p => q v H2 d c (k d p)
theorem Dv.is {d d' : PyData} (h : Dv Z X e ρ d) (k : d = d') : Dv Z X e ρ d' := by
  rw [← k]
  exact h
theorem StOk.new_out {F : Addr → Prop} {K : PySem.W.Frag} {H : Hp} {σ : L2.St} {a : Addr} (S : StOk Z F K H σ ρ) (n : H a = none) : ¬ F a := fun h => S.dom a h n
theorem Dn.l {φ : List PyData → Prop} (h : Dn Z X e ρ φ) : Dl Z X e ρ φ := fun F σ H S Q q => h F σ H S Q fun a xs H2 ds c n l p r =>
  q a xs H2 ds c l p (fun z => S.new_out n (S.zf a z)) (dpa_ex (cut_sub fun _ => .inl) r)
theorem Dl.w {φ : List PyData → Prop} (h : Dl Z X e ρ φ) (hf : True := trivial) : ∀ (F : Addr → Prop) (σ : L2.St) (H : Hp), StOk Z F X.K H σ ρ → ∀ Q : VK, (∀ a xs H2 ds, Chg Z H H2 → H2 a = some (.lst xs) → φ ds → DpAll X.K (cut H2 F) xs ds → Q (.ref a) H2) → WE X e σ H Q :=
  fun F σ H S Q q => h F σ H S Q fun a xs H2 ds c l p _ r => q a xs H2 ds c l p r
theorem Dn.w {φ : List PyData → Prop} (h : Dn Z X e ρ φ) : Dw Z X e ρ fun d => ∃ ds, φ ds ∧ d = .list ds := fun F σ H S Q q => h F σ H S Q fun a xs H2 ds c n l p r =>
  q (.ref a) H2 (.list ds) c ⟨ds, p, rfl⟩ (.lst (.inl (.inl (by rw [cut_out (S.new_out n)]; exact l))) (dpa_ex (cut_sub fun _ => .inl) r))
theorem Dn.v {ds : List PyData} (h : Dn Z X e ρ fun x => x = ds) : Dv Z X e ρ (.list ds) := h.w.mono fun d ⟨_, e1, e2⟩ => by rw [e2, e1]

/-! ### names, constants -/
theorem Dv.var (i : Nat) {x : Str} {pos : Pos} {d : PyData} (h : ρ[i]? = some (.d d)) (hN : X.N[i]? = some x := by rfl)
    (hv : Vis X.env.scope x := by first | exact Or.inl rfl | exact Or.inr (Or.inl rfl) | exact Or.inr (Or.inr rfl)) (hd : (x == ("__debug__" : Str)) = false := by decide)
    (hcd : (x == ("__classdict__" : Str)) = false := by decide) : Dv Z X (.Name x pos) ρ d := fun F σ H S Q q => by
  obtain ⟨v, h1, h2⟩ := S.at_ h
  exact we_of (pv i hN hv hd hcd) ⟨v, h1, q v H d Chg.refl rfl h2⟩
theorem Dv.int {i : Int} {j pos} : Dv Z X (.Constant (.int i) j pos) ρ (.int i) := fun F σ H S Q q => we_of pe_int (q _ H _ Chg.refl rfl (.int i))
theorem Dv.str {x j pos} : Dv Z X (.Constant (.str x) j pos) ρ (.str x) := fun F σ H S Q q => we_of pe_str (q _ H _ Chg.refl rfl (.str x))
theorem Dv.bl {b j pos} : Dv Z X (.Constant (.bool b) j pos) ρ (.bool b) := fun F σ H S Q q => we_of pe_bl (q _ H _ Chg.refl rfl (.bl b))
theorem Dv.non {j pos} : Dv Z X (.Constant .none j pos) ρ .none := fun F σ H S Q q => we_of pe_non (q _ H _ Chg.refl rfl .non)
theorem Dv.glob {x : Str} {v : V} {u : Value} {pos : Pos} {d : PyData} (hm : X.mg x = some u) (r : RelV v u) (hd : ∀ H, Dp X.K H v d) (hg : Gl X x := by rfl) (hb : (x == ("__debug__" : Str)) = false := by decide) :
    Dv Z X (.Name x pos) ρ d := fun F σ H S Q q => we_of (pe_glob hg hm r hb) (q v H d Chg.refl rfl (hd _))

/-! ### operators by values -/
def OpD (K : PySem.W.Frag) (r : R2) (da db d : PyData) : Prop := ∀ (F : Addr → Prop) (H : Hp) (x y : V) (Q : VK), (∀ a, F a → H a ≠ none) → Dp K (cut H F) x da → Dp K (cut H F) y db →
  (∀ v H2, Ex H H2 → Dp K (cut H2 F) v d → Q v H2) → r x y H Q
theorem two {a b : Expr} {φ ψ : PyData → Prop} (ha : Dw Z X a ρ φ) (hb : Dw Z X b ρ ψ) {F : Addr → Prop} {σ : L2.St} {H : Hp} (S : StOk Z F X.K H σ ρ) {R : V → V → Hp → Prop}
    (k : ∀ x y H2 da db, Chg Z H H2 → φ da → ψ db → Dp X.K (cut H2 F) x da → Dp X.K (cut H2 F) y db → R x y H2) : WE X a σ H fun x H1 => WE X b σ H1 fun y H2 => R x y H2 :=
  ha F σ H S _ fun x H1 da c1 p1 r1 => hb F σ H1 (S.chg c1) _ fun y H2 db c2 p2 r2 => k x y H2 da db (c1.trans c2) p1 p2 (dp_ex ((S.chg c1).exC c2) r1) r2
theorem Dw.bin {a b : Expr} {op : Operator} {r : R2} {φ ψ χ : PyData → Prop} {pos : Pos} (ho : OpR X (binaryOp op) r) (ha : Dw Z X a ρ φ) (hb : Dw Z X b ρ ψ) (hr : ∀ da db, φ da → ψ db → ∃ d, χ d ∧ OpD X.K r da db d) :
    Dw Z X (.BinOp a op b pos) ρ χ := fun F σ H S Q q => we_of (pe_op ho we_pe we_pe) (two ha hb S fun x y H2 da db c p1 p2 r1 r2 => by
  obtain ⟨d, hd, hq⟩ := hr da db p1 p2
  exact hq F H2 x y Q (S.domC c) r1 r2 fun v H3 e r3 => q v H3 d (c.trans (Chg.of_ex e)) hd r3)
theorem Dv.bin {a b : Expr} {op : Operator} {r : R2} {da db d : PyData} {pos : Pos} (ho : OpR X (binaryOp op) r) (ha : Dv Z X a ρ da) (hb : Dv Z X b ρ db) (hr : OpD X.K r da db d) : Dv Z X (.BinOp a op b pos) ρ d :=
  Dw.bin ho ha hb fun _ _ e1 e2 => ⟨d, rfl, by rw [e1, e2]; exact hr⟩
theorem Dv.cmp {a b : Expr} {op : CmpOp} {r : R2} {da db d : PyData} {pos : Pos} (ho : OpR X (compareOp op) r) (ha : Dv Z X a ρ da) (hb : Dv Z X b ρ db) (hr : OpD X.K r da db d) (hm : behindInMarks op b = false := by first | exact nomark _ | rfl) :
    Dv Z X (.Compare a [op] [b] pos) ρ d := fun F σ H S Q q => we_of (pe_cmpR ho we_pe we_pe hm) (two ha hb S fun x y H2 da' db' c p1 p2 r1 r2 => by
  subst p1; subst p2
  exact hr F H2 x y Q (S.domC c) r1 r2 fun v H3 e r3 => q v H3 d (c.trans (Chg.of_ex e)) rfl r3)
theorem Dt.cmp {a b : Expr} {op : CmpOp} {r : R2} {da db : PyData} {k : Bool} {pos : Pos} (ho : OpR X (compareOp op) r) (ha : Dv Z X a ρ da) (hb : Dv Z X b ρ db) (hr : OpD X.K r da db (.bool k)) (hm : behindInMarks op b = false := by first | exact nomark _ | rfl) :
    Dt Z X (.Compare a [op] [b] pos) ρ k := fun F σ H S Q q => wt_of (pt_cmpR ho we_pe we_pe hm) (two ha hb S fun x y H2 da' db' c p1 p2 r1 r2 => by
  subst p1; subst p2
  exact hr F H2 x y _ (S.domC c) r1 r2 fun v H3 e r3 => ⟨k, dp_bl r3, q H3 (c.trans (Chg.of_ex e))⟩)
theorem opd_I {C : Int → Int → Prop} {g : Int → Int → Int} {K : PySem.W.Frag} {i j : Int} (hc : C i j) : OpD K (rI C fun i j => .int (g i j)) (.int i) (.int j) (.int (g i j)) := fun F H x y Q _ h1 h2 q =>
  ⟨i, j, dp_int h1, dp_int h2, hc, q _ H (Evl.Ex.refl H) (.int _)⟩
theorem opd_I0 {g : Int → Int → Int} {K : PySem.W.Frag} {i j : Int} : OpD K (rI0 fun i j => .int (g i j)) (.int i) (.int j) (.int (g i j)) := fun F H x y Q _ h1 h2 q =>
  ⟨i, j, dp_int h1, dp_int h2, q _ H (Evl.Ex.refl H) (.int _)⟩
theorem opd_B0 {g : Int → Int → Bool} {K : PySem.W.Frag} {i j : Int} : OpD K (rI0 fun i j => .bl (g i j)) (.int i) (.int j) (.bool (g i j)) := fun F H x y Q _ h1 h2 q =>
  ⟨i, j, dp_int h1, dp_int h2, q _ H (Evl.Ex.refl H) (.bl _)⟩
theorem opd_eq {K : PySem.W.Frag} {da db : PyData} (h1 : SeqAt.shaped da = true) (h2 : SeqAt.shaped db = true) : OpD K (rEqD K) da db (.bool (PyData.eqv da db)) := fun F H x y Q _ r1 r2 q =>
  ⟨da, db, dp_ex cut_ex r1, dp_ex cut_ex r2, h1, h2, q _ H (Evl.Ex.refl H) (.bl _)⟩
theorem opd_ne {K : PySem.W.Frag} {da db : PyData} (h1 : SeqAt.shaped da = true) (h2 : SeqAt.shaped db = true) : OpD K (rNeD K) da db (.bool (!PyData.eqv da db)) := fun F H x y Q _ r1 r2 q =>
  ⟨da, db, dp_ex cut_ex r1, dp_ex cut_ex r2, h1, h2, q _ H (Evl.Ex.refl H) (.bl _)⟩
theorem Dv.add {a b : Expr} {i j : Int} {pos : Pos} (ha : Dv Z X a ρ (.int i)) (hb : Dv Z X b ρ (.int j)) : Dv Z X (.BinOp a .Add b pos) ρ (.int (i + j)) := Dv.bin op_add ha hb opd_I0
theorem Dv.sub {a b : Expr} {i j : Int} {pos : Pos} (ha : Dv Z X a ρ (.int i)) (hb : Dv Z X b ρ (.int j)) : Dv Z X (.BinOp a .Sub b pos) ρ (.int (i - j)) := Dv.bin op_sub ha hb opd_I0
theorem Dv.mul {a b : Expr} {i j : Int} {pos : Pos} (ha : Dv Z X a ρ (.int i)) (hb : Dv Z X b ρ (.int j)) (hc : CMul i j) : Dv Z X (.BinOp a .Mult b pos) ρ (.int (i * j)) := Dv.bin op_mul ha hb (opd_I hc)
theorem Dv.mod {a b : Expr} {i j : Int} {pos : Pos} (ha : Dv Z X a ρ (.int i)) (hb : Dv Z X b ρ (.int j)) (hc : 0 < j) : Dv Z X (.BinOp a .Mod b pos) ρ (.int (i % j)) := Dv.bin op_mod ha hb (opd_I (C := fun _ j => 0 < j) hc)
theorem Dv.fdiv {a b : Expr} {i j : Int} {pos : Pos} (ha : Dv Z X a ρ (.int i)) (hb : Dv Z X b ρ (.int j)) (hc : CDiv i j) : Dv Z X (.BinOp a .FloorDiv b pos) ρ (.int (i / j)) := Dv.bin op_fdiv ha hb (opd_I hc)
theorem Dv.pow {a b : Expr} {i j : Int} {pos : Pos} (ha : Dv Z X a ρ (.int i)) (hb : Dv Z X b ρ (.int j)) (hc : CPow i j) : Dv Z X (.BinOp a .Pow b pos) ρ (.int (i ^ j.toNat)) := Dv.bin op_pow ha hb (opd_I hc)
theorem Dv.lt {a b : Expr} {i j : Int} {pos : Pos} (ha : Dv Z X a ρ (.int i)) (hb : Dv Z X b ρ (.int j)) : Dv Z X (.Compare a [.Lt] [b] pos) ρ (.bool (decide (i < j))) := Dv.cmp op_lt ha hb (opd_B0 (g := fun i j => decide (i < j)))
theorem Dv.le {a b : Expr} {i j : Int} {pos : Pos} (ha : Dv Z X a ρ (.int i)) (hb : Dv Z X b ρ (.int j)) : Dv Z X (.Compare a [.LtE] [b] pos) ρ (.bool (decide (i ≤ j))) := Dv.cmp op_le ha hb (opd_B0 (g := fun i j => decide (i ≤ j)))
theorem Dv.gt {a b : Expr} {i j : Int} {pos : Pos} (ha : Dv Z X a ρ (.int i)) (hb : Dv Z X b ρ (.int j)) : Dv Z X (.Compare a [.Gt] [b] pos) ρ (.bool (decide (j < i))) := Dv.cmp op_gt ha hb (opd_B0 (g := fun i j => decide (j < i)))
theorem Dv.ge {a b : Expr} {i j : Int} {pos : Pos} (ha : Dv Z X a ρ (.int i)) (hb : Dv Z X b ρ (.int j)) : Dv Z X (.Compare a [.GtE] [b] pos) ρ (.bool (decide (j ≤ i))) := Dv.cmp op_ge ha hb (opd_B0 (g := fun i j => decide (j ≤ i)))
theorem Dv.eq {a b : Expr} {da db : PyData} {pos : Pos} (hu : X.A.units + 64 < cLine) (ha : Dv Z X a ρ da) (hb : Dv Z X b ρ db) (h1 : SeqAt.shaped da = true := by rfl) (h2 : SeqAt.shaped db = true := by rfl) :
    Dv Z X (.Compare a [.Eq] [b] pos) ρ (.bool (PyData.eqv da db)) := Dv.cmp (op_eqD hu) ha hb (opd_eq h1 h2)
theorem Dv.ne {a b : Expr} {da db : PyData} {pos : Pos} (hu : X.A.units + 64 < cLine) (ha : Dv Z X a ρ da) (hb : Dv Z X b ρ db) (h1 : SeqAt.shaped da = true := by rfl) (h2 : SeqAt.shaped db = true := by rfl) :
    Dv Z X (.Compare a [.NotEq] [b] pos) ρ (.bool (!PyData.eqv da db)) := Dv.cmp (op_neD hu) ha hb (opd_ne h1 h2)
theorem Dt.lt {a b : Expr} {i j : Int} {pos : Pos} (ha : Dv Z X a ρ (.int i)) (hb : Dv Z X b ρ (.int j)) : Dt Z X (.Compare a [.Lt] [b] pos) ρ (decide (i < j)) := Dt.cmp op_lt ha hb (opd_B0 (g := fun i j => decide (i < j)))
theorem Dt.le {a b : Expr} {i j : Int} {pos : Pos} (ha : Dv Z X a ρ (.int i)) (hb : Dv Z X b ρ (.int j)) : Dt Z X (.Compare a [.LtE] [b] pos) ρ (decide (i ≤ j)) := Dt.cmp op_le ha hb (opd_B0 (g := fun i j => decide (i ≤ j)))
theorem Dt.gt {a b : Expr} {i j : Int} {pos : Pos} (ha : Dv Z X a ρ (.int i)) (hb : Dv Z X b ρ (.int j)) : Dt Z X (.Compare a [.Gt] [b] pos) ρ (decide (j < i)) := Dt.cmp op_gt ha hb (opd_B0 (g := fun i j => decide (j < i)))
theorem Dt.ge {a b : Expr} {i j : Int} {pos : Pos} (ha : Dv Z X a ρ (.int i)) (hb : Dv Z X b ρ (.int j)) : Dt Z X (.Compare a [.GtE] [b] pos) ρ (decide (j ≤ i)) := Dt.cmp op_ge ha hb (opd_B0 (g := fun i j => decide (j ≤ i)))
theorem Dt.eq {a b : Expr} {da db : PyData} {pos : Pos} (hu : X.A.units + 64 < cLine) (ha : Dv Z X a ρ da) (hb : Dv Z X b ρ db) (h1 : SeqAt.shaped da = true := by rfl) (h2 : SeqAt.shaped db = true := by rfl) :
    Dt Z X (.Compare a [.Eq] [b] pos) ρ (PyData.eqv da db) := Dt.cmp (op_eqD hu) ha hb (opd_eq h1 h2)
theorem Dt.ne {a b : Expr} {da db : PyData} {pos : Pos} (hu : X.A.units + 64 < cLine) (ha : Dv Z X a ρ da) (hb : Dv Z X b ρ db) (h1 : SeqAt.shaped da = true := by rfl) (h2 : SeqAt.shaped db = true := by rfl) :
    Dt Z X (.Compare a [.NotEq] [b] pos) ρ (!PyData.eqv da db) := Dt.cmp (op_neD hu) ha hb (opd_ne h1 h2)
theorem Dt.is {b b' : Bool} (h : Dt Z X e ρ b) (k : b = b') : Dt Z X e ρ b' := by
  rw [← k]
  exact h
/-- a value of truth as a test -/
theorem Dt.val {b : Bool} (h : Dv Z X e ρ (.bool b)) (he : ∀ whole, isTrue e X.env whole = (do let v ← whole; standAt e.pos; holding [v] (truthy v)) := by intro _; rfl) : Dt Z X e ρ b := fun F σ H S Q q =>
  wt_of (pt_val we_pe he) (h F σ H S _ fun v H2 d c p r => ⟨b, dp_bl (by rw [← p]; exact r), q H2 c⟩)
theorem Dt.not {b : Bool} {pos : Pos} (h : Dt Z X e ρ b) : Dt Z X (.UnaryOp .Not e pos) ρ (!b) := fun F σ H S Q q => wt_of (pt_not wt_pt) (h F σ H S _ fun H2 c => q H2 c)
/-- and, or as tests -/
def Db (Z : Vz) (X : Cx) (e : Expr) (ρ : List AV) (b : Bool) : Prop :=
  ∃ t : TT, PW X e t ∧ ∀ (F : Addr → Prop) (σ : L2.St) (H : Hp), StOk Z F X.K H σ ρ → ∀ Q : Bool → Hp → Prop, (∀ H2, Chg Z H H2 → Q b H2) → t σ H Q
theorem Db.t {b : Bool} (h : Db Z X e ρ b) : Dt Z X e ρ b := by
  obtain ⟨t, hp, ht⟩ := h
  exact fun F σ H S Q q => wt_of hp.pt (ht F σ H S Q q)
theorem Db.is {b b' : Bool} (h : Db Z X e ρ b) (k : b = b') : Db Z X e ρ b' := by
  rw [← k]
  exact h
theorem Db.and1 {a : Expr} {b : Bool} {pos : Pos} (h : Dt Z X a ρ b) : Db Z X (.BoolOp .And [a] pos) ρ b := ⟨_, pw_and1 wt_pt, fun F σ H S Q q => h F σ H S Q q⟩
theorem Db.or1 {a : Expr} {b : Bool} {pos : Pos} (h : Dt Z X a ρ b) : Db Z X (.BoolOp .Or [a] pos) ρ b := ⟨_, pw_or1 wt_pt, fun F σ H S Q q => h F σ H S Q q⟩
theorem Db.and {a b : Expr} {rest : List Expr} {p q : Bool} {pos : Pos} (h : Dt Z X a ρ p) (k : p = true → Db Z X (.BoolOp .And (b :: rest) pos) ρ q) : Db Z X (.BoolOp .And (a :: b :: rest) pos) ρ (p && q) := by
  cases p with
  | true =>
    obtain ⟨t, hp, ht⟩ := k rfl
    exact ⟨_, pw_and wt_pt hp, fun F σ H S Q w => h F σ H S _ fun H2 c => ht F σ H2 (S.chg c) Q fun H3 c3 => w H3 (c.trans c3)⟩
  | false => exact ⟨_, pw_and (tB' := fun _ _ _ => False) wt_pt ⟨fun _ _ _ _ _ _ _ h => h.elim⟩, fun F σ H S Q w => h F σ H S _ fun H2 c => w H2 c⟩
theorem Db.or {a b : Expr} {rest : List Expr} {p q : Bool} {pos : Pos} (h : Dt Z X a ρ p) (k : p = false → Db Z X (.BoolOp .Or (b :: rest) pos) ρ q) : Db Z X (.BoolOp .Or (a :: b :: rest) pos) ρ (p || q) := by
  cases p with
  | false =>
    obtain ⟨t, hp, ht⟩ := k rfl
    exact ⟨_, pw_or wt_pt hp, fun F σ H S Q w => h F σ H S _ fun H2 c => ht F σ H2 (S.chg c) Q fun H3 c3 => w H3 (c.trans c3)⟩
  | true => exact ⟨_, pw_or (tB' := fun _ _ _ => False) wt_pt ⟨fun _ _ _ _ _ _ _ h => h.elim⟩, fun F σ H S Q w => h F σ H S _ fun H2 c => w H2 c⟩
/-- and, or, not as values -/
theorem Dv.one {op} {a : Expr} {d : PyData} {pos : Pos} (h : Dv Z X a ρ d) : Dv Z X (.BoolOp op [a] pos) ρ d := fun F σ H S Q q => we_of (pe_one we_pe) (h F σ H S Q q)
theorem Dv.and {a b : Expr} {rest : List Expr} {p q : Bool} {pos : Pos} (h : Dv Z X a ρ (.bool p)) (k : p = true → Dv Z X (.BoolOp .And (b :: rest) pos) ρ (.bool q)) : Dv Z X (.BoolOp .And (a :: b :: rest) pos) ρ (.bool (p && q)) := by
  cases p with
  | true => exact fun F σ H S Q w => we_of (pe_and we_pe we_pe) (h F σ H S _ fun v H2 d c e r => ⟨true, dp_bl (by rw [← e]; exact r), k rfl F σ H2 (S.chg c) Q fun v H3 d c3 e3 r3 => w v H3 d (c.trans c3) e3 r3⟩)
  | false => exact fun F σ H S Q w => we_of (pe_and (tb := fun _ _ _ => False) we_pe ⟨fun _ _ _ _ _ _ h => h.elim⟩) (h F σ H S _ fun v H2 d c e r => ⟨false, dp_bl (by rw [← e]; exact r), w _ H2 _ c rfl (.bl false)⟩)
theorem Dv.not {a : Expr} {p : Bool} {pos : Pos} (h : Dv Z X a ρ (.bool p)) : Dv Z X (.UnaryOp .Not a pos) ρ (.bool (!p)) := fun F σ H S Q q =>
  we_of (pe_not we_pe) (h F σ H S _ fun v H2 d c e r => ⟨p, dp_bl (by rw [← e]; exact r), q _ H2 _ c rfl (.bl _)⟩)
theorem Dv.isN {a : Expr} {d : PyData} {j pos pos'} {b : Bool} (h : Dv Z X a ρ d) (hb : ∀ (K : PySem.W.Frag) H v, Dp K H v d → decide (v = V.non) = b) : Dv Z X (.Compare a [.Is] [.Constant .none j pos'] pos) ρ (.bool b) := fun F σ H S Q q =>
  we_of (pe_cmp (pc_isN we_pe) rfl) (h F σ H S _ fun v H2 d' c e r => by
    have q1 := hb _ _ v (by rw [← e]; exact r)
    show Q (.bl (decide (v = .non))) H2
    rw [q1]
    exact q _ H2 _ c rfl (.bl b))
theorem Dt.isN {a : Expr} {d : PyData} {j pos pos'} {b : Bool} (h : Dv Z X a ρ d) (hb : ∀ (K : PySem.W.Frag) H v, Dp K H v d → decide (v = V.non) = b) : Dt Z X (.Compare a [.Is] [.Constant .none j pos'] pos) ρ b := fun F σ H S Q q =>
  wt_of (pt_cmp (pc_isN we_pe) rfl) (h F σ H S _ fun v H2 d' c e r => ⟨_, rfl, by
    have q1 := hb _ _ v (by rw [← e]; exact r)
    rw [q1]
    exact q H2 c⟩)
theorem Dt.notN {a : Expr} {d : PyData} {j pos pos'} {b : Bool} (h : Dv Z X a ρ d) (hb : ∀ (K : PySem.W.Frag) H v, Dp K H v d → decide (v = V.non) = b) : Dt Z X (.Compare a [.IsNot] [.Constant .none j pos'] pos) ρ (!b) := fun F σ H S Q q =>
  wt_of (pt_cmp (pc_notN we_pe) rfl) (h F σ H S _ fun v H2 d' c e r => ⟨_, rfl, by
    have q1 := hb _ _ v (by rw [← e]; exact r)
    rw [q1]
    exact q H2 c⟩)
theorem non_tuple {ds : List PyData} (K : PySem.W.Frag) (H : Hp) (v : V) (h : Dp K H v (.tuple ds)) : decide (v = V.non) = false := by
  obtain ⟨a, xs, rfl, _⟩ := dp_tup h
  rfl
theorem non_none (K : PySem.W.Frag) (H : Hp) (v : V) (h : Dp K H v .none) : decide (v = V.non) = true := by
  rw [dp_non h]
  rfl
theorem Dv.isB {a b : Expr} {p q : Bool} {pos : Pos} (ha : Dv Z X a ρ (.bool p)) (hb : Dv Z X b ρ (.bool q)) : Dv Z X (.Compare a [.Is] [b] pos) ρ (.bool (decide (p = q))) :=
  Dv.cmp op_is_bl ha hb fun F H x y Q _ h1 h2 k => ⟨p, q, dp_bl h1, dp_bl h2, k _ H (Evl.Ex.refl H) (.bl _)⟩
theorem Dt.isB {a b : Expr} {p q : Bool} {pos : Pos} (ha : Dv Z X a ρ (.bool p)) (hb : Dv Z X b ρ (.bool q)) : Dt Z X (.Compare a [.Is] [b] pos) ρ (decide (p = q)) :=
  Dt.cmp op_is_bl ha hb fun F H x y Q _ h1 h2 k => ⟨p, q, dp_bl h1, dp_bl h2, k _ H (Evl.Ex.refl H) (.bl _)⟩
theorem Dt.isnotB {a b : Expr} {p q : Bool} {pos : Pos} (ha : Dv Z X a ρ (.bool p)) (hb : Dv Z X b ρ (.bool q)) : Dt Z X (.Compare a [.IsNot] [b] pos) ρ (!decide (p = q)) :=
  Dt.cmp op_isnot_bl ha hb fun F H x y Q _ h1 h2 k => ⟨p, q, dp_bl h1, dp_bl h2, k _ H (Evl.Ex.refl H) (.bl _)⟩
end
end Hb

namespace Hb
open PySem PySem.Spec PyProof.Rows L2
open Evl (Ex)

section
variable {Z : Vz} {X : Cx} {e : Expr} {es : List Expr} {ρ : List AV}
/-! ### chains, if-expressions -/
theorem Dv.chain {a b c : Expr} {op op' : CmpOp} {r r' : R2} {da db dc : PyData} {p q : Bool} {pos : Pos} (ho : OpR X (compareOp op) r) (ho' : OpR X (compareOp op') r') (ha : Dv Z X a ρ da) (hb : Dv Z X b ρ db) (hc : p = true → Dv Z X c ρ dc)
    (h1 : OpD X.K r da db (.bool p)) (h2 : p = true → OpD X.K r' db dc (.bool q)) (hm : lastMarks [op, op'] [b, c] = false := by with_unfolding_all rfl) : Dv Z X (.Compare a [op, op'] [b, c] pos) ρ (.bool (p && q)) := fun F σ H S Q w =>
  we_of (pe_chain ho ho' we_pe we_pe we_pe hm) (two ha hb S fun x y H2 da' db' c1 e1 e2 r1 r2 => by
    subst e1; subst e2
    refine h1 F H2 x y _ (S.domC c1) r1 r2 fun v H3 x3 r3 => ⟨p, dp_bl r3, ?_⟩
    have c2 : Chg Z H H3 := c1.trans (Chg.of_ex x3)
    cases p with
    | true =>
      rw [if_pos rfl]
      refine hc rfl F σ H3 (S.chg c2) _ fun z H4 dz c3 e3 r4 => ?_
      subst e3
      exact h2 rfl F H4 y z Q (S.domC (c2.trans c3)) (dp_ex ((S.chg c2).exC c3) (dp_ex ((S.chg c1).exC (Chg.of_ex x3)) r2)) r4 fun v H5 x5 r5 => w v H5 _ ((c2.trans c3).trans (Chg.of_ex x5)) rfl r5
    | false =>
      rw [if_neg Bool.false_ne_true]
      exact w _ H3 _ c2 rfl (.bl false))
theorem Dv.leLe {a b c : Expr} {i j k : Int} {pos : Pos} (ha : Dv Z X a ρ (.int i)) (hb : Dv Z X b ρ (.int j)) (hc : Dv Z X c ρ (.int k)) (hm : lastMarks [.LtE, .LtE] [b, c] = false := by with_unfolding_all rfl) :
    Dv Z X (.Compare a [.LtE, .LtE] [b, c] pos) ρ (.bool (decide (i ≤ j) && decide (j ≤ k))) :=
  Dv.chain op_le op_le ha hb (fun _ => hc) (opd_B0 (g := fun i j => decide (i ≤ j))) (fun _ => opd_B0 (g := fun i j => decide (i ≤ j))) hm
theorem Dv.ifT {c a b : Expr} {d : PyData} {pos : Pos} (hc : Dt Z X c ρ true) (ha : Dv Z X a ρ d) : Dv Z X (.IfExp c a b pos) ρ d := fun F σ H S Q q =>
  we_of (pe_ifExp wt_pt we_pe we_pe) (hc F σ H S _ fun H2 c2 => by
    rw [if_pos rfl]
    exact ha F σ H2 (S.chg c2) Q fun v H3 d c3 e r => q v H3 d (c2.trans c3) e r)
theorem Dv.ifF {c a b : Expr} {d : PyData} {pos : Pos} (hc : Dt Z X c ρ false) (hb : Dv Z X b ρ d) : Dv Z X (.IfExp c a b pos) ρ d := fun F σ H S Q q =>
  we_of (pe_ifExp wt_pt we_pe we_pe) (hc F σ H S _ fun H2 c2 => by
    rw [if_neg Bool.false_ne_true]
    exact hb F σ H2 (S.chg c2) Q fun v H3 d c3 e r => q v H3 d (c2.trans c3) e r)

/-! ### argument lists, displays -/
theorem Da.nil : Da Z X [] ρ fun ds => ds = [] := fun F σ H S Q q => wa_of pa_nil (q [] H [] Chg.refl rfl .nil)
theorem Da.cons {φ : PyData → Prop} {ψ : List PyData → Prop} (h : Dw Z X e ρ φ) (hr : Da Z X es ρ ψ) (hs : starEach (e :: es) X.env = (false, eval e X.env) :: starEach es X.env := by rfl) : Da Z X (e :: es) ρ fun ds => ∃ d r, ds = d :: r ∧ φ d ∧ ψ r := fun F σ H S Q q =>
  wa_of (pa_cons we_pe wa_pa hs) (h F σ H S _ fun v H2 d c p r => hr F σ H2 (S.chg c) _ fun vs H3 ds c3 p3 r3 => q (v :: vs) H3 (d :: ds) (c.trans c3) ⟨d, ds, rfl, p, p3⟩ (.cons (dp_ex ((S.chg c).exC c3) r) r3))
theorem Da.c {d : PyData} {ds : List PyData} (h : Dv Z X e ρ d) (hr : Da Z X es ρ fun x => x = ds) (hs : starEach (e :: es) X.env = (false, eval e X.env) :: starEach es X.env := by rfl) : Da Z X (e :: es) ρ fun x => x = d :: ds :=
  (Da.cons h hr hs).mono fun x ⟨d', r', e1, e2, e3⟩ => by rw [e1, e2, e3]
theorem Dw.tup {φ : List PyData → Prop} {x1} {pos : Pos} (h : Da Z X es ρ φ) (hl : ∀ ds, φ ds → ds.length ≤ 100000) : Dw Z X (.Tuple es x1 pos) ρ fun d => ∃ ds, φ ds ∧ d = .tuple ds := fun F σ H S Q q =>
  we_of (pe_tup wa_pa) (h F σ H S _ fun vs H2 ds c p r => ⟨by rw [dpa_len r]; exact Evl.sz_of (hl ds p), fun a ha => by
    have na : ¬ F a := fun h => S.domC c a h ha
    exact q (.ref a) _ (.tuple ds) (c.trans (Chg.of_ex (ex_new ha))) ⟨ds, p, rfl⟩ (.tup (.inl (.inl (cut_new na))) (dpa_ex ((Kd.of_ex (ex_new ha)).cut (Z := F) fun _ h => h) r))⟩)
theorem Dv.tup {ds : List PyData} {x1} {pos : Pos} (h : Da Z X es ρ fun x => x = ds) (hl : ds.length ≤ 100000 := by simp) : Dv Z X (.Tuple es x1 pos) ρ (.tuple ds) :=
  (Dw.tup h (fun x e => by rw [e]; exact hl)).mono fun d ⟨x, e1, e2⟩ => by rw [e2, e1]
theorem Dn.lst {φ : List PyData → Prop} {pos : Pos} (h : Da Z X es ρ φ) (hl : ∀ ds, φ ds → ds.length ≤ 100000) : Dn Z X (.List es pos) ρ φ := fun F σ H S Q q =>
  we_of (pe_lst wa_pa) (h F σ H S _ fun vs H2 ds c p r => ⟨by rw [dpa_len r]; exact Evl.sz_of (hl ds p), fun a ha =>
    q a vs _ ds (c.trans (Chg.of_ex (ex_new ha))) (by
      cases h1 : H a with
      | none => rfl
      | some o =>
        by_cases hz : Z a
        · obtain ⟨o, e⟩ := ((S.pen a hz).2.chg c hz).some_
          rw [e] at ha; cases ha
        · rw [c.1 a o hz h1] at ha; cases ha) upd_same p (dpa_ex (ex_cut_new ha) r)⟩)
theorem chg_none {F : Addr → Prop} {K : PySem.W.Frag} {H H2 : Hp} {σ : L2.St} {a : Addr} (S : StOk Z F K H σ ρ) (c : Chg Z H H2) (ha : H2 a = none) : H a = none := by
  cases h1 : H a with
  | none => rfl
  | some o =>
    by_cases hz : Z a
    · obtain ⟨o, e⟩ := ((S.pen a hz).2.chg c hz).some_
      rw [e] at ha; cases ha
    · rw [c.1 a o hz h1] at ha; cases ha

/-! ### subscripts -/
theorem Dw.ix {a b : Expr} {φ ψ χ : PyData → Prop} {pos : Pos} (ha : Dw Z X a ρ φ) (hb : Dw Z X b ρ ψ)
    (hr : ∀ da db, φ da → ψ db → ∃ ds i d, (da = .tuple ds ∨ da = .list ds) ∧ db = .int i ∧ atI ds i = some d ∧ χ d) (hs : PlainIx b := by exact fun _ _ => rfl) : Dw Z X (.Subscript a b pos) ρ χ := fun F σ H S Q q =>
  we_of (pe_ix ix_seq we_pe we_pe hs) (two ha hb S fun x y H2 da db c p1 p2 r1 r2 => by
    obtain ⟨ds, i, d, e1, e2, e3, e4⟩ := hr da db p1 p2
    subst e2
    rcases e1 with e1 | e1 <;> subst e1
    · obtain ⟨t, xs, e5, h1, h2⟩ := dp_tup r1
      obtain ⟨v, h3, h4⟩ := dpa_atI h2 e3
      exact .inr (.inl ⟨t, xs, i, v, e5, dp_int r2, Evl.ex_t cut_ex h1, h3, q v H2 d c e4 h4⟩)
    · obtain ⟨t, xs, e5, h1, h2⟩ := dp_lst r1
      obtain ⟨v, h3, h4⟩ := dpa_atI h2 e3
      exact .inl ⟨t, xs, i, v, e5, dp_int r2, Evl.ex_l cut_ex h1, h3, q v H2 d c e4 h4⟩)
theorem Dv.ix {a b : Expr} {ds : List PyData} {i : Int} {d : PyData} {pos : Pos} (ha : Dv Z X a ρ (.tuple ds)) (hb : Dv Z X b ρ (.int i)) (hd : atI ds i = some d := by rfl) (hs : PlainIx b := by exact fun _ _ => rfl) : Dv Z X (.Subscript a b pos) ρ d :=
  Dw.ix ha hb (fun _ _ e1 e2 => ⟨ds, i, d, .inl e1, e2, hd, rfl⟩) hs
theorem Dv.ixL {a b : Expr} {ds : List PyData} {i : Int} {d : PyData} {pos : Pos} (ha : Dv Z X a ρ (.list ds)) (hb : Dv Z X b ρ (.int i)) (hd : atI ds i = some d := by rfl) (hs : PlainIx b := by exact fun _ _ => rfl) : Dv Z X (.Subscript a b pos) ρ d :=
  Dw.ix ha hb (fun _ _ e1 e2 => ⟨ds, i, d, .inr e1, e2, hd, rfl⟩) hs
/-- an own list's item -/
theorem Dl.own (i : Nat) {a : Addr} {x : Str} {pos : Pos} {ds : List PyData} (h : ρ[i]? = some (.own a ds)) (hN : X.N[i]? = some x := by rfl)
    (hv : Vis X.env.scope x := by first | exact Or.inl rfl | exact Or.inr (Or.inl rfl) | exact Or.inr (Or.inr rfl)) (hd : (x == ("__debug__" : Str)) = false := by decide)
    (hcd : (x == ("__classdict__" : Str)) = false := by decide) : Dl Z X (.Name x pos) ρ fun x => x = ds := fun F σ H S Q q => by
  obtain ⟨ov, h1, h2, h3, h4, xs, h5, h6⟩ := S.slot i _ h
  exact we_of (pv i hN hv hd hcd) ⟨.ref a, by rw [h1, h2], q a xs H ds Chg.refl h5 rfl h4 h6⟩
theorem Dl.ix {a b : Expr} {ds : List PyData} {i : Int} {d : PyData} {pos : Pos} (ha : Dl Z X a ρ fun x => x = ds) (hb : Dv Z X b ρ (.int i)) (hd : atI ds i = some d := by rfl) (hs : PlainIx b := by exact fun _ _ => rfl) : Dv Z X (.Subscript a b pos) ρ d := fun F σ H S Q q =>
  we_of (pe_ix ix_list we_pe we_pe hs) (ha F σ H S _ fun t xs H1 ds1 c1 l1 e1 nz r1 => hb F σ H1 (S.chg c1) _ fun y H2 db c2 e2 r2 => by
    subst e1; subst e2
    obtain ⟨v, h3, h4⟩ := dpa_atI r1 hd
    exact ⟨t, xs, i, v, rfl, dp_int r2, .inl (.inl (c2.1 _ _ nz l1)), h3, q v H2 d (c1.trans c2) rfl (dp_ex ((S.chg c1).exC c2) h4)⟩)
/-- tuples added -/
theorem opd_cat {K : PySem.W.Frag} {ds es : List PyData} (hl : ds.length + es.length ≤ 100000) : OpD K (rCatA K) (.tuple ds) (.tuple es) (.tuple (ds ++ es)) := fun F H x y Q hF h1 h2 q => by
  obtain ⟨a, xs, rfl, ha, ra⟩ := dp_tup h1
  obtain ⟨b, ys, rfl, hb, rb⟩ := dp_tup h2
  refine ⟨a, b, xs, ys, rfl, rfl, Evl.ex_t cut_ex ha, Evl.ex_t cut_ex hb, by rw [dpa_len ra, dpa_len rb]; exact Evl.sz_of hl, fun e => ?_, fun _ e => ?_, fun _ _ p hp => ?_⟩
  · subst e
    cases ra
    exact q _ H (Evl.Ex.refl H) h2
  · subst e
    cases rb
    rw [List.append_nil] at q
    exact q _ H (Evl.Ex.refl H) h1
  · exact q _ _ (ex_new hp) (.tup (.inl (.inl (cut_new fun h => hF p h hp))) (dpa_ex ((Kd.of_ex (ex_new hp)).cut (Z := F) fun _ h => h) (dpa_app ra rb)))
theorem Dv.cat {a b : Expr} {ds es : List PyData} {pos : Pos} (ha : Dv Z X a ρ (.tuple ds)) (hb : Dv Z X b ρ (.tuple es)) (hl : ds.length + es.length ≤ 100000) : Dv Z X (.BinOp a .Add b pos) ρ (.tuple (ds ++ es)) := Dv.bin op_catA ha hb (opd_cat hl)
theorem Dn.cat {a b : Expr} {φ ψ : List PyData → Prop} {pos : Pos} (ha : Dl Z X a ρ φ) (hb : Dl Z X b ρ ψ) (hl : ∀ ds es, φ ds → ψ es → ds.length + es.length ≤ 100000) : Dn Z X (.BinOp a .Add b pos) ρ fun x => ∃ ds es, φ ds ∧ ψ es ∧ x = ds ++ es := fun F σ H S Q q =>
  we_of (pe_op op_cat we_pe we_pe) (ha F σ H S _ fun t xs H1 ds1 c1 l1 e1 nz r1 => hb F σ H1 (S.chg c1) _ fun u ys H2 ds2 c2 l2 e2 nz2 r2 => by
    have r1' := dpa_ex ((S.chg c1).exC c2) r1
    exact ⟨t, u, xs, ys, rfl, rfl, c2.1 _ _ nz l1, l2, by rw [dpa_len r1, dpa_len r2]; exact Evl.sz_of (hl _ _ e1 e2), fun p hp =>
      q p (xs ++ ys) _ (ds1 ++ ds2) ((c1.trans c2).trans (Chg.of_ex (ex_new hp))) (chg_none S (c1.trans c2) hp) upd_same ⟨_, _, e1, e2, rfl⟩ (dpa_ex (ex_cut_new hp) (dpa_app r1' r2))⟩)

/-! ### slices -/
def cutD (ds : List PyData) (lo hi : Option Int) : List PyData := (ds.drop (HT.sIx ds.length 0 lo)).take (HT.sIx ds.length ds.length hi - HT.sIx ds.length 0 lo)
theorem dpa_cut {K : PySem.W.Frag} {H : Hp} {xs : List V} {ds : List PyData} (h : DpAll K H xs ds) (lo hi : Option Int) : DpAll K H (cutV xs lo hi) (cutD ds lo hi) := by
  unfold cutV cutD
  rw [dpa_len h]
  exact dpa_take _ (dpa_drop _ h)
def Do (Z : Vz) (X : Cx) (o : Option Expr) (ρ : List AV) (r : Option Int) : Prop :=
  ∃ t : TO, PO X o t ∧ ∀ (F : Addr → Prop) (σ : L2.St) (H : Hp), StOk Z F X.K H σ ρ → ∀ Q : Option Int → Hp → Prop, (∀ H2, Chg Z H H2 → Q r H2) → t σ H Q
theorem Do.no : Do Z X none ρ none := ⟨_, po_none, fun F σ H S Q q => q H Chg.refl⟩
theorem Do.so {i : Int} (h : Dv Z X e ρ (.int i)) : Do Z X (some e) ρ (some i) := ⟨_, po_some we_pe, fun F σ H S Q q => h F σ H S _ fun v H2 d c e r => ⟨i, dp_int (by rw [← e]; exact r), q H2 c⟩⟩
theorem Dv.sl {ds : List PyData} {lo hi : Option Expr} {l u : Option Int} {pos p2 : Pos} (he : Dv Z X e ρ (.tuple ds)) (hl : Do Z X lo ρ l) (hu : Do Z X hi ρ u) : Dv Z X (.Subscript e (.Slice lo hi none p2) pos) ρ (.tuple (cutD ds l u)) := fun F σ H S Q q => by
  obtain ⟨tl, pl, ql⟩ := hl
  obtain ⟨tu, pu, qu⟩ := hu
  refine we_of (pe_slice sl_tupA we_pe pl pu) (he F σ H S _ fun v H2 d c e r => ql F σ H2 (S.chg c) _ fun H3 c3 => qu F σ H3 ((S.chg c).chg c3) _ fun H4 c4 => ?_)
  subst e
  have c34 := c3.trans c4
  obtain ⟨a, xs, rfl, h1, h2⟩ := dp_tup (dp_ex ((S.chg c).exC c34) r)
  have cc := c.trans c34
  refine ⟨a, xs, rfl, Evl.ex_t cut_ex h1, fun ⟨w1, w2⟩ => ?_, fun w p hp => ?_⟩
  · have e : cutD ds l u = ds := by
      unfold cutD
      rw [← dpa_len h2, w1, w2, List.drop_zero, Nat.sub_zero, dpa_len h2, List.take_length]
    rw [e] at q
    exact q _ H4 _ cc rfl (.tup h1 h2)
  · exact q _ _ _ (cc.trans (Chg.of_ex (ex_new hp))) rfl (.tup (.inl (.inl (cut_new fun h => S.domC cc p h hp))) (dpa_ex ((Kd.of_ex (ex_new hp)).cut (Z := F) fun _ h => h) (dpa_cut h2 l u)))
theorem Dn.sl {ds : List PyData} {lo hi : Option Expr} {l u : Option Int} {pos p2 : Pos} (he : Dv Z X e ρ (.list ds)) (hl : Do Z X lo ρ l) (hu : Do Z X hi ρ u) : Dn Z X (.Subscript e (.Slice lo hi none p2) pos) ρ fun x => x = cutD ds l u := fun F σ H S Q q => by
  obtain ⟨tl, pl, ql⟩ := hl
  obtain ⟨tu, pu, qu⟩ := hu
  refine we_of (pe_slice sl_list we_pe pl pu) (he F σ H S _ fun v H2 d c e r => ql F σ H2 (S.chg c) _ fun H3 c3 => qu F σ H3 ((S.chg c).chg c3) _ fun H4 c4 => ?_)
  subst e
  have c34 := c3.trans c4
  obtain ⟨a, xs, rfl, h1, h2⟩ := dp_lst (dp_ex ((S.chg c).exC c34) r)
  have cc := c.trans c34
  exact ⟨a, xs, rfl, Evl.ex_l cut_ex h1, fun p hp => q p _ _ _ (cc.trans (Chg.of_ex (ex_new hp))) (chg_none S cc hp) upd_same rfl (dpa_ex (ex_cut_new hp) (dpa_cut h2 l u))⟩

/-! ### calls of built-ins -/
def CallD (K : PySem.W.Frag) (r : List V → Hp → VK → Prop) (ds : List PyData) (d : PyData) : Prop := ∀ (F : Addr → Prop) (H : Hp) (vs : List V) (Q : VK), (∀ a, F a → H a ≠ none) → DpAll K (cut H F) vs ds →
  (∀ v H2, Ex H H2 → Dp K (cut H2 F) v d → Q v H2) → r vs H Q
def CallN (K : PySem.W.Frag) (r : List V → Hp → VK → Prop) (ds : List PyData) (φ : List PyData → Prop) : Prop := ∀ (F : Addr → Prop) (H : Hp) (vs : List V) (Q : VK), (∀ a, F a → H a ≠ none) → DpAll K (cut H F) vs ds →
  (∀ a xs H2 out, Ex H H2 → H a = none → H2 a = some (.lst xs) → φ out → DpAll K (cut H2 fun b => F b ∨ b = a) xs out → Q (.ref a) H2) → r vs H Q
theorem Dw.callB {x id} {p pos : Pos} {r : List V → Hp → VK → Prop} {φ : List PyData → Prop} {χ : PyData → Prop} (hc : CallR X (.builtin id) r) (hm : X.mg x = none) (hv : bootBuiltins x = some (.builtin id)) (ha : Da Z X (e :: es) ρ φ)
    (hr : ∀ ds, φ ds → ∃ d, χ d ∧ CallD X.K r ds d) (hg : Gl X x := by rfl) (hn : x ≠ "__name__" := by decide) (hdb : (x == ("__debug__" : Str)) = false := by decide)
    (he : starEach (e :: es) X.env = (false, eval e X.env) :: starEach es X.env := by rfl) (hpl : (backTo pos (starEach es X.env)).any (·.1) = false := by rfl) : Dw Z X (.Call (.Name x p) (e :: es) [] pos) ρ χ := fun F σ H S Q q =>
  we_of (pe_callB hc hg hm hv wa_pa hn hdb he hpl) (ha F σ H S _ fun vs H2 ds c p1 r1 => by
    obtain ⟨d, h1, h2⟩ := hr ds p1
    exact h2 F H2 vs Q (S.domC c) r1 fun v H3 x3 r3 => q v H3 d (c.trans (Chg.of_ex x3)) h1 r3)
theorem Dv.callB {x id} {p pos : Pos} {r : List V → Hp → VK → Prop} {ds : List PyData} {d : PyData} (hc : CallR X (.builtin id) r) (hm : X.mg x = none) (hv : bootBuiltins x = some (.builtin id)) (ha : Da Z X (e :: es) ρ fun x => x = ds)
    (hr : CallD X.K r ds d) (hg : Gl X x := by rfl) (hn : x ≠ "__name__" := by decide) (hdb : (x == ("__debug__" : Str)) = false := by decide)
    (he : starEach (e :: es) X.env = (false, eval e X.env) :: starEach es X.env := by rfl) (hpl : (backTo pos (starEach es X.env)).any (·.1) = false := by rfl) : Dv Z X (.Call (.Name x p) (e :: es) [] pos) ρ d :=
  Dw.callB hc hm hv ha (fun ds' e => ⟨d, rfl, by rw [e]; exact hr⟩) hg hn hdb he hpl
theorem Dv.callTy {x T} {p pos : Pos} {r : List V → Hp → VK → Prop} {ds : List PyData} {d : PyData} (hc : CallR X (.type T) r) (hm : X.mg x = none) (hv : bootBuiltins x = some (.type T)) (ha : Da Z X (e :: es) ρ fun x => x = ds)
    (hr : CallD X.K r ds d) (hg : Gl X x := by rfl) (hn : x ≠ "__name__" := by decide) (hdb : (x == ("__debug__" : Str)) = false := by decide)
    (he : starEach (e :: es) X.env = (false, eval e X.env) :: starEach es X.env := by rfl) (hpl : (backTo pos (starEach es X.env)).any (·.1) = false := by rfl) : Dv Z X (.Call (.Name x p) (e :: es) [] pos) ρ d := fun F σ H S Q q =>
  we_of (pe_callTy hc hg hm hv wa_pa hn hdb he hpl) (ha F σ H S _ fun vs H2 ds c p1 r1 => by
    subst p1
    exact hr F H2 vs Q (S.domC c) r1 fun v H3 x3 r3 => q v H3 d (c.trans (Chg.of_ex x3)) rfl r3)
theorem Dw.callTy {x T} {p pos : Pos} {r : List V → Hp → VK → Prop} {φ : List PyData → Prop} {χ : PyData → Prop} (hc : CallR X (.type T) r) (hm : X.mg x = none) (hv : bootBuiltins x = some (.type T)) (ha : Da Z X (e :: es) ρ φ)
    (hr : ∀ ds, φ ds → ∃ d, χ d ∧ CallD X.K r ds d) (hg : Gl X x := by rfl) (hn : x ≠ "__name__" := by decide) (hdb : (x == ("__debug__" : Str)) = false := by decide)
    (he : starEach (e :: es) X.env = (false, eval e X.env) :: starEach es X.env := by rfl) (hpl : (backTo pos (starEach es X.env)).any (·.1) = false := by rfl) : Dw Z X (.Call (.Name x p) (e :: es) [] pos) ρ χ := fun F σ H S Q q =>
  we_of (pe_callTy hc hg hm hv wa_pa hn hdb he hpl) (ha F σ H S _ fun vs H2 ds c p1 r1 => by
    obtain ⟨d, h1, h2⟩ := hr ds p1
    exact h2 F H2 vs Q (S.domC c) r1 fun v H3 x3 r3 => q v H3 d (c.trans (Chg.of_ex x3)) h1 r3)
theorem Dn.callB {x id} {p pos : Pos} {r : List V → Hp → VK → Prop} {ds : List PyData} {φ : List PyData → Prop} (hc : CallR X (.builtin id) r) (hm : X.mg x = none) (hv : bootBuiltins x = some (.builtin id)) (ha : Da Z X (e :: es) ρ fun x => x = ds)
    (hr : CallN X.K r ds φ) (hg : Gl X x := by rfl) (hn : x ≠ "__name__" := by decide) (hdb : (x == ("__debug__" : Str)) = false := by decide)
    (he : starEach (e :: es) X.env = (false, eval e X.env) :: starEach es X.env := by rfl) (hpl : (backTo pos (starEach es X.env)).any (·.1) = false := by rfl) : Dn Z X (.Call (.Name x p) (e :: es) [] pos) ρ φ := fun F σ H S Q q =>
  we_of (pe_callB hc hg hm hv wa_pa hn hdb he hpl) (ha F σ H S _ fun vs H2 ds c p1 r1 => by
    subst p1
    exact hr F H2 vs Q (S.domC c) r1 fun a xs H3 out x3 n3 l3 p3 r3 => q a xs H3 out (c.trans (Chg.of_ex x3)) (chg_none S c n3) l3 p3 r3)
theorem Dn.callTy {x T} {p pos : Pos} {r : List V → Hp → VK → Prop} {ds : List PyData} {φ : List PyData → Prop} (hc : CallR X (.type T) r) (hm : X.mg x = none) (hv : bootBuiltins x = some (.type T)) (ha : Da Z X (e :: es) ρ fun x => x = ds)
    (hr : CallN X.K r ds φ) (hg : Gl X x := by rfl) (hn : x ≠ "__name__" := by decide) (hdb : (x == ("__debug__" : Str)) = false := by decide)
    (he : starEach (e :: es) X.env = (false, eval e X.env) :: starEach es X.env := by rfl) (hpl : (backTo pos (starEach es X.env)).any (·.1) = false := by rfl) : Dn Z X (.Call (.Name x p) (e :: es) [] pos) ρ φ := fun F σ H S Q q =>
  we_of (pe_callTy hc hg hm hv wa_pa hn hdb he hpl) (ha F σ H S _ fun vs H2 ds c p1 r1 => by
    subst p1
    exact hr F H2 vs Q (S.domC c) r1 fun a xs H3 out x3 n3 l3 p3 r3 => q a xs H3 out (c.trans (Chg.of_ex x3)) (chg_none S c n3) l3 p3 r3)
theorem dpa1 {K : PySem.W.Frag} {H : Hp} {vs : List V} {d : PyData} (h : DpAll K H vs [d]) : ∃ v, vs = [v] ∧ Dp K H v d := by
  cases h with
  | cons h t =>
    cases t
    exact ⟨_, rfl, h⟩
theorem dpa2 {K : PySem.W.Frag} {H : Hp} {vs : List V} {d e : PyData} (h : DpAll K H vs [d, e]) : ∃ v w, vs = [v, w] ∧ Dp K H v d ∧ Dp K H w e := by
  cases h with
  | cons h t =>
    obtain ⟨w, rfl, h2⟩ := dpa1 t
    exact ⟨_, _, rfl, h, h2⟩
theorem cd_len {K : PySem.W.Frag} {ds : List PyData} {d : PyData} (hd : d = .tuple ds ∨ d = .list ds) : CallD K (fun xs H Q => ∃ p ys, xs = [.ref p] ∧ (SqL K H p ys ∨ SqT K H p ys) ∧ Q (.int ys.length) H) [d] (.int ds.length) := fun F H vs Q hF h q => by
  obtain ⟨v, rfl, h1⟩ := dpa1 h
  rcases hd with rfl | rfl
  · obtain ⟨a, xs, rfl, h2, h3⟩ := dp_tup h1
    exact ⟨a, xs, rfl, .inr (Evl.ex_t cut_ex h2), by rw [dpa_len h3]; exact q _ H (Evl.Ex.refl H) (.int _)⟩
  · obtain ⟨a, xs, rfl, h2, h3⟩ := dp_lst h1
    exact ⟨a, xs, rfl, .inl (Evl.ex_l cut_ex h2), by rw [dpa_len h3]; exact q _ H (Evl.Ex.refl H) (.int _)⟩
theorem Dv.len {ds : List PyData} {p pos : Pos} (hm : X.mg "len" = none) (h : Dv Z X e ρ (.tuple ds)) (hg : Gl X "len" := by rfl) (he : starEach [e] X.env = [(false, eval e X.env)] := by rfl) : Dv Z X (.Call (.Name "len" p) [e] [] pos) ρ (.int ds.length) :=
  Dv.callB call_len_seq hm PySem.boot_len (Da.c h Da.nil he) (cd_len (.inl rfl)) hg (by decide) (by decide) he
theorem Dv.lenL {ds : List PyData} {p pos : Pos} (hm : X.mg "len" = none) (h : Dv Z X e ρ (.list ds)) (hg : Gl X "len" := by rfl) (he : starEach [e] X.env = [(false, eval e X.env)] := by rfl) : Dv Z X (.Call (.Name "len" p) [e] [] pos) ρ (.int ds.length) :=
  Dv.callB call_len_seq hm PySem.boot_len (Da.c h Da.nil he) (cd_len (.inr rfl)) hg (by decide) (by decide) he
theorem Dv.abs {i : Int} {p pos : Pos} (hm : X.mg "abs" = none) (h : Dv Z X e ρ (.int i)) (hg : Gl X "abs" := by rfl) (he : starEach [e] X.env = [(false, eval e X.env)] := by rfl) : Dv Z X (.Call (.Name "abs" p) [e] [] pos) ρ (.int (if i < 0 then -i else i)) :=
  Dv.callB call_abs hm (by decide +kernel) (Da.c h Da.nil he) (fun F H vs Q hF h q => by
    obtain ⟨v, rfl, h1⟩ := dpa1 h
    exact ⟨i, by rw [dp_int h1], q _ H (Evl.Ex.refl H) (.int _)⟩) hg (by decide) (by decide) he
theorem Dv.max2 {a b : Expr} {i j : Int} {p pos : Pos} (hc : X.calm = true) (hm : X.mg "max" = none) (ha : Dv Z X a ρ (.int i)) (hb : Dv Z X b ρ (.int j)) (hg : Gl X "max" := by rfl) (he : starEach [a, b] X.env = (false, eval a X.env) :: starEach [b] X.env := by rfl)
    (he2 : starEach [b] X.env = [(false, eval b X.env)] := by rfl) (hpl : (backTo pos (starEach [b] X.env)).any (·.1) = false := by rfl) : Dv Z X (.Call (.Name "max" p) [a, b] [] pos) ρ (.int (if j > i then j else i)) :=
  Dv.callB (call_max2 hc) hm (by decide +kernel) (Da.c ha (Da.c hb Da.nil he2) he) (fun F H vs Q hF h q => by
    obtain ⟨v, w, rfl, h1, h2⟩ := dpa2 h
    exact ⟨i, j, by rw [dp_int h1, dp_int h2], q _ H (Evl.Ex.refl H) (.int _)⟩) hg (by decide) (by decide) he hpl
theorem Dv.min2 {a b : Expr} {i j : Int} {p pos : Pos} (hc : X.calm = true) (hm : X.mg "min" = none) (ha : Dv Z X a ρ (.int i)) (hb : Dv Z X b ρ (.int j)) (hg : Gl X "min" := by rfl) (he : starEach [a, b] X.env = (false, eval a X.env) :: starEach [b] X.env := by rfl)
    (he2 : starEach [b] X.env = [(false, eval b X.env)] := by rfl) (hpl : (backTo pos (starEach [b] X.env)).any (·.1) = false := by rfl) : Dv Z X (.Call (.Name "min" p) [a, b] [] pos) ρ (.int (if j < i then j else i)) :=
  Dv.callB (call_min2 hc) hm (by decide +kernel) (Da.c ha (Da.c hb Da.nil he2) he) (fun F H vs Q hF h q => by
    obtain ⟨v, w, rfl, h1, h2⟩ := dpa2 h
    exact ⟨i, j, by rw [dp_int h1, dp_int h2], q _ H (Evl.Ex.refl H) (.int _)⟩) hg (by decide) (by decide) he hpl
theorem Dv.intB {b : Bool} {p pos : Pos} (hm : X.mg "int" = none) (h : Dv Z X e ρ (.bool b)) (hg : Gl X "int" := by rfl) (he : starEach [e] X.env = [(false, eval e X.env)] := by rfl) : Dv Z X (.Call (.Name "int" p) [e] [] pos) ρ (.int (if b then 1 else 0)) :=
  Dv.callTy call_int1 hm (by decide +kernel) (Da.c h Da.nil he) (fun F H vs Q hF h q => by
    obtain ⟨v, rfl, h1⟩ := dpa1 h
    exact .inr ⟨b, by rw [dp_bl h1], q _ H (Evl.Ex.refl H) (.int _)⟩) hg (by decide) (by decide) he
theorem Dv.all {bs : List Bool} {p pos : Pos} (hc : X.calm = true) (hm : X.mg "all" = none) (h : Dv Z X e ρ (.list (bs.map .bool))) (hg : Gl X "all" := by rfl) (he : starEach [e] X.env = [(false, eval e X.env)] := by rfl) : Dv Z X (.Call (.Name "all" p) [e] [] pos) ρ (.bool (bs.all id)) :=
  Dv.callB (cr_all hc) hm (by decide +kernel) (Da.c h Da.nil he) (fun F H vs Q hF h q => by
    obtain ⟨v, rfl, h1⟩ := dpa1 h
    obtain ⟨a, xs, rfl, h2, h3⟩ := dp_lst h1
    exact ⟨a, bs, rfl, by rw [← dpa_bools h3]; exact Evl.ex_l cut_ex h2, q _ H (Evl.Ex.refl H) (.bl _)⟩) hg (by decide) (by decide) he
theorem Dv.any {bs : List Bool} {p pos : Pos} (hc : X.calm = true) (hm : X.mg "any" = none) (h : Dv Z X e ρ (.list (bs.map .bool))) (hg : Gl X "any" := by rfl) (he : starEach [e] X.env = [(false, eval e X.env)] := by rfl) : Dv Z X (.Call (.Name "any" p) [e] [] pos) ρ (.bool (bs.any id)) :=
  Dv.callB (cr_any hc) hm (by decide +kernel) (Da.c h Da.nil he) (fun F H vs Q hF h q => by
    obtain ⟨v, rfl, h1⟩ := dpa1 h
    obtain ⟨a, xs, rfl, h2, h3⟩ := dp_lst h1
    exact ⟨a, bs, rfl, by rw [← dpa_bools h3]; exact Evl.ex_l cut_ex h2, q _ H (Evl.Ex.refl H) (.bl _)⟩) hg (by decide) (by decide) he
theorem Dw.tupleOf {φ : List PyData → Prop} {p pos : Pos} (hm : X.mg "tuple" = none) (h : Dw Z X e ρ fun d => ∃ ds, φ ds ∧ d = .list ds) (hg : Gl X "tuple" := by rfl) (he : starEach [e] X.env = [(false, eval e X.env)] := by rfl) :
    Dw Z X (.Call (.Name "tuple" p) [e] [] pos) ρ fun d => ∃ ds, φ ds ∧ d = .tuple ds :=
  Dw.callTy call_tuple_of hm (by decide +kernel) (Da.cons h Da.nil he) (fun ds' ⟨d1, r1, e1, ⟨ds, p1, e2⟩, e3⟩ => ⟨.tuple ds, ⟨ds, p1, rfl⟩, fun F H vs Q hF h q => by
    subst e1 e2 e3
    obtain ⟨v, rfl, h1⟩ := dpa1 h
    obtain ⟨a, xs, rfl, h2, h3⟩ := dp_lst h1
    exact ⟨a, xs, rfl, .inl ⟨Evl.ex_l cut_ex h2, fun l hl => q _ _ (ex_new hl) (.tup (.inl (.inl (cut_new fun h => hF l h hl))) (dpa_ex ((Kd.of_ex (ex_new hl)).cut (Z := F) fun _ h => h) h3))⟩⟩⟩) hg (by decide) (by decide) he
theorem Dv.tupleOf {ds : List PyData} {p pos : Pos} (hm : X.mg "tuple" = none) (h : Dv Z X e ρ (.list ds)) (hg : Gl X "tuple" := by rfl) (he : starEach [e] X.env = [(false, eval e X.env)] := by rfl) : Dv Z X (.Call (.Name "tuple" p) [e] [] pos) ρ (.tuple ds) :=
  (Dw.tupleOf (φ := fun x => x = ds) hm (h.mono fun d e => ⟨ds, rfl, e⟩) hg he).mono fun d ⟨x, e1, e2⟩ => by rw [e2, e1]

/-! ### isinstance -/
/-- what is told of a value's class -/
def TyD (d : PyData) (T : String) : Prop := match d with
  | .none => T = "NoneType"
  | .bool _ => T = "bool"
  | .int _ => T = "int"
  | .str _ => T = "str"
  | .list _ => T = "list"
  | .tuple _ => T = "tuple"
  | .dict _ => False
theorem tyx_of {K : PySem.W.Frag} {H : Hp} {v : V} {d : PyData} {T : String} (h : Dp K H v d) (t : TyD d T) (hl : ∀ ds, d ≠ .list ds) : TyX K H v (.type T) := by
  cases h with
  | non => cases (show T = "NoneType" from t); exact .base .non
  | bl b => cases (show T = "bool" from t); exact .base (.bl b)
  | int i => cases (show T = "int" from t); exact .base (.int i)
  | str x => cases (show T = "str" from t); exact .base (.str x)
  | lst h1 h2 => exact absurd rfl (hl _)
  | tup h1 h2 =>
    cases (show T = "tuple" from t)
    rcases h1 with (h1 | ⟨o, h1⟩) | ⟨o, its, n, h1, h3, h4⟩
    · exact .base (.tup h1)
    · exact .fTuple h1
    · exact .kTuple h1 h3
theorem Dv.isi {x T U : String} {d : PyData} {r : Bool} {q p pos : Pos} (hi : X.mg "isinstance" = none) (hm : X.mg x = none) (hv : bootBuiltins x = some (.type U)) (h : Dv Z X e ρ d) (t : TyD d T) (hl : ∀ ds, d ≠ .list ds) (hk : kitB T U = some r)
    (hg : Gl X "isinstance" := by rfl) (hgx : Gl X (x : Str) := by rfl) (hn : (x : Str) ≠ "__name__" := by decide) (hdb : ((x : Str) == ("__debug__" : Str)) = false := by decide)
    (he : starEach [e, .Name (x : Str) q] X.env = (false, eval e X.env) :: starEach [.Name (x : Str) q] X.env := by rfl) (he2 : starEach [.Name (x : Str) q] X.env = [(false, eval (.Name (x : Str) q) X.env)] := by rfl)
    (hpl : (backTo pos (starEach [.Name (x : Str) q] X.env)).any (·.1) = false := by rfl) : Dv Z X (.Call (.Name "isinstance" p) [e, .Name (x : Str) q] [] pos) ρ (.bool r) := fun F σ H S Q w =>
  we_of (pe_callB call_isi hg hi (by decide +kernel) (pa_cons we_pe (pa_cons (pe_bltn (v := .ty U) hgx hm hv rfl hn hdb) pa_nil he2) he) (by decide) (by decide) he hpl) (h F σ H S _ fun v H2 d' c e1 r1 =>
    ⟨v, .ty U, .type T, .type U, r, rfl, .ty U, tyx_of (dp_ex cut_ex (by rw [← e1]; exact r1)) t hl, kit_ty hk, w _ H2 _ c rfl (.bl r)⟩)
end
end Hb

namespace Hb
open PySem PySem.Spec PyProof.Rows L2 RZ
open Evl (Ex)
/-! enumerate of a tuple -/
theorem meets_enum1 {v : Value} {ob : Obj} {Hh : Heap → Prop} (B : Begins v ob Hh) :
    Meets (Builtin.«enumerate.__new__» ⟨[.type "enumerate", v], []⟩) (fun _ R z => Hh z.heap ∧
      R (.ok (.ret (.ref (z.heap.push ob).objs.size))) { z with heap := (z.heap.push ob).push { cls := .type "enumerate", data := .fields #[.none, .bool false, .ref z.heap.objs.size, rawInt 0, .none, .none] } }) :=
  .of_wp fun prog w A R s hh => by
    obtain ⟨hp, g, d, tk, os⟩ := s
    obtain ⟨b1, hh⟩ := hh
    have sE := sub_enumerate
    have itr : ∀ {A' : Around} {E' : Value → Shared → Prop} {Q' : Value → Shared → Prop}, Q' (.ref hp.objs.size) ⟨hp.push ob, g, d, tk, os⟩ → wpAny (model prog w) A' (pyIter v) Q' E' ⟨hp, g, d, tk, os⟩ :=
      fun q => B.iter prog w _ _ ⟨hp, g, d, tk, os⟩ _ b1 q
    wp_walk using itr
    refine wpAny_stack_any fun st => wpAny_pure ?_
    split
    · rename_i cc _ _ _ _ _
      cases (cc == Value.type "enumerate")
      · wp_walk using itr
        exact ⟨_, rfl, hh⟩
      · wp_walk using itr
        exact ⟨_, rfl, hh⟩
    · wp_walk using itr
      exact ⟨_, rfl, hh⟩
theorem call_enumT {prog : Program} {w : World} {A : Around} {E : Value → Shared → Prop} {s : Shared} {v : Value} {ob : Obj} {Hh : Heap → Prop} {Q : Value → Shared → Prop} (B : Begins v ob Hh) (b1 : Hh s.heap)
    (k : ∀ h', IsEnum h' (s.heap.objs.size + 1) s.heap.objs.size 0 .none → h'.get? s.heap.objs.size = some ob →
      (∀ b o, s.heap.get? b = some o → h'.get? b = some o) → Q (.ref (s.heap.objs.size + 1)) { s with heap := h' }) :
    wpAny (model prog w) A (call (.type "enumerate") [v]) Q E s := by
  refine callType_new F.called_enumerate (by decide) (F.typeCall_enumerate_1 _) (F.newCall_enumerate_1 _) (fun o2 => F.args_object_init_2 o2 _) F.entry_enumerate_new (meets_enum1 B) ⟨b1, ?_⟩
  have sz : (s.heap.push ob).objs.size = s.heap.objs.size + 1 := Heap.size_push ..
  show _ ∧ _
  rw [sz]
  have ie : IsEnum ((s.heap.push ob).push { cls := .type "enumerate", data := .fields #[.none, .bool false, .ref s.heap.objs.size, rawInt 0, .none, .none] }) (s.heap.objs.size + 1) s.heap.objs.size 0 .none := by
    have q := Heap.get?_push_size (s.heap.push ob) (o := { cls := .type "enumerate", data := .fields #[.none, .bool false, .ref s.heap.objs.size, rawInt 0, .none, .none] }) rfl
    rw [sz] at q
    exact q
  exact ⟨⟨_, ie, rfl⟩, k _ ie (Heap.get?_push_of_some _ (Heap.get?_push_size _ B.free)) fun b o x => Heap.get?_push_of_some _ (Heap.get?_push_of_some _ x)⟩
/-- the tuple at a, each item in a new pair with its number -/
def IteT (K : PySem.W.Frag) (a : Addr) : It :=
  ⟨fun i H => ∃ (xs : List V) (x : V), SqT K H a xs ∧ xs[i]? = some x,
   fun i H v H' => ∃ T x, v = .ref T ∧ H T = none ∧ H' = upd H T (.tup [.int (i : Nat), x]) ∧ ∀ xs, SqT K H a xs → xs[i]? = some x,
   fun i H => ∃ xs : List V, SqT K H a xs ∧ xs.length = i⟩
theorem turn_enT {P : Program} {w : World} {K : PySem.W.Frag} {elts : List Expr} {kk : Nat} {tpos : Pos} (a e it : Addr) :
    Turn P w K (.Tuple elts kk tpos) (IteT K a) [e, it] e (fun i h => (∃ old, IsEnum h e it ((i : Nat) : Int) old) ∧ h.IsTupleIter it a i ∧ e ≠ it ∧ a ≠ it ∧ a ≠ e) where
  mem := List.mem_cons_self
  obj := fun i h st b hb => by
    obtain ⟨⟨old, he⟩, ⟨o, ho, hc, hd⟩, _⟩ := st
    rcases List.mem_cons.mp hb with q | q
    · subst q
      exact ⟨_, he, fun v q => nomatch q⟩
    · have q := List.mem_singleton.mp q
      subst q
      exact ⟨o, ho, fun v q => by rw [hd] at q; cases q⟩
  keep := fun i h h' st k => by
    obtain ⟨⟨old, he⟩, hi, h1, h2, h3⟩ := st
    exact ⟨⟨old, k e List.mem_cons_self _ he⟩, hi.at fun o q => k it (List.mem_cons_of_mem _ List.mem_cons_self) o q, h1, h2, h3⟩
  item := by
    intro X eP eW eK calm i pins s σ H E I fresh st go
    subst eP eW eK
    obtain ⟨⟨old, he⟩, hit, n1, n2, n3⟩ := st
    obtain ⟨xs, x, hq, hx⟩ := go
    obtain ⟨its, rv, tp, zz⟩ := I.tuple hq
    obtain ⟨u, hu, ru⟩ := rv.get hx
    have lit : it < s.heap.objs.size := by
      obtain ⟨_, q, _⟩ := hit
      exact Heap.lt_size q
    have len : i < its.toArray.size := by
      have q := (List.getElem?_eq_some_iff.mp hu).1
      simpa using q
    refine wpAny_pyNext_enum_itemD (Draws.tuple (prog := X.prog) (w := X.w) (A := X.A.in1) (I.ok.hd calm) it a n2 its.toArray) he ⟨hit, tp⟩ len n1 (by simp only [List.mem_cons, List.not_mem_nil, or_false, not_or]; exact ⟨n1, Ne.symm n3⟩) fun y h' tk hy ho hst hT hsz hk => ?_
    have ey : y = u := by
      have q : its.toArray[i]? = some u := by simpa using hu
      rw [q] at hy
      exact (Option.some.inj hy).symm
    subst ey
    refine ⟨_, rfl, wpAny_letOwnedTupleGo_enum (s := { s with heap := h', toks := tk + 1 }) ho fun h2 he2 sb => ?_⟩
    have tup2 : h2.get? s.heap.objs.size = some { cls := .type "tuple", data := .seq #[.int i tk, y] } := (sb.2 _ (Nat.ne_of_gt (Heap.lt_size he))).trans hT
    have new : ObjOk X.prog X.w (upd H s.heap.objs.size (.tup [.int (i : Nat), x])) h2 s.heap.objs.size (.tup [.int (i : Nat), x]) :=
      ⟨by show 2 ≤ sizeLine; decide, [.int i tk, y], .cons ⟨_, rfl⟩ (.cons ru .nil), ⟨_, tup2, rfl, _, rfl⟩⟩
    have J : Inv X pins σ (upd H s.heap.objs.size (.tup [.int (i : Nat), x])) { s with heap := h2, toks := tk + 1 } :=
      I.turnedNew (ch := [e, it]) (fun b o nb q => (sb.2 b fun z => nb (by rw [z]; exact List.mem_cons_self)).trans
        (hk b o (fun z => nb (by rw [z]; exact List.mem_cons_self)) (fun z => nb (by rw [z]; exact List.mem_cons_of_mem _ List.mem_cons_self)) q)) fresh (Nat.le_refl _) new
    refine ⟨.ref s.heap.objs.size, _, J, rfl, ⟨_, x, rfl, I.hok.fresh (Nat.le_refl _), rfl, fun ys hy => by rw [I.tuple_inj hy hq]; exact hx⟩, ⟨⟨y, ?_⟩, hst.1.at fun o q => (sb.2 it (Ne.symm n1)).trans q, n1, n2, n3⟩, fun b hb => ?_⟩
    · have e1 : ((i + 1 : Nat) : Int) = (i : Int) + 1 := by omega
      rw [e1]
      exact he2
    · have lb : b < s.heap.objs.size := by
        rcases List.mem_cons.mp hb with q | q
        · rw [q]
          exact Heap.lt_size he
        · rw [List.mem_singleton.mp q]
          exact lit
      rw [upd_ne (Nat.ne_of_lt lb)]
      exact (fresh b hb).1
  done := by
    intro X eP eW eK calm i pins s σ H E I fresh st stop
    subst eP eW eK
    obtain ⟨⟨old, he⟩, hit, n1, n2, n3⟩ := st
    obtain ⟨xs, hq, hx⟩ := stop
    obtain ⟨its, rv, tp, zz⟩ := I.tuple hq
    obtain ⟨f0, f1, f2, f3, f4, f5⟩ := fresh it (List.mem_cons_of_mem _ List.mem_cons_self)
    have en : i = its.toArray.size := by
      rw [List.size_toArray, ← rv.length]
      exact hx.symm
    exact wpAny_pyNext_enum_endD (Draws.tuple (prog := X.prog) (w := X.w) (A := X.A.in1) (I.ok.hd calm) it a n2 its.toArray) he (by rw [← en]; exact ⟨hit, tp⟩) fun h' eb => ⟨rfl, I.turned (t' := s.toks) (fun b o nb q => eb b o nb q) f0 f1 f3 f4 f5⟩
  self := fun A i s Q E st h => by
    obtain ⟨⟨_, he⟩, _⟩ := st
    exact wpAny_pyIter_enum he h
def iEnT (K : PySem.W.Frag) (ta : TA) : TI := fun σ H R => ta σ H fun vs H1 => ∃ a xs, vs = [.ref a] ∧ SqT K H1 a xs ∧ R (IteT K a) H1
theorem pi_enT {X : Cx} {e : Expr} {ta : TA} {p pos tpos : Pos} {elts : List Expr} {kk : Nat} (hm : X.mg "enumerate" = none) (ha : PA X [e] ta) (hg : Gl X "enumerate" := by rfl) (hs : starEach [e] X.env = [(false, eval e X.env)] := by rfl) :
    PI X (.Tuple elts kk tpos) (.Call (.Name "enumerate" p) [e] [] pos) (iEnT X.K ta) := by
  refine ⟨fun pins s σ H R I h => ?_⟩
  refine Call_ (ld_blt I hg hm boot_enumerate (PyProof.Rows.callWith_type1 (thn (ha.run pos pins s σ H _ I h) fun us s1 ⟨vs, H1, J, r1, q1⟩ => ?_) hs rfl))
  obtain ⟨a, xs, ev, hq, q⟩ := q1
  subst ev
  obtain ⟨u, eu, r⟩ := vals1 r1
  subst eu
  cases r
  obtain ⟨its, rv, tp, zz⟩ := J.tuple hq
  have la : a < s1.heap.objs.size := by
    obtain ⟨o, ho, _⟩ := id tp
    exact Heap.lt_size ho
  refine call_enumT (begins_tuple a its.toArray) tp fun h' he hit hk => wpAny_pyIter_enum he ?_
  have J2 : Inv X pins σ H1 { s1 with heap := h' } := J.kept (t' := s1.toks) hk
  refine ⟨s1.heap.objs.size + 1, [s1.heap.objs.size + 1, s1.heap.objs.size], _, _, H1, rfl, J2, turn_enT a (s1.heap.objs.size + 1) s1.heap.objs.size,
    ⟨⟨.none, he⟩, ⟨_, hit, rfl, rfl⟩, Nat.succ_ne_self _, Nat.ne_of_lt la, Nat.ne_of_lt (Nat.lt_succ_of_lt la)⟩, fun b hb => ?_, q⟩
  have lb : s1.heap.objs.size ≤ b := by
    rcases List.mem_cons.mp hb with z | z
    · rw [z]
      exact Nat.le_succ _
    · rw [List.mem_singleton.mp z]
      exact Nat.le_refl _
  exact J.fpOk lb (J.hok.fresh lb)
theorem walk_enT {K : PySem.W.Frag} {a : Addr} {xs : List V} : Walk (IteT K a) xs.length (fun H => SqT K H a xs) (YPair (fun i => some (.int (i : Nat))) (fun i => xs[i]?)) := by
  refine ⟨fun i _ hi q => ⟨xs, xs[i], q, List.getElem?_eq_getElem hi⟩, fun _ q => ⟨xs, q, rfl⟩, fun i H v H' _ q y => ?_⟩
  obtain ⟨T, x, e1, e2, e3, e4⟩ := y
  exact ⟨T, .int (i : Nat), x, e1, e2, e3, rfl, e4 xs q⟩
theorem walk_zipT {K : PySem.W.Frag} {a b : Addr} {xs ys : List V} {n : Nat} (hn : n = min xs.length ys.length) : Walk (ItzT K a b) n (fun H => SqT K H a xs ∧ SqT K H b ys) (YPair (fun i => xs[i]?) (fun i => ys[i]?)) := by
  subst hn
  refine ⟨fun i _ hi q => ?_, fun _ q => ⟨xs, ys, q.1, q.2, by omega⟩, fun i H v H' _ q y => ?_⟩
  · exact ⟨xs, ys, xs[i]'(by omega), ys[i]'(by omega), q.1, q.2, List.getElem?_eq_getElem _, List.getElem?_eq_getElem _⟩
  · obtain ⟨T, x, z, e1, e2, e3, e4, e5⟩ := y
    exact ⟨T, x, z, e1, e2, e3, e4 xs q.1, e5 ys q.2⟩
end Hb

namespace Hb
open PySem PySem.Spec PyProof.Rows L2 RZ
open Evl (Ex)

section
variable {Z : Vz} {X : Cx} {e : Expr} {es : List Expr} {ρ : List AV}
/-! ### targets -/
def WG (X : Cx) (tg : Expr) : TG := fun v σ H Q => ∀ (pins : List (Addr × Obj)) (s : Shared) (u : Value), Inv X pins σ H s → RelV v u →
  wpAny (model X.prog X.w) X.A (assign tg X.env u) (fun _ s' => ∃ σ' H', Inv X pins σ' H' s' ∧ Q σ' H') X.xe s
theorem wg_pg {tg : Expr} : PG X tg (WG X tg) := ⟨fun pins s _ _ _ u _ I r h => h pins s u I r⟩
theorem wg_of {tg : Expr} {t : TG} {v : V} {σ : L2.St} {H : Hp} {Q : L2.St → Hp → Prop} (h : PG X tg t) (q : t v σ H Q) : WG X tg v σ H Q := fun pins s u I r => h.run pins s σ H v u Q I r q
def puts (σ : L2.St) : List Nat → List V → L2.St
  | i :: is, v :: vs => puts (σ.set i (some v)) is vs
  | _, _ => σ
def putsA (ρ : List AV) : List Nat → List PyData → List AV
  | i :: is, d :: ds => putsA (ρ.set i (.d d)) is ds
  | _, _ => ρ
theorem StOk.puts {F : Addr → Prop} {K : PySem.W.Frag} {H : Hp} : ∀ {is : List Nat} {vs : List V} {ds : List PyData} {σ : L2.St} {ρ : List AV}, StOk Z F K H σ ρ → DpAll K (cut H F) vs ds → StOk Z F K H (Hb.puts σ is vs) (putsA ρ is ds)
  | [], _, _, _, _, S, h => by cases h <;> exact S
  | _ :: _, _, _, _, _, S, .nil => S
  | i :: is, _, _, _, _, S, .cons h t => StOk.puts (is := is) (S.put i h) t
theorem puts_len : ∀ (is : List Nat) (vs : List V) (σ : L2.St), (Hb.puts σ is vs).length = σ.length
  | [], _, _ => by unfold Hb.puts; rfl
  | _ :: _, [], _ => by unfold Hb.puts; rfl
  | i :: is, v :: vs, σ => by
    unfold Hb.puts
    rw [puts_len is vs, List.length_set]
theorem puts_get : ∀ (is : List Nat) (vs : List V) (σ : L2.St) (j : Nat), j ∉ is → (Hb.puts σ is vs)[j]? = σ[j]?
  | [], _, _, _, _ => by unfold Hb.puts; rfl
  | _ :: _, [], _, _, _ => by unfold Hb.puts; rfl
  | i :: is, v :: vs, σ, j, h => by
    unfold Hb.puts
    rw [puts_get is vs _ j fun z => h (List.mem_cons_of_mem _ z), List.getElem?_set_ne fun z => h (by rw [z]; exact List.mem_cons_self)]
/-- what a target takes of an item: the slots it fills, the data it fills them with -/
def Gt (X : Cx) (tg : Expr) (is : List Nat) (as : PyData → Option (List PyData)) : Prop :=
  ∀ (F : Addr → Prop) (σ : L2.St) (H : Hp) (v : V) (d : PyData) (ds : List PyData), Dp X.K (cut H F) v d → as d = some ds → ∀ Q : L2.St → Hp → Prop, (∀ vs, DpAll X.K (cut H F) vs ds → Q (puts σ is vs) H) → WG X tg v σ H Q
theorem Gt.name (i : Nat) {x : Str} {pos : Pos} (hN : X.N.Nodup) (hi : X.N[i]? = some x := by rfl) (hx : Loc X.env.scope x := by first | exact Or.inl rfl | exact Or.inr rfl)
    (hf : X.fn x = true ∨ X.env.scope.names.lookup x = some .local := by first | exact .inl rfl | exact .inr rfl) : Gt X (.Name x pos) [i] fun d => some [d] := fun F σ H v d ds h e Q q => by
  cases e
  exact wg_of (pg_name hN hi hx hf) (q [v] (.cons h .nil))
def items2 : PyData → Option (List PyData)
  | .tuple [a, b] => some [a, b]
  | _ => none
def items3 : PyData → Option (List PyData)
  | .tuple [a, b, c] => some [a, b, c]
  | _ => none
theorem Gt.two (i j : Nat) {x y : Str} {k : Nat} {p q pos : Pos} (hc : X.calm = true) (hN : X.N.Nodup) (hi : X.N[i]? = some x := by rfl) (hj : X.N[j]? = some y := by rfl)
    (hx : Loc X.env.scope x := by first | exact Or.inl rfl | exact Or.inr rfl) (hy : Loc X.env.scope y := by first | exact Or.inl rfl | exact Or.inr rfl)
    (hf : X.fn x = true ∨ X.env.scope.names.lookup x = some .local := by first | exact .inl rfl | exact .inr rfl) (hf2 : X.fn y = true ∨ X.env.scope.names.lookup y = some .local := by first | exact .inl rfl | exact .inr rfl)
    (hn : (assignEach [.Name x p, .Name y q] X.env).length = 2 := by rfl) (hst : (assignEach [.Name x p, .Name y q] X.env).findIdx? (·.1) = none := by rfl)
    (hs : (assignEach [.Name x p, .Name y q] X.env).map (·.2) = assign (.Name x p) X.env :: (assignEach [.Name y q] X.env).map (·.2) := by rfl)
    (hs2 : (assignEach [.Name y q] X.env).map (·.2) = assign (.Name y q) X.env :: (assignEach [] X.env).map (·.2) := by rfl) :
    Gt X (.Tuple [.Name x p, .Name y q] k pos) [i, j] items2 := fun F σ H v d ds h e Q w => by
  unfold items2 at e
  split at e
  · rename_i a b
    cases e
    obtain ⟨t, xs, rfl, h1, h2⟩ := dp_tup h
    obtain ⟨v1, v2, rfl, h3, h4⟩ := dpa2 h2
    exact wg_of (pg_tup hc (pgs_cons (pg_name hN hi hx hf) (pgs_cons (pg_name hN hj hy hf2) pgs_nil hs2) hs) hn hst) ⟨t, [v1, v2], rfl, Evl.ex_t cut_ex h1, rfl, v1, [v2], rfl, v2, [], rfl, rfl, w [v1, v2] h2⟩
  · cases e
theorem Gt.three (i j l : Nat) {x y z : Str} {k : Nat} {p q r pos : Pos} (hc : X.calm = true) (hN : X.N.Nodup) (hi : X.N[i]? = some x := by rfl) (hj : X.N[j]? = some y := by rfl) (hl : X.N[l]? = some z := by rfl)
    (hx : Loc X.env.scope x := by first | exact Or.inl rfl | exact Or.inr rfl) (hy : Loc X.env.scope y := by first | exact Or.inl rfl | exact Or.inr rfl) (hz : Loc X.env.scope z := by first | exact Or.inl rfl | exact Or.inr rfl)
    (hf : X.fn x = true ∨ X.env.scope.names.lookup x = some .local := by first | exact .inl rfl | exact .inr rfl) (hf2 : X.fn y = true ∨ X.env.scope.names.lookup y = some .local := by first | exact .inl rfl | exact .inr rfl)
    (hf3 : X.fn z = true ∨ X.env.scope.names.lookup z = some .local := by first | exact .inl rfl | exact .inr rfl)
    (hn : (assignEach [.Name x p, .Name y q, .Name z r] X.env).length = 3 := by rfl) (hst : (assignEach [.Name x p, .Name y q, .Name z r] X.env).findIdx? (·.1) = none := by rfl)
    (hs : (assignEach [.Name x p, .Name y q, .Name z r] X.env).map (·.2) = assign (.Name x p) X.env :: (assignEach [.Name y q, .Name z r] X.env).map (·.2) := by rfl)
    (hs2 : (assignEach [.Name y q, .Name z r] X.env).map (·.2) = assign (.Name y q) X.env :: (assignEach [.Name z r] X.env).map (·.2) := by rfl)
    (hs3 : (assignEach [.Name z r] X.env).map (·.2) = assign (.Name z r) X.env :: (assignEach [] X.env).map (·.2) := by rfl) :
    Gt X (.Tuple [.Name x p, .Name y q, .Name z r] k pos) [i, j, l] items3 := fun F σ H v d ds h e Q w => by
  unfold items3 at e
  split at e
  · rename_i a b c
    cases e
    obtain ⟨t, xs, rfl, h1, h2⟩ := dp_tup h
    cases id h2 with
    | @cons v1 _ _ _ h3 h5 =>
      obtain ⟨v2, v3, rfl, h6, h7⟩ := dpa2 h5
      exact wg_of (pg_tup hc (pgs_cons (pg_name hN hi hx hf) (pgs_cons (pg_name hN hj hy hf2) (pgs_cons (pg_name hN hl hz hf3) pgs_nil hs3) hs2) hs) hn hst)
        ⟨t, [v1, v2, v3], rfl, Evl.ex_t cut_ex h1, rfl, v1, [v2, v3], rfl, v2, [v3], rfl, v3, [], rfl, rfl, w [v1, v2, v3] h2⟩
  · cases e

/-! ### what is walked -/
def WI (X : Cx) (tg it : Expr) : TI := fun σ H R => ∀ (pins : List (Addr × Obj)) (s : Shared), Inv X pins σ H s →
  wpAny (model X.prog X.w) X.A (eval it X.env) (fun v s1 => wpAny (model X.prog X.w) X.A (pyIter v) (PIE X pins σ tg R) X.xe s1) X.xe s
theorem wi_pi {tg it : Expr} : PI X tg it (WI X tg it) := ⟨fun pins s _ _ _ I h => h pins s I⟩
theorem wi_of {tg it : Expr} {wi : TI} {σ : L2.St} {H : Hp} {R : It → Hp → Prop} (h : PI X tg it wi) (q : wi σ H R) : WI X tg it σ H R := fun pins s I => h.run pins s σ H R I q
/-- the items that a walk gives: b tells whether what the def owns may change meanwhile -/
def WkD (Z : Vz) (K : PySem.W.Frag) (b : Bool) (F : Addr → Prop) (H1 : Hp) (J : It) (ds : List PyData) : Prop :=
  ∃ (G : Hp → Prop) (Y : Nat → Hp → V → Hp → Prop), Walk J ds.length G Y ∧ (∀ H2 (F' : Addr → Prop), Ex (cut H1 F) (cut H2 F') → (b = false → Kd Z.has H1 H2) → G H2) ∧
    ∀ (i : Nat) H2 x H3 (F' : Addr → Prop), Ex (cut H1 F) (cut H2 F') → (b = false → Kd Z.has H1 H2) → (∀ a, F' a → H2 a ≠ none) → i < ds.length → Y i H2 x H3 →
      ∃ d, ds[i]? = some d ∧ Ex H2 H3 ∧ Dp K (cut H3 F') x d
def Wk (Z : Vz) (X : Cx) (tg it : Expr) (ρ : List AV) (b : Bool) (φ : List PyData → Prop) : Prop :=
  ∀ (F : Addr → Prop) (σ : L2.St) (H : Hp), StOk Z F X.K H σ ρ → ∀ R : It → Hp → Prop, (∀ J H1 ds, Chg Z H H1 → φ ds → WkD Z X.K b F H1 J ds → R J H1) → WI X tg it σ H R
theorem Wk.weak {tg it : Expr} {φ : List PyData → Prop} (h : Wk Z X tg it ρ true φ) : Wk Z X tg it ρ false φ := fun F σ H S R q => h F σ H S R fun J H1 ds c p ⟨G, Y, w, g, y⟩ =>
  q J H1 ds c p ⟨G, Y, w, fun H2 F' k _ => g H2 F' k (fun z => nomatch z), fun i H2 x H3 F' k _ h3 h4 h5 => y i H2 x H3 F' k (fun z => nomatch z) h3 h4 h5⟩
/-- how data outside the cut live on -/
theorem ex_more {F F' : Addr → Prop} {H1 H2 : Hp} (h2 : ∀ a, F' a → F a ∨ H1 a = none) (k : Kd F H1 H2) : Ex (cut H1 F) (cut H2 F') := fun a o q => by
  obtain ⟨n, e⟩ := cut_some q
  have n' : ¬ F' a := fun z => (h2 a z).elim n fun z => by rw [z] at e; cases e
  rw [cut_out n']
  exact k a o n e
theorem sqT_out {K : PySem.W.Frag} {F F' : Addr → Prop} {H1 H2 : Hp} {a : Addr} {xs : List V} (h : SqT K (cut H1 F) a xs) (k : Ex (cut H1 F) (cut H2 F')) : SqT K H2 a xs :=
  Evl.ex_t cut_ex (Evl.ex_t k h)
theorem sqL_out {K : PySem.W.Frag} {F F' : Addr → Prop} {H1 H2 : Hp} {a : Addr} {xs : List V} (h : SqL K (cut H1 F) a xs) (k : Ex (cut H1 F) (cut H2 F')) : SqL K H2 a xs :=
  Evl.ex_l cut_ex (Evl.ex_l k h)
theorem Wk.tup {tg : Expr} {b : Bool} {φ : List PyData → Prop} (h : Dw Z X e ρ fun d => ∃ ds, φ ds ∧ d = .tuple ds) : Wk Z X tg e ρ b φ := fun F σ H S R q =>
  wi_of (pi_tup we_pe) (h F σ H S _ fun v H1 d c ⟨ds, p, ed⟩ r => by
    subst ed
    obtain ⟨a, xs, rfl, h1, h2⟩ := dp_tup r
    refine ⟨a, rfl, ⟨xs, Evl.ex_t cut_ex h1⟩, q _ H1 ds c p ⟨fun H => SqT X.K H a xs, YAt xs, ?_, fun H2 F' k _ => sqT_out h1 k, fun i H2 x H3 F' k _ g3 hi y => ?_⟩⟩
    · rw [← dpa_len h2]
      exact walk_tup
    · obtain ⟨e1, e2⟩ := y
      subst e1
      obtain ⟨d, e3, e4⟩ := dpa_get' h2 e2
      exact ⟨d, e3, Evl.Ex.refl _, dp_ex k e4⟩)
theorem Wk.lst {tg : Expr} {b : Bool} {φ : List PyData → Prop} (h : Dw Z X e ρ fun d => ∃ ds, φ ds ∧ d = .list ds) : Wk Z X tg e ρ b φ := fun F σ H S R q =>
  wi_of (pi_list we_pe) (h F σ H S _ fun v H1 d c ⟨ds, p, ed⟩ r => by
    subst ed
    obtain ⟨a, xs, rfl, h1, h2⟩ := dp_lst r
    refine ⟨a, rfl, ⟨xs, Evl.ex_l cut_ex h1⟩, q _ H1 ds c p ⟨fun H => SqL X.K H a xs, YAt xs, ?_, fun H2 F' k _ => sqL_out h1 k, fun i H2 x H3 F' k _ g3 hi y => ?_⟩⟩
    · rw [← dpa_len h2]
      exact walk_list
    · obtain ⟨e1, e2⟩ := y
      subst e1
      obtain ⟨d, e3, e4⟩ := dpa_get' h2 e2
      exact ⟨d, e3, Evl.Ex.refl _, dp_ex k e4⟩)
/-- an own list, that doesn't change meanwhile -/
theorem Wk.own {tg : Expr} {φ : List PyData → Prop} (h : Dl Z X e ρ φ) : Wk Z X tg e ρ false φ := fun F σ H S R q =>
  wi_of (pi_list we_pe) (h F σ H S _ fun a xs H1 ds c l p nz h2 => by
    refine ⟨a, rfl, ⟨xs, .inl (.inl l)⟩, q _ H1 ds c p ⟨fun H => SqL X.K H a xs, YAt xs, ?_, fun H2 F' _ k => .inl (.inl (k rfl a _ nz l)), fun i H2 x H3 F' k _ g3 hi y => ?_⟩⟩
    · rw [← dpa_len h2]
      exact walk_list
    · obtain ⟨e1, e2⟩ := y
      subst e1
      obtain ⟨d, e3, e4⟩ := dpa_get' h2 e2
      exact ⟨d, e3, Evl.Ex.refl _, dp_ex k e4⟩)
def irng (lo : Int) (n : Nat) : List PyData := (List.range n).map fun i => .int (lo + (i : Nat))
theorem irng_len (lo : Int) (n : Nat) : (irng lo n).length = n := by simp [irng]
theorem irng_get {lo : Int} {n i : Nat} (h : i < n) : (irng lo n)[i]? = some (.int (lo + (i : Nat))) := by
  unfold irng
  rw [List.getElem?_map, List.getElem?_range h]
  rfl
theorem WkD.rng {K : PySem.W.Frag} {b : Bool} {F : Addr → Prop} {H1 : Hp} {lo : Int} {n : Nat} : WkD Z K b F H1 (Itr lo n) (Hb.irng lo n) := by
  refine ⟨fun _ => True, YFn fun i => .int (lo + i), ?_, fun _ _ _ _ => trivial, fun i H2 x H3 F' _ _ _ hi y => ?_⟩
  · rw [irng_len]
    exact walk_range
  · obtain ⟨e1, e2⟩ := y
    subst e1 e2
    rw [irng_len] at hi
    exact ⟨_, irng_get hi, Evl.Ex.refl _, .int _⟩
theorem Wk.rng1 {tg a : Expr} {b : Bool} {φ : Int → Prop} {p pos : Pos} (hm : X.mg "range" = none) (h : Dw Z X a ρ fun d => ∃ n, φ n ∧ d = .int n) (hb : ∀ n, φ n → -(2 ^ 62) ≤ n ∧ n < 2 ^ 62) (hg : Gl X "range" := by rfl) (hs : starEach [a] X.env = [(false, eval a X.env)] := by rfl) :
    Wk Z X tg (.Call (.Name "range" p) [a] [] pos) ρ b fun ds => ∃ n, φ n ∧ ds = irng 0 n.toNat := fun F σ H S R q =>
  wi_of (pi_range1 hg hm (pa_cons we_pe pa_nil hs) (hs := hs)) (h F σ H S _ fun v H1 d c ⟨n, pn, ed⟩ r => by
    subst ed
    exact ⟨n, by rw [dp_int r], (hb n pn).1, (hb n pn).2, q _ H1 _ c ⟨n, pn, rfl⟩ WkD.rng⟩)
theorem Wk.rng2 {tg a a2 : Expr} {b : Bool} {i j : Int} {p pos : Pos} (hm : X.mg "range" = none) (h : Dv Z X a ρ (.int i)) (h2 : Dv Z X a2 ρ (.int j)) (hb : -(2 ^ 62) ≤ i ∧ i < 2 ^ 62 ∧ -(2 ^ 62) ≤ j ∧ j < 2 ^ 62)
    (hg : Gl X "range" := by rfl) (hs : starEach [a, a2] X.env = (false, eval a X.env) :: starEach [a2] X.env := by rfl) (hs2 : starEach [a2] X.env = [(false, eval a2 X.env)] := by rfl)
    (hpl : (backTo pos (starEach [a2] X.env)).any (·.1) = false := by rfl) :
    Wk Z X tg (.Call (.Name "range" p) [a, a2] [] pos) ρ b fun ds => ds = irng i (j - i).toNat := fun F σ H S R q =>
  wi_of (pi_range2 hg hm (pa_cons we_pe (pa_cons we_pe pa_nil hs2) hs) (hs := by rw [hs, hs2]) (hs2 := hs2)) (two h h2 S fun x y H1 da db c e1 e2 r1 r2 => by
    subst e1 e2
    exact ⟨i, j, by rw [dp_int r1, dp_int r2], hb, q _ H1 _ c rfl WkD.rng⟩)
def enumD (ds : List PyData) : List PyData := (List.range ds.length).map fun i => .tuple [.int (i : Nat), ds.getD i .none]
theorem enumD_len (ds : List PyData) : (enumD ds).length = ds.length := by simp [enumD]
theorem enumD_get {ds : List PyData} {i : Nat} {d : PyData} (h : ds[i]? = some d) : (enumD ds)[i]? = some (.tuple [.int (i : Nat), d]) := by
  have hi := (List.getElem?_eq_some_iff.mp h).1
  unfold enumD
  rw [List.getElem?_map, List.getElem?_range hi]
  show some (PyData.tuple [.int (i : Nat), ds.getD i .none]) = _
  rw [List.getD_eq_getElem?_getD, h]
  rfl
theorem new_pair {K : PySem.W.Frag} {F' : Addr → Prop} {H2 : Hp} {T : Addr} {x y : V} {d e : PyData} (n : H2 T = none) (h3 : ∀ a, F' a → H2 a ≠ none) (h1 : Dp K (cut H2 F') x d) (h2 : Dp K (cut H2 F') y e) :
    Dp K (cut (upd H2 T (.tup [x, y])) F') (.ref T) (.tuple [d, e]) := by
  have k : Ex (cut H2 F') (cut (upd H2 T (.tup [x, y])) F') := (Kd.of_ex (ex_new n)).cut (Z := F') fun _ h => h
  exact .tup (.inl (.inl (cut_new fun z => h3 T z n))) (.cons (dp_ex k h1) (.cons (dp_ex k h2) .nil))
theorem Wk.enum {elts : List Expr} {kk : Nat} {tpos p pos : Pos} {b : Bool} {φ : List PyData → Prop} (hm : X.mg "enumerate" = none) (h : Dw Z X e ρ fun d => ∃ ds, φ ds ∧ d = .tuple ds) (hg : Gl X "enumerate" := by rfl)
    (hs : starEach [e] X.env = [(false, eval e X.env)] := by rfl) : Wk Z X (.Tuple elts kk tpos) (.Call (.Name "enumerate" p) [e] [] pos) ρ b fun ds => ∃ es, φ es ∧ ds = enumD es := fun F σ H S R q =>
  wi_of (pi_enT hm (pa_cons we_pe pa_nil hs) hg hs) (h F σ H S _ fun v H1 d c ⟨ds, p, ed⟩ r => by
    subst ed
    obtain ⟨a, xs, rfl, h1, h2⟩ := dp_tup r
    refine ⟨a, xs, rfl, Evl.ex_t cut_ex h1, q _ H1 _ c ⟨ds, p, rfl⟩ ⟨fun H => SqT X.K H a xs, YPair (fun i => some (.int (i : Nat))) (fun i => xs[i]?), ?_, fun H2 F' k _ => sqT_out h1 k, fun i H2 x H3 F' k _ g3 hi y => ?_⟩⟩
    · rw [enumD_len, ← dpa_len h2]
      exact walk_enT
    · obtain ⟨T, x1, y1, e1, e2, e3, e4, e5⟩ := y
      subst e1 e3
      cases e4
      obtain ⟨d, e6, e7⟩ := dpa_get' h2 e5
      exact ⟨_, enumD_get e6, ex_new e2, new_pair e2 g3 (.int _) (dp_ex k e7)⟩)
def zipD : List PyData → List PyData → List PyData
  | d :: ds, e :: es => .tuple [d, e] :: zipD ds es
  | _, _ => []
theorem zipD_len : ∀ ds es : List PyData, (zipD ds es).length = min ds.length es.length
  | [], _ => by simp [zipD]
  | _ :: _, [] => by simp [zipD]
  | d :: ds, e :: es => by
    unfold zipD
    rw [List.length_cons, zipD_len ds es, List.length_cons, List.length_cons]
    omega
theorem zipD_get : ∀ {ds es : List PyData} {i : Nat} {d e : PyData}, ds[i]? = some d → es[i]? = some e → (zipD ds es)[i]? = some (.tuple [d, e])
  | [], _, _, _, _, h, _ => by simp at h
  | _ :: _, [], _, _, _, _, h => by simp at h
  | d :: ds, e :: es, 0, _, _, h1, h2 => by
    simp at h1 h2
    subst h1 h2
    rfl
  | d :: ds, e :: es, i + 1, _, _, h1, h2 => by
    unfold zipD
    rw [List.getElem?_cons_succ]
    exact zipD_get (by simpa using h1) (by simpa using h2)
theorem Wk.zip {elts : List Expr} {kk : Nat} {tpos p pos : Pos} {b : Bool} {a a2 : Expr} {ds es : List PyData} (hm : X.mg "zip" = none) (h : Dv Z X a ρ (.tuple ds)) (h' : Dv Z X a2 ρ (.tuple es)) (hg : Gl X "zip" := by rfl)
    (hs : starEach [a, a2] X.env = (false, eval a X.env) :: starEach [a2] X.env := by rfl) (hs2 : starEach [a2] X.env = [(false, eval a2 X.env)] := by rfl) (hpl : (backTo pos (starEach [a2] X.env)).any (·.1) = false := by rfl) :
    Wk Z X (.Tuple elts kk tpos) (.Call (.Name "zip" p) [a, a2] [] pos) ρ b fun x => x = zipD ds es := fun F σ H S R q =>
  wi_of (pi_zipA hg hm (pa_cons we_pe (pa_cons we_pe pa_nil hs2) hs) hs hpl) (two h h' S fun x y H1 da db c e1 e2 r1 r2 => by
    subst e1 e2
    obtain ⟨t, xs, rfl, h1, h2⟩ := dp_tup r1
    obtain ⟨u, ys, rfl, h3, h4⟩ := dp_tup r2
    refine ⟨t, u, xs, ys, rfl, .inr ⟨Evl.ex_t cut_ex h1, Evl.ex_t cut_ex h3, q _ H1 _ c rfl ⟨fun H => SqT X.K H t xs ∧ SqT X.K H u ys, YPair (fun i => xs[i]?) (fun i => ys[i]?), ?_, fun H2 F' k _ => ⟨sqT_out h1 k, sqT_out h3 k⟩, fun i H2 x H3 F' k _ g3 hi y => ?_⟩⟩⟩
    · rw [zipD_len, ← dpa_len h2, ← dpa_len h4]
      exact walk_zipT rfl
    · obtain ⟨T, x1, y1, e1, e2, e3, e4, e5⟩ := y
      subst e1 e3
      obtain ⟨d, e6, e7⟩ := dpa_get' h2 e4
      obtain ⟨d2, e8, e9⟩ := dpa_get' h4 e5
      exact ⟨_, zipD_get e6 e8, ex_new e2, new_pair e2 g3 (dp_ex k e7) (dp_ex k e9)⟩)
end
end Hb

namespace Hb
open PySem PySem.Spec PyProof.Rows L2 RZ
open Evl (Ex)

/-! ### list comprehensions -/
inductive Rel2 (ψ : PyData → PyData → Prop) : List PyData → List PyData → Prop
  | nil : Rel2 ψ [] []
  | cons {d e : PyData} {ds es : List PyData} : ψ d e → Rel2 ψ ds es → Rel2 ψ (d :: ds) (e :: es)
theorem Rel2.snoc {ψ : PyData → PyData → Prop} : ∀ {ds es : List PyData} {d e : PyData}, Rel2 ψ ds es → ψ d e → Rel2 ψ (ds ++ [d]) (es ++ [e])
  | _, _, _, _, .nil, h => .cons h .nil
  | _, _, _, _, .cons a t, h => .cons a (t.snoc h)
theorem Rel2.len {ψ : PyData → PyData → Prop} : ∀ {ds es : List PyData}, Rel2 ψ ds es → ds.length = es.length
  | _, _, .nil => rfl
  | _, _, .cons _ t => by rw [List.length_cons, List.length_cons, t.len]
theorem Rel2.fn {f : PyData → PyData} : ∀ {ds es : List PyData}, Rel2 (fun d e => e = f d) ds es → es = ds.map f
  | _, _, .nil => rfl
  | _, _, .cons h t => by rw [List.map_cons, h, t.fn]
theorem Rel2.imp {ψ χ : PyData → PyData → Prop} : ∀ {ds es : List PyData}, Rel2 ψ ds es → (∀ d ∈ ds, ∀ e, ψ d e → χ d e) → Rel2 χ ds es
  | _, _, .nil, _ => .nil
  | _, _, .cons h t, k => .cons (k _ List.mem_cons_self _ h) (t.imp fun d hd => k d (List.mem_cons_of_mem _ hd))
section
variable {Z : Vz} {X : Cx} {e : Expr} {es : List Expr} {ρ : List AV}
def WTs (X : Cx) (ifs : List Expr) : TT := fun σ H Q => ∀ (pins : List (Addr × Obj)) (s : Shared), Inv X pins σ H s →
  wpAny (model X.prog X.w) X.A (forIn ifs true fun c r => if r = true then do let ok ← isTrue c X.env (eval c X.env); pure (ForInStep.yield ok) else pure (ForInStep.yield r)) (TP X pins σ Q) X.xe s
theorem wts_pts {ifs : List Expr} : PTs X ifs (WTs X ifs) := ⟨fun pins s _ _ _ I h => h pins s I⟩
theorem wts_of {ifs : List Expr} {t : TT} {σ : L2.St} {H : Hp} {Q : Bool → Hp → Prop} (h : PTs X ifs t) (q : t σ H Q) : WTs X ifs σ H Q := fun pins s I => h.run pins s σ H Q I q
def Ts (Z : Vz) (X : Cx) (ifs : List Expr) (ρ : List AV) (b : Bool) : Prop :=
  ∀ (F : Addr → Prop) (σ : L2.St) (H : Hp), StOk Z F X.K H σ ρ → ∀ Q : Bool → Hp → Prop, (∀ H2, Chg Z H H2 → Q b H2) → WTs X ifs σ H Q
theorem Ts.nil : Ts Z X [] ρ true := fun F σ H S Q q => wts_of pts_nil (q H Chg.refl)
theorem Ts.one {c : Expr} {b : Bool} (h : Dt Z X c ρ b) : Ts Z X [c] ρ b := fun F σ H S Q q => wts_of (pts_one wt_pt) (h F σ H S Q q)

theorem StOk.grow {F F' : Addr → Prop} {K : PySem.W.Frag} {H1 H2 : Hp} {σ : L2.St} (S : StOk Z F K H1 σ ρ) (c : Chg Z H1 H2) (h1 : ∀ a, F a → F' a) (h2 : ∀ a, F' a → F a ∨ H1 a = none) (h3 : ∀ a, F' a → H2 a ≠ none) : StOk Z F' K H2 σ ρ where
  pen := fun a z => ⟨h1 a (S.pen a z).1, (S.pen a z).2.chg c z⟩
  tb := (c.2 _ Z.ht).2 S.tb
  dom := h3
  len := S.len
  inj := S.inj
  slot := fun i av e => by
    obtain ⟨ov, q1, q2⟩ := S.slot i av e
    have k : Ex (cut H1 F) (cut H2 F') := ex_more h2 (c.1.mono S.zf)
    refine ⟨ov, q1, ?_⟩
    cases av with
    | no => trivial
    | d x =>
      obtain ⟨v, a1, a2⟩ := q2
      exact ⟨v, a1, dp_ex k a2⟩
    | own a ds =>
      obtain ⟨a1, a2, a3, xs, a4, a5⟩ := q2
      exact ⟨a1, h1 a a2, a3, xs, c.1 _ _ a3 a4, dpa_ex k a5⟩
    | pen p => exact ⟨q2.1, q2.2.1, (c.2 _ q2.2.1).1 q2.2.2⟩
    | dic a kvs =>
      obtain ⟨a1, a2, a3, xs, a4, a5, a6⟩ := q2
      exact ⟨a1, h1 a a2, a3, xs, c.1 _ _ a3 a4, a5, dpa_ex k a6⟩
    | fd a kvs =>
      obtain ⟨a1, o, xs, a4, a5, a6⟩ := q2
      exact ⟨a1, o, xs, k _ _ a4, a5, dpa_ex k a6⟩

abbrev blkX (X : Cx) (s : Shared) (H : Hp) (scope : Scope) (C : Addr) (cl : List (Str × Addr)) (fp : List Addr) : Cx := X.blk s H scope (compEnvC scope cl C X.env) fp
/-- what a comprehension's element, test and target give for an item -/
structure Elt (Z : Vz) (X : Cx) (scope : Scope) (tg elt : Expr) (ifs : List Expr) (vs : List Nat) (ρ : List AV) (is : List Nat) (as : PyData → Option (List PyData)) (keep : PyData → Bool) (ψ : PyData → PyData → Prop) (d : PyData) : Prop where
  run : ∃ ds, as d = some ds ∧ ∀ (s : Shared) (H : Hp) (C : Addr) (cl : List (Str × Addr)) (fp : List Addr),
    Gt (blkX X s H scope C cl fp) tg is as ∧ Ts Z (blkX X s H scope C cl fp) ifs (putsA (wipeA ρ vs) is ds) (keep d) ∧ (keep d = true → Dw Z (blkX X s H scope C cl fp) elt (putsA (wipeA ρ vs) is ds) (ψ d))
def tgB (X : Cx) (scope : Scope) (tg : Expr) : TG := fun v σ H Q => ∀ (s : Shared) (H0 : Hp) (C : Addr) (cl : List (Str × Addr)) (fp : List Addr), WG (blkX X s H0 scope C cl fp) tg v σ H Q
def tsB (X : Cx) (scope : Scope) (ifs : List Expr) : TT := fun σ H Q => ∀ (s : Shared) (H0 : Hp) (C : Addr) (cl : List (Str × Addr)) (fp : List Addr), WTs (blkX X s H0 scope C cl fp) ifs σ H Q
def teB (X : Cx) (scope : Scope) (elt : Expr) : TE := fun σ H Q => ∀ (s : Shared) (H0 : Hp) (C : Addr) (cl : List (Str × Addr)) (fp : List Addr), WE (blkX X s H0 scope C cl fp) elt σ H Q
theorem putsA_wipe {σ : L2.St} {is vs : List Nat} {ws : List V} (h : ∀ i ∈ is, i ∈ vs) : L2.wipe (puts (L2.wipe σ vs) is ws) vs = L2.wipe σ vs :=
  wipe_same (fun i hi => by rw [puts_get is ws _ i fun z => hi (h i z), wipe_get_out hi]) (by rw [puts_len, wipe_length])
theorem take_snoc {α : Type} {l : List α} {i : Nat} {x : α} (h : l[i]? = some x) : l.take (i + 1) = l.take i ++ [x] := by
  rw [List.take_add_one, h]
  rfl
theorem lc_read {scope : Scope} {tg elt it : Expr} {ifs : List Expr} {vs is : List Nat} {as : PyData → Option (List PyData)} {keep : PyData → Bool} {ψ : PyData → PyData → Prop} {φ : List PyData → Prop} (hw : Wk Z X tg it ρ false φ)
    (his : ∀ i ∈ is, i ∈ vs) (hel : ∀ ds, φ ds → ds.length ≤ 100000 ∧ ∀ d ∈ ds, Elt Z X scope tg elt ifs vs ρ is as keep ψ d) (F : Addr → Prop) (σ : L2.St) (H : Hp) (S : StOk Z F X.K H σ ρ) (Q : VK)
    (q : ∀ a xs H2 ds out, Chg Z H H2 → H a = none → H2 a = some (.lst xs) → φ ds → Rel2 ψ (ds.filter keep) out → DpAll X.K (cut H2 fun b => F b ∨ b = a) xs out → Q (.ref a) H2) :
    tLc (WI X tg it) (tgB X scope tg) (tsB X scope ifs) (teB X scope elt) vs σ H Q := hw F σ H S _ fun J H1 ds c1 pφ ⟨G, Y, w, hG, hY⟩ D hD => by
  obtain ⟨hlen, hel⟩ := hel ds pφ
  have S1 := S.chg c1
  have fD : ¬ F D := S1.new_out hD
  have zD : ¬ Z D := fun z => fD (S.zf D z)
  have F1 : ∀ a, F a → (fun b => F b ∨ b = D) a := fun a => .inl
  have F2 : ∀ a, (fun b => F b ∨ b = D) a → F a ∨ H1 a = none := fun a h => h.elim .inl fun e => .inr (by rw [e]; exact hD)
  refine lc_it w (Pv := fun i H' => Chg Z H1 H' ∧ ∃ xs out, H' D = some (.lst xs) ∧ Rel2 ψ ((ds.take i).filter keep) out ∧ DpAll X.K (cut H' fun b => F b ∨ b = D) xs out) ?h0 ?hG ?hs ?hd
  case h0 => exact ⟨Chg.of_ex (ex_new hD), [], [], upd_same, by rw [List.take_zero]; exact .nil, .nil⟩
  case hG => exact fun i H' _ p => hG H' (fun b => F b ∨ b = D) (ex_more F2 (p.1.1.mono S1.zf)) fun _ => p.1.1
  case hd =>
    rintro H' ⟨c, xs, out, h1, h2, h3⟩
    rw [List.take_length] at h2
    exact q D xs H' ds out (c1.trans c) (chg_none S c1 hD) h1 pφ h2 h3
  case hs =>
    rintro i x H2 H3 hi ⟨c2, xs, out, h1, h2, h3⟩ hy s0 H0 C cl fp
    have d2 : ∀ a, (fun b => F b ∨ b = D) a → H2 a ≠ none := fun a h => h.elim (S1.domC c2 a) fun e => by rw [e, h1]; exact fun z => nomatch z
    obtain ⟨d, ed, x3, rd⟩ := hY i H2 x H3 _ (ex_more F2 (c2.1.mono S1.zf)) (fun _ => c2.1) d2 hi hy
    have c3 : Chg Z H1 H3 := c2.trans (Chg.of_ex x3)
    have d3 : ∀ a, (fun b => F b ∨ b = D) a → H3 a ≠ none := fun a h => by
      cases z : H2 a with
      | none => exact absurd z (d2 a h)
      | some o =>
        rw [x3 a o z]
        exact fun z => nomatch z
    have S3 : StOk Z (fun b => F b ∨ b = D) X.K H3 σ ρ := S1.grow c3 F1 F2 d3
    obtain ⟨da, ea, hrun⟩ := (hel d (List.mem_of_getElem? ed)).run
    refine (hrun s0 H0 C cl fp).1 _ _ H3 x d da rd ea _ fun ws rw_ => ⟨putsA_wipe his, fun s0 H0 C cl fp => ?_⟩
    have S4 : StOk Z (fun b => F b ∨ b = D) X.K H3 (puts (L2.wipe σ vs) is ws) (putsA (wipeA ρ vs) is da) := (S3.wipe vs).puts rw_
    refine (hrun s0 H0 C cl fp).2.1 _ _ H3 S4 _ fun H4 c4 => ?_
    have cD : ∀ {Ha Hb : Hp}, Chg Z Ha Hb → ∀ {o : HO}, Ha D = some o → Hb D = some o := fun c o h => c.1 D o zD h
    have tk : ds.take (i + 1) = ds.take i ++ [d] := take_snoc ed
    have k24 : Ex (cut H2 fun b => F b ∨ b = D) (cut H4 fun b => F b ∨ b = D) := fun a o z => ((S4.exC c4) a o (((Kd.of_ex (Z := fun b => F b ∨ b = D) x3).cut fun _ h => h) a o z))
    cases kd : keep d with
    | true =>
      rw [if_pos rfl]
      intro s0 H0 C cl fp
      refine (hrun s0 H0 C cl fp).2.2 kd _ _ H4 (S4.chg c4) _ fun v H5 dv c5 pv rv => ⟨xs, cD c5 (cD c4 (x3 D _ h1)), ?_, ?_, xs ++ [v], out ++ [dv], upd_same, ?_, ?_⟩
      · have l1 := dpa_len h3
        have l2 := h2.len
        have l3 := List.length_filter_le keep (ds.take i)
        rw [List.length_take] at l3
        exact Evl.sz_lt (by omega)
      · have k : Chg Z H1 H5 := (c3.trans c4).trans c5
        exact ⟨fun a o nz h => by rw [upd_ne fun (z : a = D) => by rw [z, hD] at h; cases h]; exact k.1 a o nz h, fun a z => ⟨fun h => by
          obtain ⟨i, j, l, e⟩ := (k.2 a z).1 h
          exact ⟨i, j, l, by rw [upd_ne fun (y : a = D) => zD (by rw [← y]; exact z)]; exact e⟩, fun h => ((k.2 a z).2 h).upd (cD c5 (cD c4 (x3 D _ h1))) plain_lst⟩⟩
      · rw [tk, List.filter_append, show [d].filter keep = [d] by rw [List.filter_cons, if_pos kd, List.filter_nil]]
        exact h2.snoc pv
      · rw [cut_upd_in (.inr rfl)]
        have k25 : Ex (cut H2 fun b => F b ∨ b = D) (cut H5 fun b => F b ∨ b = D) := k24.trans ((S4.chg c4).exC c5)
        exact dpa_app (dpa_ex k25 h3) (.cons rv .nil)
    | false =>
      rw [if_neg Bool.false_ne_true]
      refine ⟨c3.trans c4, xs, out, cD c4 (x3 D _ h1), ?_, dpa_ex k24 h3⟩
      rw [tk, List.filter_append, show [d].filter keep = [] by rw [List.filter_cons, if_neg (by rw [kd]; exact Bool.false_ne_true), List.filter_nil], List.append_nil]
      exact h2
theorem Dn.comp {scope : Scope} {tg elt it : Expr} {ifs : List Expr} {own : List (Str × Nat)} {is : List Nat} {as : PyData → Option (List PyData)} {keep : PyData → Bool} {ψ : PyData → PyData → Prop} {φ : List PyData → Prop} {pos : Pos}
    (hc : X.calm = true) (hN : X.N.Nodup) (ok : BlkOk X.N X.env.scope scope own) (hw : Wk Z X tg it ρ false φ) (his : ∀ i ∈ is, i ∈ own.map (·.2)) (hel : ∀ ds, φ ds → ds.length ≤ 100000 ∧ ∀ d ∈ ds, Elt Z X scope tg elt ifs (own.map (·.2)) ρ is as keep ψ d)
    (hs : ∀ x, foldedSetIterable it X.env x = pure x := by intro _; rfl) : Dn Z X (.ListComp elt [⟨tg, it, ifs, 0⟩] scope pos) ρ fun out => ∃ ds, φ ds ∧ Rel2 ψ (ds.filter keep) out := fun F σ H S Q q =>
  we_of (pe_lc hc hN wi_pi ok (fun s H C cl fp => ⟨fun pins s1 σ H v u Q I r h => (h s _ C cl fp) pins s1 u I r⟩) (fun s H C cl fp => ⟨fun pins s1 σ H Q I h => (h s _ C cl fp) pins s1 I⟩) (fun s H C cl fp => ⟨fun pins s1 σ H Q I h => (h s _ C cl fp) pins s1 I⟩) hs)
    (lc_read (scope := scope) hw his hel F σ H S Q fun a xs H2 ds out c n l p r2 rd => q a xs H2 out c n l ⟨ds, p, r2⟩ rd)
end
end Hb

namespace Hb
open PySem PySem.Spec PyProof.Rows L2 RZ
open Evl (Ex)

/-! ## statements -/
/-- from the entry's heap B on: Y may have changed, F0 was told apart at the entry -/
structure Gr (Y F0 : Addr → Prop) (B : Hp) (Z : Vz) (F : Addr → Prop) (H : Hp) (ρ : List AV) : Prop where
  zy : ∀ a, Z a → Y a
  d0 : ∀ a, F0 a → B a ≠ none
  kept : Kd Y B H
  sub : ∀ a, F0 a → F a
  new : ∀ a, F a → F0 a ∨ B a = none
  own : ∀ (i : Nat) a, (ρ[i]?.bind AV.addr) = some a → Y a ∨ B a = none
  yf : ∀ a, Y a → F a
  yb : ∀ a, Y a → B a ≠ none
  vk : ∀ a, Z a → (PenAt B a → PenAt H a) ∧ (TabAt B a → TabAt H a)
abbrev RT := V → (Addr → Prop) → Hp → List AV → Prop
def Rt (K : PySem.W.Frag) (R : List AV → PyData → Prop) : RT := fun v F H ρ => ∃ d, R ρ d ∧ Dp K (cut H F) v d
section
variable {Z : Vz} {Y F0 : Addr → Prop} {B : Hp} {X : Cx} {e : Expr} {es : List Expr} {ρ : List AV} {sts rest : List Stmt} {N : List AV → Prop} {R : RT}
theorem Gr.chg {F : Addr → Prop} {H H2 : Hp} (g : Gr Y F0 B Z F H ρ) (c : Chg Z H H2) : Gr Y F0 B Z F H2 ρ := ⟨g.zy, g.d0, g.kept.trans (c.1.mono g.zy), g.sub, g.new, g.own, g.yf, g.yb, fun a z => ⟨fun h => (c.2 a z).1 ((g.vk a z).1 h), fun h => (c.2 a z).2 ((g.vk a z).2 h)⟩⟩
theorem Gr.av {F : Addr → Prop} {H : Hp} (g : Gr Y F0 B Z F H ρ) (i : Nat) {av : AV} (h : ∀ a, av.addr = some a → Y a ∨ B a = none) : Gr Y F0 B Z F H (ρ.set i av) := ⟨g.zy, g.d0, g.kept, g.sub, g.new, fun j a e => by
  by_cases q : i = j
  · subst q
    by_cases hl : i < ρ.length
    · rw [List.getElem?_set_self hl] at e
      exact h a e
    · rw [List.getElem?_eq_none (by simpa using hl)] at e
      cases e
  · rw [List.getElem?_set_ne q] at e
    exact g.own j a e, g.yf, g.yb, g.vk⟩
theorem Gr.d {F : Addr → Prop} {H : Hp} (g : Gr Y F0 B Z F H ρ) (i : Nat) {x : PyData} : Gr Y F0 B Z F H (ρ.set i (.d x)) := g.av i fun _ z => nomatch z
theorem Gr.puts {F : Addr → Prop} {H : Hp} : ∀ {is : List Nat} {ds : List PyData} {ρ : List AV}, Gr Y F0 B Z F H ρ → Gr Y F0 B Z F H (putsA ρ is ds)
  | [], _, _, g => by unfold putsA; exact g
  | _ :: _, [], _, g => by unfold putsA; exact g
  | i :: is, d :: ds, ρ, g => by
    unfold putsA
    exact Gr.puts (is := is) (g.d i)
/-- from a state: behind the block N of the slots, or what is returned -/
def Bk (Z : Vz) (Y F0 : Addr → Prop) (B : Hp) (X : Cx) (sts : List Stmt) (ρ : List AV) (N : List AV → Prop) (R : RT) : Prop :=
  ∀ (F : Addr → Prop) (σ : L2.St) (H : Hp), StOk Z F X.K H σ ρ → Gr Y F0 B Z F H ρ → ∀ D : Ends,
    (∀ F' σ' H' ρ', StOk Z F' X.K H' σ' ρ' → Gr Y F0 B Z F' H' ρ' → Ex (cut H F) (cut H' F') → N ρ' → D.nx σ' H') →
    (∀ v F' σ' H' ρ', StOk Z F' X.K H' σ' ρ' → Gr Y F0 B Z F' H' ρ' → R v F' H' ρ' → D.rt v H') → WB X sts D σ H
theorem Bk.nil (h : N ρ) : Bk Z Y F0 B X [] ρ N R := fun F σ H S g D n r => wb_of pss_nil (n F σ H ρ S g (Evl.Ex.refl _) h)
theorem Bk.mono {N' : List AV → Prop} {R' : RT} (h : Bk Z Y F0 B X sts ρ N' R') (hN : ∀ ρ, N' ρ → N ρ) (hR : ∀ v F H ρ, R' v F H ρ → R v F H ρ) : Bk Z Y F0 B X sts ρ N R := fun F σ H S g D n r =>
  h F σ H S g D (fun F' σ' H' ρ' s1 g1 x q => n F' σ' H' ρ' s1 g1 x (hN _ q)) fun v F' σ' H' ρ' s1 g1 q => r v F' σ' H' ρ' s1 g1 (hR _ _ _ _ q)
/-- a statement, then the rest -/
theorem seq_ {st : Stmt} {D : Ends} {σ : L2.St} {H : Hp} (h : WS X st { D with nx := fun σ' H' => WB X rest D σ' H' } σ H) : WB X (st :: rest) D σ H := wb_of (pss_cons ws_ps wb_pss) h
theorem Bk.one {st : Stmt} (h : ∀ (F : Addr → Prop) (σ : L2.St) (H : Hp), StOk Z F X.K H σ ρ → Gr Y F0 B Z F H ρ → ∀ D : Ends,
    (∀ F' σ' H' ρ', StOk Z F' X.K H' σ' ρ' → Gr Y F0 B Z F' H' ρ' → Ex (cut H F) (cut H' F') → Bk Z Y F0 B X rest ρ' N R → D.nx σ' H') →
    (∀ v F' σ' H' ρ', StOk Z F' X.K H' σ' ρ' → Gr Y F0 B Z F' H' ρ' → R v F' H' ρ' → D.rt v H') → WS X st D σ H) : Bk Z Y F0 B X (st :: rest) ρ N R := fun F σ H S g D n r =>
  seq_ (h F σ H S g _ (fun F' σ' H' ρ' s1 g1 x k => k F' σ' H' s1 g1 D (fun F2 σ2 H2 ρ2 s2 g2 x2 q => n F2 σ2 H2 ρ2 s2 g2 (x.trans x2) q) r) r)
theorem Bk.ret {R0 : List AV → PyData → Prop} {φ : PyData → Prop} {pos : Pos} (he : Dw Z X e ρ φ) (hr : ∀ d, φ d → R0 ρ d) : Bk Z Y F0 B X (.Return (some e) pos :: rest) ρ N (Rt X.K R0) := Bk.one fun F σ H S g D n r =>
  ws_of (ps_ret we_pe) (he F σ H S _ fun v H2 d c p q => r v F σ H2 ρ (S.chg c) (g.chg c) ⟨d, hr d p, q⟩)
theorem Bk.set (i : Nat) {φ : PyData → Prop} {x : Str} {pos pos' : Pos} (he : Dw Z X e ρ φ) (k : ∀ d, φ d → Bk Z Y F0 B X rest (ρ.set i (.d d)) N R) (hN : X.N.Nodup) (hi : X.N[i]? = some x := by rfl)
    (hx : Loc X.env.scope x := by first | exact Or.inl rfl | exact Or.inr rfl) (hs : swapsWith e (some (.Name x pos')) pos.line X.env = pure false := by rfl)
    (hf : X.fn x = true ∨ X.env.scope.names.lookup x = some .local := by first | exact .inl rfl | exact .inr rfl) : Bk Z Y F0 B X (.Assign [.Name x pos'] e pos :: rest) ρ N R := Bk.one fun F σ H S g D n r =>
  ws_of (ps_set hN hi hx we_pe hs hf) (he F σ H S _ fun v H2 d c p q => n F _ H2 _ ((S.chg c).put i q) ((g.chg c).d i) (S.exC c) (k d p))
/-- a new object becomes the def's own -/
theorem fresh_B {F : Addr → Prop} {σ : L2.St} {H : Hp} {a : Addr} (S : StOk Z F X.K H σ ρ) (g : Gr Y F0 B Z F H ρ) (na : H a = none) : B a = none := by
  cases q : B a with
  | none => rfl
  | some o =>
    by_cases hy : Y a
    · exact absurd na (S.dom a (g.yf a hy))
    · rw [g.kept a o hy q] at na
      cases na
theorem own_in {F : Addr → Prop} {σ : L2.St} {H H2 : Hp} {a : Addr} {u : HO} (S : StOk Z F X.K H σ ρ) (g : Gr Y F0 B Z F H ρ) (c : Chg Z H H2) (na : H a = none) (l : H2 a = some u) :
    B a = none ∧ ¬ Z a ∧ StOk Z (fun b => F b ∨ b = a) X.K H2 σ ρ ∧ Gr Y F0 B Z (fun b => F b ∨ b = a) H2 ρ ∧ Ex (cut H F) (cut H2 fun b => F b ∨ b = a) := by
  have nF : ¬ F a := S.new_out na
  have nZ : ¬ Z a := fun z => nF (S.zf a z)
  have bn := fresh_B S g na
  have f2 : ∀ b, (fun b => F b ∨ b = a) b → F b ∨ H b = none := fun b h => h.elim .inl fun e => .inr (by rw [e]; exact na)
  have f3 : ∀ b, (fun b => F b ∨ b = a) b → H2 b ≠ none := fun b h => h.elim (S.domC c b) fun e => by rw [e, l]; exact fun z => nomatch z
  refine ⟨bn, nZ, S.grow c (fun _ => .inl) f2 f3, ?_, ex_more f2 (c.1.mono S.zf)⟩
  have g2 := g.chg c
  exact ⟨g2.zy, g2.d0, g2.kept, fun b h => .inl (g2.sub b h), fun b h => h.elim (g2.new b) fun e => .inr (by rw [e]; exact bn), g2.own, fun b h => .inl (g2.yf b h), g2.yb, g2.vk⟩
theorem own_put {F : Addr → Prop} {σ : L2.St} {H H2 : Hp} {a : Addr} {u : HO} {av : AV} (S : StOk Z F X.K H σ ρ) (g : Gr Y F0 B Z F H ρ) (c : Chg Z H H2) (na : H a = none) (l : H2 a = some u) (i : Nat) (hav : av.addr = some a)
    (hs : ¬ Z a → SlotOk Z (fun b => F b ∨ b = a) X.K H2 (some (.ref a)) av) :
    B a = none ∧ StOk Z (fun b => F b ∨ b = a) X.K H2 (σ.set i (some (.ref a))) (ρ.set i av) ∧ Gr Y F0 B Z (fun b => F b ∨ b = a) H2 (ρ.set i av) ∧ Ex (cut H F) (cut H2 fun b => F b ∨ b = a) := by
  obtain ⟨bn, nZ, s1, g1, x⟩ := own_in S g c na l
  refine ⟨bn, s1.set i (hs nZ) (fun j b hj e q => ?_), g1.av i (fun b e => .inr ?_), x⟩
  · rw [hav] at e
    cases e
    -- no slot owns it yet: what is owned stands in H
    cases r : ρ[j]? with
    | none => rw [r] at q; cases q
    | some w =>
      rw [r] at q
      obtain ⟨ov, h1, h2⟩ := S.slot j w r
      cases w with
      | no => cases q
      | d x => cases q
      | pen p => cases q
      | own a' ds =>
        cases q
        obtain ⟨_, hF, _⟩ := h2
        exact S.dom a hF na
      | dic a' ds =>
        cases q
        obtain ⟨_, hF, _⟩ := h2
        exact S.dom a hF na
      | fd a' ds => cases q
  · rw [hav] at e
    cases e
    exact bn
theorem Bk.setN (i : Nat) {φ : List PyData → Prop} {x : Str} {pos pos' : Pos} (he : Dn Z X e ρ φ) (k : ∀ a ds, B a = none → φ ds → Bk Z Y F0 B X rest (ρ.set i (.own a ds)) N R) (hN : X.N.Nodup) (hi : X.N[i]? = some x := by rfl)
    (hx : Loc X.env.scope x := by first | exact Or.inl rfl | exact Or.inr rfl) (hs : swapsWith e (some (.Name x pos')) pos.line X.env = pure false := by rfl)
    (hf : X.fn x = true ∨ X.env.scope.names.lookup x = some .local := by first | exact .inl rfl | exact .inr rfl) : Bk Z Y F0 B X (.Assign [.Name x pos'] e pos :: rest) ρ N R := Bk.one fun F σ H S g D n r =>
  ws_of (ps_set hN hi hx we_pe hs hf) (he F σ H S _ fun a xs H2 ds c na l p q => by
    obtain ⟨bn, s1, g1, x1⟩ := own_put (av := .own a ds) S g c na l i rfl fun nz => ⟨rfl, .inr rfl, nz, xs, l, q⟩
    exact n _ _ H2 _ s1 g1 x1 (k a ds bn p))
/-- name = [.. for ..] on one line -/
theorem Bk.setC (i : Nat) {y : Str} {py spos pos : Pos} {scope : Scope} {tg elt it : Expr} {ifs : List Expr} {own : List (Str × Nat)} {is : List Nat} {as : PyData → Option (List PyData)} {keep : PyData → Bool} {ψ : PyData → PyData → Prop} {φ : List PyData → Prop}
    (hc : X.calm = true) (hN : X.N.Nodup) (ok : BlkOk X.N X.env.scope scope own) (hw : Wk Z X tg it ρ false φ) (his : ∀ i ∈ is, i ∈ own.map (·.2)) (hel : ∀ ds, φ ds → ds.length ≤ 100000 ∧ ∀ d ∈ ds, Elt Z X scope tg elt ifs (own.map (·.2)) ρ is as keep ψ d)
    (k : ∀ a ds out, B a = none → φ ds → Rel2 ψ (ds.filter keep) out → Bk Z Y F0 B X rest (ρ.set i (.own a out)) N R)
    (hsw : swapsWith (.ListComp elt [⟨tg, it, ifs, 0⟩] scope pos) (some (.Name y py)) spos.line X.env = pure true) (hi : X.N[i]? = some y := by rfl) (hyl : X.env.scope.names.lookup y = some .local := by rfl)
    (hs : ∀ x, foldedSetIterable it X.env x = pure x := by intro _; rfl) : Bk Z Y F0 B X (.Assign [.Name y py] (.ListComp elt [⟨tg, it, ifs, 0⟩] scope pos) spos :: rest) ρ N R := Bk.one fun F σ H S g D n r =>
  ws_of (ps_setLc hc hN hi hyl hsw wi_pi ok (fun s H C cl fp => ⟨fun pins s1 σ H v u Q I r h => (h s _ C cl fp) pins s1 u I r⟩) (fun s H C cl fp => ⟨fun pins s1 σ H Q I h => (h s _ C cl fp) pins s1 I⟩) (fun s H C cl fp => ⟨fun pins s1 σ H Q I h => (h s _ C cl fp) pins s1 I⟩) hs)
    (lc_read (scope := scope) hw his hel F σ H S _ fun a xs H2 ds out c na l p r2 q => by
      obtain ⟨bn, s1, g1, x1⟩ := own_put (av := .own a out) S g c na l i rfl fun nz => ⟨rfl, .inr rfl, nz, xs, l, q⟩
      exact n _ _ H2 _ s1 g1 x1 (k a ds out bn p r2))
/-- what was the def's own becomes data -/
theorem Bk.free (i : Nat) {a : Addr} {ds : List PyData} (hi : ρ[i]? = some (.own a ds)) (ba : B a = none) (k : Bk Z Y F0 B X sts (ρ.set i (.d (.list ds))) N R) : Bk Z Y F0 B X sts ρ N R := fun F σ H S g D n r => by
  obtain ⟨ov, h1, h2, h3, h4, xs, h5, h6⟩ := S.slot i _ hi
  have f1 : ∀ b, (fun b => F b ∧ b ≠ a) b → F b := fun b h => h.1
  have x1 : Ex (cut H F) (cut H fun b => F b ∧ b ≠ a) := cut_sub f1
  have nY : ¬ Y a := fun hy => g.yb a hy ba
  have nF0 : ¬ F0 a := fun h => g.d0 a h ba
  have S2 : StOk Z (fun b => F b ∧ b ≠ a) X.K H σ (ρ.set i (.d (.list ds))) := by
    refine ⟨fun b z => ⟨⟨(S.pen b z).1, fun e => h4 (by rw [← e]; exact z)⟩, (S.pen b z).2⟩, S.tb, fun b h => S.dom b h.1, by simp [S.len], fun j l b e1 e2 => ?_, fun j av e => ?_⟩
    · have key : ∀ j : Nat, ((ρ.set i (.d (.list ds)))[j]?.bind AV.addr) = some b → (ρ[j]?.bind AV.addr) = some b := fun j h => by
        by_cases q : i = j
        · subst q
          have hl := (List.getElem?_eq_some_iff.mp hi).1
          rw [List.getElem?_set_self hl] at h
          cases h
        · rw [List.getElem?_set_ne q] at h
          exact h
      exact S.inj j l b (key j e1) (key l e2)
    · by_cases q : i = j
      · subst q
        have hl := (List.getElem?_eq_some_iff.mp hi).1
        rw [List.getElem?_set_self hl] at e
        cases e
        exact ⟨ov, h1, .ref a, h2, .lst (.inl (.inl (by rw [cut_out fun z => z.2 rfl]; exact h5))) (dpa_ex x1 h6)⟩
      · rw [List.getElem?_set_ne q] at e
        obtain ⟨w, q1, q2⟩ := S.slot j av e
        have ne : ∀ b, av.addr = some b → b ≠ a := fun b hb z => q (S.inj i j a (by rw [hi]; rfl) (by rw [e]; show av.addr = some a; rw [hb, z]))
        refine ⟨w, q1, ?_⟩
        cases av with
        | no => trivial
        | d x =>
          obtain ⟨v, a1, a2⟩ := q2
          exact ⟨v, a1, dp_ex x1 a2⟩
        | own b es =>
          obtain ⟨a1, a2, a3, ys, a4, a5⟩ := q2
          exact ⟨a1, ⟨a2, ne b rfl⟩, a3, ys, a4, dpa_ex x1 a5⟩
        | pen p => exact q2
        | dic b kvs =>
          obtain ⟨a1, a2, a3, ys, a4, a5, a6⟩ := q2
          exact ⟨a1, ⟨a2, ne b rfl⟩, a3, ys, a4, a5, dpa_ex x1 a6⟩
        | fd b kvs =>
          obtain ⟨a1, o, ys, a4, a5, a6⟩ := q2
          exact ⟨a1, o, ys, x1 _ _ a4, a5, dpa_ex x1 a6⟩
  have g2 : Gr Y F0 B Z (fun b => F b ∧ b ≠ a) H (ρ.set i (.d (.list ds))) := by
    have g3 := g.d i (x := .list ds)
    exact ⟨g3.zy, g3.d0, g3.kept, fun b h => ⟨g3.sub b h, fun e => nF0 (by rw [← e]; exact h)⟩, fun b h => g3.new b h.1, g3.own, fun b h => ⟨g3.yf b h, fun e => nY (by rw [← e]; exact h)⟩, g3.yb, g3.vk⟩
  exact k _ σ H S2 g2 D (fun F' σ' H' ρ' s1 g1 x q => n F' σ' H' ρ' s1 g1 (x1.trans x) q) r
/-- a, b = x, y -/
theorem Bk.par (i j : Nat) {φ : List PyData → Prop} {x y : Str} {a b : Expr} {px py pt : Pos} {kt k2 pt2 pos} (ha : Da Z X [a, b] ρ φ) (k : ∀ ds, φ ds → ∃ d1 d2, ds = [d1, d2] ∧ Bk Z Y F0 B X rest ((ρ.set i (.d d1)).set j (.d d2)) N R)
    (hc : X.calm = true) (hN : X.N.Nodup) (hij : i ≠ j) (hw : swappedStores [.Tuple [.Name x px, .Name y py] kt pt] (.Tuple [a, b] k2 pt2) X.env = pure (some [x, y]))
    (hi : X.N[i]? = some x := by rfl) (hj : X.N[j]? = some y := by rfl) (hx : X.env.scope.names.lookup x = some .local := by rfl) (hy : X.env.scope.names.lookup y = some .local := by rfl)
    (hs : swapsWithSole [.Tuple [.Name x px, .Name y py] kt pt] (.Tuple [a, b] k2 pt2) pos.line X.env = pure false := by rfl) :
    Bk Z Y F0 B X (.Assign [.Tuple [.Name x px, .Name y py] kt pt] (.Tuple [a, b] k2 pt2) pos :: rest) ρ N R := Bk.one fun F σ H S g D n r =>
  ws_of (ps_par hc hN hi hj hij hx hy wa_pa hw hs) (ha F σ H S _ fun vs H2 ds c p q => by
    obtain ⟨d1, d2, e, h⟩ := k ds p
    subst e
    obtain ⟨v, w, rfl, r1, r2⟩ := dpa2 q
    exact ⟨v, w, rfl, n F _ H2 _ (((S.chg c).put i r1).put j r2) (((g.chg c).d i).d j) (S.exC c) h⟩)
/-- (a, b, ..) = e -/
theorem Bk.unp {φ : PyData → Prop} {tg : Expr} {is : List Nat} {as : PyData → Option (List PyData)} {pos : Pos} (he : Dw Z X e ρ φ) (hg : Gt X tg is as) (k : ∀ d, φ d → ∃ ds, as d = some ds ∧ Bk Z Y F0 B X rest (putsA ρ is ds) N R)
    (hs : swapsWithSole [tg] e pos.line X.env = pure false := by rfl) (hw : swappedStores [tg] e X.env = pure none := by rfl)
    (h1 : (assignEach [tg] X.env).map (·.2) = [assign tg X.env] := by rfl) : Bk Z Y F0 B X (.Assign [tg] e pos :: rest) ρ N R := Bk.one fun F σ H S g D n r =>
  ws_of (ps_asg we_pe wg_pg hs hw h1) (he F σ H S _ fun v H2 d c p q => by
    obtain ⟨ds, e1, h⟩ := k d p
    exact hg F σ H2 v d ds q e1 _ fun ws rw_ => n F _ H2 _ ((S.chg c).puts rw_) (g.chg c).puts (S.exC c) h)
theorem Bk.ifT {c : Expr} {a b : List Stmt} {pos : Pos} (hc : Dt Z X c ρ true) (h : Bk Z Y F0 B X a ρ (fun ρ' => Bk Z Y F0 B X rest ρ' N R) R) : Bk Z Y F0 B X (.If c a b pos :: rest) ρ N R := Bk.one fun F σ H S g D n r =>
  ws_of (ps_if wt_pt wb_pss wb_pss) (hc F σ H S _ fun H2 c2 => by
    rw [if_pos rfl]
    exact h F σ H2 (S.chg c2) (g.chg c2) _ (fun F' σ' H' ρ' s1 g1 x q => n F' σ' H' ρ' s1 g1 ((S.exC c2).trans x) q) r)
theorem Bk.ifF {c : Expr} {a b : List Stmt} {pos : Pos} (hc : Dt Z X c ρ false) (h : Bk Z Y F0 B X b ρ (fun ρ' => Bk Z Y F0 B X rest ρ' N R) R) : Bk Z Y F0 B X (.If c a b pos :: rest) ρ N R := Bk.one fun F σ H S g D n r =>
  ws_of (ps_if wt_pt wb_pss wb_pss) (hc F σ H S _ fun H2 c2 => by
    rw [if_neg Bool.false_ne_true]
    exact h F σ H2 (S.chg c2) (g.chg c2) _ (fun F' σ' H' ρ' s1 g1 x q => n F' σ' H' ρ' s1 g1 ((S.exC c2).trans x) q) r)
/-- an if without else that isn't taken -/
theorem Bk.skip {c : Expr} {a : List Stmt} {pos : Pos} (hc : Dt Z X c ρ false) (h : Bk Z Y F0 B X rest ρ N R) : Bk Z Y F0 B X (.If c a [] pos :: rest) ρ N R := Bk.ifF hc (Bk.nil h)
/-- an own list grows: xs.append(e) -/
theorem own_upd {F : Addr → Prop} {σ : L2.St} {H : Hp} {i : Nat} {a : Addr} {ds es : List PyData} {ys : List V} (S : StOk Z F X.K H σ ρ) (g : Gr Y F0 B Z F H ρ) (hi : ρ[i]? = some (.own a ds)) (r : DpAll X.K (cut H F) ys es) :
    StOk Z F X.K (upd H a (.lst ys)) σ (ρ.set i (.own a es)) ∧ Gr Y F0 B Z F (upd H a (.lst ys)) (ρ.set i (.own a es)) ∧ cut (upd H a (.lst ys)) F = cut H F := by
  obtain ⟨ov, h1, h2, h3, h4, xs, h5, h6⟩ := S.slot i _ hi
  have ce : cut (upd H a (.lst ys)) F = cut H F := cut_upd_in h3
  have hl := (List.getElem?_eq_some_iff.mp hi).1
  have ga := g.own i a (by rw [hi]; rfl)
  have pu : ∀ {b : Addr}, Z b → PenAt H b → PenAt (upd H a (.lst ys)) b := fun {b} z ⟨p, q, t, e⟩ => ⟨p, q, t, by rw [upd_ne fun (y : b = a) => h4 (by rw [← y]; exact z)]; exact e⟩
  refine ⟨⟨fun b z => ⟨(S.pen b z).1, ?_⟩, S.tb.upd h5 plain_lst, fun b h => ?_, by simp [S.len], fun j l b e1 e2 => ?_, fun j av e => ?_⟩, ?_, ce⟩
  · exact (S.pen b z).2.elim (fun q => .inl (pu z q)) fun q => .inr (q.upd h5 plain_lst)
  · by_cases y : b = a
    · rw [y, upd_same]
      exact fun z => nomatch z
    · rw [upd_ne y]
      exact S.dom b h
  · have key : ∀ j : Nat, ((ρ.set i (.own a es))[j]?.bind AV.addr) = some b → (ρ[j]?.bind AV.addr) = some b := fun j h => by
      by_cases q : i = j
      · subst q
        rw [List.getElem?_set_self hl] at h
        rw [hi]
        exact h
      · rw [List.getElem?_set_ne q] at h
        exact h
    exact S.inj j l b (key j e1) (key l e2)
  · by_cases q : i = j
    · subst q
      rw [List.getElem?_set_self hl] at e
      cases e
      exact ⟨ov, h1, h2, h3, h4, ys, upd_same, by rw [ce]; exact r⟩
    · rw [List.getElem?_set_ne q] at e
      obtain ⟨w, q1, q2⟩ := S.slot j av e
      have ne : ∀ b, av.addr = some b → b ≠ a := fun b hb z => q (S.inj i j a (by rw [hi]; rfl) (by rw [e]; show av.addr = some a; rw [hb, z]))
      refine ⟨w, q1, ?_⟩
      cases av with
      | no => trivial
      | d x =>
        obtain ⟨v, a1, a2⟩ := q2
        exact ⟨v, a1, by rw [ce]; exact a2⟩
      | own b es' =>
        obtain ⟨a1, a2, a3, zs, a4, a5⟩ := q2
        exact ⟨a1, a2, a3, zs, by rw [upd_ne (ne b rfl)]; exact a4, by rw [ce]; exact a5⟩
      | pen p => exact ⟨q2.1, q2.2.1, pu q2.2.1 q2.2.2⟩
      | dic b kvs =>
        obtain ⟨a1, a2, a3, zs, a4, a5, a6⟩ := q2
        exact ⟨a1, a2, a3, zs, by rw [upd_ne (ne b rfl)]; exact a4, a5, by rw [ce]; exact a6⟩
      | fd b kvs =>
        obtain ⟨a1, o, zs, a4, a5, a6⟩ := q2
        exact ⟨a1, o, zs, by rw [ce]; exact a4, a5, by rw [ce]; exact a6⟩
  · have g3 := g.av i (av := .own a es) fun b e => by
      cases e
      exact ga
    refine ⟨g3.zy, g3.d0, fun b o ny h => ?_, g3.sub, g3.new, g3.own, g3.yf, g3.yb, fun b z => ⟨fun h => pu z ((g.vk b z).1 h), fun h => ((g.vk b z).2 h).upd h5 plain_lst⟩⟩
    have nb : b ≠ a := fun z => by
      rcases ga with q | q
      · exact ny (by rw [z]; exact q)
      · rw [z, q] at h
        cases h
    rw [upd_ne nb]
    exact g.kept b o ny h
theorem Bk.app (i : Nat) {a : Addr} {ds : List PyData} {φ : PyData → Prop} {x : Str} {px apos cpos pos : Pos} (hi : ρ[i]? = some (.own a ds)) (hl : ds.length < 100000) (he : Dw Z X e ρ φ) (k : ∀ d, φ d → Bk Z Y F0 B X rest (ρ.set i (.own a (ds ++ [d]))) N R)
    (hn : X.N[i]? = some x := by rfl) (hv : Vis X.env.scope x := by first | exact Or.inl rfl | exact Or.inr (Or.inl rfl) | exact Or.inr (Or.inr rfl)) (hd : (x == ("__debug__" : Str)) = false := by decide) (hcd : (x == ("__classdict__" : Str)) = false := by decide)
    (hbase : attributeBase (.Name x px) "append" X.env (eval (.Name x px) X.env) = eval (.Name x px) X.env := by rfl)
    (hfew : ((backTo cpos (starEach [e] X.env)).all (fun x => !x.1) && (backToKw cpos (keywordEach [] X.env)).all (fun x => x.1.isSome) && decide ([e].length + ([] : List Keyword).length + (if ([] : List Keyword).isEmpty then 0 else 1) < 30)) = true := by rfl)
    (hline : (apos.endLine == cpos.line) = true := by rfl) (hs : starEach [e] X.env = [(false, eval e X.env)] := by rfl) (hsw : swapsWith (.Call (.Attribute (.Name x px) "append" apos) [e] [] cpos) none pos.line X.env = pure false := by rfl) :
    Bk Z Y F0 B X (.Expr (.Call (.Attribute (.Name x px) "append" apos) [e] [] cpos) pos :: rest) ρ N R := Bk.one fun F σ H S g D n r => by
  obtain ⟨ov, h1, h2, h3, h4, xs, h5, h6⟩ := S.slot i _ hi
  refine ws_of (ps_expr (pe_bm PySem.F.plainAttrs_list PySem.F.slot_list_append PySem.F.type_list_append mt_append (pv i hn hv hd hcd) (pa_cons we_pe pa_nil hs) hbase hfew hline hs) hsw) ⟨.ref a, by rw [h1, h2], .inl ⟨rfl, xs, .inl (.inl h5)⟩, he F σ H S _ fun v H2 d c p q => ?_⟩
  have h6' := dpa_ex (S.exC c) h6
  obtain ⟨s1, g1, ce⟩ := own_upd (S.chg c) (g.chg c) hi (dpa_app h6' (.cons q .nil))
  exact ⟨a, xs, v, rfl, rfl, c.1 _ _ h4 h5, Evl.sz_lt (by rw [dpa_len h6]; exact hl), n F σ _ _ s1 g1 (by rw [ce]; exact S.exC c) (k d p)⟩
/-- xs[i] = e -/
theorem Bk.seti (i : Nat) {a : Addr} {ds : List PyData} {d : PyData} {m : Nat} {x : Str} {ie : Expr} {px spos pos : Pos} (hi : ρ[i]? = some (.own a ds)) (he : Dv Z X e ρ d) (hie : Dv Z X ie ρ (.int (m : Nat))) (hm : m < ds.length)
    (k : Bk Z Y F0 B X rest (ρ.set i (.own a (ds.set m d))) N R)
    (hn : X.N[i]? = some x := by rfl) (hv : Vis X.env.scope x := by first | exact Or.inl rfl | exact Or.inr (Or.inl rfl) | exact Or.inr (Or.inr rfl)) (hd : (x == ("__debug__" : Str)) = false := by decide) (hcd : (x == ("__classdict__" : Str)) = false := by decide)
    (ha : ∀ v, assign (.Subscript (.Name x px) ie spos) X.env v = (do
      let ov ← holding [v] (eval (.Name x px) X.env)
      let iv ← holding [v, ov] (eval ie X.env)
      standAt spos
      holding [v, ov, iv] (setItem ov iv v)
      release [v, ov, iv] []) := by intro _; rfl)
    (hs : swapsWithSole [.Subscript (.Name x px) ie spos] e pos.line X.env = pure false := by rfl) (hw : swappedStores [.Subscript (.Name x px) ie spos] e X.env = pure none := by rfl)
    (h1 : (assignEach [.Subscript (.Name x px) ie spos] X.env).map (·.2) = [assign (.Subscript (.Name x px) ie spos) X.env] := by rfl) :
    Bk Z Y F0 B X (.Assign [.Subscript (.Name x px) ie spos] e pos :: rest) ρ N R := Bk.one fun F σ H S g D n r => by
  obtain ⟨ov, q1, q2, q3, q4, xs, q5, q6⟩ := S.slot i _ hi
  refine ws_of (ps_asg we_pe (pg_sub (pv i hn hv hd hcd) we_pe set_list ha) hs hw h1) (he F σ H S _ fun v H2 d' c e1 rv => ⟨.ref a, by rw [q1, q2], hie F σ H2 (S.chg c) _ fun iv H3 d2 c2 e2 ri => ?_⟩)
  subst e1 e2
  have cc := c.trans c2
  have r6 := dpa_ex (S.exC cc) q6
  obtain ⟨s1, g1, ce⟩ := own_upd (S.chg cc) (g.chg cc) hi (dpa_set r6 (dp_ex ((S.chg c).exC c2) rv) m)
  refine ⟨a, xs, (m : Int), m, rfl, dp_int ri, cc.1 _ _ q4 q5, Evl.ixN_nat (by rw [dpa_len q6]; exact hm), n F σ _ _ s1 g1 (by rw [ce]; exact S.exC cc) k⟩
end
end Hb

namespace Hb
open PySem PySem.Spec PyProof.Rows L2 RZ
open Evl (Ex)
section
variable {Z : Vz} {Y F0 : Addr → Prop} {B : Hp} {X : Cx} {e : Expr} {es : List Expr} {ρ : List AV} {sts rest : List Stmt} {N : List AV → Prop} {R : RT}
/-! ### loops -/
theorem Bk.for {tg it : Expr} {body : List Stmt} {φ : List PyData → Prop} {is : List Nat} {as : PyData → Option (List PyData)} {pos : Pos} (hp : PassesOwn (model X.prog X.w) X.A X.env X.xe) (hc : X.calm = true) (hw : Wk Z X tg it ρ true φ) (hg : Gt X tg is as)
    (inv : List PyData → Nat → List AV → Prop) (h0 : ∀ ds, φ ds → inv ds 0 ρ)
    (hs : ∀ ds, φ ds → ∀ (i : Nat) d ρ', ds[i]? = some d → inv ds i ρ' → ∃ es, as d = some es ∧ Bk Z Y F0 B X body (putsA ρ' is es) (fun ρ2 => inv ds (i + 1) ρ2) R)
    (hd : ∀ ds, φ ds → ∀ ρ', inv ds ds.length ρ' → Bk Z Y F0 B X rest ρ' N R) (hfs : ∀ x, foldedSetIterable it X.env x = pure x := by intro _; rfl) : Bk Z Y F0 B X (.For tg it body [] pos :: rest) ρ N R := Bk.one fun F σ H S g D n r =>
  ws_of (ps_for hp hc wi_pi wg_pg wb_pss (hs := hfs)) (hw F σ H S _ fun J H1 ds c pφ ⟨G, Yd, w, hG, hY⟩ => by
    have S1 := S.chg c
    have g1 := g.chg c
    refine for_it w (Pv := fun i σ' H' => ∃ F' ρ', StOk Z F' X.K H' σ' ρ' ∧ Gr Y F0 B Z F' H' ρ' ∧ Ex (cut H1 F) (cut H' F') ∧ inv ds i ρ') ?h0 ?hG ?hs ?hd
    case h0 => exact ⟨F, ρ, S1, g1, Evl.Ex.refl _, h0 ds pφ⟩
    case hG =>
      rintro i σ' H' _ ⟨F', ρ', s2, g2, x2, _⟩
      exact hG H' F' x2 fun z => nomatch z
    case hd =>
      rintro σ' H' ⟨F', ρ', s2, g2, x2, q⟩
      exact n F' σ' H' ρ' s2 g2 ((S.exC c).trans x2) (hd ds pφ ρ' q)
    case hs =>
      rintro i x σ' H2 H3 hi ⟨F', ρ', s2, g2, x2, q⟩ hy
      obtain ⟨d, ed, x3, rd⟩ := hY i H2 x H3 F' x2 (fun z => nomatch z) s2.dom hi hy
      obtain ⟨da, ea, hb⟩ := hs ds pφ i d ρ' ed q
      have c3 : Chg Z H2 H3 := Chg.of_ex x3
      refine hg F' σ' H3 x d da rd ea _ fun ws rw_ => ?_
      exact hb F' _ H3 ((s2.chg c3).puts rw_) (g2.chg c3).puts _ (fun F4 σ4 H4 ρ4 s4 g4 x4 q4 => ⟨F4, ρ4, s4, g4, (x2.trans (s2.exC c3)).trans x4, q4⟩) r)
theorem Bk.while {c : Expr} {body : List Stmt} {pos : Pos} (hp : PassesOwn (model X.prog X.w) X.A X.env X.xe) (inv : Nat → List AV → Prop) (m0 : Nat) (h0 : inv m0 ρ)
    (hs : ∀ m ρ', inv m ρ' → (Dt Z X c ρ' true ∧ Bk Z Y F0 B X body ρ' (fun ρ2 => ∃ m', m' < m ∧ inv m' ρ2) R) ∨ (Dt Z X c ρ' false ∧ Bk Z Y F0 B X rest ρ' N R)) : Bk Z Y F0 B X (.While c body [] pos :: rest) ρ N R := Bk.one fun F σ H S g D n r =>
  ws_of (ps_while hp wt_pt wb_pss) (by
    refine ⟨fun m σ' H' => ∃ F' ρ', StOk Z F' X.K H' σ' ρ' ∧ Gr Y F0 B Z F' H' ρ' ∧ Ex (cut H F) (cut H' F') ∧ inv m ρ', ⟨m0, F, ρ, S, g, Evl.Ex.refl _, h0⟩, ?_⟩
    rintro m σ' H' ⟨F', ρ', s2, g2, x2, q⟩
    rcases hs m ρ' q with ⟨h1, h2⟩ | ⟨h1, h2⟩
    · refine h1 F' σ' H' s2 _ fun H3 c3 => ?_
      rw [if_pos rfl]
      refine ⟨_, fun σ4 H4 h => h, h2 F' σ' H3 (s2.chg c3) (g2.chg c3) _ (fun F4 σ4 H4 ρ4 s4 g4 x4 ⟨m', hm, q4⟩ => ⟨m', hm, F4, ρ4, s4, g4, (x2.trans (s2.exC c3)).trans x4, q4⟩) r⟩
    · refine h1 F' σ' H' s2 _ fun H3 c3 => ?_
      rw [if_neg Bool.false_ne_true]
      exact n F' σ' H3 ρ' (s2.chg c3) (g2.chg c3) (x2.trans (s2.exC c3)) h2)

/-! ### promises -/
def SpP (K : PySem.W.Frag) (Pt : Addr) (pre : List PyData → Prop) (post : List PyData → PyData → Prop) : Sp := fun vs H Q _ => ∃ (F : Addr → Prop) (ds : List PyData), F Pt ∧ TabAt H Pt ∧ (∀ a, F a → H a ≠ none) ∧ DpAll K (cut H F) vs ds ∧ pre ds ∧
  ∀ v H' d, Chg (vz1 Pt) H H' → post ds d → Dp K (cut H' F) v d → Q v H'
/-- the first argument is the pen, that may turn -/
def SpN (K : PySem.W.Frag) (Pt : Addr) (pre : List PyData → Prop) (post : List PyData → PyData → Prop) : Sp := fun vs H Q _ => ∃ (p : Addr) (ws : List V) (F : Addr → Prop) (ds : List PyData), vs = .ref p :: ws ∧ F p ∧ PenAt H p ∧ F Pt ∧ TabAt H Pt ∧ (∀ a, F a → H a ≠ none) ∧ DpAll K (cut H F) ws ds ∧ pre ds ∧
  ∀ v H' d, Chg (vz2 p Pt) H H' → post ds d → Dp K (cut H' F) v d → Q v H'
theorem Chg.lift {W Z : Vz} {H H' : Hp} (h : ∀ a, W a → Z a) (v : ∀ a, W a → Vol H a) (x : Chg W H H') : Chg Z H H' := by
  refine ⟨x.1.mono h, fun a z => ⟨fun p => ?_, fun t => ?_⟩⟩
  · by_cases w : W a
    · exact (x.2 a w).1 p
    · obtain ⟨i, j, k, e⟩ := p
      exact ⟨i, j, k, x.1 a _ w e⟩
  · by_cases w : W a
    · exact (x.2 a w).2 t
    · obtain ⟨ps, e1, e2, e3⟩ := t
      refine ⟨ps, x.1 a _ w e1, e2, fun pos cv hc => ?_⟩
      obtain ⟨c, q1, q2⟩ := e3 pos cv hc
      refine ⟨c, q1, x.1 c _ (fun wc => ?_) q2⟩
      rcases v c wc with ⟨_, _, _, e⟩ | ⟨_, e, _⟩
      · rw [e] at q2
        exact nomatch Option.some.inj q2
      · rw [e] at q2
        exact nomatch Option.some.inj q2
/-- a def as the caller knows it -/
structure Kk (P : Program) (w : World) (K : PySem.W.Frag) (mg : Str → Option Value) (base : Heap) (k : Nat) (x : Str) (ps : List Str) (sp : Sp) : Prop where
  ex : ∃ (f : Addr) (fd : FuncData), FnOk P w K mg base CX0 k f fd ps sp ∧ mg x = some (.ref f) ∧ PySem.W.keepIn K (.ref f) = true ∧ Binds K fd ps []
abbrev Kn (X : Cx) (k : Nat) (x : Str) (ps : List Str) (sp : Sp) : Prop := Kk X.prog X.w X.K X.mg X.base k x ps sp
theorem Dw.call {k : Nat} {x : Str} {ps : List Str} {pre : List PyData → Prop} {post : List PyData → PyData → Prop} {φ : List PyData → Prop} {χ : PyData → Prop} {p pos : Pos} (G : Kn X k x ps (SpP X.K Z.tab pre post)) (hr : Room k X.A) (ha : Da Z X (e :: es) ρ φ) (hpre : ∀ ds, φ ds → pre ds) (hpost : ∀ ds d, φ ds → post ds d → χ d)
    (hg : Gl X x := by rfl) (hdb : (x == ("__debug__" : Str)) = false := by decide) (he : starEach (e :: es) X.env = (false, eval e X.env) :: starEach es X.env := by rfl) (hpl : (backTo pos (starEach es X.env)).any (·.1) = false := by rfl) :
    Dw Z X (.Call (.Name x p) (e :: es) [] pos) ρ χ := fun F σ H S Q q => by
  obtain ⟨f, fd, ok, hm, kp, b⟩ := G.ex
  exact we_of (pe_call ok hr hg hm kp b .nil pass0 wa_pa hdb he hpl) (ha F σ H S _ fun vs H2 ds c pd r => by
    rw [List.append_nil]
    have S2 := S.chg c
    exact ⟨F, ds, S2.zf _ Z.ht, S2.tb, S2.dom, r, hpre ds pd, fun v H' d x hd rd => q v H' d (c.trans (x.lift (fun a (h : a = Z.tab) => by rw [h]; exact Z.ht) fun a (h : a = Z.tab) => .inr (by rw [h]; exact S2.tb))) (hpost ds d pd hd) rd⟩)
theorem Dv.call {k : Nat} {x : Str} {ps : List Str} {pre : List PyData → Prop} {post : List PyData → PyData → Prop} {ds : List PyData} {d : PyData} {p pos : Pos} (G : Kn X k x ps (SpP X.K Z.tab pre post)) (hr : Room k X.A) (ha : Da Z X (e :: es) ρ fun x => x = ds) (hpre : pre ds) (hpost : ∀ d', post ds d' → d' = d)
    (hg : Gl X x := by rfl) (hdb : (x == ("__debug__" : Str)) = false := by decide) (he : starEach (e :: es) X.env = (false, eval e X.env) :: starEach es X.env := by rfl) (hpl : (backTo pos (starEach es X.env)).any (·.1) = false := by rfl) :
    Dv Z X (.Call (.Name x p) (e :: es) [] pos) ρ d := Dw.call G hr ha (fun ds' h => by rw [h]; exact hpre) (fun ds' d' h h' => hpost d' (by rw [← h]; exact h')) hg hdb he hpl
theorem Dw.callN {k : Nat} {x y : Str} {ps : List Str} {pre : List PyData → Prop} {post : List PyData → PyData → Prop} {φ : List PyData → Prop} {χ : PyData → Prop} {p py pos : Pos} {pn : Addr} (i : Nat) (hi : ρ[i]? = some (.pen pn)) (G : Kn X k x ps (SpN X.K Z.tab pre post)) (hr : Room k X.A)
    (ha : Da Z X es ρ φ) (hpre : ∀ ds, φ ds → pre ds) (hpost : ∀ ds d, φ ds → post ds d → χ d) (hn : X.N[i]? = some y := by rfl) (hv : Vis X.env.scope y := by first | exact Or.inl rfl | exact Or.inr (Or.inl rfl) | exact Or.inr (Or.inr rfl))
    (hd : (y == ("__debug__" : Str)) = false := by decide) (hcd : (y == ("__classdict__" : Str)) = false := by decide) (hg : Gl X x := by rfl) (hdb : (x == ("__debug__" : Str)) = false := by decide)
    (he : starEach (.Name y py :: es) X.env = (false, eval (.Name y py) X.env) :: starEach es X.env := by rfl) (hpl : (backTo pos (starEach es X.env)).any (·.1) = false := by rfl) :
    Dw Z X (.Call (.Name x p) (.Name y py :: es) [] pos) ρ χ := fun F σ H S Q q => by
  obtain ⟨f, fd, ok, hm, kp, b⟩ := G.ex
  obtain ⟨ov, h1, h2, h3⟩ := S.slot i _ hi
  exact we_of (pe_call ok hr hg hm kp b .nil pass0 (pa_cons (pv i hn hv hd hcd) wa_pa he) hdb he hpl) ⟨.ref pn, by rw [h1, h2], ha F σ H S _ fun vs H2 ds c pd r => by
    show SpN X.K Z.tab pre post ((V.ref pn :: vs) ++ []) H2 Q E0
    rw [List.append_nil]
    have S2 := S.chg c
    have pn2 : PenAt H2 pn := (c.2 pn h3.1).1 h3.2
    exact ⟨pn, vs, F, ds, rfl, S2.zf _ h3.1, pn2, S2.zf _ Z.ht, S2.tb, S2.dom, r, hpre ds pd, fun v H' d x hd rd => q v H' d (c.trans (x.lift (fun a (h : a = pn ∨ a = Z.tab) => h.elim (fun e => by rw [e]; exact h3.1) fun e => by rw [e]; exact Z.ht)
      fun a (h : a = pn ∨ a = Z.tab) => h.elim (fun e => .inl (by rw [e]; exact pn2)) fun e => .inr (by rw [e]; exact S2.tb))) (hpost ds d pd hd) rd⟩⟩
end
/-! ### a def's body against its promise -/
def startA (N : List Str) (as : List AV) : List AV := as ++ List.replicate (N.length - as.length) .no
section
variable {P : Program} {w : World} {K : PySem.W.Frag} {mg : Str → Option Value} {base : Heap} {Pt : Addr} {x qual : Str} {st : Stmt} {f : Addr} {fd : FuncData} {N ps : List Str} {k : Nat}
abbrev bodyX (P : Program) (w : World) (K : PySem.W.Frag) (mg : Str → Option Value) (base : Heap) (N : List Str) (qual : Str) (st : Stmt) (f : Addr) (cdv : Value) (A : Around) (outer : List Env) (s : Shared) (H : Hp) (E : XK) : Cx :=
  (cxOf CX0 P w K mg base N qual (defScope st) f cdv A outer s H E).nox
theorem start_ok {Z : Vz} {F : Addr → Prop} {H : Hp} {vs : List V} {as : List AV} (hpen : ∀ a, Z a → F a ∧ Vol H a) (htb : TabAt H Z.tab) (hdom : ∀ a, F a → H a ≠ none) (hl : vs.length = as.length) (hinj : ∀ (i j : Nat) (a : Addr), (as[i]?.bind AV.addr) = some a → (as[j]?.bind AV.addr) = some a → i = j)
    (hs : ∀ (i : Nat) av, as[i]? = some av → ∃ v, vs[i]? = some v ∧ SlotOk Z F K H (some v) av) : StOk Z F K H (L2.start N vs) (startA N as) := by
  have hget : ∀ (i : Nat), (startA N as)[i]? = if i < as.length then as[i]? else if i < N.length then some .no else none := fun i => by
    unfold startA
    by_cases hi : i < as.length
    · rw [if_pos hi, List.getElem?_append_left hi]
    · rw [if_neg hi, List.getElem?_append_right (by omega)]
      rw [List.getElem?_replicate]
      by_cases h2 : i < N.length
      · rw [if_pos h2, if_pos (by omega)]
      · rw [if_neg h2, if_neg (by omega)]
  have hgetV : ∀ (i : Nat), (L2.start N vs)[i]? = if i < vs.length then vs[i]?.map some else if i < N.length then some none else none := fun i => by
    unfold L2.start
    by_cases hi : i < vs.length
    · rw [if_pos hi, List.getElem?_append_left (by simpa using hi), List.getElem?_map]
    · rw [if_neg hi, List.getElem?_append_right (by simpa using hi), List.length_map, List.getElem?_replicate]
      by_cases h2 : i < N.length
      · rw [if_pos h2, if_pos (by omega)]
      · rw [if_neg h2, if_neg (by omega)]
  refine ⟨hpen, htb, hdom, ?_, fun i j a h1 h2 => ?_, fun i av e => ?_⟩
  · unfold L2.start startA
    simp [hl]
  · have key : ∀ i : Nat, ((startA N as)[i]?.bind AV.addr) = some a → (as[i]?.bind AV.addr) = some a := fun i h => by
      rw [hget] at h
      by_cases hi : i < as.length
      · rw [if_pos hi] at h
        exact h
      · rw [if_neg hi] at h
        by_cases h2 : i < N.length
        · rw [if_pos h2] at h
          cases h
        · rw [if_neg h2] at h
          cases h
    exact hinj i j a (key i h1) (key j h2)
  · rw [hget] at e
    rw [hgetV]
    by_cases hi : i < as.length
    · rw [if_pos hi] at e
      obtain ⟨v, h1, h2⟩ := hs i av e
      rw [if_pos (by omega), h1]
      exact ⟨some v, rfl, h2⟩
    · rw [if_neg hi] at e
      by_cases h2 : i < N.length
      · rw [if_pos h2] at e
        cases e
        rw [if_neg (by omega), if_pos h2]
        exact ⟨none, rfl, trivial⟩
      · rw [if_neg h2] at e
        cases e
theorem d_inj (as : List PyData) : ∀ (i j : Nat) (a : Addr), ((as.map AV.d)[i]?.bind AV.addr) = some a → ((as.map AV.d)[j]?.bind AV.addr) = some a → i = j := fun i j a h => by
  rw [List.getElem?_map] at h
  cases q : as[i]? with
  | none => rw [q] at h; cases h
  | some d => rw [q] at h; cases h
/-- a def of the text, called by its name -/
structure Df (K : PySem.W.Frag) (mg : Str → Option Value) (x qual : Str) (st : Stmt) (ps : List Str) : Prop where
  ex : ∃ (f : Addr) (fd : FuncData), Fun K x qual st f fd ∧ mg x = some (.ref f) ∧ Binds K fd ps []
/-- called with the data ds it hands back data of φ, all stands -/
abbrev Fc (P : Program) (w : World) (K : PySem.W.Frag) (mg : Str → Option Value) (base : Heap) (Pt : Addr) (k : Nat) (x : Str) (ps : List Str) (ds : List PyData) (φ : PyData → Prop) : Prop :=
  Kk P w K mg base k x ps (SpP K Pt (fun y => y = ds) fun _ y => φ y)
abbrev Fp (P : Program) (w : World) (K : PySem.W.Frag) (mg : Str → Option Value) (base : Heap) (Pt : Addr) (k : Nat) (x : Str) (ps : List Str) (ds : List PyData) (φ : PyData → Prop) : Prop :=
  Kk P w K mg base k x ps (SpN K Pt (fun y => y = ds) fun _ y => φ y)
theorem mkF {ds : List PyData} {φ : PyData → Prop} (D : Df K mg x qual st ps) (S : FnScope N ps (defScope st)) (hlen : ds.length = ps.length)
    (hb : ∀ (f : Addr) (cdv : Value) (A : Around) (outer : List Env) (s : Shared) (H : Hp) (E : XK) (F0 : Addr → Prop), Room k (bodyX P w K mg base N qual st f cdv A outer s H E).A →
      Bk (vz1 Pt) (vz1 Pt).has F0 H (bodyX P w K mg base N qual st f cdv A outer s H E) (defBody st) (startA N (ds.map .d)) (fun _ => False) (Rt K fun _ d => φ d)) : Fc P w K mg base Pt (k + 1) x ps ds φ := by
  obtain ⟨f, fd, F, hm, bi⟩ := D.ex
  refine ⟨f, fd, F.ok S (fun vs H Q E h => ?_) (fun cdv A outer s H vs Q E hr h => ?_), hm, F.kp, bi⟩
  · obtain ⟨F0, ds', _, _, _, h1, h2, _⟩ := h
    rw [dpa_len h1, h2, hlen]
  · obtain ⟨F0, ds', hPt, htb, hd, h1, h2, hq⟩ := h
    subst h2
    refine ⟨_, wb_pss, hb f cdv A outer s H E F0 hr F0 (L2.start N vs) H ?_ ?_ _ (fun _ _ _ _ _ _ _ z => z.elim) ?_⟩
    · refine start_ok (fun a (z : a = Pt) => by rw [z]; exact ⟨hPt, .inr htb⟩) htb hd (by rw [dpa_len h1, List.length_map]) (d_inj ds') fun i av e => ?_
      rw [List.getElem?_map] at e
      cases q : ds'[i]? with
      | none => rw [q] at e; cases e
      | some d =>
        rw [q] at e
        cases e
        obtain ⟨v, e1, e2⟩ := dpa_get h1 q
        exact ⟨v, e1, v, rfl, e2⟩
    · refine ⟨fun a z => z, hd, Kd.refl, fun a h => h, fun a h => .inl h, fun i a e => ?_, fun a (z : a = Pt) => by rw [z]; exact hPt, fun a (z : a = Pt) => by rw [z]; exact hd Pt hPt, fun a z => ⟨fun h => h, fun h => h⟩⟩
      exfalso
      unfold startA at e
      by_cases hi : i < (ds'.map AV.d).length
      · rw [List.getElem?_append_left hi, List.getElem?_map] at e
        cases q : ds'[i]? with
        | none => rw [q] at e; cases e
        | some d => rw [q] at e; cases e
      · rw [List.getElem?_append_right (by omega), List.getElem?_replicate] at e
        split at e <;> cases e
    · intro v F' σ' H' ρ' s1 g1 ⟨d, h3, h4⟩
      exact hq v H' d ⟨g1.kept, g1.vk⟩ h3 (dp_ex (cut_sub g1.sub) h4)
theorem mkN {ds : List PyData} {φ : PyData → Prop} (D : Df K mg x qual st ps) (S : FnScope N ps (defScope st)) (hlen : ds.length + 1 = ps.length)
    (hb : ∀ (f : Addr) (cdv : Value) (A : Around) (outer : List Env) (s : Shared) (H : Hp) (E : XK) (F0 : Addr → Prop) (p : Addr), Room k (bodyX P w K mg base N qual st f cdv A outer s H E).A →
      Bk (vz2 p Pt) (vz2 p Pt).has F0 H (bodyX P w K mg base N qual st f cdv A outer s H E) (defBody st) (startA N (.pen p :: ds.map .d)) (fun _ => False) (Rt K fun _ d => φ d)) : Fp P w K mg base Pt (k + 1) x ps ds φ := by
  obtain ⟨f, fd, F, hm, bi⟩ := D.ex
  refine ⟨f, fd, F.ok S (fun vs H Q E h => ?_) (fun cdv A outer s H vs Q E hr h => ?_), hm, F.kp, bi⟩
  · obtain ⟨p, ws, F0, ds', rfl, _, _, _, _, _, h1, h2, _⟩ := h
    rw [List.length_cons, dpa_len h1, h2, hlen]
  · obtain ⟨p, ws, F0, ds', rfl, hp, hpen, hPt, htb, hd, h1, h2, hq⟩ := h
    subst h2
    have noaddr : ∀ (i : Nat) (a : Addr), ((AV.pen p :: ds'.map AV.d)[i]?.bind AV.addr) = some a → False := fun i a e => by
      cases i with
      | zero => cases e
      | succ i =>
        rw [List.getElem?_cons_succ, List.getElem?_map] at e
        cases q : ds'[i]? with
        | none => rw [q] at e; cases e
        | some d => rw [q] at e; cases e
    refine ⟨_, wb_pss, hb f cdv A outer s H E F0 p hr F0 (L2.start N (.ref p :: ws)) H ?_ ?_ _ (fun _ _ _ _ _ _ _ z => z.elim) ?_⟩
    · refine start_ok (fun a z => z.elim (fun z => by rw [z]; exact ⟨hp, .inl hpen⟩) fun z => by rw [z]; exact ⟨hPt, .inr htb⟩) htb hd (by rw [List.length_cons, List.length_cons, dpa_len h1, List.length_map]) (fun i j a h => (noaddr i a h).elim) fun i av e => ?_
      cases i with
      | zero =>
        cases e
        exact ⟨_, rfl, rfl, .inl rfl, hpen⟩
      | succ i =>
        rw [List.getElem?_cons_succ, List.getElem?_map] at e
        cases q : ds'[i]? with
        | none => rw [q] at e; cases e
        | some d =>
          rw [q] at e
          cases e
          obtain ⟨v, e1, e2⟩ := dpa_get h1 q
          exact ⟨v, e1, v, rfl, e2⟩
    · refine ⟨fun a z => z, hd, Kd.refl, fun a h => h, fun a h => .inl h, fun i a e => ?_, fun a z => z.elim (fun z => by rw [z]; exact hp) fun z => by rw [z]; exact hPt, fun a z => z.elim (fun z => by rw [z]; exact hd p hp) fun z => by rw [z]; exact hd Pt hPt, fun a z => ⟨fun h => h, fun h => h⟩⟩
      exfalso
      unfold startA at e
      by_cases hi : i < (AV.pen p :: ds'.map AV.d).length
      · rw [List.getElem?_append_left hi] at e
        exact noaddr i a e
      · rw [List.getElem?_append_right (by omega), List.getElem?_replicate] at e
        split at e <;> cases e
    · intro v F' σ' H' ρ' s1 g1 ⟨d, h3, h4⟩
      exact hq v H' d ⟨g1.kept, g1.vk⟩ h3 (dp_ex (cut_sub g1.sub) h4)
end
section
variable {Z : Vz} {X : Cx} {e : Expr} {es : List Expr} {ρ : List AV}
/-- a call of a def that is known by the data -/
theorem Dw.fc {k : Nat} {x : Str} {ps : List Str} {ds : List PyData} {φ : PyData → Prop} {p pos : Pos} (G : Fc X.prog X.w X.K X.mg X.base Z.tab k x ps ds φ) (hr : Room k X.A) (ha : Da Z X (e :: es) ρ fun y => y = ds)
    (hg : Gl X x := by rfl) (hdb : (x == ("__debug__" : Str)) = false := by decide) (he : starEach (e :: es) X.env = (false, eval e X.env) :: starEach es X.env := by rfl) (hpl : (backTo pos (starEach es X.env)).any (·.1) = false := by rfl) :
    Dw Z X (.Call (.Name x p) (e :: es) [] pos) ρ φ := Dw.call G hr ha (fun _ h => h) (fun _ _ _ h => h) hg hdb he hpl
theorem Dw.fp {k : Nat} {x y : Str} {ps : List Str} {ds : List PyData} {φ : PyData → Prop} {p py pos : Pos} {pn : Addr} (i : Nat) (hi : ρ[i]? = some (.pen pn)) (G : Fp X.prog X.w X.K X.mg X.base Z.tab k x ps ds φ) (hr : Room k X.A)
    (ha : Da Z X es ρ fun y => y = ds) (hn : X.N[i]? = some y := by rfl) (hv : Vis X.env.scope y := by first | exact Or.inl rfl | exact Or.inr (Or.inl rfl) | exact Or.inr (Or.inr rfl))
    (hd : (y == ("__debug__" : Str)) = false := by decide) (hcd : (y == ("__classdict__" : Str)) = false := by decide) (hg : Gl X x := by rfl) (hdb : (x == ("__debug__" : Str)) = false := by decide)
    (he : starEach (.Name y py :: es) X.env = (false, eval (.Name y py) X.env) :: starEach es X.env := by rfl) (hpl : (backTo pos (starEach es X.env)).any (·.1) = false := by rfl) :
    Dw Z X (.Call (.Name x p) (.Name y py :: es) [] pos) ρ φ := Dw.callN i hi G hr ha (fun _ h => h) (fun _ _ _ h => h) hn hv hd hcd hg hdb he hpl
end
end Hb

/-! the text by places (printed by gen_t.py) -/
namespace Hb
open PySem PySem.Spec PyProof.Rows L2 RZ
def top (i : Nat) : Stmt := PySem.Challenge.pw_hearthbook_k77_whole_lots.main.body.getD i (.Pass ⟨0, 0, 0, 0⟩)
abbrev s_is_whole : Stmt := top 6
abbrev n_is_whole : List Str := ["thing"]
abbrev p_is_whole : List Str := ["thing"]
theorem sc_is_whole : FnScope n_is_whole p_is_whole (defScope s_is_whole) := ⟨rfl, rfl, rfl, by decide +kernel, rfl, by decide +kernel, by decide +kernel⟩
abbrev s_common : Stmt := top 7
abbrev n_common : List Str := ["one", "other"]
abbrev p_common : List Str := ["one", "other"]
theorem sc_common : FnScope n_common p_common (defScope s_common) := ⟨rfl, rfl, rfl, by decide +kernel, rfl, by decide +kernel, by decide +kernel⟩
abbrev s_is_part : Stmt := top 8
abbrev n_is_part : List Str := ["thing"]
abbrev p_is_part : List Str := ["thing"]
theorem sc_is_part : FnScope n_is_part p_is_part (defScope s_is_part) := ⟨rfl, rfl, rfl, by decide +kernel, rfl, by decide +kernel, by decide +kernel⟩
abbrev s_made : Stmt := top 9
abbrev n_made : List Str := ["top", "bottom", "shared"]
abbrev p_made : List Str := ["top", "bottom"]
theorem sc_made : FnScope n_made p_made (defScope s_made) := ⟨rfl, rfl, rfl, by decide +kernel, rfl, by decide +kernel, by decide +kernel⟩
abbrev s_plus : Stmt := top 10
abbrev n_plus : List Str := ["one", "other"]
abbrev p_plus : List Str := ["one", "other"]
theorem sc_plus : FnScope n_plus p_plus (defScope s_plus) := ⟨rfl, rfl, rfl, by decide +kernel, rfl, by decide +kernel, by decide +kernel⟩
abbrev s_minus : Stmt := top 11
abbrev n_minus : List Str := ["one", "other"]
abbrev p_minus : List Str := ["one", "other"]
theorem sc_minus : FnScope n_minus p_minus (defScope s_minus) := ⟨rfl, rfl, rfl, by decide +kernel, rfl, by decide +kernel, by decide +kernel⟩
abbrev s_total : Stmt := top 12
abbrev n_total : List Str := ["some", "found", "one"]
abbrev p_total : List Str := ["some"]
theorem sc_total : FnScope n_total p_total (defScope s_total) := ⟨rfl, rfl, rfl, by decide +kernel, rfl, by decide +kernel, by decide +kernel⟩
abbrev s_smaller : Stmt := top 13
abbrev n_smaller : List Str := ["one", "other"]
abbrev p_smaller : List Str := ["one", "other"]
theorem sc_smaller : FnScope n_smaller p_smaller (defScope s_smaller) := ⟨rfl, rfl, rfl, by decide +kernel, rfl, by decide +kernel, by decide +kernel⟩
abbrev s_not_below : Stmt := top 14
abbrev n_not_below : List Str := ["thing"]
abbrev p_not_below : List Str := ["thing"]
theorem sc_not_below : FnScope n_not_below p_not_below (defScope s_not_below) := ⟨rfl, rfl, rfl, by decide +kernel, rfl, by decide +kernel, by decide +kernel⟩
abbrev s_are_amounts : Stmt := top 16
abbrev n_are_amounts : List Str := ["thing", "many", "one"]
abbrev p_are_amounts : List Str := ["thing", "many"]
theorem sc_are_amounts : FnScope n_are_amounts p_are_amounts (defScope s_are_amounts) := ⟨rfl, rfl, rfl, by decide +kernel, rfl, by decide +kernel, by decide +kernel⟩
abbrev s_is_from_to : Stmt := top 23
abbrev n_is_from_to : List Str := ["thing", "least", "most"]
abbrev p_is_from_to : List Str := ["thing", "least", "most"]
theorem sc_is_from_to : FnScope n_is_from_to p_is_from_to (defScope s_is_from_to) := ⟨rfl, rfl, rfl, by decide +kernel, rfl, by decide +kernel, by decide +kernel⟩
abbrev s_is_lot : Stmt := top 24
abbrev n_is_lot : List Str := ["thing"]
abbrev p_is_lot : List Str := ["thing"]
theorem sc_is_lot : FnScope n_is_lot p_is_lot (defScope s_is_lot) := ⟨rfl, rfl, rfl, by decide +kernel, rfl, by decide +kernel, by decide +kernel⟩
abbrev s_are_lots : Stmt := top 25
abbrev n_are_lots : List Str := ["thing", "one"]
abbrev p_are_lots : List Str := ["thing"]
theorem sc_are_lots : FnScope n_are_lots p_are_lots (defScope s_are_lots) := ⟨rfl, rfl, rfl, by decide +kernel, rfl, by decide +kernel, by decide +kernel⟩
abbrev s_is_heat : Stmt := top 26
abbrev n_is_heat : List Str := ["thing"]
abbrev p_is_heat : List Str := ["thing"]
theorem sc_is_heat : FnScope n_is_heat p_is_heat (defScope s_is_heat) := ⟨rfl, rfl, rfl, by decide +kernel, rfl, by decide +kernel, by decide +kernel⟩
abbrev s_is_plan : Stmt := top 27
abbrev n_is_plan : List Str := ["thing", "one", "later"]
abbrev p_is_plan : List Str := ["thing"]
theorem sc_is_plan : FnScope n_is_plan p_is_plan (defScope s_is_plan) := ⟨rfl, rfl, rfl, by decide +kernel, rfl, by decide +kernel, by decide +kernel⟩
abbrev s_is_open : Stmt := top 28
abbrev n_is_open : List Str := ["lot", "stuff", "day"]
abbrev p_is_open : List Str := ["lot", "stuff", "day"]
theorem sc_is_open : FnScope n_is_open p_is_open (defScope s_is_open) := ⟨rfl, rfl, rfl, by decide +kernel, rfl, by decide +kernel, by decide +kernel⟩
abbrev s_taken_on : Stmt := top 29
abbrev n_taken_on : List Str := ["lots", "rest", "day", "stuff", "wanted", "found", "order", "last", "number", "some", "lot"]
abbrev p_taken_on : List Str := ["lots", "rest", "day", "stuff", "wanted"]
theorem sc_taken_on : FnScope n_taken_on p_taken_on (defScope s_taken_on) := ⟨rfl, rfl, rfl, by decide +kernel, rfl, by decide +kernel, by decide +kernel⟩
abbrev s_gone_through : Stmt := top 30
abbrev n_gone_through : List Str := ["lots", "plan", "rest", "found", "day", "charge", "stuff", "wanted", "some", "lacks", "lot"]
abbrev p_gone_through : List Str := ["lots", "plan"]
theorem sc_gone_through : FnScope n_gone_through p_gone_through (defScope s_gone_through) := ⟨rfl, rfl, rfl, by decide +kernel, rfl, by decide +kernel, by decide +kernel⟩
abbrev s_taken : Stmt := top 31
abbrev n_taken : List Str := ["lots", "plan", "found", "rest", "lacks"]
abbrev p_taken : List Str := ["lots", "plan"]
theorem sc_taken : FnScope n_taken p_taken (defScope s_taken) := ⟨rfl, rfl, rfl, by decide +kernel, rfl, by decide +kernel, by decide +kernel⟩
abbrev s_left_of : Stmt := top 32
abbrev n_left_of : List Str := ["lots", "plan", "found", "rest", "lacks"]
abbrev p_left_of : List Str := ["lots", "plan"]
theorem sc_left_of : FnScope n_left_of p_left_of (defScope s_left_of) := ⟨rfl, rfl, rfl, by decide +kernel, rfl, by decide +kernel, by decide +kernel⟩
abbrev s_is_too_much : Stmt := top 33
abbrev n_is_too_much : List Str := ["lots", "plan", "stuff", "days", "wanted", "there", "day", "charge", "lot"]
abbrev p_is_too_much : List Str := ["lots", "plan", "stuff", "days"]
theorem sc_is_too_much : FnScope n_is_too_much p_is_too_much (defScope s_is_too_much) := ⟨rfl, rfl, rfl, by decide +kernel, rfl, by decide +kernel, by decide +kernel⟩
abbrev s_sets_of : Stmt := top 34
abbrev n_sets_of : List Str := ["days", "found", "day", "some"]
abbrev p_sets_of : List Str := ["days"]
theorem sc_sets_of : FnScope n_sets_of p_sets_of (defScope s_sets_of) := ⟨rfl, rfl, rfl, by decide +kernel, rfl, by decide +kernel, by decide +kernel⟩
abbrev s_had_or_not : Stmt := top 35
abbrev n_had_or_not : List Str := ["lots", "plan", "found", "rest", "lacks", "sets", "stuff", "some", "day", "charge", "days"]
abbrev p_had_or_not : List Str := ["lots", "plan"]
theorem sc_had_or_not : FnScope n_had_or_not p_had_or_not (defScope s_had_or_not) := ⟨rfl, rfl, rfl, by decide +kernel, rfl, by decide +kernel, by decide +kernel⟩
abbrev s_is_taking : Stmt := top 36
abbrev n_is_taking : List Str := ["lots", "thing"]
abbrev p_is_taking : List Str := ["lots", "thing"]
theorem sc_is_taking : FnScope n_is_taking p_is_taking (defScope s_is_taking) := ⟨rfl, rfl, rfl, by decide +kernel, rfl, by decide +kernel, by decide +kernel⟩
abbrev s_had_right : Stmt := top 37
abbrev n_had_right : List Str := ["lots", "plan", "rows", "number", "lot", "wanted", "day", "charge", "stuff", "part", "key", "row"]
abbrev p_had_right : List Str := ["lots", "plan", "rows"]
theorem sc_had_right : FnScope n_had_right p_had_right (defScope s_had_right) := ⟨rfl, rfl, rfl, by decide +kernel, rfl, by decide +kernel, by decide +kernel⟩
abbrev s_had_holds : Stmt := top 38
abbrev n_had_holds : List Str := ["lots", "plan", "thing", "days", "day", "charge", "later"]
abbrev p_had_holds : List Str := ["lots", "plan", "thing"]
theorem sc_had_holds : FnScope n_had_holds p_had_holds (defScope s_had_holds) := ⟨rfl, rfl, rfl, by decide +kernel, rfl, by decide +kernel, by decide +kernel⟩
abbrev s_most_heats : Stmt := top 39
abbrev n_most_heats : List Str := ["lots", "charge", "first", "last", "found", "days", "plan", "day"]
abbrev p_most_heats : List Str := ["lots", "charge", "first", "last"]
theorem sc_most_heats : FnScope n_most_heats p_most_heats (defScope s_most_heats) := ⟨rfl, rfl, rfl, by decide +kernel, rfl, by decide +kernel, by decide +kernel⟩
abbrev s_law_cell_at : Stmt := top 41
abbrev n_law_cell_at : List Str := ["_law_script", "_law_k"]
abbrev p_law_cell_at : List Str := ["_law_script", "_law_k"]
theorem sc_law_cell_at : FnScope n_law_cell_at p_law_cell_at (defScope s_law_cell_at) := ⟨rfl, rfl, rfl, by decide +kernel, rfl, by decide +kernel, by decide +kernel⟩
abbrev s_law_next : Stmt := top 42
abbrev n_law_next : List Str := ["_law_seed"]
abbrev p_law_next : List Str := ["_law_seed"]
theorem sc_law_next : FnScope n_law_next p_law_next (defScope s_law_next) := ⟨rfl, rfl, rfl, by decide +kernel, rfl, by decide +kernel, by decide +kernel⟩
abbrev s_law_pen_of : Stmt := top 43
abbrev n_law_pen_of : List Str := ["_law_cell", "_law_left"]
abbrev p_law_pen_of : List Str := ["_law_cell"]
theorem sc_law_pen_of : FnScope n_law_pen_of p_law_pen_of (defScope s_law_pen_of) := ⟨rfl, rfl, rfl, by decide +kernel, rfl, by decide +kernel, by decide +kernel⟩
abbrev s_law_draw : Stmt := top 44
abbrev n_law_draw : List Str := ["_law_pen", "_law_many", "_law_found"]
abbrev p_law_draw : List Str := ["_law_pen", "_law_many"]
theorem sc_law_draw : FnScope n_law_draw p_law_draw (defScope s_law_draw) := ⟨rfl, rfl, rfl, by decide +kernel, rfl, by decide +kernel, by decide +kernel⟩
abbrev s_law_made : Stmt := top 45
abbrev n_law_made : List Str := ["_law_top", "_law_bottom", "_law_one", "_law_other"]
abbrev p_law_made : List Str := ["_law_top", "_law_bottom"]
theorem sc_law_made : FnScope n_law_made p_law_made (defScope s_law_made) := ⟨rfl, rfl, rfl, by decide +kernel, rfl, by decide +kernel, by decide +kernel⟩
abbrev s_law_plus : Stmt := top 46
abbrev n_law_plus : List Str := ["_law_one", "_law_other"]
abbrev p_law_plus : List Str := ["_law_one", "_law_other"]
theorem sc_law_plus : FnScope n_law_plus p_law_plus (defScope s_law_plus) := ⟨rfl, rfl, rfl, by decide +kernel, rfl, by decide +kernel, by decide +kernel⟩
abbrev s_law_total : Stmt := top 51
abbrev n_law_total : List Str := ["_law_some", "_law_found", "_law_one"]
abbrev p_law_total : List Str := ["_law_some"]
theorem sc_law_total : FnScope n_law_total p_law_total (defScope s_law_total) := ⟨rfl, rfl, rfl, by decide +kernel, rfl, by decide +kernel, by decide +kernel⟩
abbrev s_law_lot : Stmt := top 53
abbrev n_law_lot : List Str := ["_law_pen", "_law_stuffs", "_law_first", "_law_amount"]
abbrev p_law_lot : List Str := ["_law_pen", "_law_stuffs"]
theorem sc_law_lot : FnScope n_law_lot p_law_lot (defScope s_law_lot) := ⟨rfl, rfl, rfl, by decide +kernel, rfl, by decide +kernel, by decide +kernel⟩
abbrev s_law_lots : Stmt := top 54
abbrev n_law_lots : List Str := ["_law_pen", "_law_stuffs", "_law_number"]
abbrev p_law_lots : List Str := ["_law_pen", "_law_stuffs"]
theorem sc_law_lots : FnScope n_law_lots p_law_lots (defScope s_law_lots) := ⟨rfl, rfl, rfl, by decide +kernel, rfl, by decide +kernel, by decide +kernel⟩
abbrev s_law_plan : Stmt := top 55
abbrev n_law_plan : List Str := ["_law_pen", "_law_stuffs", "_law_day", "_law_found", "_law_top", "_law_turn", "_law_stuff"]
abbrev p_law_plan : List Str := ["_law_pen", "_law_stuffs"]
theorem sc_law_plan : FnScope n_law_plan p_law_plan (defScope s_law_plan) := ⟨rfl, rfl, rfl, by decide +kernel, rfl, by decide +kernel, by decide +kernel⟩
abbrev s_law_taken_right : Stmt := top 56
abbrev n_law_taken_right : List Str := ["_law_lots_here", "_law_plan_here", "_law_rows", "_law_left", "_law_number", "_law_lot_here", "_law_some", "_law_day", "_law_charge", "_law_stuff", "_law_wanted", "_law_at", "_law_amount", "_law_on"]
abbrev p_law_taken_right : List Str := ["_law_lots_here", "_law_plan_here"]
theorem sc_law_taken_right : FnScope n_law_taken_right p_law_taken_right (defScope s_law_taken_right) := ⟨rfl, rfl, rfl, by decide +kernel, rfl, by decide +kernel, by decide +kernel⟩
abbrev s_law_changed_right : Stmt := top 57
abbrev n_law_changed_right : List Str := ["_law_pen", "_law_lots_here", "_law_plan_here", "_law_word", "_law_at", "_law_fewer", "_law_about", "_law_greater", "_law_number", "_law_lot_here", "_law_told", "_law_more"]
abbrev p_law_changed_right : List Str := ["_law_pen", "_law_lots_here", "_law_plan_here", "_law_word"]
theorem sc_law_changed_right : FnScope n_law_changed_right p_law_changed_right (defScope s_law_changed_right) := ⟨rfl, rfl, rfl, by decide +kernel, rfl, by decide +kernel, by decide +kernel⟩
abbrev s_law_most_right : Stmt := top 58
abbrev n_law_most_right : List Str := ["_law_lots_here", "_law_charge", "_law_first", "_law_days", "_law_plan_here", "_law_every", "_law_day"]
abbrev p_law_most_right : List Str := ["_law_lots_here", "_law_charge", "_law_first"]
theorem sc_law_most_right : FnScope n_law_most_right p_law_most_right (defScope s_law_most_right) := ⟨rfl, rfl, rfl, by decide +kernel, rfl, by decide +kernel, by decide +kernel⟩
abbrev s_law : Stmt := top 59
abbrev n_law : List Str := ["_law_script", "_law_cell", "_law_pen", "_law_stuffs", "_law_lots_here", "_law_plan_here", "_law_some", "_law_paper", "_law_charge", "_law_stuff"]
abbrev p_law : List Str := ["_law_script"]
theorem sc_law : FnScope n_law p_law (defScope s_law) := ⟨rfl, rfl, rfl, by decide +kernel, rfl, by decide +kernel, by decide +kernel⟩
end Hb

/-! parts in sixths, in plain Lean -/
namespace Hb
open PySem
def gN (n : Int) : Nat := Nat.gcd n.natAbs 6
def num (n : Int) : Int := n / (gN n : Int)
def den (n : Int) : Int := 6 / (gN n : Int)
def encP (n : Int) : PyData := .tuple [.int (num n), .int (den n)]
theorem gN_cases (n : Int) : gN n = 1 ∨ gN n = 2 ∨ gN n = 3 ∨ gN n = 6 := by
  have h : gN n ∣ 6 := Nat.gcd_dvd_right _ _
  have h2 : gN n ≤ 6 := Nat.le_of_dvd (by decide) h
  generalize gN n = g at h h2
  match g, h2 with
  | 0, _ => exact absurd h (by decide)
  | 1, _ => exact .inl rfl
  | 2, _ => exact .inr (.inl rfl)
  | 3, _ => exact .inr (.inr (.inl rfl))
  | 4, _ => exact absurd h (by decide)
  | 5, _ => exact absurd h (by decide)
  | 6, _ => exact .inr (.inr (.inr rfl))
theorem gN_dvd (n : Int) : (gN n : Int) ∣ n := by
  have h : gN n ∣ n.natAbs := Nat.gcd_dvd_left _ _
  exact Int.ofNat_dvd_left.mpr h
theorem den_cases (n : Int) : den n = 1 ∨ den n = 2 ∨ den n = 3 ∨ den n = 6 := by
  unfold den
  rcases gN_cases n with h | h | h | h <;> rw [h] <;> decide
theorem num_den (n : Int) : num n * 6 = n * den n := by
  obtain ⟨m, hm⟩ := gN_dvd n
  unfold num den
  rcases gN_cases n with h | h | h | h <;> rw [h] at hm ⊢ <;> rw [hm] <;> omega
theorem num_bound {n B : Int} (h0 : -B ≤ n) (h1 : n ≤ B) (hB : 0 ≤ B) : -B ≤ num n ∧ num n ≤ B := by
  have h := num_den n
  rcases den_cases n with e | e | e | e <;> rw [e] at h <;> omega
/-- lowest terms -/
theorem lowest {t b n : Int} (hb : 0 < b) (h : t * 6 = n * b) : t / ((Nat.gcd t.natAbs b.natAbs : Nat) : Int) = num n ∧ b / ((Nat.gcd t.natAbs b.natAbs : Nat) : Int) = den n := by
  have hbn : 0 < b.natAbs := Int.natAbs_pos.mpr (by omega)
  have gpos : 0 < Nat.gcd t.natAbs b.natAbs := Nat.gcd_pos_of_pos_right _ hbn
  have hpos : 0 < gN n := by rcases gN_cases n with e | e | e | e <;> omega
  -- t = g t', b = g b', n = h n', 6 = h m'
  have dt : ((Nat.gcd t.natAbs b.natAbs : Nat) : Int) ∣ t := Int.ofNat_dvd_left.mpr (Nat.gcd_dvd_left _ _)
  have db : ((Nat.gcd t.natAbs b.natAbs : Nat) : Int) ∣ b := Int.ofNat_dvd_left.mpr (Nat.gcd_dvd_right _ _)
  have dn : (gN n : Int) ∣ n := gN_dvd n
  have d6 : (gN n : Int) ∣ 6 := Int.ofNat_dvd_left.mpr (Nat.gcd_dvd_right _ _)
  have cop1 : Nat.Coprime (t.natAbs / Nat.gcd t.natAbs b.natAbs) (b.natAbs / Nat.gcd t.natAbs b.natAbs) := Nat.coprime_div_gcd_div_gcd gpos
  have cop2 : Nat.Coprime (n.natAbs / gN n) (6 / gN n) := Nat.coprime_div_gcd_div_gcd hpos
  have e0 : t.natAbs * 6 = n.natAbs * b.natAbs := by
    have := congrArg Int.natAbs h
    rw [Int.natAbs_mul, Int.natAbs_mul] at this
    exact this
  generalize hg : Nat.gcd t.natAbs b.natAbs = g at *
  have gdt : g ∣ t.natAbs := by rw [← hg]; exact Nat.gcd_dvd_left _ _
  have gdb : g ∣ b.natAbs := by rw [← hg]; exact Nat.gcd_dvd_right _ _
  have hdn : gN n ∣ n.natAbs := Nat.gcd_dvd_left _ _
  have hd6 : gN n ∣ 6 := Nat.gcd_dvd_right _ _
  obtain ⟨t', et⟩ := gdt
  obtain ⟨b', eb⟩ := gdb
  obtain ⟨n', en⟩ := hdn
  obtain ⟨m', em⟩ := hd6
  have q1 : t.natAbs / g = t' := by rw [et]; exact Nat.mul_div_cancel_left _ gpos
  have q2 : b.natAbs / g = b' := by rw [eb]; exact Nat.mul_div_cancel_left _ gpos
  have q3 : n.natAbs / gN n = n' := by rw [en]; exact Nat.mul_div_cancel_left _ hpos
  have q4 : 6 / gN n = m' := by
    have : 6 / gN n = gN n * m' / gN n := by rw [← em]
    rw [this]; exact Nat.mul_div_cancel_left _ hpos
  rw [q1, q2] at cop1
  rw [q3, q4] at cop2
  have e1 : t' * m' = n' * b' := by
    have : (g * gN n) * (t' * m') = (g * gN n) * (n' * b') := by
      have a1 : (g * t') * (gN n * m') = (gN n * n') * (g * b') := by rw [← et, ← em, ← en, ← eb]; exact e0
      calc (g * gN n) * (t' * m') = (g * t') * (gN n * m') := by ac_rfl
        _ = (gN n * n') * (g * b') := a1
        _ = (g * gN n) * (n' * b') := by ac_rfl
    exact Nat.eq_of_mul_eq_mul_left (Nat.mul_pos gpos hpos) this
  have d1 : b' ∣ m' := (Nat.Coprime.dvd_of_dvd_mul_left (Nat.Coprime.symm cop1) ⟨n', by rw [e1, Nat.mul_comm]⟩)
  have d2 : m' ∣ b' := (Nat.Coprime.dvd_of_dvd_mul_left (Nat.Coprime.symm cop2) ⟨t', by rw [← e1, Nat.mul_comm]⟩)
  have ebm : b' = m' := Nat.dvd_antisymm d1 d2
  have mpos : 0 < m' := by
    rcases Nat.eq_zero_or_pos m' with z | z
    · rw [z] at em; simp at em
    · exact z
  have den1 : b / (g : Int) = den n := by
    have : b = ((g * b' : Nat) : Int) := by rw [← eb]; omega
    rw [this]
    unfold den
    rw [show (6 : Int) = ((gN n * m' : Nat) : Int) by rw [← em]; rfl]
    rw [Int.natCast_mul, Int.natCast_mul, Int.mul_ediv_cancel_left _ (by omega), Int.mul_ediv_cancel_left _ (by omega), ebm]
  refine ⟨?_, den1⟩
  obtain ⟨u, eu⟩ := dt
  have h3 := num_den n
  have eu2 : t / (g : Int) = u := by rw [eu]; exact Int.mul_ediv_cancel_left _ (by omega)
  rw [eu2]
  obtain ⟨v, ev⟩ := db
  have ev2 : b / (g : Int) = v := by rw [ev]; exact Int.mul_ediv_cancel_left _ (by omega)
  have hv : v = den n := ev2.symm.trans den1
  have h4 : u * 6 = n * v := by
    have a1 : (g : Int) * (u * 6) = (g : Int) * (n * v) := by
      calc (g : Int) * (u * 6) = ((g : Int) * u) * 6 := by rw [Int.mul_assoc]
        _ = n * ((g : Int) * v) := by rw [← eu, ← ev]; exact h
        _ = (g : Int) * (n * v) := by rw [← Int.mul_assoc, Int.mul_comm n, Int.mul_assoc]
    exact Int.eq_of_mul_eq_mul_left (by omega) a1
  rw [hv] at h4
  omega
theorem lt_iff (n m : Int) : num n * den m < num m * den n ↔ n < m := by
  have h1 := num_den n
  have h2 := num_den m
  rcases den_cases n with e | e | e | e <;> rcases den_cases m with f | f | f | f <;> rw [e] at h1 ⊢ <;> rw [f] at h2 ⊢ <;> omega
theorem sum_parts (n m : Int) : (num n * den m + num m * den n) * 6 = (n + m) * (den n * den m) := by
  have h1 := num_den n
  have h2 := num_den m
  rcases den_cases n with e | e | e | e <;> rcases den_cases m with f | f | f | f <;> rw [e] at h1 ⊢ <;> rw [f] at h2 ⊢ <;> omega
theorem diff_parts (n m : Int) : (num n * den m - num m * den n) * 6 = (n - m) * (den n * den m) := by
  have h1 := num_den n
  have h2 := num_den m
  rcases den_cases n with e | e | e | e <;> rcases den_cases m with f | f | f | f <;> rw [e] at h1 ⊢ <;> rw [f] at h2 ⊢ <;> omega
theorem num_pos (n : Int) : 0 < num n ↔ 0 < n := by
  have h1 := num_den n
  rcases den_cases n with e | e | e | e <;> rw [e] at h1 <;> omega
theorem num_nn (n : Int) : 0 ≤ num n ↔ 0 ≤ n := by
  have h1 := num_den n
  rcases den_cases n with e | e | e | e <;> rw [e] at h1 <;> omega
theorem enc_inj {n m : Int} (h1 : num n = num m) (h2 : den n = den m) : n = m := by
  have a := num_den n
  have b := num_den m
  rw [h1, h2] at a
  rcases den_cases m with e | e | e | e <;> rw [e] at a b <;> omega
theorem gcd_one (n : Int) : Nat.gcd (num n).natAbs (den n).natAbs = 1 := by
  have hpos : 0 < gN n := by rcases gN_cases n with e | e | e | e <;> omega
  have cop2 : Nat.Coprime (n.natAbs / gN n) (6 / gN n) := Nat.coprime_div_gcd_div_gcd hpos
  have e1 : (num n).natAbs = n.natAbs / gN n := by
    unfold num
    rw [Int.natAbs_ediv_of_dvd (gN_dvd n)]
    rfl
  have e2 : (den n).natAbs = 6 / gN n := by
    unfold den
    rfl
  rw [e1, e2]
  exact cop2
end Hb

namespace Hb
open PySem PySem.Spec PyProof.Rows L2 RZ
open Evl (Ex)
/-- what the module's names hold -/
structure Tx (K : PySem.W.Frag) (mg : Str → Option Value) : Prop where
  len : mg "len" = none
  abs : mg "abs" = none
  isi : mg "isinstance" = none
  int : mg "int" = none
  bool : mg "bool" = none
  tuple : mg "tuple" = none
  str : mg "str" = none
  list : mg "list" = none
  all : mg "all" = none
  any : mg "any" = none
  zip : mg "zip" = none
  set : mg "set" = none
  sorted : mg "sorted" = none
  enum : mg "enumerate" = none
  range : mg "range" = none
  max : mg "max" = none
  min : mg "min" = none
  nought : ∃ a, mg "NOUGHT" = some (.ref a) ∧ ∀ H, Dp K H (.ref a) (encP 0)
  mStuff : ∃ t, mg "MOST_STUFF" = some (.int 4 t)
  mLots : ∃ t, mg "MOST_LOTS" = some (.int 8 t)
  mHeats : ∃ t, mg "MOST_HEATS" = some (.int 8 t)
  mDay : ∃ t, mg "MOST_DAY" = some (.int 30 t)
  mAhead : ∃ t, mg "MOST_AHEAD" = some (.int 7 t)
section
variable {Z : Vz} {X : Cx} {e : Expr} {es : List Expr} {ρ : List AV}
theorem Dv.cInt {x : Str} {i : Int} {pos : Pos} (h : ∃ t, X.mg x = some (.int i t)) (hg : Gl X x := by rfl) (hb : (x == ("__debug__" : Str)) = false := by decide) : Dv Z X (.Name x pos) ρ (.int i) := by
  obtain ⟨t, ht⟩ := h
  exact Dv.glob ht (v := .int i) ⟨t, rfl⟩ (fun _ => .int i) hg hb
theorem Dv.nought {pos : Pos} (h : ∃ a, X.mg "NOUGHT" = some (.ref a) ∧ ∀ H, Dp X.K H (.ref a) (encP 0)) (hg : Gl X "NOUGHT" := by rfl) : Dv Z X (.Name "NOUGHT" pos) ρ (encP 0) := by
  obtain ⟨a, h1, h2⟩ := h
  exact Dv.glob h1 (v := .ref a) rfl h2 hg
theorem Dv.isInt {i : Int} {q p pos : Pos} (hi : X.mg "isinstance" = none) (hm : X.mg "int" = none) (h : Dv Z X e ρ (.int i))
    (hg : Gl X "isinstance" := by rfl) (hgx : Gl X "int" := by rfl) (he : starEach [e, .Name "int" q] X.env = (false, eval e X.env) :: starEach [.Name "int" q] X.env := by rfl) :
    Dv Z X (.Call (.Name "isinstance" p) [e, .Name "int" q] [] pos) ρ (.bool true) :=
  Dv.isi (x := "int") (T := "int") (U := "int") hi hm (by decide +kernel) h rfl (fun _ z => nomatch z) (by decide +kernel) hg hgx (by decide) (by decide) he
theorem Dv.isBool {i : Int} {q p pos : Pos} (hi : X.mg "isinstance" = none) (hm : X.mg "bool" = none) (h : Dv Z X e ρ (.int i))
    (hg : Gl X "isinstance" := by rfl) (hgx : Gl X "bool" := by rfl) (he : starEach [e, .Name "bool" q] X.env = (false, eval e X.env) :: starEach [.Name "bool" q] X.env := by rfl) :
    Dv Z X (.Call (.Name "isinstance" p) [e, .Name "bool" q] [] pos) ρ (.bool false) :=
  Dv.isi (x := "bool") (T := "int") (U := "bool") hi hm (by decide +kernel) h rfl (fun _ z => nomatch z) (by decide +kernel) hg hgx (by decide) (by decide) he
theorem Dv.isTup {ds : List PyData} {q p pos : Pos} (hi : X.mg "isinstance" = none) (hm : X.mg "tuple" = none) (h : Dv Z X e ρ (.tuple ds))
    (hg : Gl X "isinstance" := by rfl) (hgx : Gl X "tuple" := by rfl) (he : starEach [e, .Name "tuple" q] X.env = (false, eval e X.env) :: starEach [.Name "tuple" q] X.env := by rfl) :
    Dv Z X (.Call (.Name "isinstance" p) [e, .Name "tuple" q] [] pos) ρ (.bool true) :=
  Dv.isi (x := "tuple") (T := "tuple") (U := "tuple") hi hm (by decide +kernel) h rfl (fun _ z => nomatch z) (by decide +kernel) hg hgx (by decide) (by decide) he
theorem Dv.isStr {x : Str} {q p pos : Pos} (hi : X.mg "isinstance" = none) (hm : X.mg "str" = none) (h : Dv Z X e ρ (.str x))
    (hg : Gl X "isinstance" := by rfl) (hgx : Gl X "str" := by rfl) (he : starEach [e, .Name "str" q] X.env = (false, eval e X.env) :: starEach [.Name "str" q] X.env := by rfl) :
    Dv Z X (.Call (.Name "isinstance" p) [e, .Name "str" q] [] pos) ρ (.bool true) :=
  Dv.isi (x := "str") (T := "str") (U := "str") hi hm (by decide +kernel) h rfl (fun _ z => nomatch z) (by decide +kernel) hg hgx (by decide) (by decide) he
end
section
variable {P : Program} {w : World} {K : PySem.W.Frag} {mg : Str → Option Value} {base : Heap} {Pt : Addr}
theorem ok_is_whole (D : Df K mg "is_whole" "is_whole" s_is_whole p_is_whole) (T : Tx K mg) (i : Int) : Fc P w K mg base Pt 1 "is_whole" p_is_whole [.int i] (fun d => d = .bool true) := by
  refine mkF D sc_is_whole rfl fun f cdv A outer s H E F0 hr => ?_
  refine Bk.ret (Dv.and (Dv.isInt T.isi T.int (Dv.var 0 rfl)) fun _ => Dv.one (Dv.not (Dv.isBool T.isi T.bool (Dv.var 0 rfl)))) fun d e => e

theorem ok_common (D : Df K mg "common" "common" s_common p_common) (T : Tx K mg) (a b : Int) : Fc P w K mg base Pt 1 "common" p_common [.int a, .int b] (fun d => d = .int ((Nat.gcd a.natAbs b.natAbs : Nat) : Int)) := by
  refine mkF D sc_common rfl fun f cdv A outer s H E F0 hr => ?_
  have ha : ∀ i : Int, (PyData.int (if i < 0 then -i else i)) = .int (i.natAbs : Nat) := fun i => by
    congr 1
    split <;> omega
  refine Bk.par 0 1 (Da.c (Dv.is (Dv.abs T.abs (Dv.var 0 rfl)) (ha a)) (Da.c (Dv.is (Dv.abs T.abs (Dv.var 1 rfl)) (ha b)) Da.nil)) (fun ds e => ⟨_, _, e, ?_⟩) rfl sc_common.nd (by decide) rfl
  refine Bk.while PassesOwn.never (fun m ρ' => ∃ x y : Nat, y = m ∧ Nat.gcd x y = Nat.gcd a.natAbs b.natAbs ∧ ρ' = [.d (.int (x : Nat)), .d (.int (y : Nat))]) b.natAbs ⟨a.natAbs, b.natAbs, rfl, rfl, rfl⟩ ?_
  rintro m ρ' ⟨x, y, e1, e2, rfl⟩
  rcases Nat.eq_zero_or_pos y with h | h
  · refine .inr ⟨Dt.is (Dt.ne hr.units (Dv.var 1 rfl) Dv.int) (by subst h; rfl), ?_⟩
    refine Bk.ret (Dv.var 0 rfl) fun d e => ?_
    rw [e, ← e2, h, Nat.gcd_zero_right]
  · refine .inl ⟨Dt.is (Dt.ne hr.units (Dv.var 1 rfl) Dv.int) ?_, ?_⟩
    · show (!((y : Int) == 0)) = true
      rw [Bool.not_eq_true', beq_eq_false_iff_ne]
      omega
    · refine Bk.par 0 1 (Da.c (Dv.var 1 rfl) (Da.c (Dv.mod (Dv.var 0 rfl) (Dv.var 1 rfl) (by omega)) Da.nil)) (fun ds e => ⟨_, _, e, ?_⟩) rfl sc_common.nd (by decide) rfl
      refine Bk.nil ⟨x % y, by rw [← e1]; exact Nat.mod_lt _ h, y, x % y, rfl, ?_, ?_⟩
      · rw [← e2, Nat.gcd_comm y, Nat.gcd_comm x y, ← Nat.gcd_rec]
      · show [AV.d (.int (y : Nat)), AV.d (.int ((x : Int) % (y : Int)))] = _
        rw [← Int.natCast_emod]
theorem shaped_int (i : Int) : SeqAt.shaped (.int i) = true := rfl
theorem ok_is_part (D : Df K mg "is_part" "is_part" s_is_part p_is_part) (T : Tx K mg) (gW : ∀ i, Fc P w K mg base Pt 1 "is_whole" p_is_whole [.int i] (fun d => d = .bool true))
    (gC : ∀ a b : Int, Fc P w K mg base Pt 1 "common" p_common [.int a, .int b] (fun d => d = .int ((Nat.gcd a.natAbs b.natAbs : Nat) : Int))) (n : Int) : Fc P w K mg base Pt 2 "is_part" p_is_part [encP n] (fun d => d = .bool true) := by
  refine mkF D sc_is_part rfl fun f cdv A outer s H E F0 hr => ?_
  refine Bk.skip (Db.t (Db.is (Db.or (Dt.not (Dt.val (Dv.isTup T.isi T.tuple (Dv.var 0 rfl)))) fun _ => Db.or (Dt.ne hr.units (Dv.len T.len (Dv.var 0 rfl)) Dv.int) fun _ =>
    Db.or (Dt.not (Dt.val (Dw.fc (gW _) hr (Da.c (Dv.ix (Dv.var 0 rfl) Dv.int) Da.nil)))) fun _ => Db.or1 (Dt.not (Dt.val (Dw.fc (gW _) hr (Da.c (Dv.ix (Dv.var 0 rfl) Dv.int) Da.nil))))) rfl)) ?_
  refine Bk.ret (Dv.and (Dv.ge (Dv.ix (Dv.var 0 rfl) Dv.int) Dv.int) fun _ => Dv.one (Dv.eq hr.units (Dw.fc (gC _ _) hr (Da.c (Dv.ix (Dv.var 0 rfl) Dv.int) (Da.c (Dv.ix (Dv.var 0 rfl) Dv.int) Da.nil))) Dv.int)) fun d e => ?_
  rw [e, gcd_one]
  have h : decide ((1 : Int) ≤ den n) = true := by
    rcases den_cases n with e | e | e | e <;> rw [e] <;> rfl
  rw [h]
  rfl
end
end Hb

namespace Hb
open PySem PySem.Spec PyProof.Rows L2 RZ
open Evl (Ex)
abbrev as1 : PyData → Option (List PyData) := fun d => some [d]
section
variable {Z : Vz} {X : Cx} {e : Expr} {es : List Expr} {ρ : List AV}
theorem Dv.comp {scope : Scope} {tg elt it : Expr} {ifs : List Expr} {own : List (Str × Nat)} {is : List Nat} {as : PyData → Option (List PyData)} {keep : PyData → Bool} {g : PyData → PyData} {ds : List PyData} {pos : Pos}
    (hc : X.calm = true) (hN : X.N.Nodup) (ok : BlkOk X.N X.env.scope scope own) (hw : Wk Z X tg it ρ false fun x => x = ds) (his : ∀ i ∈ is, i ∈ own.map (·.2)) (hlen : ds.length ≤ 100000) (hel : ∀ d ∈ ds, Elt Z X scope tg elt ifs (own.map (·.2)) ρ is as keep (fun d e => e = g d) d)
    (hs : ∀ x, foldedSetIterable it X.env x = pure x := by intro _; rfl) : Dv Z X (.ListComp elt [⟨tg, it, ifs, 0⟩] scope pos) ρ (.list ((ds.filter keep).map g)) :=
  ((Dn.comp (keep := keep) (ψ := fun d e => e = g d) hc hN ok hw his (fun x e => by rw [e]; exact ⟨hlen, hel⟩) hs).mono fun out h => by
    obtain ⟨x, e, r⟩ := h
    rw [← e]
    exact r.fn).v
theorem Dv.compA {scope : Scope} {tg elt it : Expr} {ifs : List Expr} {own : List (Str × Nat)} {is : List Nat} {as : PyData → Option (List PyData)} {g : PyData → PyData} {ds : List PyData} {pos : Pos}
    (hc : X.calm = true) (hN : X.N.Nodup) (ok : BlkOk X.N X.env.scope scope own) (hw : Wk Z X tg it ρ false fun x => x = ds) (his : ∀ i ∈ is, i ∈ own.map (·.2)) (hlen : ds.length ≤ 100000) (hel : ∀ d ∈ ds, Elt Z X scope tg elt ifs (own.map (·.2)) ρ is as (fun _ => true) (fun d e => e = g d) d)
    (hs : ∀ x, foldedSetIterable it X.env x = pure x := by intro _; rfl) : Dv Z X (.ListComp elt [⟨tg, it, ifs, 0⟩] scope pos) ρ (.list (ds.map g)) :=
  (Dv.comp hc hN ok hw his hlen hel hs).is (by rw [List.filter_eq_self.mpr fun _ _ => rfl])
theorem Wk.tupD {tg : Expr} {b : Bool} {ds : List PyData} (h : Dv Z X e ρ (.tuple ds)) : Wk Z X tg e ρ b fun x => x = ds := Wk.tup (h.mono fun d e => ⟨ds, rfl, e⟩)
theorem Wk.lstD {tg : Expr} {b : Bool} {ds : List PyData} (h : Dv Z X e ρ (.list ds)) : Wk Z X tg e ρ b fun x => x = ds := Wk.lst (h.mono fun d e => ⟨ds, rfl, e⟩)
end
theorem mul_ok {i j : Int} (h0 : -1000000000000 ≤ i) (h1 : i ≤ 1000000000000) : CMul i j := .inl (by constructor <;> omega)
section
variable {P : Program} {w : World} {K : PySem.W.Frag} {mg : Str → Option Value} {base : Heap} {Pt : Addr}
abbrev GW (P : Program) (w : World) (K : PySem.W.Frag) (mg : Str → Option Value) (base : Heap) (Pt : Addr) : Prop := ∀ i, Fc P w K mg base Pt 1 "is_whole" p_is_whole [.int i] (fun d => d = .bool true)
abbrev GC (P : Program) (w : World) (K : PySem.W.Frag) (mg : Str → Option Value) (base : Heap) (Pt : Addr) : Prop := ∀ a b : Int, Fc P w K mg base Pt 1 "common" p_common [.int a, .int b] (fun d => d = .int ((Nat.gcd a.natAbs b.natAbs : Nat) : Int))
abbrev GIsPart (P : Program) (w : World) (K : PySem.W.Frag) (mg : Str → Option Value) (base : Heap) (Pt : Addr) : Prop := ∀ n : Int, Fc P w K mg base Pt 2 "is_part" p_is_part [encP n] (fun d => d = .bool true)
abbrev GMade (P : Program) (w : World) (K : PySem.W.Frag) (mg : Str → Option Value) (base : Heap) (Pt : Addr) (k : Nat) (x : Str) (ps : List Str) : Prop := ∀ t b n : Int, 0 < b → b ≤ 1000 → t * 6 = n * b → Fc P w K mg base Pt k x ps [.int t, .int b] (fun d => d = encP n)
theorem gcd_pos {t b : Int} (hb : 0 < b) (h2 : b ≤ 1000) : CDiv t ((Nat.gcd t.natAbs b.natAbs : Nat) : Int) := by
  have h1 : 0 < Nat.gcd t.natAbs b.natAbs := Nat.gcd_pos_of_pos_right _ (by omega)
  have h3 : Nat.gcd t.natAbs b.natAbs ≤ b.natAbs := Nat.gcd_le_right _ (by omega)
  exact ⟨by omega, by omega⟩
theorem ok_made (D : Df K mg "made" "made" s_made p_made) (T : Tx K mg) (gC : GC P w K mg base Pt) : GMade P w K mg base Pt 2 "made" p_made := fun t b n hb hb2 hn => by
  refine mkF D sc_made rfl fun f cdv A outer s H E F0 hr => ?_
  refine Bk.skip (Dt.is (Dt.lt (Dv.var 1 rfl) Dv.int) (decide_eq_false (by omega))) ?_
  refine Bk.set 2 (Dw.fc (gC t b) hr (Da.c (Dv.var 0 rfl) (Da.c (Dv.var 1 rfl) Da.nil))) (fun d e => ?_) sc_made.nd
  subst e
  refine Bk.ret (Dv.tup (Da.c (Dv.fdiv (Dv.var 0 rfl) (Dv.var 2 rfl) (gcd_pos hb hb2)) (Da.c (Dv.fdiv (Dv.var 1 rfl) (Dv.var 2 rfl) ?_) Da.nil))) fun d e => ?_
  · have h := gcd_pos (t := t) hb hb2
    exact ⟨h.1, h.2⟩
  · obtain ⟨h1, h2⟩ := lowest hb hn
    rw [e, h1, h2]
    rfl
theorem den_pos (n : Int) : 0 < den n ∧ den n ≤ 6 := by
  rcases den_cases n with e | e | e | e <;> rw [e] <;> omega
theorem den_mul (n m : Int) : 0 < den n * den m ∧ den n * den m ≤ 1000 := by
  rcases den_cases n with e | e | e | e <;> rcases den_cases m with f | f | f | f <;> rw [e, f] <;> omega
theorem den_ok (n : Int) (j : Int) : CMul (den n) j := mul_ok (by have := den_pos n; omega) (by have := den_pos n; omega)
/-- so great at most -/
abbrev Bd (n : Int) : Prop := -1000000 ≤ n ∧ n ≤ 1000000
theorem num_ok {n : Int} (h : Bd n) (j : Int) : CMul (num n) j := by
  have := num_bound (B := 1000000) h.1 h.2 (by omega)
  exact mul_ok (by omega) (by omega)
abbrev GBin (P : Program) (w : World) (K : PySem.W.Frag) (mg : Str → Option Value) (base : Heap) (Pt : Addr) (k : Nat) (x : Str) (ps : List Str) (g : Int → Int → PyData) : Prop := ∀ n m : Int, Bd n → Bd m → Fc P w K mg base Pt k x ps [encP n, encP m] (fun d => d = g n m)
theorem ok_plus (D : Df K mg "plus" "plus" s_plus p_plus) (T : Tx K mg) (gM : GMade P w K mg base Pt 2 "made" p_made) : GBin P w K mg base Pt 3 "plus" p_plus fun n m => encP (n + m) := fun n m hn hm => by
  refine mkF D sc_plus rfl fun f cdv A outer s H E F0 hr => ?_
  refine Bk.ret (Dw.fc (gM (num n * den m + num m * den n) (den n * den m) (n + m) (den_mul n m).1 (den_mul n m).2 (sum_parts n m)) hr
    (Da.c (Dv.add (Dv.mul (Dv.ix (Dv.var 0 rfl) Dv.int) (Dv.ix (Dv.var 1 rfl) Dv.int) (num_ok hn _)) (Dv.mul (Dv.ix (Dv.var 1 rfl) Dv.int) (Dv.ix (Dv.var 0 rfl) Dv.int) (num_ok hm _)))
      (Da.c (Dv.mul (Dv.ix (Dv.var 0 rfl) Dv.int) (Dv.ix (Dv.var 1 rfl) Dv.int) (den_ok n _)) Da.nil))) fun d e => e
theorem ok_minus (D : Df K mg "minus" "minus" s_minus p_minus) (T : Tx K mg) (gM : GMade P w K mg base Pt 2 "made" p_made) : GBin P w K mg base Pt 3 "minus" p_minus fun n m => encP (n - m) := fun n m hn hm => by
  refine mkF D sc_minus rfl fun f cdv A outer s H E F0 hr => ?_
  refine Bk.ret (Dw.fc (gM (num n * den m - num m * den n) (den n * den m) (n - m) (den_mul n m).1 (den_mul n m).2 (diff_parts n m)) hr
    (Da.c (Dv.sub (Dv.mul (Dv.ix (Dv.var 0 rfl) Dv.int) (Dv.ix (Dv.var 1 rfl) Dv.int) (num_ok hn _)) (Dv.mul (Dv.ix (Dv.var 1 rfl) Dv.int) (Dv.ix (Dv.var 0 rfl) Dv.int) (num_ok hm _)))
      (Da.c (Dv.mul (Dv.ix (Dv.var 0 rfl) Dv.int) (Dv.ix (Dv.var 1 rfl) Dv.int) (den_ok n _)) Da.nil))) fun d e => e
theorem ok_smaller (D : Df K mg "smaller" "smaller" s_smaller p_smaller) (T : Tx K mg) : GBin P w K mg base Pt 1 "smaller" p_smaller fun n m => .bool (decide (n < m)) := fun n m hn hm => by
  refine mkF D sc_smaller rfl fun f cdv A outer s H E F0 hr => ?_
  refine Bk.ret (Dv.lt (Dv.mul (Dv.ix (Dv.var 0 rfl) Dv.int) (Dv.ix (Dv.var 1 rfl) Dv.int) (num_ok hn _)) (Dv.mul (Dv.ix (Dv.var 1 rfl) Dv.int) (Dv.ix (Dv.var 0 rfl) Dv.int) (num_ok hm _))) fun d e => ?_
  rw [e]
  congr 1
  exact decide_eq_decide.mpr (lt_iff n m)
/-- the parts of some numbers -/
abbrev encL (ns : List Int) : List PyData := ns.map encP
/-- sums stay small on the way -/
def SumOk (ns : List Int) : Prop := ∀ i : Nat, Bd (ns.take i).sum ∧ ∀ n ∈ ns, Bd n
theorem ok_total (D : Df K mg "total" "total" s_total p_total) (T : Tx K mg) (gP : GBin P w K mg base Pt 3 "plus" p_plus fun n m => encP (n + m)) (ns : List Int) (hb : SumOk ns) : Fc P w K mg base Pt 4 "total" p_total [.list (encL ns)] (fun d => d = encP ns.sum) := by
  refine mkF D sc_total rfl fun f cdv A outer s H E F0 hr => ?_
  refine Bk.set 1 (Dv.nought T.nought) (fun d e => ?_) sc_total.nd
  subst e
  refine Bk.for PassesOwn.never rfl (Wk.lstD (Dv.var 0 rfl)) (Gt.name 2 sc_total.nd) (fun ds i ρ' => ∃ av, ρ' = [.d (.list (encL ns)), .d (encP (ns.take i).sum), av]) (fun ds e => ⟨.no, by rw [List.take_zero]; rfl⟩) ?_ ?_
  · rintro ds rfl i d ρ' hd ⟨av, rfl⟩
    rw [List.getElem?_map] at hd
    cases q : ns[i]? with
    | none => rw [q] at hd; cases hd
    | some n =>
      rw [q] at hd
      cases hd
      refine ⟨_, rfl, ?_⟩
      refine Bk.set 1 (Dw.fc (gP _ _ (hb i).1 ((hb i).2 n (List.mem_of_getElem? q))) hr (Da.c (Dv.var 1 rfl) (Da.c (Dv.var 2 rfl) Da.nil))) (fun d e => ?_) sc_total.nd
      subst e
      refine Bk.nil ⟨.d (encP n), ?_⟩
      rw [L2.sum_take q]
      rfl
  · rintro ds rfl ρ' ⟨av, rfl⟩
    refine Bk.ret (Dv.var 1 rfl) fun d e => ?_
    rw [e, List.length_map, List.take_length]
theorem ok_not_below (D : Df K mg "not_below" "not_below" s_not_below p_not_below) (T : Tx K mg) (gI : GIsPart P w K mg base Pt) (n : Int) (hn : 0 ≤ n) : Fc P w K mg base Pt 3 "not_below" p_not_below [encP n] (fun d => d = .bool true) := by
  refine mkF D sc_not_below rfl fun f cdv A outer s H E F0 hr => ?_
  refine Bk.ret (Dv.and (Dw.fc (gI n) hr (Da.c (Dv.var 0 rfl) Da.nil)) fun _ => Dv.one (Dv.ge (Dv.ix (Dv.var 0 rfl) Dv.int) Dv.int)) fun d e => ?_
  rw [e, decide_eq_true ((num_nn n).mpr hn)]
  rfl
theorem ok_are_amounts (D : Df K mg "are_amounts" "are_amounts" s_are_amounts p_are_amounts) (T : Tx K mg) (gB : ∀ n, 0 ≤ n → Fc P w K mg base Pt 3 "not_below" p_not_below [encP n] (fun d => d = .bool true)) (ns : List Int) (hn : ∀ n ∈ ns, 0 ≤ n) (hl : ns.length ≤ 1000) :
    Fc P w K mg base Pt 4 "are_amounts" p_are_amounts [.tuple (encL ns), .int ns.length] (fun d => d = .bool true) := by
  refine mkF D sc_are_amounts rfl fun f cdv A outer s H E F0 hr => ?_
  refine Bk.ret (Dv.and (Dv.isTup T.isi T.tuple (Dv.var 0 rfl)) fun _ => Dv.and (Dv.eq hr.units (Dv.len T.len (Dv.var 0 rfl)) (Dv.var 1 rfl)) fun _ =>
    Dv.one (Dv.all (bs := ns.map fun _ => true) rfl T.all (Dv.is (Dv.compA (own := [("one", 2)]) (g := fun _ => .bool true) rfl sc_are_amounts.nd (blkOk_by (N := n_are_amounts) (sc := defScope s_are_amounts) (by decide +kernel)) (Wk.tupD (Dv.var 0 rfl)) (is := [2]) (as := as1) (by decide)
      (by rw [List.length_map]; omega) (fun d hd => ?_)) (by rw [List.map_map, List.map_map]; rfl)))) fun d e => ?_
  · obtain ⟨n, h1, rfl⟩ := List.mem_map.mp hd
    exact ⟨_, rfl, fun s H C cl fp => ⟨Gt.name 2 sc_are_amounts.nd, Ts.nil, fun _ => Dw.fc (gB n (hn n h1)) hr (Da.c (Dv.var 2 rfl) Da.nil)⟩⟩
  · rw [e]
    have h1 : ((ns.map fun _ => true).all id) = true := by
      rw [List.all_eq_true]
      intro x hx
      obtain ⟨_, _, rfl⟩ := List.mem_map.mp hx
      rfl
    rw [h1, List.length_map]
    show PyData.bool (true && (PyData.eqv (.int ns.length) (.int ns.length) && true)) = _
    rw [show PyData.eqv (.int (ns.length : Int)) (.int ns.length) = true from beq_self_eq_true _]
    rfl
end
end Hb

/-! lots and plans in plain Lean: taking what ends first fails only where too much is wanted -/
namespace Hb
structure Lot where
  stuff : Int
  amt : Int
  first : Int
  last : Int
def isOpen (l : Lot) (s d : Int) : Bool := decide (l.stuff = s) && (decide (l.first ≤ d) && decide (d ≤ l.last))
theorem isOpen_iff {l : Lot} {s d : Int} : isOpen l s d = true ↔ l.stuff = s ∧ l.first ≤ d ∧ d ≤ l.last := by
  unfold isOpen
  simp only [Bool.and_eq_true, decide_eq_true_eq]
abbrev Row := Int × Nat × Int
def l0 : Lot := ⟨0, 0, 0, 0⟩
/-- what stands at a place -/
abbrev at_ (r : List Int) (j : Nat) : Int := r.getD j 0
theorem at_set {r : List Int} {j : Nat} {y : Int} (h : j < r.length) (k : Nat) : at_ (r.set j y) k = if k = j then y else at_ r k := by
  unfold at_
  rw [List.getD_eq_getElem?_getD, List.getD_eq_getElem?_getD]
  by_cases e : k = j
  · subst e
    rw [if_pos rfl, List.getElem?_set_self h]
    rfl
  · rw [if_neg e, List.getElem?_set_ne (Ne.symm e)]
/-! ### one day, one stuff: what ends first is taken first -/
def tk (d : Int) : List Nat → List Int → Int → List Row → List Int × Int × List Row
  | [], r, w, f => (r, w, f)
  | j :: o, r, w, f =>
    if 0 < (if at_ r j < w then at_ r j else w) then tk d o (r.set j (at_ r j - (if at_ r j < w then at_ r j else w))) (w - (if at_ r j < w then at_ r j else w)) (f ++ [(d, j, (if at_ r j < w then at_ r j else w))])
    else tk d o r w f
def sumJ (j : Nat) : List Row → Int
  | [] => 0
  | x :: g => (if x.2.1 = j then x.2.2 else 0) + sumJ j g
def sumG (p : Row → Bool) : List Row → Int
  | [] => 0
  | x :: g => (if p x = true then x.2.2 else 0) + sumG p g
theorem sumJ_cons (j : Nat) (x : Row) (g : List Row) : sumJ j (x :: g) = (if x.2.1 = j then x.2.2 else 0) + sumJ j g := rfl
theorem sumG_cons (p : Row → Bool) (x : Row) (g : List Row) : sumG p (x :: g) = (if p x = true then x.2.2 else 0) + sumG p g := rfl
theorem sumJ_G (j : Nat) : ∀ g, sumJ j g = sumG (fun x => decide (x.2.1 = j)) g
  | [] => rfl
  | x :: g => by
    rw [sumJ_cons, sumG_cons, sumJ_G j g]
    congr 1
    by_cases h : x.2.1 = j
    · rw [if_pos h, if_pos (decide_eq_true h)]
    · rw [if_neg h, if_neg (by rw [decide_eq_false h]; exact Bool.false_ne_true)]
theorem sumG_app (p : Row → Bool) : ∀ f g, sumG p (f ++ g) = sumG p f + sumG p g
  | [], g => by simp [sumG]
  | x :: f, g => by
    rw [List.cons_append, sumG_cons, sumG_cons, sumG_app p f g]
    omega
theorem sumJ_app (j : Nat) (f g : List Row) : sumJ j (f ++ g) = sumJ j f + sumJ j g := by rw [sumJ_G, sumJ_G, sumJ_G, sumG_app]
theorem sumG_none {p : Row → Bool} : ∀ {g : List Row}, (∀ x ∈ g, p x = false) → sumG p g = 0
  | [], _ => rfl
  | x :: g, h => by
    rw [sumG_cons, if_neg (by rw [h x List.mem_cons_self]; exact Bool.false_ne_true), sumG_none fun y hy => h y (List.mem_cons_of_mem _ hy)]
    rfl
theorem sumG_congr {p q : Row → Bool} : ∀ {g : List Row}, (∀ x ∈ g, p x = q x) → sumG p g = sumG q g
  | [], _ => rfl
  | x :: g, h => by
    rw [sumG_cons, sumG_cons, h x List.mem_cons_self, sumG_congr fun y hy => h y (List.mem_cons_of_mem _ hy)]
theorem sumG_pos {p : Row → Bool} : ∀ {g : List Row}, (∀ x ∈ g, 0 < x.2.2) → 0 ≤ sumG p g
  | [], _ => Int.le_refl _
  | x :: g, h => by
    rw [sumG_cons]
    have h1 := h x List.mem_cons_self
    have h2 := sumG_pos (p := p) fun y hy => h y (List.mem_cons_of_mem _ hy)
    split <;> omega
/-- what one day's taking does -/
structure TkOk (d : Int) (o : List Nat) (r : List Int) (w : Int) (r' : List Int) (l : Int) (g : List Row) : Prop where
  len : r'.length = r.length
  out : ∀ j, j ∉ o → at_ r' j = at_ r j
  lo : ∀ j, 0 ≤ at_ r' j
  hi : ∀ j, at_ r' j ≤ at_ r j
  l0 : 0 ≤ l
  lw : l ≤ w
  row : ∀ x ∈ g, x.1 = d ∧ x.2.1 ∈ o ∧ 0 < x.2.2 ∧ x.2.2 ≤ w
  gl : g.length ≤ o.length
  sj : ∀ j, sumJ j g = at_ r j - at_ r' j
  all : sumG (fun _ => true) g = w - l
  lack : 0 < l → ∀ j ∈ o, at_ r' j = 0
  edf : o.Pairwise fun k j => at_ r' j < at_ r j → at_ r' k = 0
theorem tk_ok (d : Int) : ∀ (o : List Nat) (r : List Int) (w : Int) (f : List Row), o.Nodup → (∀ j ∈ o, j < r.length) → (∀ j, 0 ≤ at_ r j) → 0 ≤ w →
    ∃ r' l g, tk d o r w f = (r', l, f ++ g) ∧ TkOk d o r w r' l g
  | [], r, w, f, _, _, hr, hw => ⟨r, w, [], by unfold tk; rw [List.append_nil], rfl, fun _ _ => rfl, hr, fun _ => Int.le_refl _, hw, Int.le_refl _, fun _ h => (List.not_mem_nil h).elim, Nat.le_refl _, fun j => by simp [sumJ], by simp [sumG], fun _ _ h => (List.not_mem_nil h).elim, List.Pairwise.nil⟩
  | j :: o, r, w, f, hn, hl, hr, hw => by
    obtain ⟨hj, hn'⟩ := List.nodup_cons.mp hn
    have hjl := hl j List.mem_cons_self
    have hrj := hr j
    unfold tk
    generalize ha : (if at_ r j < w then at_ r j else w) = a
    have ha1 : a ≤ at_ r j ∧ a ≤ w ∧ 0 ≤ a ∧ (a = at_ r j ∨ a = w) := by
      rw [← ha]
      split <;> omega
    by_cases h0 : 0 < a
    · rw [if_pos h0]
      have hset := fun k => at_set (y := at_ r j - a) hjl k
      have hr2 : ∀ k, 0 ≤ at_ (r.set j (at_ r j - a)) k := fun k => by
        rw [hset]
        split
        · omega
        · exact hr k
      obtain ⟨r', l, g, e, T⟩ := tk_ok d o (r.set j (at_ r j - a)) (w - a) (f ++ [(d, j, a)]) hn' (fun k hk => by rw [List.length_set]; exact hl k (List.mem_cons_of_mem _ hk)) hr2 (by omega)
      have rj : at_ r' j = at_ r j - a := by rw [T.out j hj, hset, if_pos rfl]
      have rk : ∀ k, k ≠ j → at_ (r.set j (at_ r j - a)) k = at_ r k := fun k hk => by rw [hset, if_neg hk]
      refine ⟨r', l, (d, j, a) :: g, by rw [e, List.append_assoc]; rfl, ⟨by rw [T.len, List.length_set], fun k hk => ?_, T.lo, fun k => ?_, T.l0, by have := T.lw; omega, fun x hx => ?_, by have := T.gl; simp only [List.length_cons]; omega, fun k => ?_, ?_, fun hl0 k hk => ?_, ?_⟩⟩
      · rw [T.out k fun z => hk (List.mem_cons_of_mem _ z), rk k fun z => hk (by rw [z]; exact List.mem_cons_self)]
      · by_cases hk : k = j
        · rw [hk, rj]; omega
        · have := T.hi k
          rw [rk k hk] at this
          exact this
      · rcases List.mem_cons.mp hx with rfl | hx
        · exact ⟨rfl, List.mem_cons_self, h0, ha1.2.1⟩
        · obtain ⟨h1, h2, h3, h4⟩ := T.row x hx
          exact ⟨h1, List.mem_cons_of_mem _ h2, h3, by omega⟩
      · rw [sumJ_cons, T.sj k]
        by_cases hk : j = k
        · subst hk
          rw [if_pos rfl, hset, if_pos rfl]
          show a + (at_ r j - a - at_ r' j) = at_ r j - at_ r' j
          omega
        · rw [if_neg hk, rk k (Ne.symm hk)]
          omega
      · rw [sumG_cons, T.all, if_pos rfl]
        show a + (w - a - l) = w - l
        omega
      · rcases List.mem_cons.mp hk with rfl | hk
        · rw [rj]
          have h1 := T.lw
          omega
        · exact T.lack hl0 k hk
      · refine List.pairwise_cons.mpr ⟨fun k hk hlt => ?_, T.edf.imp_of_mem fun {k m} hk hm h hlt => ?_⟩
        · -- something was taken of k, so j was emptied
          have hkj : k ≠ j := fun z => hj (by rw [← z]; exact hk)
          have h1 : 0 < sumJ k g := by
            rw [T.sj k, rk k hkj]
            omega
          have hw2 : 0 < w - a := by
            rcases Int.lt_or_le 0 (w - a) with z | z
            · exact z
            · have h2 : sumJ k g ≤ sumG (fun _ => true) g := by
                rw [sumJ_G]
                have : ∀ g : List Row, (∀ x ∈ g, 0 < x.2.2) → sumG (fun x => decide (x.2.1 = k)) g ≤ sumG (fun _ => true) g := by
                  intro g
                  induction g with
                  | nil => intro _; exact Int.le_refl _
                  | cons x g ih =>
                    intro h
                    rw [sumG_cons, sumG_cons]
                    have h1 := h x List.mem_cons_self
                    have h2 := ih fun y hy => h y (List.mem_cons_of_mem _ hy)
                    rw [if_pos (rfl : true = true)]
                    split <;> omega
                exact this g fun x hx => (T.row x hx).2.2.1
              have h3 := T.all
              have h4 := T.l0
              omega
          rw [rj]
          omega
        · have hmj : m ≠ j := fun z => hj (by rw [← z]; exact hm)
          exact h (by rw [rk m hmj]; exact hlt)
    · rw [if_neg h0]
      obtain ⟨r', l, g, e, T⟩ := tk_ok d o r w f hn' (fun k hk => hl k (List.mem_cons_of_mem _ hk)) hr hw
      have a0 : a = 0 := by omega
      refine ⟨r', l, g, e, ⟨T.len, fun k hk => T.out k fun z => hk (List.mem_cons_of_mem _ z), T.lo, T.hi, T.l0, T.lw, fun x hx => ?_, Nat.le_succ_of_le T.gl, T.sj, T.all, fun hl0 k hk => ?_, ?_⟩⟩
      · obtain ⟨h1, h2, h3, h4⟩ := T.row x hx
        exact ⟨h1, List.mem_cons_of_mem _ h2, h3, h4⟩
      · rcases List.mem_cons.mp hk with rfl | hk
        · rw [T.out k hj]
          have h1 := T.lw
          omega
        · exact T.lack hl0 k hk
      · refine List.pairwise_cons.mpr ⟨fun k hk hlt => ?_, T.edf⟩
        rw [T.out j hj]
        have h1 : 0 < sumJ k g := by rw [T.sj k]; omega
        have h2 : w ≠ 0 := fun z => by
          have h3 : ∀ g : List Row, (∀ x ∈ g, 0 < x.2.2 ∧ x.2.2 ≤ w) → g = [] := by
            intro g hg
            cases g with
            | nil => rfl
            | cons x g =>
              have := hg x List.mem_cons_self
              omega
          rw [h3 g fun x hx => ⟨(T.row x hx).2.2.1, (T.row x hx).2.2.2⟩] at h1
          simp [sumJ] at h1
        omega
end Hb

namespace Hb
/-! ### sums over lots -/
def sumF (f : Lot → Nat → Int) : List Lot → Nat → Int
  | [], _ => 0
  | l :: ls, i => f l i + sumF f ls (i + 1)
theorem sumF_cons (f : Lot → Nat → Int) (l : Lot) (ls : List Lot) (i : Nat) : sumF f (l :: ls) i = f l i + sumF f ls (i + 1) := rfl
theorem sumF_le {f g : Lot → Nat → Int} : ∀ {ls : List Lot} {i : Nat}, (∀ (j : Nat) (l : Lot), ls[j]? = some l → f l (i + j) ≤ g l (i + j)) → sumF f ls i ≤ sumF g ls i
  | [], _, _ => Int.le_refl _
  | l :: ls, i, h => by
    rw [sumF_cons, sumF_cons]
    have h1 := h 0 l rfl
    have h2 := sumF_le (f := f) (g := g) (ls := ls) (i := i + 1) fun j l' e => by
      have := h (j + 1) l' e
      rw [show i + 1 + j = i + (j + 1) by omega]
      exact this
    rw [Nat.add_zero] at h1
    omega
theorem sumF_eq {f g : Lot → Nat → Int} {ls : List Lot} {i : Nat} (h : ∀ (j : Nat) (l : Lot), ls[j]? = some l → f l (i + j) = g l (i + j)) : sumF f ls i = sumF g ls i :=
  Int.le_antisymm (sumF_le fun j l e => Int.le_of_eq (h j l e)) (sumF_le fun j l e => Int.le_of_eq (h j l e).symm)
theorem sumF_add {f g : Lot → Nat → Int} : ∀ {ls : List Lot} {i : Nat}, sumF (fun l j => f l j + g l j) ls i = sumF f ls i + sumF g ls i
  | [], _ => rfl
  | l :: ls, i => by
    rw [sumF_cons, sumF_cons, sumF_cons, sumF_add]
    omega
theorem sumF_sub {f g : Lot → Nat → Int} : ∀ {ls : List Lot} {i : Nat}, sumF (fun l j => f l j - g l j) ls i = sumF f ls i - sumF g ls i
  | [], _ => rfl
  | l :: ls, i => by
    rw [sumF_cons, sumF_cons, sumF_cons, sumF_sub]
    omega
theorem sumF_zero : ∀ {ls : List Lot} {i : Nat}, sumF (fun _ _ => 0) ls i = 0
  | [], _ => rfl
  | l :: ls, i => by
    rw [sumF_cons, sumF_zero]
    rfl
theorem sumF_nn {f : Lot → Nat → Int} {ls : List Lot} {i : Nat} (h : ∀ (j : Nat) (l : Lot), ls[j]? = some l → 0 ≤ f l (i + j)) : 0 ≤ sumF f ls i := by
  have := sumF_le (f := fun _ _ => 0) (g := f) (ls := ls) (i := i) h
  rw [sumF_zero] at this
  exact this
theorem sumF_single {h : Lot → Int} : ∀ {ls : List Lot} {i k : Nat} {l : Lot}, ls[k]? = some l → sumF (fun l j => if i + k = j then h l else 0) ls i = h l
  | [], _, _, _, e => by simp at e
  | m :: ls, i, 0, l, e => by
    simp at e
    subst e
    rw [sumF_cons, Nat.add_zero, if_pos rfl]
    have : sumF (fun l j => if i = j then h l else 0) ls (i + 1) = sumF (fun _ _ => 0) ls (i + 1) := sumF_eq fun j l _ => if_neg (by omega)
    rw [this, sumF_zero]
    omega
  | m :: ls, i, k + 1, l, e => by
    rw [sumF_cons, if_neg (by omega)]
    have := sumF_single (h := h) (ls := ls) (i := i + 1) (k := k) (l := l) (by simpa using e)
    rw [show i + 1 + k = i + (k + 1) by omega] at this
    rw [this]
    omega
/-- what stands in the lots of a kind -/
def sumOn (p : Lot → Bool) (ls : List Lot) (r : List Int) : Int := sumF (fun l j => if p l = true then at_ r j else 0) ls 0
theorem sumOn_mono {p q : Lot → Bool} {ls : List Lot} {r : List Int} (hr : ∀ j, 0 ≤ at_ r j) (h : ∀ (j : Nat) l, ls[j]? = some l → p l = true → q l = true ∨ at_ r j = 0) : sumOn p ls r ≤ sumOn q ls r :=
  sumF_le fun j l e => by
    rw [Nat.zero_add]
    have h1 := hr j
    by_cases hp : p l = true
    · rw [if_pos hp]
      rcases h j l e hp with z | z
      · rw [if_pos z]
        exact Int.le_refl _
      · rw [z]
        split <;> exact Int.le_refl _
    · rw [if_neg hp]
      split <;> omega
theorem sumOn_nn {p : Lot → Bool} {ls : List Lot} {r : List Int} (hr : ∀ j, 0 ≤ at_ r j) : 0 ≤ sumOn p ls r := sumF_nn fun j l _ => by
  have := hr (0 + j)
  split <;> omega
theorem rows_sum {p : Lot → Bool} {ls : List Lot} : ∀ {g : List Row}, (∀ x ∈ g, x.2.1 < ls.length) → sumF (fun l j => if p l = true then sumJ j g else 0) ls 0 = sumG (fun x => p (ls.getD x.2.1 l0)) g
  | [], _ => by
    have : sumF (fun l j => if p l = true then sumJ j [] else 0) ls 0 = sumF (fun _ _ => 0) ls 0 := sumF_eq fun j l _ => by
      split <;> rfl
    rw [this, sumF_zero]
    rfl
  | x :: g, h => by
    have hx := h x List.mem_cons_self
    have e : sumF (fun l j => if p l = true then sumJ j (x :: g) else 0) ls 0 = sumF (fun l j => (if 0 + x.2.1 = j then (fun l => if p l = true then x.2.2 else 0) l else 0) + (if p l = true then sumJ j g else 0)) ls 0 := sumF_eq fun j l _ => by
      rw [sumJ_cons, Nat.zero_add, Nat.zero_add]
      by_cases hp : p l = true
      · rw [if_pos hp, if_pos hp]
        show _ = (if x.2.1 = j then (if p l = true then x.2.2 else 0) else 0) + _
        rw [if_pos hp]
      · rw [if_neg hp, if_neg hp]
        show _ = (if x.2.1 = j then (if p l = true then x.2.2 else 0) else 0) + _
        rw [if_neg hp]
        split <;> rfl
    have es : ls[x.2.1]? = some (ls.getD x.2.1 l0) := by
      rw [List.getD_eq_getElem?_getD, List.getElem?_eq_getElem hx]
      rfl
    rw [e, sumF_add, sumF_single (h := fun l => if p l = true then x.2.2 else 0) es, rows_sum fun y hy => h y (List.mem_cons_of_mem _ hy), sumG_cons]
theorem sumOn_tk {p : Lot → Bool} {ls : List Lot} {d : Int} {o : List Nat} {r r' : List Int} {w l : Int} {g : List Row} (T : TkOk d o r w r' l g) (ho : ∀ j ∈ o, j < ls.length) : sumOn p ls r' = sumOn p ls r - sumG (fun x => p (ls.getD x.2.1 l0)) g := by
  rw [← rows_sum fun x hx => ho _ (T.row x hx).2.1]
  unfold sumOn
  rw [← sumF_sub]
  refine sumF_eq fun j l e => ?_
  rw [Nat.zero_add, T.sj j]
  split <;> omega
/-! ### the order of taking -/
structure Ord (ls : List Lot) (s d : Int) (o : List Nat) : Prop where
  nd : o.Nodup
  mem : ∀ j, j ∈ o ↔ ∃ l, ls[j]? = some l ∧ isOpen l s d = true
  le : o.Pairwise fun k j => (ls.getD k l0).last ≤ (ls.getD j l0).last
theorem getD_of {ls : List Lot} {j : Nat} {l : Lot} (h : ls[j]? = some l) : ls.getD j l0 = l := by
  rw [List.getD_eq_getElem?_getD, h]
  rfl
theorem Ord.lt {ls : List Lot} {s d : Int} {o : List Nat} (O : Ord ls s d o) : ∀ j ∈ o, j < ls.length := fun j h => by
  obtain ⟨l, e, _⟩ := (O.mem j).mp h
  exact (List.getElem?_eq_some_iff.mp e).1
theorem Ord.open_ {ls : List Lot} {s d : Int} {o : List Nat} (O : Ord ls s d o) {j : Nat} (h : j ∈ o) : isOpen (ls.getD j l0) s d = true := by
  obtain ⟨l, e, q⟩ := (O.mem j).mp h
  rw [getD_of e]
  exact q
/-! ### wants -/
abbrev Heat := Int × List Int
def wantOn (s : Nat) (S : List Int) : List Heat → Int
  | [] => 0
  | h :: hs => (if h.1 ∈ S then h.2.getD s 0 else 0) + wantOn s S hs
theorem wantOn_cons (s : Nat) (S : List Int) (h : Heat) (hs : List Heat) : wantOn s S (h :: hs) = (if h.1 ∈ S then h.2.getD s 0 else 0) + wantOn s S hs := rfl
theorem wantOn_congr {s : Nat} {S S' : List Int} : ∀ {hs : List Heat}, (∀ h ∈ hs, h.1 ∈ S ↔ h.1 ∈ S') → wantOn s S hs = wantOn s S' hs
  | [], _ => rfl
  | h :: hs, k => by
    rw [wantOn_cons, wantOn_cons, wantOn_congr fun x hx => k x (List.mem_cons_of_mem _ hx)]
    have := k h List.mem_cons_self
    by_cases z : h.1 ∈ S
    · rw [if_pos z, if_pos (this.mp z)]
    · rw [if_neg z, if_neg fun y => z (this.mpr y)]
theorem wantOn_nil {s : Nat} : ∀ {hs : List Heat}, wantOn s [] hs = 0
  | [] => rfl
  | h :: hs => by
    rw [wantOn_cons, wantOn_nil, if_neg List.not_mem_nil]
    rfl
def opS (s : Nat) (S : List Int) (l : Lot) : Bool := S.any fun d => isOpen l s d
theorem opS_iff {s : Nat} {S : List Int} {l : Lot} : opS s S l = true ↔ ∃ d ∈ S, isOpen l s d = true := by
  unfold opS
  rw [List.any_eq_true]
def Hall (ls : List Lot) (s : Nat) (r : List Int) (hs : List Heat) : Prop := ∀ S : List Int, wantOn s S hs ≤ sumOn (opS s S) ls r
/-- one day of one stuff -/
theorem hall_step {ls : List Lot} {s : Nat} {r r' : List Int} {d w l : Int} {c : List Int} {hs : List Heat} {o : List Nat} {g : List Row} (O : Ord ls s d o) (T : TkOk d o r w r' l g) (hw : c.getD s 0 = w) (hd : ∀ h ∈ hs, d < h.1) (hp : hs.Pairwise fun a b => a.1 < b.1)
    (hh : Hall ls s r ((d, c) :: hs)) : l = 0 ∧ Hall ls s r' hs := by
  have notd : ∀ {S : List Int}, (∀ e ∈ S, ∃ h ∈ hs, h.1 = e) → d ∉ S := fun {S} k z => by
    obtain ⟨h, h1, h2⟩ := k d z
    have := hd h h1
    omega
  have rows : ∀ {p : Lot → Bool}, (∀ j ∈ o, p (ls.getD j l0) = true) → sumOn p ls r' = sumOn p ls r - (w - l) := fun {p} k => by
    rw [sumOn_tk T O.lt, sumG_congr (q := fun _ => true) fun x hx => k _ (T.row x hx).2.1, T.all]
  have ed : l = 0 := by
    rcases Int.lt_or_le 0 l with z | z
    · exfalso
      have h1 := hh [d]
      rw [wantOn_cons, if_pos List.mem_cons_self, show (d, c).2.getD s 0 = w from hw] at h1
      have h2 : 0 ≤ wantOn s [d] hs := by
        have : wantOn s [d] hs = wantOn s [] hs := wantOn_congr fun h hm => by
          have := hd h hm
          constructor
          · intro z
            rw [List.mem_singleton] at z
            omega
          · intro z
            exact (List.not_mem_nil z).elim
        rw [this, wantOn_nil]
        exact Int.le_refl _
      have h3 := rows (p := opS s [d]) fun j hj => opS_iff.mpr ⟨d, List.mem_cons_self, O.open_ hj⟩
      have h4 : sumOn (opS s [d]) ls r' = 0 := by
        refine Int.le_antisymm ?_ (sumOn_nn T.lo)
        have := sumOn_mono (q := fun _ => false) T.lo (p := opS s [d]) (ls := ls) fun j m e hm => .inr (T.lack z j ((O.mem j).mpr ⟨m, e, by
          obtain ⟨x, hx, hy⟩ := opS_iff.mp hm
          rw [List.mem_singleton.mp hx] at hy
          exact hy⟩))
        have h0 : sumOn (fun _ => false) ls r' = 0 := by
          unfold sumOn
          rw [sumF_eq (g := fun _ _ => 0) fun j l _ => if_neg Bool.false_ne_true, sumF_zero]
        omega
      omega
    · have := T.l0
      omega
  refine ⟨ed, fun S => ?_⟩
  -- only the days of hs matter
  let S1 := (hs.map (·.1)).filter fun e => decide (e ∈ S)
  have mS1 : ∀ e, e ∈ S1 ↔ (∃ h ∈ hs, h.1 = e) ∧ e ∈ S := fun e => by
    rw [List.mem_filter, List.mem_map, decide_eq_true_eq]
  have w1 : wantOn s S hs = wantOn s S1 hs := wantOn_congr fun h hm => by
    rw [mS1]
    exact ⟨fun z => ⟨⟨h, hm, rfl⟩, z⟩, fun z => z.2⟩
  have p1 : sumOn (opS s S1) ls r' ≤ sumOn (opS s S) ls r' := sumOn_mono T.lo fun j m _ hm => .inl (by
    obtain ⟨e, h1, h2⟩ := opS_iff.mp hm
    exact opS_iff.mpr ⟨e, ((mS1 e).mp h1).2, h2⟩)
  rw [w1]
  refine Int.le_trans ?_ p1
  have nd1 : d ∉ S1 := notd fun e he => ((mS1 e).mp he).1
  by_cases hrow : ∃ x ∈ g, opS s S1 (ls.getD x.2.1 l0) = true
  · obtain ⟨x, hx, hop⟩ := hrow
    obtain ⟨x1, x2, x3, x4⟩ := T.row x hx
    obtain ⟨e1, he1, ho1⟩ := opS_iff.mp hop
    have hj1 := isOpen_iff.mp ho1
    have hj2 := isOpen_iff.mp (O.open_ x2)
    -- with d beside S1 nothing more is left
    have key : sumOn (opS s (d :: S1)) ls r' ≤ sumOn (opS s S1) ls r' := sumOn_mono T.lo fun k m e hm => by
      obtain ⟨y, hy, hz⟩ := opS_iff.mp hm
      rcases List.mem_cons.mp hy with rfl | hy
      · by_cases hin : opS s S1 m = true
        · exact .inl hin
        · right
          have hk := isOpen_iff.mp hz
          -- m ends ahead of e1
          have hk1 : m.last < e1 := by
            rcases Int.lt_or_le m.last e1 with z | z
            · exact z
            · exfalso
              obtain ⟨⟨h, hm1, hm2⟩, _⟩ := (mS1 e1).mp he1
              have := hd h hm1
              exact hin (opS_iff.mpr ⟨e1, he1, isOpen_iff.mpr ⟨hk.1, by omega, z⟩⟩)
          have ko : k ∈ o := (O.mem k).mpr ⟨m, e, hz⟩
          have ne : k ≠ x.2.1 := fun z => by
            have : ls.getD x.2.1 l0 = m := by rw [← z]; exact getD_of e
            rw [this] at hj1
            omega
          have used : at_ r' x.2.1 < at_ r x.2.1 := by
            have h1 := T.sj x.2.1
            have h2 : 0 < sumJ x.2.1 g := by
              have : ∀ g : List Row, (∀ y ∈ g, 0 < y.2.2) → x ∈ g → 0 < sumJ x.2.1 g := by
                intro g
                induction g with
                | nil => intro _ z; exact (List.not_mem_nil z).elim
                | cons y g ih =>
                  intro hpos hm
                  rw [sumJ_cons]
                  have hy := hpos y List.mem_cons_self
                  have hnn : 0 ≤ sumJ x.2.1 g := by
                    rw [sumJ_G]
                    exact sumG_pos fun z hz => hpos z (List.mem_cons_of_mem _ hz)
                  rcases List.mem_cons.mp hm with rfl | hm
                  · rw [if_pos rfl]
                    omega
                  · have := ih (fun z hz => hpos z (List.mem_cons_of_mem _ hz)) hm
                    split <;> omega
              exact this g (fun y hy => (T.row y hy).2.2.1) hx
            omega
          -- k stands ahead of x's lot in the order
          have both := T.edf.and O.le
          have pw : ∀ {o : List Nat}, o.Nodup → o.Pairwise (fun k j => (at_ r' j < at_ r j → at_ r' k = 0) ∧ (ls.getD k l0).last ≤ (ls.getD j l0).last) → k ∈ o → x.2.1 ∈ o → at_ r' k = 0 := by
            intro o
            induction o with
            | nil => intro _ _ z; exact (List.not_mem_nil z).elim
            | cons a o ih =>
              intro hn hpw hk' hx'
              obtain ⟨ha, hpw'⟩ := List.pairwise_cons.mp hpw
              rcases List.mem_cons.mp hk' with rfl | hk'
              · rcases List.mem_cons.mp hx' with z | hx'
                · exact absurd z.symm ne
                · exact (ha _ hx').1 used
              · rcases List.mem_cons.mp hx' with z | hx'
                · exfalso
                  have := (ha k hk').2
                  rw [← z, getD_of e] at this
                  omega
                · exact ih (List.nodup_cons.mp hn).2 hpw' hk' hx'
          exact pw O.nd both ko x2
      · exact .inl (opS_iff.mpr ⟨y, hy, hz⟩)
    have h1 := hh (d :: S1)
    rw [wantOn_cons, if_pos List.mem_cons_self, show (d, c).2.getD s 0 = w from hw] at h1
    have h2 : wantOn s (d :: S1) hs = wantOn s S1 hs := wantOn_congr fun h hm => by
      have := hd h hm
      constructor
      · intro z
        rcases List.mem_cons.mp z with z | z
        · omega
        · exact z
      · exact List.mem_cons_of_mem _
    have h3 := rows (p := opS s (d :: S1)) fun j hj => opS_iff.mpr ⟨d, List.mem_cons_self, O.open_ hj⟩
    omega
  · have h1 := hh S1
    rw [wantOn_cons, if_neg nd1] at h1
    rw [sumOn_tk T O.lt, sumG_none fun x hx => by
      cases z : opS s S1 (ls.getD x.2.1 l0) with
      | false => rfl
      | true => exact absurd ⟨x, hx, z⟩ hrow]
    omega
/-- .. and back -/
theorem hall_back {ls : List Lot} {s : Nat} {r r' : List Int} {d w : Int} {c : List Int} {hs : List Heat} {o : List Nat} {g : List Row} (O : Ord ls s d o) (T : TkOk d o r w r' 0 g) (hw : c.getD s 0 = w) (hh : Hall ls s r' hs) : Hall ls s r ((d, c) :: hs) := fun S => by
  have h1 := hh S
  have h2 := sumOn_tk (p := opS s S) T O.lt
  rw [wantOn_cons, show (d, c).2.getD s 0 = w from hw]
  by_cases z : d ∈ S
  · rw [if_pos z]
    rw [sumG_congr (q := fun _ => true) fun x hx => opS_iff.mpr ⟨d, z, O.open_ (T.row x hx).2.1⟩, T.all] at h2
    omega
  · rw [if_neg z]
    have h3 : 0 ≤ sumG (fun x => opS s S (ls.getD x.2.1 l0)) g := sumG_pos fun x hx => (T.row x hx).2.2.1
    omega
/-- another stuff's lots stand as they stood -/
theorem hall_other {ls : List Lot} {s s' : Nat} {r r' : List Int} {d w l : Int} {o : List Nat} {g : List Row} (O : Ord ls s d o) (T : TkOk d o r w r' l g) (ne : s' ≠ s) (S : List Int) : sumOn (opS s' S) ls r' = sumOn (opS s' S) ls r := by
  rw [sumOn_tk T O.lt, sumG_none fun x hx => ?_]
  · omega
  · have h1 := (isOpen_iff.mp (O.open_ (T.row x hx).2.1)).1
    cases z : opS s' S (ls.getD x.2.1 l0) with
    | false => rfl
    | true =>
      obtain ⟨e, _, h2⟩ := opS_iff.mp z
      have := (isOpen_iff.mp h2).1
      omega
end Hb

namespace Hb
/-! ### the order, made by a sort of pairs -/
def lexLe (a b : Int × Int) : Bool := decide (a.1 < b.1) || (decide (a.1 = b.1) && decide (a.2 ≤ b.2))
theorem lexLe_iff {a b : Int × Int} : lexLe a b = true ↔ a.1 < b.1 ∨ (a.1 = b.1 ∧ a.2 ≤ b.2) := by
  unfold lexLe
  simp only [Bool.or_eq_true, Bool.and_eq_true, decide_eq_true_eq]
def pairsO (ls : List Lot) (s d : Int) : List (Int × Int) := ((List.range ls.length).filter fun j => isOpen (ls.getD j l0) s d).map fun j => ((ls.getD j l0).last, (j : Int))
def ordP (ls : List Lot) (s d : Int) : List (Int × Int) := (pairsO ls s d).mergeSort lexLe
def ordN (ls : List Lot) (s d : Int) : List Nat := (ordP ls s d).map fun p => p.2.toNat
/-- the only sorted arrangement -/
theorem ordP_uniq {ls : List Lot} {s d : Int} {ps : List (Int × Int)} (hp : ps.Perm (pairsO ls s d)) (hs : ps.Pairwise fun a b => lexLe a b = true) : ps = ordP ls s d := by
  refine List.Perm.eq_of_pairwise (le := fun a b => lexLe a b = true) (fun a b _ _ h1 h2 => ?_) hs ?_ (hp.trans (List.mergeSort_perm _ _).symm)
  · rw [lexLe_iff] at h1 h2
    obtain ⟨a1, a2⟩ := a
    obtain ⟨b1, b2⟩ := b
    simp only at h1 h2
    have e1 : a1 = b1 := by omega
    have e2 : a2 = b2 := by omega
    rw [e1, e2]
  · refine List.pairwise_mergeSort (fun a b c h1 h2 => ?_) (fun a b => ?_) _
    · rw [lexLe_iff] at *
      omega
    · rw [Bool.or_eq_true, lexLe_iff, lexLe_iff]
      omega
theorem ordP_mem {ls : List Lot} {s d : Int} {p : Int × Int} : p ∈ ordP ls s d ↔ ∃ (j : Nat) (l : Lot), ls[j]? = some l ∧ isOpen l s d = true ∧ p = (l.last, (j : Int)) := by
  have : p ∈ ordP ls s d ↔ p ∈ pairsO ls s d := (List.mergeSort_perm _ _).mem_iff
  rw [this]
  unfold pairsO
  rw [List.mem_map]
  constructor
  · rintro ⟨j, hj, rfl⟩
    rw [List.mem_filter, List.mem_range] at hj
    have e : ls[j]? = some (ls.getD j l0) := by
      rw [List.getD_eq_getElem?_getD, List.getElem?_eq_getElem hj.1]
      rfl
    exact ⟨j, _, e, hj.2, rfl⟩
  · rintro ⟨j, l, e, ho, rfl⟩
    refine ⟨j, ?_, by rw [getD_of e]⟩
    rw [List.mem_filter, List.mem_range, getD_of e]
    exact ⟨(List.getElem?_eq_some_iff.mp e).1, ho⟩
theorem ordP_len (ls : List Lot) (s d : Int) : (ordP ls s d).length ≤ ls.length := by
  have h1 : (ordP ls s d).length = (pairsO ls s d).length := (List.mergeSort_perm _ _).length_eq
  rw [h1]
  unfold pairsO
  rw [List.length_map]
  have := List.length_filter_le (fun j => isOpen (ls.getD j l0) s d) (List.range ls.length)
  rw [List.length_range] at this
  exact this
theorem ordN_len (ls : List Lot) (s d : Int) : (ordN ls s d).length ≤ ls.length := by
  unfold ordN
  rw [List.length_map]
  exact ordP_len ls s d
theorem ordN_ok (ls : List Lot) (s d : Int) : Ord ls s d (ordN ls s d) := by
  have hs : (ordP ls s d).Pairwise fun a b => lexLe a b = true := by
    refine List.pairwise_mergeSort (fun a b c h1 h2 => ?_) (fun a b => ?_) _
    · rw [lexLe_iff] at *
      omega
    · rw [Bool.or_eq_true, lexLe_iff, lexLe_iff]
      omega
  have hm : ∀ p ∈ ordP ls s d, ∃ (j : Nat) (l : Lot), ls[j]? = some l ∧ isOpen l s d = true ∧ p = (l.last, (j : Int)) := fun p hp => ordP_mem.mp hp
  refine ⟨?_, fun j => ?_, ?_⟩
  · have h1 : (pairsO ls s d).Nodup := by
      unfold pairsO
      refine List.Pairwise.map _ (fun a b (h : a ≠ b) e => ?_) (List.Pairwise.filter _ List.nodup_range)
      simp only [Prod.mk.injEq] at e
      exact h (by omega)
    have h2 : (ordP ls s d).Nodup := (List.mergeSort_perm _ _).nodup_iff.mpr h1
    unfold ordN
    rw [List.Nodup, List.pairwise_map]
    refine List.Pairwise.imp_of_mem (fun {a b} ha hb (hne : a ≠ b) e => ?_) h2
    obtain ⟨j, l, e1, _, rfl⟩ := hm a ha
    obtain ⟨k, m, e2, _, rfl⟩ := hm b hb
    simp only [Int.toNat_natCast] at e
    subst e
    rw [e1] at e2
    cases e2
    exact hne rfl
  · unfold ordN
    rw [List.mem_map]
    constructor
    · rintro ⟨p, hp, rfl⟩
      obtain ⟨k, l, e1, e2, rfl⟩ := hm p hp
      exact ⟨l, by simpa using e1, e2⟩
    · rintro ⟨l, e1, e2⟩
      exact ⟨(l.last, (j : Int)), ordP_mem.mpr ⟨j, l, e1, e2, rfl⟩, by simp⟩
  · unfold ordN
    rw [List.pairwise_map]
    refine List.Pairwise.imp_of_mem (fun {a b} ha hb h => ?_) hs
    obtain ⟨j, l, e1, _, rfl⟩ := hm a ha
    obtain ⟨k, m, e2, _, rfl⟩ := hm b hb
    rw [lexLe_iff] at h
    simp only [Int.toNat_natCast]
    rw [getD_of e1, getD_of e2]
    simp only at h
    omega
/-! ### a charge, a plan -/
abbrev Out := List Row × List Int × Option (Int × Int × Int)
def goC (ls : List Lot) (d : Int) : Nat → List Int → List Int → List Row → Out
  | _, [], r, f => (f, r, none)
  | s, w :: ws, r, f => if (tk d (ordN ls s d) r w []).2.1 = 0 then goC ls d (s + 1) ws (tk d (ordN ls s d) r w []).1 (f ++ (tk d (ordN ls s d) r w []).2.2)
    else (f ++ (tk d (ordN ls s d) r w []).2.2, (tk d (ordN ls s d) r w []).1, some (d, (s : Int), (tk d (ordN ls s d) r w []).2.1))
def goP (ls : List Lot) : List Heat → List Int → List Row → Out
  | [], r, f => (f, r, none)
  | h :: hs, r, f => match goC ls h.1 0 h.2 r f with
    | (f', r', none) => goP ls hs r' f'
    | (f', r', some x) => (f', r', some x)
theorem goC_cons (ls : List Lot) (d : Int) (s : Nat) (w : Int) (ws r : List Int) (f : List Row) : goC ls d s (w :: ws) r f = if (tk d (ordN ls s d) r w []).2.1 = 0 then goC ls d (s + 1) ws (tk d (ordN ls s d) r w []).1 (f ++ (tk d (ordN ls s d) r w []).2.2)
    else (f ++ (tk d (ordN ls s d) r w []).2.2, (tk d (ordN ls s d) r w []).1, some (d, (s : Int), (tk d (ordN ls s d) r w []).2.1)) := rfl
/-- the rests of the lots -/
structure Rs (ls : List Lot) (r : List Int) : Prop where
  len : r.length = ls.length
  nn : ∀ j, 0 ≤ at_ r j
theorem tk_at {ls : List Lot} {r : List Int} (R : Rs ls r) (s d : Int) {w : Int} (hw : 0 ≤ w) : TkOk d (ordN ls s d) r w (tk d (ordN ls s d) r w []).1 (tk d (ordN ls s d) r w []).2.1 (tk d (ordN ls s d) r w []).2.2 := by
  obtain ⟨r', l, g, e, T⟩ := tk_ok d (ordN ls s d) r w [] (ordN_ok ls s d).nd (fun j hj => by rw [R.len]; exact (ordN_ok ls s d).lt j hj) R.nn hw
  rw [e]
  exact T
theorem Rs.tk {ls : List Lot} {r : List Int} (R : Rs ls r) {s d w : Int} {r' : List Int} {l : Int} {g : List Row} (T : TkOk d (ordN ls s d) r w r' l g) : Rs ls r' := ⟨by rw [T.len, R.len], T.lo⟩
theorem drop_succ {α : Type} {l : List α} {i : Nat} {x : α} {t : List α} (h : l.drop i = x :: t) : l[i]? = some x ∧ l.drop (i + 1) = t := by
  constructor
  · have := congrArg (fun z => z[0]?) h
    simpa using this
  · have := congrArg (List.drop 1) h
    simpa [Nat.add_comm] using this
theorem getD_int {c : List Int} {s : Nat} {w : Int} (h : c[s]? = some w) : c.getD s 0 = w := by
  rw [List.getD_eq_getElem?_getD, h]
  rfl
theorem goC_hall {ls : List Lot} {n : Nat} {d : Int} {c : List Int} {hs : List Heat} (hd : ∀ h ∈ hs, d < h.1) (hp : hs.Pairwise fun a b => a.1 < b.1) (hc : c.length = n) (hcn : ∀ w ∈ c, 0 ≤ w) :
    ∀ (ws : List Int) (s : Nat) (r : List Int) (f : List Row), c.drop s = ws → s ≤ n → Rs ls r → (∀ s' : Nat, s' < s → Hall ls s' r hs) → (∀ s' : Nat, s ≤ s' → s' < n → Hall ls s' r ((d, c) :: hs)) →
      ∃ f' r', goC ls d s ws r f = (f', r', none) ∧ Rs ls r' ∧ ∀ s' : Nat, s' < n → Hall ls s' r' hs
  | [], s, r, f, e, hs1, R, h1, h2 => ⟨f, r, rfl, R, fun s' hs' => h1 s' (by
      have := congrArg List.length e
      rw [List.length_drop, List.length_nil] at this
      omega)⟩
  | w :: ws, s, r, f, e, hs1, R, h1, h2 => by
    obtain ⟨e1, e2⟩ := drop_succ e
    have hsn : s < n := by
      have := (List.getElem?_eq_some_iff.mp e1).1
      omega
    have T := tk_at R s d (hcn w (List.mem_of_getElem? e1))
    obtain ⟨l0', hn⟩ := hall_step (ordN_ok ls s d) T (getD_int e1) hd hp (h2 s (Nat.le_refl _) hsn)
    rw [goC_cons, if_pos l0']
    refine goC_hall hd hp hc hcn ws (s + 1) _ _ e2 hsn (R.tk T) (fun s' h => ?_) (fun s' h h' => ?_)
    · rcases Nat.lt_or_ge s' s with z | z
      · intro S
        rw [hall_other (ordN_ok ls s d) T (by omega) S]
        exact h1 s' z S
      · have : s' = s := by omega
        rw [this]
        exact hn
    · intro S
      rw [hall_other (ordN_ok ls s d) T (by omega) S]
      exact h2 s' (by omega) h' S
/-- what a plan is -/
structure PlanOk (n : Nat) (pl : List Heat) : Prop where
  rise : pl.Pairwise fun a b => a.1 < b.1
  len : ∀ h ∈ pl, h.2.length = n
  nn : ∀ h ∈ pl, ∀ w ∈ h.2, 0 ≤ w
theorem PlanOk.tail {n : Nat} {h : Heat} {pl : List Heat} (P : PlanOk n (h :: pl)) : PlanOk n pl := ⟨(List.pairwise_cons.mp P.rise).2, fun x hx => P.len x (List.mem_cons_of_mem _ hx), fun x hx => P.nn x (List.mem_cons_of_mem _ hx)⟩
theorem goP_hall {ls : List Lot} {n : Nat} : ∀ (pl : List Heat) (r : List Int) (f : List Row), PlanOk n pl → Rs ls r → (∀ s : Nat, s < n → Hall ls s r pl) → ∃ f' r', goP ls pl r f = (f', r', none)
  | [], r, f, _, _, _ => ⟨f, r, rfl⟩
  | h :: pl, r, f, P, R, hh => by
    obtain ⟨hd, hp⟩ := List.pairwise_cons.mp P.rise
    obtain ⟨f', r', e, R', h'⟩ := goC_hall (n := n) (d := h.1) (c := h.2) hd hp (P.len h List.mem_cons_self) (P.nn h List.mem_cons_self) h.2 0 r f rfl (Nat.zero_le _) R (fun _ z => absurd z (Nat.not_lt_zero _)) fun s' _ z => hh s' z
    unfold goP
    rw [e]
    exact goP_hall pl r' f' P.tail R' h'
/-! ### what is known of a charge, a plan that is had -/
structure Had (ls : List Lot) (n : Nat) (pl : List Heat) (r r' : List Int) (g : List Row) : Prop where
  rs : Rs ls r'
  le : ∀ j, at_ r' j ≤ at_ r j
  row : ∀ x ∈ g, (∃ h ∈ pl, h.1 = x.1) ∧ 0 < x.2.2 ∧ ∃ l, ls[x.2.1]? = some l ∧ l.first ≤ x.1 ∧ x.1 ≤ l.last ∧ ∃ s : Nat, s < n ∧ l.stuff = s
  sj : ∀ j, sumJ j g = at_ r j - at_ r' j
  want : ∀ h ∈ pl, ∀ s : Nat, s < n → sumG (fun x => decide (x.1 = h.1) && decide ((ls.getD x.2.1 l0).stuff = s)) g = h.2.getD s 0
  hall : ∀ s : Nat, s < n → Hall ls s r pl
structure HadC (ls : List Lot) (n : Nat) (d : Int) (c : List Int) (s : Nat) (r r' : List Int) (g : List Row) : Prop where
  rs : Rs ls r'
  le : ∀ j, at_ r' j ≤ at_ r j
  row : ∀ x ∈ g, x.1 = d ∧ 0 < x.2.2 ∧ ∃ l, ls[x.2.1]? = some l ∧ l.first ≤ d ∧ d ≤ l.last ∧ ∃ s' : Nat, s ≤ s' ∧ s' < n ∧ l.stuff = s'
  sj : ∀ j, sumJ j g = at_ r j - at_ r' j
  want : ∀ s' : Nat, s ≤ s' → s' < n → sumG (fun x => decide ((ls.getD x.2.1 l0).stuff = s')) g = c.getD s' 0
  hall : ∀ hs : List Heat, (∀ s' : Nat, s' < n → Hall ls s' r' hs) → (∀ s' : Nat, s' < s → Hall ls s' r hs) ∧ ∀ s' : Nat, s ≤ s' → s' < n → Hall ls s' r ((d, c) :: hs)
theorem goC_had {ls : List Lot} {n : Nat} {d : Int} {c : List Int} (hc : c.length = n) (hcn : ∀ w ∈ c, 0 ≤ w) :
    ∀ (ws : List Int) (s : Nat) (r : List Int) (f f' : List Row) (r' : List Int), c.drop s = ws → s ≤ n → Rs ls r → goC ls d s ws r f = (f', r', none) → ∃ g, f' = f ++ g ∧ HadC ls n d c s r r' g
  | [], s, r, f, f', r', e, hs, R, h => by
    cases h
    have hsn : s = n := by
      have := congrArg List.length e
      rw [List.length_drop, List.length_nil] at this
      omega
    exact ⟨[], by rw [List.append_nil], R, fun _ => Int.le_refl _, fun _ z => (List.not_mem_nil z).elim, fun j => by simp [sumJ], fun s' h1 h2 => by omega, fun hs h => ⟨fun s' h' => h s' (by omega), fun s' h1 h2 => by omega⟩⟩
  | w :: ws, s, r, f, f', r', e, hs, R, h => by
    obtain ⟨e1, e2⟩ := drop_succ e
    have hsn : s < n := by
      have := (List.getElem?_eq_some_iff.mp e1).1
      omega
    have T := tk_at R s d (hcn w (List.mem_of_getElem? e1))
    rw [goC_cons] at h
    by_cases z : (tk d (ordN ls s d) r w []).2.1 = 0
    · rw [if_pos z] at h
      obtain ⟨g, e3, C⟩ := goC_had hc hcn ws (s + 1) _ _ f' r' e2 hsn (R.tk T) h
      rw [z] at T
      have O := ordN_ok ls s d
      have hrow : ∀ x ∈ (tk d (ordN ls s d) r w []).2.2, x.1 = d ∧ 0 < x.2.2 ∧ ∃ l, ls[x.2.1]? = some l ∧ isOpen l s d = true := fun x hx => by
        obtain ⟨h1, h2, h3, _⟩ := T.row x hx
        obtain ⟨l, h4, h5⟩ := (O.mem _).mp h2
        exact ⟨h1, h3, l, h4, h5⟩
      refine ⟨(tk d (ordN ls s d) r w []).2.2 ++ g, by rw [e3, List.append_assoc], C.rs, fun j => Int.le_trans (C.le j) (T.hi j), fun x hx => ?_, fun j => ?_, fun s' h1 h2 => ?_, fun hs h' => ?_⟩
      · rcases List.mem_append.mp hx with hx | hx
        · obtain ⟨h1, h2, l, h3, h4⟩ := hrow x hx
          have h5 := isOpen_iff.mp h4
          exact ⟨h1, h2, l, h3, h5.2.1, h5.2.2, s, Nat.le_refl _, hsn, h5.1⟩
        · obtain ⟨h1, h2, l, h3, h4, h5, s', h6, h7, h8⟩ := C.row x hx
          exact ⟨h1, h2, l, h3, h4, h5, s', by omega, h7, h8⟩
      · rw [sumJ_app, T.sj j, C.sj j]
        omega
      · rw [sumG_app]
        rcases Nat.lt_or_ge s s' with q | q
        · rw [sumG_none fun x hx => ?_, C.want s' q h2]
          · omega
          · obtain ⟨_, _, l, h3, h4⟩ := hrow x hx
            rw [getD_of h3]
            exact decide_eq_false (by have := (isOpen_iff.mp h4).1; omega)
        · have es : s' = s := by omega
          subst es
          have g0 : sumG (fun x => decide ((ls.getD x.2.1 l0).stuff = (s' : Int))) g = 0 := sumG_none fun x hx => by
            obtain ⟨_, _, l, h3, _, _, s2, h6, _, h8⟩ := C.row x hx
            rw [getD_of h3]
            exact decide_eq_false (by omega)
          have t0 : sumG (fun x => decide ((ls.getD x.2.1 l0).stuff = (s' : Int))) (tk d (ordN ls s' d) r w []).2.2 = sumG (fun _ => true) (tk d (ordN ls s' d) r w []).2.2 := sumG_congr fun x hx => by
            obtain ⟨_, _, l, h3, h4⟩ := hrow x hx
            rw [getD_of h3]
            exact decide_eq_true (isOpen_iff.mp h4).1
          rw [g0, t0, T.all, getD_int e1]
          omega
      · obtain ⟨k1, k2⟩ := C.hall hs h'
        refine ⟨fun s' q S => ?_, fun s' q q2 => ?_⟩
        · have := k1 s' (by omega) S
          rw [hall_other O T (by omega) S] at this
          exact this
        · rcases Nat.lt_or_ge s s' with y | y
          · intro S
            have := k2 s' y q2 S
            rw [hall_other O T (by omega) S] at this
            exact this
          · have es : s' = s := by omega
            subst es
            exact hall_back O T (getD_int e1) (k1 s' (Nat.lt_succ_self _))
    · rw [if_neg z] at h
      cases h
theorem goP_had {ls : List Lot} {n : Nat} : ∀ (pl : List Heat) (r : List Int) (f f' : List Row) (r' : List Int), PlanOk n pl → Rs ls r → goP ls pl r f = (f', r', none) → ∃ g, f' = f ++ g ∧ Had ls n pl r r' g
  | [], r, f, f', r', P, R, h => by
    cases h
    exact ⟨[], by rw [List.append_nil], R, fun _ => Int.le_refl _, fun _ z => (List.not_mem_nil z).elim, fun j => by simp [sumJ], fun _ z => (List.not_mem_nil z).elim, fun s _ S => sumOn_nn R.nn⟩
  | hd :: pl, r, f, f', r', P, R, h => by
    obtain ⟨hlt, hp⟩ := List.pairwise_cons.mp P.rise
    unfold goP at h
    cases e : goC ls hd.1 0 hd.2 r f with
    | mk f1 q =>
      obtain ⟨r1, x⟩ := q
      rw [e] at h
      cases x with
      | some x => cases h
      | none =>
        simp only at h
        obtain ⟨g1, e1, C⟩ := goC_had (n := n) (P.len hd List.mem_cons_self) (P.nn hd List.mem_cons_self) hd.2 0 r f f1 r1 rfl (Nat.zero_le _) R e
        obtain ⟨g2, e2, D⟩ := goP_had pl r1 f1 f' r' P.tail C.rs h
        refine ⟨g1 ++ g2, by rw [e2, e1, List.append_assoc], D.rs, fun j => Int.le_trans (D.le j) (C.le j), fun x hx => ?_, fun j => ?_, fun h' hm s hs => ?_, fun s hs => ?_⟩
        · rcases List.mem_append.mp hx with hx | hx
          · obtain ⟨h1, h2, l, h3, h4, h5, s', _, h7, h8⟩ := C.row x hx
            exact ⟨⟨hd, List.mem_cons_self, h1.symm⟩, h2, l, h3, by rw [h1]; exact h4, by rw [h1]; exact h5, s', h7, h8⟩
          · obtain ⟨⟨k, h1, h2⟩, h3, h4⟩ := D.row x hx
            exact ⟨⟨k, List.mem_cons_of_mem _ h1, h2⟩, h3, h4⟩
        · rw [sumJ_app, C.sj j, D.sj j]
          omega
        · rw [sumG_app]
          rcases List.mem_cons.mp hm with rfl | hm
          · rw [sumG_congr (q := fun x => decide ((ls.getD x.2.1 l0).stuff = (s : Int))) (g := g1) fun x hx => by rw [decide_eq_true (C.row x hx).1, Bool.true_and], C.want s (Nat.zero_le _) hs, sumG_none fun x hx => ?_]
            · omega
            · obtain ⟨⟨k, h1, h2⟩, _⟩ := D.row x hx
              have := hlt k h1
              rw [decide_eq_false (by omega), Bool.false_and]
          · rw [D.want h' hm s hs, sumG_none fun x hx => ?_]
            · omega
            · have := hlt h' hm
              rw [decide_eq_false (by rw [(C.row x hx).1]; omega), Bool.false_and]
        · exact (C.hall pl D.hall).2 s (Nat.zero_le _) hs
end Hb

namespace Hb
abbrev amts (ls : List Lot) : List Int := ls.map Lot.amt
def there (s : Nat) (S : List Int) (ls : List Lot) : Int := ((ls.filter (opS s S)).map Lot.amt).sum
theorem there_F (p : Lot → Bool) : ∀ (ls : List Lot) (i : Nat), ((ls.filter p).map Lot.amt).sum = sumF (fun l _ => if p l = true then l.amt else 0) ls i
  | [], _ => rfl
  | l :: ls, i => by
    rw [sumF_cons, List.filter_cons]
    by_cases h : p l = true
    · rw [if_pos h, if_pos h, List.map_cons, List.sum_cons, there_F p ls (i + 1)]
    · rw [if_neg h, if_neg h, there_F p ls (i + 1)]
      omega
theorem at_amts {ls : List Lot} {j : Nat} {l : Lot} (h : ls[j]? = some l) : at_ (amts ls) j = l.amt := by
  unfold at_ amts
  rw [List.getD_eq_getElem?_getD, List.getElem?_map, h]
  rfl
theorem sumOn_amts (p : Lot → Bool) (ls : List Lot) : sumOn p ls (amts ls) = ((ls.filter p).map Lot.amt).sum := by
  rw [there_F p ls 0]
  refine sumF_eq fun j l e => ?_
  rw [Nat.zero_add, at_amts e]
theorem rs_amts {ls : List Lot} (h : ∀ l ∈ ls, 0 < l.amt) : Rs ls (amts ls) := by
  refine ⟨by simp, fun j => ?_⟩
  cases e : ls[j]? with
  | none =>
    unfold at_ amts
    rw [List.getD_eq_getElem?_getD, List.getElem?_map, e]
    exact Int.le_refl _
  | some l =>
    rw [at_amts e]
    have := h l (List.mem_of_getElem? e)
    omega
def HallAll (n : Nat) (ls : List Lot) (pl : List Heat) : Prop := ∀ s : Nat, s < n → ∀ S : List Int, wantOn s S pl ≤ there s S ls
abbrev goAll (ls : List Lot) (pl : List Heat) : Out := goP ls pl (amts ls) []
theorem had_iff {n : Nat} {ls : List Lot} {pl : List Heat} (P : PlanOk n pl) (L : ∀ l ∈ ls, 0 < l.amt) : (goAll ls pl).2.2 = none ↔ HallAll n ls pl := by
  constructor
  · intro h
    obtain ⟨g, _, D⟩ := goP_had (n := n) pl (amts ls) [] (goAll ls pl).1 (goAll ls pl).2.1 P (rs_amts L) (by
      show goAll ls pl = _
      rw [← h])
    intro s hs S
    have := D.hall s hs S
    rw [sumOn_amts] at this
    exact this
  · intro h
    obtain ⟨f', r', e⟩ := goP_hall (n := n) pl (amts ls) [] P (rs_amts L) fun s hs S => by
      rw [sumOn_amts]
      exact h s hs S
    show (goP ls pl (amts ls) []).2.2 = none
    rw [e]
theorem had_of {n : Nat} {ls : List Lot} {pl : List Heat} (P : PlanOk n pl) (L : ∀ l ∈ ls, 0 < l.amt) (h : (goAll ls pl).2.2 = none) : Had ls n pl (amts ls) (goAll ls pl).2.1 (goAll ls pl).1 := by
  obtain ⟨g, e, D⟩ := goP_had (n := n) pl (amts ls) [] (goAll ls pl).1 (goAll ls pl).2.1 P (rs_amts L) (by
    show goAll ls pl = _
    rw [← h])
  rw [List.nil_append] at e
  rw [e]
  exact D
def tooMuch (ls : List Lot) (pl : List Heat) (s : Nat) (S : List Int) : Bool := decide (there s S ls < wantOn s S pl)
/-! ### all rising tuples of some days -/
def subs (days : List Int) : List (List Int) := days.foldl (fun f d => f ++ f.map fun t => t ++ [d]) [[]]
theorem snoc_ind {α : Type} {P : List α → Prop} (h0 : P []) (h1 : ∀ l x, P l → P (l ++ [x])) : ∀ l, P l := by
  have : ∀ l : List α, P l.reverse := by
    intro l
    induction l with
    | nil => exact h0
    | cons x l ih =>
      rw [List.reverse_cons]
      exact h1 _ _ ih
  intro l
  have := this l.reverse
  rw [List.reverse_reverse] at this
  exact this
theorem subs_snoc (days : List Int) (d : Int) : subs (days ++ [d]) = subs days ++ (subs days).map fun t => t ++ [d] := by
  unfold subs
  rw [List.foldl_append]
  rfl
theorem subs_sub : ∀ (days : List Int) (S : List Int), S ∈ subs days → S.Sublist days := by
  refine snoc_ind (fun S h => ?_) (fun l d ih S h => ?_)
  · have : S = [] := by
      unfold subs at h
      simpa using h
    rw [this]
    exact List.Sublist.refl _
  · rw [subs_snoc, List.mem_append, List.mem_map] at h
    rcases h with h | ⟨T, h, rfl⟩
    · exact (ih S h).trans (List.sublist_append_left _ _)
    · exact (ih T h).append (List.Sublist.refl _)
theorem subs_filter (p : Int → Bool) : ∀ days : List Int, days.filter p ∈ subs days := by
  refine snoc_ind ?_ (fun l d ih => ?_)
  · unfold subs
    simp
  · rw [subs_snoc, List.filter_append, List.mem_append, List.mem_map]
    by_cases h : p d = true
    · right
      exact ⟨l.filter p, ih, by rw [List.filter_cons, if_pos h, List.filter_nil]⟩
    · left
      rw [List.filter_cons, if_neg h, List.filter_nil, List.append_nil]
      exact ih
theorem subs_self (days : List Int) : days ∈ subs days := by
  have := subs_filter (fun _ => true) days
  rw [List.filter_eq_self.mpr fun _ _ => rfl] at this
  exact this
theorem subs_len : ∀ days : List Int, (subs days).length = 2 ^ days.length := by
  refine snoc_ind rfl fun l d ih => ?_
  rw [subs_snoc, List.length_append, List.length_map, ih, List.length_append, List.length_singleton, Nat.pow_succ]
  omega
/-- where Hall's condition fails it fails on some of the plan's own days -/
theorem not_hall {n : Nat} {ls : List Lot} {pl : List Heat} (L : ∀ l ∈ ls, 0 < l.amt) (h : ¬ HallAll n ls pl) : ∃ s : Nat, s < n ∧ ∃ S ∈ subs (pl.map (·.1)), tooMuch ls pl s S = true := by
  refine Classical.byContradiction fun k => h fun s hs S => ?_
  have e1 : wantOn s S pl = wantOn s ((pl.map (·.1)).filter fun d => decide (d ∈ S)) pl := wantOn_congr fun x hx => by
    rw [List.mem_filter, List.mem_map, decide_eq_true_eq]
    exact ⟨fun z => ⟨⟨x, hx, rfl⟩, z⟩, fun z => z.2⟩
  have e2 : there s ((pl.map (·.1)).filter fun d => decide (d ∈ S)) ls ≤ there s S ls := by
    unfold there
    rw [← sumOn_amts, ← sumOn_amts]
    refine sumOn_mono (rs_amts L).nn fun j l _ hl => .inl ?_
    obtain ⟨d, h1, h2⟩ := opS_iff.mp hl
    rw [List.mem_filter, decide_eq_true_eq] at h1
    exact opS_iff.mpr ⟨d, h1.2, h2⟩
  rcases Int.lt_or_le (there s ((pl.map (·.1)).filter fun d => decide (d ∈ S)) ls) (wantOn s ((pl.map (·.1)).filter fun d => decide (d ∈ S)) pl) with z | z
  · exact (k ⟨s, hs, _, subs_filter _ _, decide_eq_true z⟩).elim
  · omega
theorem hall_no {n : Nat} {ls : List Lot} {pl : List Heat} {s : Nat} {S : List Int} (hs : s < n) (h : tooMuch ls pl s S = true) : ¬ HallAll n ls pl := fun k => by
  have h1 := k s hs S
  have h2 := of_decide_eq_true h
  omega
/-! ### what is changed -/
theorem want_sub {s : Nat} {S : List Int} {pl pl' : List Heat} (h : pl'.Sublist pl) (nn : ∀ h ∈ pl, 0 ≤ h.2.getD s 0) : wantOn s S pl' ≤ wantOn s S pl := by
  induction h with
  | slnil => exact Int.le_refl _
  | cons a h ih =>
    rw [wantOn_cons]
    have h1 := nn a List.mem_cons_self
    have h2 := ih fun x hx => nn x (List.mem_cons_of_mem _ hx)
    split <;> omega
  | cons_cons a h ih =>
    rw [wantOn_cons, wantOn_cons]
    have h2 := ih fun x hx => nn x (List.mem_cons_of_mem _ hx)
    omega
theorem getD_nn {n : Nat} {pl : List Heat} (P : PlanOk n pl) (s : Nat) : ∀ h ∈ pl, 0 ≤ h.2.getD s 0 := fun h hm => by
  rw [List.getD_eq_getElem?_getD]
  cases e : h.2[s]? with
  | none => exact Int.le_refl _
  | some w => exact P.nn h hm w (List.mem_of_getElem? e)
theorem hall_fewer {n : Nat} {ls : List Lot} {pl pl' : List Heat} (P : PlanOk n pl) (h : pl'.Sublist pl) (k : HallAll n ls pl) : HallAll n ls pl' := fun s hs S => Int.le_trans (want_sub h (getD_nn P s)) (k s hs S)
theorem PlanOk.sub {n : Nat} {pl pl' : List Heat} (P : PlanOk n pl) (h : pl'.Sublist pl) : PlanOk n pl' := ⟨P.rise.sublist h, fun x hx => P.len x (h.subset hx), fun x hx => P.nn x (h.subset hx)⟩
theorem there_app (s : Nat) (S : List Int) (a b : List Lot) : there s S (a ++ b) = there s S a + there s S b := by
  unfold there
  rw [List.filter_append, List.map_append, List.sum_append]
theorem there_cons (s : Nat) (S : List Int) (l : Lot) (b : List Lot) : there s S (l :: b) = (if opS s S l = true then l.amt else 0) + there s S b := by
  unfold there
  rw [List.filter_cons]
  by_cases h : opS s S l = true
  · rw [if_pos h, if_pos h, List.map_cons, List.sum_cons]
  · rw [if_neg h, if_neg h]
    omega
theorem there_nn {s : Nat} {S : List Int} : ∀ {ls : List Lot}, (∀ l ∈ ls, 0 < l.amt) → 0 ≤ there s S ls
  | [], _ => Int.le_refl _
  | l :: ls, h => by
    rw [there_cons]
    have h1 := h l List.mem_cons_self
    have h2 := there_nn (s := s) (S := S) fun x hx => h x (List.mem_cons_of_mem _ hx)
    split <;> omega
theorem there_rev (s : Nat) (S : List Int) (ls : List Lot) : there s S ls.reverse = there s S ls := by
  unfold there
  rw [List.filter_reverse, List.map_reverse, List.sum_reverse]
theorem hall_rev {n : Nat} {ls : List Lot} {pl : List Heat} : HallAll n ls.reverse pl ↔ HallAll n ls pl := by
  unfold HallAll
  simp only [there_rev]
theorem hall_greater {n : Nat} {a b : List Lot} {l : Lot} {pl : List Heat} {y : Int} (hy : 0 ≤ y) (k : HallAll n (a ++ l :: b) pl) : HallAll n (a ++ { l with amt := l.amt + y } :: b) pl := fun s hs S => by
  have h := k s hs S
  rw [there_app, there_cons] at h ⊢
  have e : opS s S { l with amt := l.amt + y } = opS s S l := rfl
  rw [e]
  show _ ≤ _ + ((if opS s S l = true then l.amt + y else 0) + _)
  split at h
  · rename_i z
    rw [if_pos z]
    omega
  · rename_i z
    rw [if_neg z]
    omega
theorem hall_front {n : Nat} {a b : List Lot} {pl : List Heat} (hb : ∀ l ∈ b, 0 < l.amt) (k : HallAll n a pl) : HallAll n (a ++ b) pl := fun s hs S => by
  have h := k s hs S
  rw [there_app]
  have := there_nn (s := s) (S := S) hb
  omega
/-! ### sums of rows -/
theorem sumG_list (p : Row → Bool) : ∀ g : List Row, ((g.filter p).map fun x => x.2.2).sum = sumG p g
  | [] => rfl
  | x :: g => by
    rw [sumG_cons, List.filter_cons]
    by_cases h : p x = true
    · rw [if_pos h, if_pos h, List.map_cons, List.sum_cons, sumG_list p g]
    · rw [if_neg h, if_neg h, sumG_list p g]
      omega
theorem sumG_rev (p : Row → Bool) (g : List Row) : sumG p g.reverse = sumG p g := by
  rw [← sumG_list, ← sumG_list, List.filter_reverse, List.map_reverse, List.sum_reverse]
theorem wantOn_list (s : Nat) (S : List Int) : ∀ pl : List Heat, ((pl.filter fun h => decide (h.1 ∈ S)).map fun h => h.2.getD s 0).sum = wantOn s S pl
  | [] => rfl
  | h :: pl => by
    rw [wantOn_cons, List.filter_cons]
    by_cases z : h.1 ∈ S
    · rw [if_pos (decide_eq_true z), if_pos z, List.map_cons, List.sum_cons, wantOn_list s S pl]
    · rw [if_neg (by rw [decide_eq_false z]; exact Bool.false_ne_true), if_neg z, wantOn_list s S pl]
      omega
end Hb

namespace Hb
open PySem PySem.Spec PyProof.Rows L2 RZ
open Evl (Ex)
/-! ### data of lots and plans -/
abbrev encLot (l : Lot) : PyData := .tuple [.int l.stuff, encP l.amt, .int l.first, .int l.last]
abbrev encLots (ls : List Lot) : PyData := .tuple (ls.map encLot)
abbrev encHeat (h : Heat) : PyData := .tuple [.int h.1, .tuple (encL h.2)]
abbrev encPlan (pl : List Heat) : PyData := .tuple (pl.map encHeat)
abbrev encRow (x : Row) : PyData := .tuple [.int x.1, .int (x.2.1 : Nat), encP x.2.2]
structure LotOk (l : Lot) : Prop where
  s0 : 0 ≤ l.stuff
  s1 : l.stuff ≤ 4
  a0 : 0 < l.amt
  a1 : l.amt ≤ 1000
  f0 : 1 ≤ l.first
  fl : l.first ≤ l.last
  l1 : l.last ≤ 30
structure LotsOk (ls : List Lot) : Prop where
  len : ls.length ≤ 8
  ok : ∀ l ∈ ls, LotOk l
theorem LotsOk.pos {ls : List Lot} (L : LotsOk ls) : ∀ l ∈ ls, 0 < l.amt := fun l h => (L.ok l h).a0
structure PlOk (n : Nat) (pl : List Heat) : Prop where
  po : PlanOk n pl
  n1 : 1 ≤ n
  n5 : n ≤ 5
  len : pl.length ≤ 8
  d0 : ∀ h ∈ pl, 1 ≤ h.1 ∧ h.1 ≤ 30
  w1 : ∀ h ∈ pl, ∀ w ∈ h.2, w ≤ 1000
section
variable {Z : Vz} {X : Cx} {e : Expr} {es : List Expr} {ρ : List AV}
theorem Dt.chain {a b c : Expr} {op op' : CmpOp} {r r' : R2} {da db dc : PyData} {p q : Bool} {pos : Pos} (ho : OpR X (compareOp op) r) (ho' : OpR X (compareOp op') r') (ha : Dv Z X a ρ da) (hb : Dv Z X b ρ db) (hc : p = true → Dv Z X c ρ dc)
    (h1 : OpD X.K r da db (.bool p)) (h2 : p = true → OpD X.K r' db dc (.bool q)) (hm : lastMarks [op, op'] [b, c] = false := by with_unfolding_all rfl) : Dt Z X (.Compare a [op, op'] [b, c] pos) ρ (p && q) := fun F σ H S Q w =>
  wt_of (pt_chain ho ho' we_pe we_pe we_pe hm) (two ha hb S fun x y H2 da' db' c1 e1 e2 r1 r2 => by
    subst e1; subst e2
    refine h1 F H2 x y _ (S.domC c1) r1 r2 fun v H3 x3 r3 => ⟨p, dp_bl r3, ?_⟩
    have c2 : Chg Z H H3 := c1.trans (Chg.of_ex x3)
    cases p with
    | true =>
      rw [if_pos rfl]
      refine hc rfl F σ H3 (S.chg c2) _ fun z H4 dz c3 e3 r4 => ?_
      subst e3
      exact h2 rfl F H4 y z _ (S.domC (c2.trans c3)) (dp_ex ((S.chg c2).exC c3) (dp_ex ((S.chg c1).exC (Chg.of_ex x3)) r2)) r4 fun v H5 x5 r5 => ⟨q, dp_bl r5, w H5 ((c2.trans c3).trans (Chg.of_ex x5))⟩
    | false =>
      rw [if_neg Bool.false_ne_true]
      exact ⟨false, rfl, w H3 c2⟩)
theorem Dt.leLe {a b c : Expr} {i j k : Int} {pos : Pos} (ha : Dv Z X a ρ (.int i)) (hb : Dv Z X b ρ (.int j)) (hc : Dv Z X c ρ (.int k)) (hm : lastMarks [.LtE, .LtE] [b, c] = false := by with_unfolding_all rfl) :
    Dt Z X (.Compare a [.LtE, .LtE] [b, c] pos) ρ (decide (i ≤ j) && decide (j ≤ k)) :=
  Dt.chain op_le op_le ha hb (fun _ => hc) (opd_B0 (g := fun i j => decide (i ≤ j))) (fun _ => opd_B0 (g := fun i j => decide (i ≤ j))) hm
/-- len(set(xs)), xs the same int again and again -/
theorem first_same {ns : List Int} {n : Int} (h : ∀ m ∈ ns, m = n) : ∀ i, i ≤ ns.length → PyProof.Rows.firstMet (fun j => ns.getD j 0) i = if i = 0 then [] else [n]
  | 0, _ => rfl
  | i + 1, hi => by
    have eg : ns.getD i 0 = n := by
      rw [List.getD_eq_getElem?_getD, List.getElem?_eq_getElem (show i < ns.length from hi)]
      exact h _ (List.getElem_mem _)
    rw [PyProof.Rows.firstMet_succ, first_same h i (Nat.le_of_lt hi), eg, if_neg (Nat.succ_ne_zero i)]
    by_cases z : i = 0
    · rw [if_pos z]
      rfl
    · rw [if_neg z]
      unfold PyProof.Rows.step_dedup
      simp
theorem Dv.lenSet {a : Expr} {m : Nat} {n : Int} {p p2 q pos : Pos} (hm : m ≤ 1000) (tl : X.mg "len" = none) (ts : X.mg "set" = none) (ha : Dv Z X a ρ (.list (List.replicate m (.int n)))) (calm : X.calm = true := by rfl) (gl : Gl X "len" := by rfl) (gs : Gl X "set" := by rfl)
    (na : starEach [a] X.env = (false, eval a X.env) :: starEach [] X.env := by rfl) : Dv Z X (.Call (.Name "len" p) [.Call (.Name "set" p2) [a] [] q] [] pos) ρ (.int (if m = 0 then 0 else 1)) := fun F σ H S Q w pins s I => by
  refine Call_ (ld_blt I gl tl PySem.boot_len ?_)
  refine PyProof.Rows.callWith_builtin1 (PyProof.Rows.args_cons ?_ rfl) rfl rfl
  refine Call_ (ld_blt I gs ts PyProof.Rows.boot_set ?_)
  refine PyProof.Rows.callWith_type1 (PyProof.Rows.args_cons (thn (ha F σ H S (fun v H1 => ∃ l, v = .ref l ∧ SqL X.K H1 l ((List.replicate m n).map V.int) ∧ Chg Z H H1) ?_ pins s I) fun v s1 ⟨x, H1, J, r1, q1⟩ => PyProof.Rows.args_nil ?_) na) na rfl
  · intro v H1 d c e r
    subst e
    obtain ⟨l, xs, rfl, h1, h2⟩ := dp_lst r
    have h2' : DpAll X.K (cut H1 F) xs ((List.replicate m n).map PyData.int) := by
      rw [List.map_replicate]
      exact h2
    exact ⟨l, rfl, by rw [← dpa_ints h2']; exact Evl.ex_l cut_ex h1, c⟩
  · obtain ⟨l, rfl, hq, c⟩ := q1
    cases r1
    obtain ⟨us, rv, pl, hz⟩ := J.list hq
    have hl : us.toArray.size = (List.replicate m n).length := by rw [List.size_toArray, ← rv.length, List.length_map]
    refine call_set_list (J.ok.hd calm) pl.isList (ns := List.replicate m n) (by simpa using intsAre_vals rv) (by rw [hl, List.length_replicate]; unfold scanBound; omega) fun h' tk hS hk => ?_
    rw [hl, first_same (n := n) (fun y hy => (List.mem_replicate.mp hy).2) _ (Nat.le_refl _), List.length_replicate] at hS
    refine PyProof.Rows.args_nil ?_
    obtain ⟨o, es2, ep, t, ho, hex, hd, _, _, _, hf, hn⟩ := hS
    have J2 : Inv X pins σ H1 { s1 with heap := h', toks := tk } := J.kept fun b o e => hk b o (Heap.lt_size e) e
    have en : es2.size = if m = 0 then 0 else 1 := by
      rw [hn]
      by_cases z : m = 0
      · rw [if_pos z, if_pos z]
        rfl
      · rw [if_neg z, if_neg z]
        rfl
    refine call_len_set ho hex hd hf (by rw [en]; split <;> omega) ⟨.int (if m = 0 then 0 else 1), H1, J2.tok _, ⟨_, by rw [en]; split <;> rfl⟩, w _ H1 _ c rfl (.int _)⟩
end
section
variable {P : Program} {w : World} {K : PySem.W.Frag} {mg : Str → Option Value} {base : Heap} {Pt : Addr}
abbrev GFt (P : Program) (w : World) (K : PySem.W.Frag) (mg : Str → Option Value) (base : Heap) (Pt : Addr) : Prop := ∀ i lo hi : Int, Fc P w K mg base Pt 1 "is_from_to" p_is_from_to [.int i, .int lo, .int hi] (fun d => d = .bool (decide (lo ≤ i) && decide (i ≤ hi)))
theorem ok_is_from_to (D : Df K mg "is_from_to" "is_from_to" s_is_from_to p_is_from_to) (T : Tx K mg) : GFt P w K mg base Pt := fun i lo hi => by
  refine mkF D sc_is_from_to rfl fun f cdv A outer s H E F0 hr => ?_
  refine Bk.ret (Dv.and (Dv.isInt T.isi T.int (Dv.var 0 rfl)) fun _ => Dv.and (Dv.not (Dv.isBool T.isi T.bool (Dv.var 0 rfl))) fun _ => Dv.one (Dv.leLe (Dv.var 1 rfl) (Dv.var 0 rfl) (Dv.var 2 rfl))) fun d e => e
theorem ft_t {i lo hi : Int} (h1 : lo ≤ i) (h2 : i ≤ hi) : (decide (lo ≤ i) && decide (i ≤ hi)) = true := by rw [decide_eq_true h1, decide_eq_true h2]; rfl
theorem ok_is_lot (D : Df K mg "is_lot" "is_lot" s_is_lot p_is_lot) (T : Tx K mg) (gF : GFt P w K mg base Pt) (gI : GIsPart P w K mg base Pt) (l : Lot) (L : LotOk l) : Fc P w K mg base Pt 3 "is_lot" p_is_lot [encLot l] (fun d => d = .bool true) := by
  refine mkF D sc_is_lot rfl fun f cdv A outer s H E F0 hr => ?_
  refine Bk.skip (Db.t (Db.is (Db.or (Dt.not (Dt.val (Dv.isTup T.isi T.tuple (Dv.var 0 rfl)))) fun _ => Db.or (Dt.ne hr.units (Dv.len T.len (Dv.var 0 rfl)) Dv.int) fun _ =>
    Db.or1 (Dt.not (Dt.val (Dw.fc (gF _ _ _) (hr.mono (by decide)) (Da.c (Dv.ix (Dv.var 0 rfl) Dv.int) (Da.c Dv.int (Da.c (Dv.cInt T.mStuff) Da.nil))))))) (by rw [ft_t L.s0 L.s1]; rfl))) ?_
  refine Bk.skip (Db.t (Db.is (Db.or (Dt.not (Dt.val (Dw.fc (gI _) (hr.mono (by decide)) (Da.c (Dv.ix (Dv.var 0 rfl) Dv.int) Da.nil)))) fun _ => Db.or (Dt.le (Dv.ix (Dv.ix (Dv.var 0 rfl) Dv.int) Dv.int) Dv.int) fun _ =>
    Db.or1 (Dt.not (Dt.val (Dw.fc (gF _ _ _) (hr.mono (by decide)) (Da.c (Dv.ix (Dv.var 0 rfl) Dv.int) (Da.c Dv.int (Da.c (Dv.cInt T.mDay) Da.nil))))))) (by
      have h1 := (num_pos l.amt).mpr L.a0
      rw [ft_t L.f0 (Int.le_trans L.fl L.l1), decide_eq_false (by omega)]; rfl))) ?_
  refine Bk.ret (Dw.fc (gF _ _ _) (hr.mono (by decide)) (Da.c (Dv.ix (Dv.var 0 rfl) Dv.int) (Da.c (Dv.ix (Dv.var 0 rfl) Dv.int) (Da.c (Dv.cInt T.mDay) Da.nil)))) fun d e => ?_
  rw [e, ft_t L.fl L.l1]
theorem all_true {α : Type} (l : List α) : ((l.map fun _ => true).all id) = true := by
  rw [List.all_eq_true]
  intro x hx
  obtain ⟨_, _, rfl⟩ := List.mem_map.mp hx
  rfl
theorem ok_are_lots (D : Df K mg "are_lots" "are_lots" s_are_lots p_are_lots) (T : Tx K mg) (gL : ∀ l, LotOk l → Fc P w K mg base Pt 3 "is_lot" p_is_lot [encLot l] (fun d => d = .bool true)) (ls : List Lot) (L : LotsOk ls) : Fc P w K mg base Pt 4 "are_lots" p_are_lots [encLots ls] (fun d => d = .bool true) := by
  refine mkF D sc_are_lots rfl fun f cdv A outer s H E F0 hr => ?_
  refine Bk.ret (Dv.and (Dv.isTup T.isi T.tuple (Dv.var 0 rfl)) fun _ => Dv.and (Dv.le (Dv.len T.len (Dv.var 0 rfl)) (Dv.cInt T.mLots)) fun _ =>
    Dv.one (Dv.all (bs := ls.map fun _ => true) rfl T.all (Dv.is (Dv.compA (own := [("one", 1)]) (g := fun _ => .bool true) rfl sc_are_lots.nd (blkOk_by (N := n_are_lots) (sc := defScope s_are_lots) (by decide +kernel)) (Wk.tupD (Dv.var 0 rfl)) (is := [1]) (as := as1) (by decide)
      (by have := L.len; rw [List.length_map]; omega) (fun d hd => ?_)) (by rw [List.map_map, List.map_map]; rfl)))) fun d e => ?_
  · obtain ⟨l, h1, rfl⟩ := List.mem_map.mp hd
    exact ⟨_, rfl, fun s H C cl fp => ⟨Gt.name 1 sc_are_lots.nd, Ts.nil, fun _ => Dw.fc (gL l (L.ok l h1)) (hr.mono (by decide)) (Da.c (Dv.var 1 rfl) Da.nil)⟩⟩
  · have := L.len
    rw [e, all_true, List.length_map, decide_eq_true (by omega)]
    rfl
theorem ok_is_heat (D : Df K mg "is_heat" "is_heat" s_is_heat p_is_heat) (T : Tx K mg) (gF : GFt P w K mg base Pt) (gA : ∀ ns : List Int, (∀ n ∈ ns, 0 ≤ n) → ns.length ≤ 1000 → Fc P w K mg base Pt 4 "are_amounts" p_are_amounts [.tuple (encL ns), .int ns.length] (fun d => d = .bool true))
    (h : Heat) (d0 : 1 ≤ h.1) (d1 : h.1 ≤ 30) (n1 : 1 ≤ h.2.length) (n5 : h.2.length ≤ 5) (nn : ∀ x ∈ h.2, 0 ≤ x) : Fc P w K mg base Pt 5 "is_heat" p_is_heat [encHeat h] (fun d => d = .bool true) := by
  refine mkF D sc_is_heat rfl fun f cdv A outer s H E F0 hr => ?_
  have el : (encL h.2).length = h.2.length := List.length_map _
  refine Bk.skip (Db.t (Db.is (Db.or (Dt.not (Dt.val (Dv.isTup T.isi T.tuple (Dv.var 0 rfl)))) fun _ => Db.or (Dt.ne hr.units (Dv.len T.len (Dv.var 0 rfl)) Dv.int) fun _ =>
    Db.or1 (Dt.not (Dt.val (Dw.fc (gF _ _ _) (hr.mono (by decide)) (Da.c (Dv.ix (Dv.var 0 rfl) Dv.int) (Da.c Dv.int (Da.c (Dv.cInt T.mDay) Da.nil))))))) (by rw [ft_t d0 d1]; rfl))) ?_
  refine Bk.skip (Db.t (Db.is (Db.or (Dt.not (Dt.val (Dv.isTup T.isi T.tuple (Dv.ix (Dv.var 0 rfl) Dv.int)))) fun _ => Db.or1 (Dt.not (Dt.leLe Dv.int (Dv.len T.len (Dv.ix (Dv.var 0 rfl) Dv.int)) (Dv.add (Dv.cInt T.mStuff) Dv.int)))) (by
    rw [el, decide_eq_true (by omega), decide_eq_true (by omega)]; rfl))) ?_
  refine Bk.ret (Dw.fc (gA h.2 nn (by omega)) (hr.mono (by decide)) (Da.c (Dv.ix (Dv.var 0 rfl) Dv.int) (Da.c (Dv.is (Dv.len T.len (Dv.ix (Dv.var 0 rfl) Dv.int)) (by rw [el])) Da.nil))) fun d e => e
theorem cut1 (ds : List PyData) : cutD ds (some 1) none = ds.drop 1 := by
  unfold cutD HT.sIx
  cases ds with
  | nil => rfl
  | cons d ds =>
    show ((d :: ds).drop (min 1 (ds.length + 1))).take ((ds.length + 1) - min 1 (ds.length + 1)) = _
    rw [Nat.min_eq_left (by omega)]
    show ds.take (ds.length + 1 - 1) = ds
    rw [Nat.add_sub_cancel, List.take_length]
theorem zip_mem {ds es : List PyData} {d : PyData} (h : d ∈ zipD ds es) : ∃ (i : Nat) (a b : PyData), ds[i]? = some a ∧ es[i]? = some b ∧ d = .tuple [a, b] := by
  obtain ⟨i, hi⟩ := List.mem_iff_getElem?.mp h
  have hl := (List.getElem?_eq_some_iff.mp hi).1
  rw [zipD_len] at hl
  have h1 : ds[i]? = some (ds[i]'(by omega)) := List.getElem?_eq_getElem _
  have h2 : es[i]? = some (es[i]'(by omega)) := List.getElem?_eq_getElem _
  refine ⟨i, _, _, h1, h2, ?_⟩
  rw [zipD_get h1 h2] at hi
  exact (Option.some.inj hi).symm
theorem ok_is_plan (D : Df K mg "is_plan" "is_plan" s_is_plan p_is_plan) (T : Tx K mg)
    (gH : ∀ h : Heat, 1 ≤ h.1 → h.1 ≤ 30 → 1 ≤ h.2.length → h.2.length ≤ 5 → (∀ x ∈ h.2, 0 ≤ x) → Fc P w K mg base Pt 5 "is_heat" p_is_heat [encHeat h] (fun d => d = .bool true)) (n : Nat) (pl : List Heat) (L : PlOk n pl) : Fc P w K mg base Pt 6 "is_plan" p_is_plan [encPlan pl] (fun d => d = .bool true) := by
  refine mkF D sc_is_plan rfl fun f cdv A outer s H E F0 hr => ?_
  have hlen := L.len
  refine Bk.skip (Db.t (Db.is (Db.or (Dt.not (Dt.val (Dv.isTup T.isi T.tuple (Dv.var 0 rfl)))) fun _ => Db.or (Dt.gt (Dv.len T.len (Dv.var 0 rfl)) (Dv.cInt T.mHeats)) fun _ =>
    Db.or1 (Dt.not (Dt.val (Dv.all (bs := pl.map fun _ => true) rfl T.all (Dv.is (Dv.compA (own := [("one", 1)]) (g := fun _ => .bool true) rfl sc_is_plan.nd (blkOk_by (N := n_is_plan) (sc := defScope s_is_plan) (by decide +kernel)) (Wk.tupD (Dv.var 0 rfl)) (is := [1]) (as := as1) (by decide)
      (by rw [List.length_map]; omega) (fun d hd => ?_)) (by rw [List.map_map, List.map_map]; rfl)))))) ?_)) ?_
  · obtain ⟨h, h1, rfl⟩ := List.mem_map.mp hd
    have h2 := L.d0 h h1
    have h3 := L.po.len h h1
    have h4 := L.n1
    have h5 := L.n5
    exact ⟨_, rfl, fun s H C cl fp => ⟨Gt.name 1 sc_is_plan.nd, Ts.nil, fun _ => Dw.fc (gH h h2.1 h2.2 (by omega) (by omega) (L.po.nn h h1)) (hr.mono (by decide)) (Da.c (Dv.var 1 rfl) Da.nil)⟩⟩
  · rw [all_true, List.length_map, decide_eq_false (by omega)]
    rfl
  refine Bk.skip (Dt.is (Dt.not (Dt.val (Dv.all (bs := (zipD (pl.map encHeat) ((pl.map encHeat).drop 1)).map fun _ => true) rfl T.all (Dv.is (Dv.compA (own := [("one", 1), ("later", 2)]) (g := fun _ => .bool true) rfl sc_is_plan.nd (blkOk_by (N := n_is_plan) (sc := defScope s_is_plan) (by decide +kernel))
    (Wk.zip T.zip (Dv.var 0 rfl) (Dv.is (Dv.sl (Dv.var 0 rfl) (Do.so Dv.int) Do.no) (by rw [cut1]))) (is := [1, 2]) (as := items2) (by decide) (by rw [zipD_len, List.length_map]; omega) (fun d hd => ?_)) (by rw [List.map_map]; rfl))))) (by rw [all_true]; rfl)) ?_
  · obtain ⟨i, a, b, h1, h2, rfl⟩ := zip_mem hd
    rw [List.getElem?_map] at h1
    rw [List.getElem?_drop, List.getElem?_map] at h2
    cases q1 : pl[i]? with
    | none => rw [q1] at h1; cases h1
    | some x =>
      cases q2 : pl[1 + i]? with
      | none => rw [q2] at h2; cases h2
      | some y =>
        rw [q1] at h1
        rw [q2] at h2
        cases h1
        cases h2
        have lt : x.1 < y.1 := by
          obtain ⟨l1, e1⟩ := List.getElem?_eq_some_iff.mp q1
          obtain ⟨l2, e2⟩ := List.getElem?_eq_some_iff.mp q2
          have := List.pairwise_iff_getElem.mp L.po.rise i (1 + i) l1 l2 (by omega)
          rw [e1, e2] at this
          exact this
        exact ⟨_, rfl, fun s H C cl fp => ⟨Gt.two 1 2 rfl sc_is_plan.nd, Ts.nil, fun _ => Dv.is (Dv.lt (Dv.ix (Dv.var 1 rfl) Dv.int) (Dv.ix (Dv.var 2 rfl) Dv.int)) (by rw [decide_eq_true lt])⟩⟩
  refine Bk.ret (Dv.le (Dv.lenSet (m := pl.length) (n := n) (by omega) T.len T.set (Dv.is (Dv.compA (own := [("one", 1)]) (g := fun _ => .int n) rfl sc_is_plan.nd (blkOk_by (N := n_is_plan) (sc := defScope s_is_plan) (by decide +kernel)) (Wk.tupD (Dv.var 0 rfl)) (is := [1]) (as := as1) (by decide)
      (by rw [List.length_map]; omega) (fun d hd => ?_)) (by rw [List.map_map]; congr 1; exact List.map_const' ..))) Dv.int) fun d e => ?_
  · obtain ⟨h, h1, rfl⟩ := List.mem_map.mp hd
    exact ⟨_, rfl, fun s H C cl fp => ⟨Gt.name 1 sc_is_plan.nd, Ts.nil, fun _ => Dv.is (Dv.len T.len (Dv.ix (Dv.var 1 rfl) Dv.int)) (by rw [List.length_map, L.po.len h h1])⟩⟩
  · rw [e, decide_eq_true (by split <;> omega)]
end
end Hb

namespace Hb
open PySem PySem.Spec PyProof.Rows L2 RZ
open Evl (Ex)
/-! ### sorted, of pairs of ints told as data -/
abbrev pairD (p : Int × Int) : PyData := .tuple [.int p.1, .int p.2]
def rSortD (K : PySem.W.Frag) : List V → Hp → VK → Prop := fun vs H Q => ∃ (a : Addr) (xs : List V) (ps : List (Int × Int)), vs = [V.ref a] ∧ SqL K H a xs ∧ DpAll K H xs (ps.map pairD) ∧
  ∀ (ys : List V) (qs : List (Int × Int)) (p : Addr), qs.Perm ps → (qs.Pairwise fun x y => lexLe x y = true) → (∀ Hc, DpAll K Hc xs (ps.map pairD) → DpAll K Hc ys (qs.map pairD)) → H p = none → Q (.ref p) (upd H p (.lst ys))
theorem pair_inj {X : Cx} {pins : List (Addr × Obj)} {σ : L2.St} {H : Hp} {s : Shared} (I : Inv X pins σ H s) {v : V} {p q : Int × Int} (h1 : Dp X.K H v (pairD p)) (h2 : Dp X.K H v (pairD q)) : p = q := by
  obtain ⟨t, xs, e1, t1, d1⟩ := dp_tup h1
  obtain ⟨u, ys, e2, t2, d2⟩ := dp_tup h2
  rw [e1] at e2
  cases e2
  have e := I.tuple_inj t1 t2
  subst e
  obtain ⟨a, b, e3, a1, a2⟩ := dpa2 d1
  obtain ⟨c, d, e4, b1, b2⟩ := dpa2 d2
  rw [e3] at e4
  cases e4
  have z1 := (dp_int a1).symm.trans (dp_int b1)
  have z2 := (dp_int a2).symm.trans (dp_int b2)
  cases p
  cases q
  injection z1 with z1
  injection z2 with z2
  simp only at z1 z2
  rw [z1, z2]
theorem cr_sortD {X : Cx} : CallR X (.builtin "sorted") (rSortD X.K) := by
  intro pins s σ H vs us Q I r h
  obtain ⟨a, xs, ps, rfl, hs, hd, q⟩ := h
  obtain ⟨its, rv, hl, hz⟩ := I.list hs
  obtain ⟨u, rfl, ru⟩ := vals1 r
  obtain rfl : u = Value.ref a := ru
  have mem : ∀ x ∈ xs, ∃ p ∈ ps, Dp X.K H x (pairD p) := fun x hx => by
    obtain ⟨i, hi⟩ := List.mem_iff_getElem?.mp hx
    obtain ⟨d, e1, e2⟩ := dpa_get' hd hi
    rw [List.getElem?_map] at e1
    cases z : ps[i]? with
    | none => rw [z] at e1; cases e1
    | some p =>
      rw [z] at e1
      cases e1
      exact ⟨p, List.mem_of_getElem? z, e2⟩
  obtain ⟨e1, e2⟩ := refs_back rv fun x m => by
    obtain ⟨p, _, hp⟩ := mem x m
    obtain ⟨t, _, e, _⟩ := dp_tup hp
    exact ⟨t, e⟩
  classical
  let kk : V → Int × Int := fun v => if h : ∃ p, Dp X.K H v (pairD p) then h.choose else (0, 0)
  have kk_eq : ∀ v p, Dp X.K H v (pairD p) → kk v = p := fun v p hp => by
    have hx : ∃ p, Dp X.K H v (pairD p) := ⟨p, hp⟩
    show (if h : ∃ p, Dp X.K H v (pairD p) then h.choose else (0, 0)) = p
    rw [dif_pos hx]
    exact pair_inj I hx.choose_spec hp
  have map_kk : ∀ {xs : List V} {ps : List (Int × Int)}, DpAll X.K H xs (ps.map pairD) → xs.map kk = ps := by
    intro xs
    induction xs with
    | nil =>
      intro ps h
      cases ps with
      | nil => rfl
      | cons p ps => cases h
    | cons x xs ih =>
      intro ps h
      cases ps with
      | nil => cases h
      | cons p ps =>
        cases h with
        | cons h1 h2 => rw [List.map_cons, kk_eq x p h1, ih h2]
  refine SrtO.sorted_pairsO (k := fun u => kk (backV u)) hl.isList (by rw [← rv.length]; exact hz) (fun v hv => ?_) fun h' d out o1 o2 kp od on_ => ?_
  · obtain ⟨t, rfl⟩ := e2 v hv
    have hm : V.ref t ∈ xs := by
      rw [e1]
      exact List.mem_map.mpr ⟨_, hv, rfl⟩
    obtain ⟨p, _, hp⟩ := mem _ hm
    have ek : kk (backV (.ref t)) = p := kk_eq _ _ hp
    rw [ek]
    obtain ⟨t', ys, e, tq, dq⟩ := dp_tup hp
    cases e
    obtain ⟨a1, a2, rfl, b1, b2⟩ := dpa2 dq
    obtain ⟨its2, rv2, ⟨o, ho, hc, n, hdt⟩, _⟩ := I.tuple tq
    obtain ⟨u1, u2, rfl, ri, rj⟩ := vals2 rv2
    rw [dp_int b1] at ri
    rw [dp_int b2] at rj
    obtain ⟨t1, rfl⟩ := ri
    obtain ⟨t2, rfl⟩ := rj
    exact ⟨t, o, t1, t2, n, rfl, ho, hc, hdt⟩
  · have o3 : ∀ u ∈ out, ∃ a, u = Value.ref a := fun u hu => e2 u (o2.perm.mem_iff.mp hu)
    obtain ⟨n, on_⟩ := on_
    have pm : (out.map backV).Perm xs := by
      rw [e1]
      exact o2.perm.map backV
    have hlen : (out.map backV).length ≤ sizeLine := by
      rw [pm.length_eq]
      exact hz
    refine ⟨.ref d, upd H d (.lst (out.map backV)), I.laid (t' := s.toks) kp od ⟨hlen, out, n, vals_back o3, on_⟩, rfl, q _ ((out.map backV).map kk) d ?_ ?_ (fun Hc hc => ?_) (I.hok.fresh od)⟩
    · have := pm.map kk
      rw [map_kk hd] at this
      exact this
    · rw [List.pairwise_map, List.pairwise_map]
      refine List.Pairwise.imp (fun {x y} h => ?_) o1
      have h := SrtO.lexB_no.mp h
      rw [lexLe_iff]
      omega
    · rw [List.map_map]
      have hm : ∀ y ∈ out.map backV, Dp X.K Hc y (pairD (kk y)) := fun y hy => by
        have hx : y ∈ xs := pm.mem_iff.mp hy
        obtain ⟨i, hi⟩ := List.mem_iff_getElem?.mp hx
        obtain ⟨d1, f1, f2⟩ := dpa_get' hc hi
        obtain ⟨d2, g1, g2⟩ := dpa_get' hd hi
        rw [f1] at g1
        cases g1
        rw [List.getElem?_map] at f1
        cases z : ps[i]? with
        | none => rw [z] at f1; cases f1
        | some p =>
          rw [z] at f1
          cases f1
          rw [kk_eq y p g2]
          exact f2
      have go : ∀ l : List V, (∀ y ∈ l, Dp X.K Hc y (pairD (kk y))) → DpAll X.K Hc l (l.map (pairD ∘ kk)) := by
        intro l
        induction l with
        | nil => intro _; exact .nil
        | cons y l ih => intro h; exact .cons (h y List.mem_cons_self) (ih fun z hz => h z (List.mem_cons_of_mem _ hz))
      exact go _ hm
section
variable {Z : Vz} {X : Cx} {e : Expr} {es : List Expr} {ρ : List AV}
theorem Dn.sortP {ps : List (Int × Int)} {p pos : Pos} (hm : X.mg "sorted" = none) (h : Dv Z X e ρ (.list (ps.map pairD))) (hg : Gl X "sorted" := by rfl) (he : starEach [e] X.env = [(false, eval e X.env)] := by rfl) :
    Dn Z X (.Call (.Name "sorted" p) [e] [] pos) ρ fun out => ∃ qs : List (Int × Int), qs.Perm ps ∧ (qs.Pairwise fun x y => lexLe x y = true) ∧ out = qs.map pairD :=
  Dn.callB cr_sortD hm (by decide +kernel) (Da.c h Da.nil he) (fun F H vs Q hF h q => by
    obtain ⟨v, rfl, h1⟩ := dpa1 h
    obtain ⟨a, xs, rfl, h2, h3⟩ := dp_lst h1
    refine ⟨a, xs, ps, rfl, Evl.ex_l cut_ex h2, dpa_ex cut_ex h3, fun ys qs p k1 k2 k3 hp => ?_⟩
    exact q p ys _ _ (ex_new hp) hp upd_same ⟨qs, k1, k2, rfl⟩ (dpa_ex (ex_cut_new hp) (k3 _ h3))) hg (by decide) (by decide) he
end
section
variable {P : Program} {w : World} {K : PySem.W.Frag} {mg : Str → Option Value} {base : Heap} {Pt : Addr}
abbrev GOpen (P : Program) (w : World) (K : PySem.W.Frag) (mg : Str → Option Value) (base : Heap) (Pt : Addr) : Prop := ∀ (l : Lot) (s d : Int), Fc P w K mg base Pt 1 "is_open" p_is_open [encLot l, .int s, .int d] (fun x => x = .bool (isOpen l s d))
theorem ok_is_open (D : Df K mg "is_open" "is_open" s_is_open p_is_open) (T : Tx K mg) : GOpen P w K mg base Pt := fun l st d => by
  refine mkF D sc_is_open rfl fun f cdv A outer s H E F0 hr => ?_
  refine Bk.ret (Dv.and (Dv.eq hr.units (Dv.ix (Dv.var 0 rfl) Dv.int) (Dv.var 1 rfl)) fun _ => Dv.one (Dv.leLe (Dv.ix (Dv.var 0 rfl) Dv.int) (Dv.var 2 rfl) (Dv.ix (Dv.var 0 rfl) Dv.int))) fun x e => ?_
  rw [e]
  unfold isOpen
  congr 2
end
end Hb

namespace Hb
open PySem PySem.Spec PyProof.Rows L2 RZ
open Evl (Ex)
/-! ### extend, by a list told as data -/
section
theorem ext_any (l : Addr) (items : Array Value) (n : Nat) (b : Addr) (items2 : Array Value) (n2 : Nat) (hc0 : ¬(!items.isEmpty && Builtin.List.listTooLong (items.size + items2.size)) = true) (hc1 : items.size ≤ sizeLine) (hs2 : items.size + items2.size ≤ sizeLine + 1) :
    Meets (Builtin.«list.extend» ⟨[.ref l, .ref b], []⟩) (fun _ R s => s.heap.get? l = some { cls := .type "list", dict := none, data := .seq items n, slots := #[] } ∧ (∃ o : Obj, s.heap.get? b = some o ∧ o.cls = .type "list" ∧ o.dict = none ∧ o.data = .seq items2 n2) ∧ R (.ok (.ret Value.none)) { s with heap := s.heap.update l (Obj.mapSeq fun x => x ++ items2), toks := s.toks }) :=
  .of_wp fun prog w A R s h => by
    obtain ⟨hp, g, d, tk, os⟩ := s
    obtain ⟨hl, ⟨⟨oc, od, oda, osl⟩, hb, e1, e2, e3⟩, h⟩ := h
    cases e1
    cases e2
    cases e3
    have f1 := AutoSeq1.idx_int
    have f2 := AutoSeq1.sub_tuple_tuple
    have f3 := AutoSeq1.sub_list_list
    have f4 := AutoSeq1.sub_tuple_list
    have f5 := AutoSeq1.sub_list_tuple
    have both : (items ++ items2).size ≤ sizeLine + 1 := by
      rw [Array.size_append]
      exact hs2
    wp_walk using (wpAny_updateSeq hl rfl (hz := hc1) (_hz' := both)), AutoSeq1.wpAny_loadPart' hl, AutoSeq1.wpAny_loadPart' hb
    exact ⟨_, rfl, h⟩
end
def rExtL (K : PySem.W.Frag) : V → List V → Hp → VK → Prop := fun x vs H Q => ∃ l b xs zs, x = .ref l ∧ vs = [.ref b] ∧ H l = some (.lst xs) ∧ SqL K H b zs ∧ xs.length + zs.length ≤ sizeLine ∧ Q .non (upd H l (.lst (xs ++ zs)))
theorem mt_extL {X : Cx} : MtM X "list.extend" (rExtL X.K) := by
  intro pins s σ H x vs v us Q I rx rv h
  obtain ⟨l, b, xs, zs, rfl, rfl, hH, hB, hz, q⟩ := h
  cases rx
  obtain ⟨u, rfl, ru⟩ := vals1 rv
  obtain rfl : u = Value.ref b := ru
  obtain ⟨z, its, n, r, hl, e⟩ := I.lstM hH
  obtain ⟨its2, r2, ⟨o, n2, e2, o1, o2, o3⟩, z2⟩ := I.list hB
  have l2 := r2.length
  have hsz : its.toArray.size + its2.toArray.size ≤ sizeLine := by
    rw [List.size_toArray, List.size_toArray]
    omega
  have hlong : ¬ (!its.toArray.isEmpty && Builtin.List.listTooLong (its.toArray.size + its2.toArray.size)) = true := by
    rw [notLongL hsz, Bool.and_false]
    decide
  refine call_meets F.slot_list_extend ⟨_, e, rfl⟩ F.entry_list_extend (F.args_list_extend_2 _ _) (ext_any l its.toArray n b its2.toArray n2 hlong (by rw [List.size_toArray]; omega) (by omega)) ⟨e, ⟨o, e2, o1, o2, o3⟩, ?_⟩
  refine ⟨.non, _, I.lset (its' := its ++ its2) hH e (by simp) (r.append r2) ?_, rfl, q⟩
  rw [List.length_append]
  omega
section
variable {Z : Vz} {Y F0 : Addr → Prop} {B : Hp} {X : Cx} {e e0 : Expr} {es : List Expr} {ρ : List AV} {sts rest : List Stmt} {N : List AV → Prop} {R : RT}
/-- xs.extend(e) -/
theorem Bk.ext (i : Nat) {a : Addr} {ds : List PyData} {φ : List PyData → Prop} {x : Str} {px apos cpos pos : Pos} (hi : ρ[i]? = some (.own a ds)) (he : Dw Z X e ρ fun d => ∃ es, φ es ∧ d = .list es) (hl : ∀ es, φ es → ds.length + es.length ≤ 100000) (k : ∀ es, φ es → Bk Z Y F0 B X rest (ρ.set i (.own a (ds ++ es))) N R)
    (hn : X.N[i]? = some x := by rfl) (hv : Vis X.env.scope x := by first | exact Or.inl rfl | exact Or.inr (Or.inl rfl) | exact Or.inr (Or.inr rfl)) (hd : (x == ("__debug__" : Str)) = false := by decide) (hcd : (x == ("__classdict__" : Str)) = false := by decide)
    (hbase : attributeBase (.Name x px) "extend" X.env (eval (.Name x px) X.env) = eval (.Name x px) X.env := by rfl)
    (hfew : ((backTo cpos (starEach [e] X.env)).all (fun x => !x.1) && (backToKw cpos (keywordEach [] X.env)).all (fun x => x.1.isSome) && decide ([e].length + ([] : List Keyword).length + (if ([] : List Keyword).isEmpty then 0 else 1) < 30)) = true := by rfl)
    (hline : (apos.endLine == cpos.line) = true := by rfl) (hs : starEach [e] X.env = [(false, eval e X.env)] := by rfl) (hsw : swapsWith (.Call (.Attribute (.Name x px) "extend" apos) [e] [] cpos) none pos.line X.env = pure false := by rfl) :
    Bk Z Y F0 B X (.Expr (.Call (.Attribute (.Name x px) "extend" apos) [e] [] cpos) pos :: rest) ρ N R := Bk.one fun F σ H S g D n r => by
  obtain ⟨ov, h1, h2, h3, h4, xs, h5, h6⟩ := S.slot i _ hi
  refine ws_of (ps_expr (pe_bm PySem.F.plainAttrs_list PySem.F.slot_list_extend PySem.F.type_list_extend mt_extL (pv i hn hv hd hcd) (pa_cons we_pe pa_nil hs) hbase hfew hline hs) hsw) ⟨.ref a, by rw [h1, h2], .inl ⟨rfl, xs, .inl (.inl h5)⟩, he F σ H S _ fun v H2 d c ⟨es, p, ed⟩ q => ?_⟩
  subst ed
  obtain ⟨b, zs, rfl, q1, q2⟩ := dp_lst q
  have h6' := dpa_ex (S.exC c) h6
  obtain ⟨s1, g1, ce⟩ := own_upd (S.chg c) (g.chg c) hi (dpa_app h6' q2)
  have z1 := dpa_len h6
  have z2 := dpa_len q2
  have z3 := hl es p
  have z4 : (100000 : Nat) ≤ sizeLine := by decide
  exact ⟨a, b, xs, zs, rfl, rfl, c.1 _ _ h4 h5, Evl.ex_l cut_ex q1, by omega, n F σ _ _ s1 g1 (by rw [ce]; exact S.exC c) (k es p)⟩
/-- an own list turned by a call -/
theorem own_chg {F : Addr → Prop} {σ : L2.St} {H H' : Hp} {i : Nat} {a : Addr} {ds es : List PyData} {ys : List V} (S : StOk Z F X.K H σ ρ) (g : Gr Y F0 B Z F H ρ) (hi : ρ[i]? = some (.own a ds)) (kd : Kd (fun b => b = Z.tab ∨ b = a) H H') (tb : TabAt H' Z.tab) (hz : ∀ b, Z b → b = Z.tab)
    (h' : H' a = some (.lst ys)) (r : DpAll X.K (cut H' F) ys es) :
    StOk Z F X.K H' σ (ρ.set i (.own a es)) ∧ Gr Y F0 B Z F H' (ρ.set i (.own a es)) ∧ Ex (cut H F) (cut H' F) := by
  obtain ⟨ov, h1, h2, h3, h4, xs, h5, h6⟩ := S.slot i _ hi
  have ex : Ex (cut H F) (cut H' F) := kd.cut fun b h => h.elim (fun e => by rw [e]; exact S.zf _ Z.ht) fun e => by rw [e]; exact h3
  have hl := (List.getElem?_eq_some_iff.mp hi).1
  have ga := g.own i a (by rw [hi]; rfl)
  obtain ⟨tp, t1, _⟩ := id tb
  obtain ⟨tq, t2, _⟩ := S.tb
  refine ⟨⟨fun b z => ⟨(S.pen b z).1, by rw [hz b z]; exact .inr tb⟩, tb, fun b h => ?_, by simp [S.len], fun j l b e1 e2 => ?_, fun j av e => ?_⟩, ?_, ex⟩
  · by_cases y : b = a
    · rw [y, h']
      exact fun z => nomatch z
    · by_cases y2 : b = Z.tab
      · rw [y2, t1]
        exact fun z => nomatch z
      · cases q : H b with
        | none => exact absurd q (S.dom b h)
        | some o =>
          rw [kd b o (fun z => z.elim y2 y) q]
          exact fun z => nomatch z
  · have key : ∀ j : Nat, ((ρ.set i (.own a es))[j]?.bind AV.addr) = some b → (ρ[j]?.bind AV.addr) = some b := fun j h => by
      by_cases q : i = j
      · subst q
        rw [List.getElem?_set_self hl] at h
        rw [hi]
        exact h
      · rw [List.getElem?_set_ne q] at h
        exact h
    exact S.inj j l b (key j e1) (key l e2)
  · by_cases q : i = j
    · subst q
      rw [List.getElem?_set_self hl] at e
      cases e
      exact ⟨ov, h1, h2, h3, h4, ys, h', r⟩
    · rw [List.getElem?_set_ne q] at e
      obtain ⟨w, q1, q2⟩ := S.slot j av e
      have ne : ∀ b, av.addr = some b → b ≠ a := fun b hb z => q (S.inj i j a (by rw [hi]; rfl) (by rw [e]; show av.addr = some a; rw [hb, z]))
      refine ⟨w, q1, ?_⟩
      cases av with
      | no => trivial
      | d x =>
        obtain ⟨v, a1, a2⟩ := q2
        exact ⟨v, a1, dp_ex ex a2⟩
      | own b es' =>
        obtain ⟨a1, a2, a3, zs, a4, a5⟩ := q2
        exact ⟨a1, a2, a3, zs, kd b _ (fun z => z.elim (fun z => a3 (by rw [z]; exact Z.ht)) (ne b rfl)) a4, dpa_ex ex a5⟩
      | pen p =>
        obtain ⟨a1, a2, i1, i2, i3, a3⟩ := q2
        rw [hz p a2, t2] at a3
        cases a3
      | fd b kvs =>
        obtain ⟨a1, o, zs, a4, a5, a6⟩ := q2
        exact ⟨a1, o, zs, ex _ _ a4, a5, dpa_ex ex a6⟩
      | dic b kvs =>
        obtain ⟨a1, a2, a3, zs, a4, a5, a6⟩ := q2
        exact ⟨a1, a2, a3, zs, kd b _ (fun z => z.elim (fun z => a3 (by rw [z]; exact Z.ht)) (ne b rfl)) a4, a5, dpa_ex ex a6⟩
  · have g3 := g.av i (av := .own a es) fun b e => by
      cases e
      exact ga
    refine ⟨g3.zy, g3.d0, fun b o ny h => ?_, g3.sub, g3.new, g3.own, g3.yf, g3.yb, fun b z => ⟨fun h => ?_, fun h => by rw [hz b z]; exact tb⟩⟩
    · have nb : b ≠ a := fun z => by
        rcases ga with q | q
        · exact ny (by rw [z]; exact q)
        · rw [z, q] at h
          cases h
      exact kd b o (fun z => z.elim (fun z => ny (by rw [z]; exact g.zy _ Z.ht)) nb) (g.kept b o ny h)
    · obtain ⟨i1, i2, i3, a3⟩ := (g.vk b z).1 h
      rw [hz b z, t2] at a3
      cases a3
/-- a def whose second argument is a list of the caller's, that it turns -/
def SpR (K : PySem.W.Frag) (Pt : Addr) (d0 : PyData) (rs ds : List PyData) (post : PyData → List PyData → Prop) : Sp := fun vs H Q _ => ∃ (b : Addr) (v0 : V) (ws : List V) (F : Addr → Prop) (xs : List V), vs = v0 :: .ref b :: ws ∧ F b ∧ b ≠ Pt ∧ H b = some (.lst xs) ∧ F Pt ∧ TabAt H Pt ∧ (∀ a, F a → H a ≠ none) ∧
  Dp K (cut H F) v0 d0 ∧ DpAll K (cut H F) xs rs ∧ DpAll K (cut H F) ws ds ∧ ∀ v H' d rs' xs', Kd (fun a => a = Pt ∨ a = b) H H' → TabAt H' Pt → post d rs' → H' b = some (.lst xs') → DpAll K (cut H' F) xs' rs' → Dp K (cut H' F) v d → Q v H'
theorem Bk.unpR (m : Nat) {a : Addr} {k : Nat} {x y : Str} {ps : List Str} {d0 : PyData} {rs ds : List PyData} {post : PyData → List PyData → Prop} {tg : Expr} {is : List Nat} {as : PyData → Option (List PyData)} {p py pos pos' : Pos} (hi : ρ[m]? = some (.own a rs)) (hz : ∀ b, Z b → b = Z.tab)
    (G : Kn X k x ps (SpR X.K Z.tab d0 rs ds post)) (hr : Room k X.A) (h0 : Dv Z X e0 ρ d0) (ha : Da Z X es ρ fun y => y = ds) (hg : Gt X tg is as)
    (kk : ∀ d rs', post d rs' → ∃ qs, as d = some qs ∧ Bk Z Y F0 B X rest (putsA (ρ.set m (.own a rs')) is qs) N R)
    (hn : X.N[m]? = some y := by rfl) (hv : Vis X.env.scope y := by first | exact Or.inl rfl | exact Or.inr (Or.inl rfl) | exact Or.inr (Or.inr rfl)) (hd : (y == ("__debug__" : Str)) = false := by decide) (hcd : (y == ("__classdict__" : Str)) = false := by decide)
    (hgl : Gl X x := by rfl) (hdb : (x == ("__debug__" : Str)) = false := by decide) (he0 : starEach (e0 :: .Name y py :: es) X.env = (false, eval e0 X.env) :: starEach (.Name y py :: es) X.env := by rfl) (he : starEach (.Name y py :: es) X.env = (false, eval (.Name y py) X.env) :: starEach es X.env := by rfl)
    (hpl : (backTo pos (starEach (.Name y py :: es) X.env)).any (·.1) = false := by rfl)
    (hs : swapsWithSole [tg] (.Call (.Name x p) (e0 :: .Name y py :: es) [] pos) pos'.line X.env = pure false := by rfl) (hw : swappedStores [tg] (.Call (.Name x p) (e0 :: .Name y py :: es) [] pos) X.env = pure none := by rfl)
    (h1 : (assignEach [tg] X.env).map (·.2) = [assign tg X.env] := by rfl) :
    Bk Z Y F0 B X (.Assign [tg] (.Call (.Name x p) (e0 :: .Name y py :: es) [] pos) pos' :: rest) ρ N R := Bk.one fun F σ H S g D n r => by
  obtain ⟨f, fd, ok, hm, kp, b⟩ := G.ex
  obtain ⟨ov, q1, q2, q3, q4, xs, q5, q6⟩ := S.slot m _ hi
  refine ws_of (ps_asg (pe_call ok hr hgl hm kp b .nil pass0 (pa_cons we_pe (pa_cons (pv m hn hv hd hcd) wa_pa he) he0) hdb he0 hpl) wg_pg hs hw h1) (h0 F σ H S _ fun v0 H1 d' c1 e1 r1 => ⟨.ref a, by rw [q1, q2], ha F σ H1 (S.chg c1) _ fun ws H2 ds' c2 e2 r2 => ?_⟩)
  subst e1 e2
  have cc := c1.trans c2
  have S2 := S.chg cc
  have g2 := g.chg cc
  refine ⟨a, v0, ws, F, xs, by rw [List.append_nil], q3, fun z => q4 (by rw [z]; exact Z.ht), cc.1 _ _ q4 q5, S2.zf _ Z.ht, S2.tb, S2.dom, dp_ex ((S.chg c1).exC c2) r1, dpa_ex (S.exC cc) q6, r2, fun v H' d rs' xs' kd tb hp hx hxs hv' => ?_⟩
  obtain ⟨qs, u1, u2⟩ := kk d rs' hp
  obtain ⟨s3, g3, x3⟩ := own_chg S2 g2 hi kd tb hz hx hxs
  exact hg F σ H' v d qs hv' u1 _ fun ws' rw_ => n F _ H' _ (s3.puts rw_) g3.puts ((S.exC cc).trans x3) u2
end
section
variable {P : Program} {w : World} {K : PySem.W.Frag} {mg : Str → Option Value} {base : Heap} {Pt : Addr} {x qual : Str} {st : Stmt} {f : Addr} {fd : FuncData} {N ps : List Str} {k : Nat}
theorem mkR {d0 : PyData} {rs ds : List PyData} {post : PyData → List PyData → Prop} (D : Df K mg x qual st ps) (S : FnScope N ps (defScope st)) (hlen : ds.length + 2 = ps.length)
    (hb : ∀ (f : Addr) (cdv : Value) (A : Around) (outer : List Env) (s : Shared) (H : Hp) (E : XK) (F0 : Addr → Prop) (b : Addr), H b ≠ none → Room k (bodyX P w K mg base N qual st f cdv A outer s H E).A →
      Bk (vz1 Pt) (fun a => a = Pt ∨ a = b) F0 H (bodyX P w K mg base N qual st f cdv A outer s H E) (defBody st) (startA N (.d d0 :: .own b rs :: ds.map .d)) (fun _ => False) (Rt K fun ρ d => ∃ rs', ρ[1]? = some (.own b rs') ∧ post d rs')) : Kk P w K mg base (k + 1) x ps (SpR K Pt d0 rs ds post) := by
  obtain ⟨f, fd, F, hm, bi⟩ := D.ex
  refine ⟨f, fd, F.ok S (fun vs H Q E h => ?_) (fun cdv A outer s H vs Q E hr h => ?_), hm, F.kp, bi⟩
  · obtain ⟨b, v0, ws, F0, xs, rfl, _, _, _, _, _, _, _, _, h2, _⟩ := h
    rw [List.length_cons, List.length_cons, dpa_len h2, hlen]
  · obtain ⟨b, v0, ws, F0, xs, rfl, hb1, hb2, hb3, hPt, htb, hd, h0, hx, hw, hq⟩ := h
    have onlyb : ∀ (i : Nat) (a : Addr), ((AV.d d0 :: AV.own b rs :: ds.map AV.d)[i]?.bind AV.addr) = some a → i = 1 ∧ a = b := fun i a e => by
      cases i with
      | zero => cases e
      | succ i =>
        cases i with
        | zero =>
          cases e
          exact ⟨rfl, rfl⟩
        | succ i =>
          rw [List.getElem?_cons_succ, List.getElem?_cons_succ, List.getElem?_map] at e
          cases q : ds[i]? with
          | none => rw [q] at e; cases e
          | some d => rw [q] at e; cases e
    refine ⟨_, wb_pss, hb f cdv A outer s H E F0 b (by rw [hb3]; exact fun z => nomatch z) hr F0 (L2.start N (v0 :: .ref b :: ws)) H ?_ ?_ _ (fun _ _ _ _ _ _ _ z => z.elim) ?_⟩
    · refine start_ok (fun a (z : a = Pt) => by rw [z]; exact ⟨hPt, .inr htb⟩) htb hd (by rw [List.length_cons, List.length_cons, List.length_cons, List.length_cons, dpa_len hw, List.length_map]) (fun i j a h h2 => by rw [(onlyb i a h).1, (onlyb j a h2).1]) fun i av e => ?_
      cases i with
      | zero =>
        cases e
        exact ⟨_, rfl, _, rfl, h0⟩
      | succ i =>
        cases i with
        | zero =>
          cases e
          exact ⟨_, rfl, rfl, hb1, hb2, xs, hb3, hx⟩
        | succ i =>
          rw [List.getElem?_cons_succ, List.getElem?_cons_succ, List.getElem?_map] at e
          cases q : ds[i]? with
          | none => rw [q] at e; cases e
          | some d =>
            rw [q] at e
            cases e
            obtain ⟨v, e1, e2⟩ := dpa_get hw q
            exact ⟨v, e1, v, rfl, e2⟩
    · refine ⟨fun a z => .inl z, hd, Kd.refl, fun a h => h, fun a h => .inl h, fun i a e => ?_, fun a z => z.elim (fun z => by rw [z]; exact hPt) fun z => by rw [z]; exact hb1, fun a z => z.elim (fun z => by rw [z]; exact hd Pt hPt) fun z => by rw [z]; exact hd b hb1, fun a z => ⟨fun h => h, fun h => h⟩⟩
      unfold startA at e
      by_cases hi : i < (AV.d d0 :: AV.own b rs :: ds.map AV.d).length
      · rw [List.getElem?_append_left hi] at e
        exact .inl (.inr (onlyb i a e).2)
      · rw [List.getElem?_append_right (by omega), List.getElem?_replicate] at e
        split at e <;> cases e
    · intro v F' σ' H' ρ' s1 g1 ⟨d, ⟨rs', e3, h3⟩, h4⟩
      obtain ⟨ov, _, _, _, _, xs', h5, h6⟩ := s1.slot 1 _ e3
      exact hq v H' d rs' xs' g1.kept s1.tb h3 h5 (dpa_ex (cut_sub g1.sub) h6) (dp_ex (cut_sub g1.sub) h4)
end
end Hb

namespace Hb
open PySem PySem.Spec PyProof.Rows L2 RZ
open Evl (Ex)
section
variable {Z : Vz} {X : Cx} {e : Expr} {es : List Expr} {ρ : List AV}
theorem Elt.cong {scope : Scope} {tg elt : Expr} {ifs : List Expr} {vs : List Nat} {is : List Nat} {as : PyData → Option (List PyData)} {keep keep' : PyData → Bool} {ψ ψ' : PyData → PyData → Prop} {d : PyData} (h : Elt Z X scope tg elt ifs vs ρ is as keep ψ d) (hk : keep d = keep' d) (hp : ∀ e, ψ d e → ψ' d e) : Elt Z X scope tg elt ifs vs ρ is as keep' ψ' d := by
  obtain ⟨es, e1, h⟩ := h
  refine ⟨es, e1, fun s H C cl fp => ?_⟩
  have h2 := h s H C cl fp
  obtain ⟨g1, g2, g3⟩ := h2
  exact ⟨g1, by rw [← hk]; exact g2, fun z => (g3 (by rw [hk]; exact z)).mono hp⟩
theorem Dn.compE {α : Type} {qs : List α} {enc : α → PyData} {kp : α → Bool} {g : α → PyData} {scope : Scope} {tg elt it : Expr} {ifs : List Expr} {own : List (Str × Nat)} {is : List Nat} {as : PyData → Option (List PyData)} {pos : Pos}
    (hc : X.calm = true) (hN : X.N.Nodup) (ok : BlkOk X.N X.env.scope scope own) (hw : Wk Z X tg it ρ false fun x => x = qs.map enc) (inj : ∀ a ∈ qs, ∀ b ∈ qs, enc a = enc b → a = b) (his : ∀ i ∈ is, i ∈ own.map (·.2)) (hlen : qs.length ≤ 100000)
    (hel : ∀ q ∈ qs, Elt Z X scope tg elt ifs (own.map (·.2)) ρ is as (fun _ => kp q) (fun _ e => e = g q) (enc q))
    (hs : ∀ x, foldedSetIterable it X.env x = pure x := by intro _; rfl) : Dn Z X (.ListComp elt [⟨tg, it, ifs, 0⟩] scope pos) ρ (fun x => x = (qs.filter kp).map g) := by
  classical
  let kk : PyData → Bool := fun d => decide (∃ q ∈ qs, enc q = d ∧ kp q = true)
  let gg : PyData → PyData := fun d => if h : ∃ q ∈ qs, enc q = d then g h.choose else .none
  have k1 : ∀ q ∈ qs, kk (enc q) = kp q := fun q hq => by
    show decide _ = _
    cases hb : kp q with
    | true => exact decide_eq_true ⟨q, hq, rfl, hb⟩
    | false =>
      refine decide_eq_false fun ⟨b, h1, h2, h3⟩ => ?_
      rw [inj b h1 q hq h2, hb] at h3
      cases h3
  have g1 : ∀ q ∈ qs, gg (enc q) = g q := fun q hq => by
    have hx : ∃ b ∈ qs, enc b = enc q := ⟨q, hq, rfl⟩
    show (if h : ∃ b ∈ qs, enc b = enc q then g h.choose else .none) = _
    rw [dif_pos hx, inj _ hx.choose_spec.1 q hq hx.choose_spec.2]
  refine (Dn.comp (keep := kk) (ψ := fun d e => e = gg d) hc hN ok hw his (as := as) (fun x e => ?_) hs).mono fun out h => ?_
  · subst e
    refine ⟨by rw [List.length_map]; exact hlen, fun d hd => ?_⟩
    obtain ⟨q, hq, rfl⟩ := List.mem_map.mp hd
    exact (hel q hq).cong (k1 q hq).symm fun e he => by rw [g1 q hq]; exact he
  · obtain ⟨x, e, r⟩ := h
    subst e
    rw [r.fn, List.filter_map, List.map_map]
    have e1 : qs.filter (kk ∘ enc) = qs.filter kp := List.filter_congr fun q hq => k1 q hq
    rw [e1]
    exact List.map_congr_left fun q hq => g1 q (List.mem_filter.mp hq).1
theorem Dv.compE {α : Type} {qs : List α} {enc : α → PyData} {kp : α → Bool} {g : α → PyData} {scope : Scope} {tg elt it : Expr} {ifs : List Expr} {own : List (Str × Nat)} {is : List Nat} {as : PyData → Option (List PyData)} {pos : Pos}
    (hc : X.calm = true) (hN : X.N.Nodup) (ok : BlkOk X.N X.env.scope scope own) (hw : Wk Z X tg it ρ false fun x => x = qs.map enc) (inj : ∀ a ∈ qs, ∀ b ∈ qs, enc a = enc b → a = b) (his : ∀ i ∈ is, i ∈ own.map (·.2)) (hlen : qs.length ≤ 100000)
    (hel : ∀ q ∈ qs, Elt Z X scope tg elt ifs (own.map (·.2)) ρ is as (fun _ => kp q) (fun _ e => e = g q) (enc q))
    (hs : ∀ x, foldedSetIterable it X.env x = pure x := by intro _; rfl) : Dv Z X (.ListComp elt [⟨tg, it, ifs, 0⟩] scope pos) ρ (.list ((qs.filter kp).map g)) := (Dn.compE hc hN ok hw inj his hlen hel hs).v
end
/-- the numbered elements -/
theorem enumD_map {α : Type} [Inhabited α] (enc : α → PyData) (ls : List α) : enumD (ls.map enc) = (List.range ls.length).map fun j => .tuple [.int (j : Nat), enc (ls.getD j default)] := by
  apply List.ext_getElem?
  intro i
  by_cases h : i < ls.length
  · rw [enumD_get (d := enc ls[i]) (by rw [List.getElem?_map, List.getElem?_eq_getElem h]; rfl), List.getElem?_map, List.getElem?_range h]
    simp [h]
  · rw [List.getElem?_eq_none (by rw [enumD_len, List.length_map]; omega), List.getElem?_eq_none (by simp; omega)]
instance : Inhabited Lot := ⟨l0⟩
section
variable {Z : Vz} {X : Cx} {e : Expr} {ρ : List AV}
theorem Wk.mono {tg it : Expr} {b : Bool} {φ ψ : List PyData → Prop} (h : Wk Z X tg it ρ b φ) (k : ∀ x, φ x → ψ x) : Wk Z X tg it ρ b ψ := fun F σ H S R q => h F σ H S R fun J H1 ds c p => q J H1 ds c (k ds p)
theorem Wk.enumD {elts : List Expr} {kk : Nat} {tpos p pos : Pos} {b : Bool} {ds : List PyData} (hm : X.mg "enumerate" = none) (h : Dv Z X e ρ (.tuple ds)) (hg : Gl X "enumerate" := by rfl)
    (hs : starEach [e] X.env = [(false, eval e X.env)] := by rfl) : Wk Z X (.Tuple elts kk tpos) (.Call (.Name "enumerate" p) [e] [] pos) ρ b fun x => x = enumD ds :=
  (Wk.enum hm (φ := fun x => x = ds) (h.mono fun d e => ⟨_, rfl, e⟩) hg hs).mono fun x ⟨es, e1, e2⟩ => by rw [e2, e1]
theorem Wk.enumL {α : Type} [Inhabited α] {enc : α → PyData} {ls : List α} {elts : List Expr} {kk : Nat} {tpos p pos : Pos} {b : Bool} (hm : X.mg "enumerate" = none) (h : Dv Z X e ρ (.tuple (ls.map enc))) (hg : Gl X "enumerate" := by rfl)
    (hs : starEach [e] X.env = [(false, eval e X.env)] := by rfl) : Wk Z X (.Tuple elts kk tpos) (.Call (.Name "enumerate" p) [e] [] pos) ρ b fun x => x = (List.range ls.length).map fun j => .tuple [.int (j : Nat), enc (ls.getD j default)] :=
  (Wk.enumD hm h hg hs).mono fun x e => by rw [e, enumD_map]
end
theorem enum_inj {α : Type} [Inhabited α] (enc : α → PyData) (ls : List α) : ∀ a ∈ List.range ls.length, ∀ b ∈ List.range ls.length, (PyData.tuple [.int (a : Nat), enc (ls.getD a default)]) = .tuple [.int (b : Nat), enc (ls.getD b default)] → a = b := fun a _ b _ h => by
  injection h with h
  injection h with h
  injection h with h
  omega
end Hb

namespace Hb
open PySem PySem.Spec PyProof.Rows L2 RZ
open Evl (Ex)
theorem getD_l0 {ls : List Lot} {j : Nat} : ls.getD j default = ls.getD j l0 := rfl
theorem at_get {r : List Int} {j : Nat} (h : j < r.length) : (encL r)[j]? = some (encP (at_ r j)) := by
  rw [List.getElem?_map, List.getElem?_eq_getElem h]
  show _ = some (encP (r.getD j 0))
  rw [List.getD_eq_getElem?_getD, List.getElem?_eq_getElem h]
  rfl
theorem encL_set (r : List Int) (j : Nat) (y : Int) : (encL r).set j (encP y) = encL (r.set j y) := (List.map_set ..).symm
theorem at_le_set {r : List Int} {j : Nat} {y m : Int} (h : ∀ k, at_ r k ≤ m) (hy : y ≤ m) (hj : j < r.length) : ∀ k, at_ (r.set j y) k ≤ m := fun k => by
  rw [at_set hj]
  split
  · exact hy
  · exact h k
theorem at_ge_set {r : List Int} {j : Nat} {y : Int} (h : ∀ k, 0 ≤ at_ r k) (hy : 0 ≤ y) (hj : j < r.length) : ∀ k, 0 ≤ at_ (r.set j y) k := fun k => by
  rw [at_set hj]
  split
  · exact hy
  · exact h k
theorem drop_at {α : Type} {l : List α} {i : Nat} {x : α} (h : l[i]? = some x) : l.drop i = x :: l.drop (i + 1) := by
  obtain ⟨hi, e⟩ := List.getElem?_eq_some_iff.mp h
  rw [List.drop_eq_getElem_cons hi, e]
theorem tk_nil (d : Int) (r : List Int) (w : Int) (f : List Row) : tk d [] r w f = (r, w, f) := rfl
theorem tk_cons (d : Int) (j : Nat) (o : List Nat) (r : List Int) (w : Int) (f : List Row) : tk d (j :: o) r w f = if 0 < (if at_ r j < w then at_ r j else w) then tk d o (r.set j (at_ r j - (if at_ r j < w then at_ r j else w))) (w - (if at_ r j < w then at_ r j else w)) (f ++ [(d, j, (if at_ r j < w then at_ r j else w))])
    else tk d o r w f := rfl
structure Rb (ls : List Lot) (r : List Int) : Prop where
  rs : Rs ls r
  up : ∀ j, at_ r j ≤ 1000
section
variable {P : Program} {w : World} {K : PySem.W.Frag} {mg : Str → Option Value} {base : Heap} {Pt : Addr}
abbrev rowsD (g : List Row) : List PyData := g.map encRow
/-- what stands behind taken_on -/
abbrev GTaken (P : Program) (w : World) (K : PySem.W.Frag) (mg : Str → Option Value) (base : Heap) (Pt : Addr) : Prop := ∀ (ls : List Lot) (r : List Int) (d : Int) (s : Nat) (wd : Int), LotsOk ls → Rb ls r → 0 ≤ wd → wd ≤ 1000 →
  Kk P w K mg base 4 "taken_on" p_taken_on (SpR K Pt (encLots ls) (encL r) [.int d, .int s, encP wd] fun x rs => x = .tuple [.list (rowsD (tk d (ordN ls s d) r wd []).2.2), encP (tk d (ordN ls s d) r wd []).2.1] ∧ rs = encL (tk d (ordN ls s d) r wd []).1)
theorem ok_taken_on (D : Df K mg "taken_on" "taken_on" s_taken_on p_taken_on) (T : Tx K mg) (gO : GOpen P w K mg base Pt) (gS : GBin P w K mg base Pt 1 "smaller" p_smaller fun n m => .bool (decide (n < m))) (gM : GBin P w K mg base Pt 3 "minus" p_minus fun n m => encP (n - m)) : GTaken P w K mg base Pt := fun ls r0 dy st wd L R h0 h1 => by
  refine mkR D sc_taken_on rfl fun f cdv A outer s H E F0 b hb hr => ?_
  refine Bk.setN 5 (Dn.lst Da.nil fun ds e => by rw [e]; simp) (fun a ds ba e => ?_) sc_taken_on.nd
  subst e
  refine Bk.set 6 (Dn.w (Dn.sortP T.sorted (ps := pairsO ls st dy) (Dv.is (Dv.compE (own := [("number", 8), ("lot", 10)]) (qs := List.range ls.length) (enc := fun j => .tuple [.int (j : Nat), encLot (ls.getD j default)]) (kp := fun j => isOpen (ls.getD j l0) st dy) (g := fun j => pairD ((ls.getD j l0).last, (j : Int))) rfl sc_taken_on.nd
    (blkOk_by (N := n_taken_on) (sc := defScope s_taken_on) (by decide +kernel)) (Wk.enumL (enc := encLot) T.enum (Dv.var 0 rfl)) (enum_inj encLot ls) (is := [8, 10]) (as := items2) (by decide) (by rw [List.length_range]; have := L.len; omega)
    (fun j hj => ⟨_, rfl, fun s H C cl fp => ⟨Gt.two 8 10 rfl sc_taken_on.nd, Ts.one (Dt.val (Dw.fc (gO _ _ _) (hr.mono (by decide)) (Da.c (Dv.var 10 rfl) (Da.c (Dv.var 3 rfl) (Da.c (Dv.var 2 rfl) Da.nil))))), fun _ => Dv.tup (Da.c (Dv.ix (Dv.var 10 rfl) Dv.int) (Da.c (Dv.var 8 rfl) Da.nil))⟩⟩)) (by unfold pairsO; rw [List.map_map]; rfl)))) (fun d e => ?_) sc_taken_on.nd
  obtain ⟨ds, ⟨qs, q1, q2, q3⟩, e⟩ := e
  have q4 := ordP_uniq q1 q2
  subst q4
  subst q3
  subst e
  refine Bk.for PassesOwn.never rfl (Wk.lstD (Dv.var 6 rfl)) (Gt.two 7 8 rfl sc_taken_on.nd)
    (fun ds i ρ' => ∃ r wn g v7 v8 v9 v10, ρ' = [.d (encLots ls), .own b (encL r), .d (.int dy), .d (.int st), .d (encP wn), .own a (rowsD g), .d (.list ((ordP ls st dy).map pairD)), v7, v8, v9, v10] ∧ Rb ls r ∧ 0 ≤ wn ∧ wn ≤ 1000 ∧ g.length ≤ i ∧ tk dy ((ordN ls st dy).drop i) r wn g = tk dy (ordN ls st dy) r0 wd [])
    (fun ds e => ⟨r0, wd, [], _, _, _, _, rfl, R, h0, h1, Nat.le_refl _, rfl⟩) ?_ ?_
  · rintro ds rfl i d ρ' hd ⟨r, wn, g, v7, v8, v9, v10, rfl, R1, w0, w1, gl, ht⟩
    rw [List.getElem?_map] at hd
    cases q : (ordP ls st dy)[i]? with
    | none => rw [q] at hd; cases hd
    | some pr =>
      rw [q] at hd
      cases hd
      obtain ⟨j, l, hl, _, rfl⟩ := ordP_mem.mp (List.mem_of_getElem? q)
      have hj : j < r.length := by
        rw [R1.rs.len]
        exact (List.getElem?_eq_some_iff.mp hl).1
      have ho : (ordN ls st dy)[i]? = some j := by
        unfold ordN
        rw [List.getElem?_map, q]
        rfl
      have hi : i < 8 := by
        have e1 := (List.getElem?_eq_some_iff.mp q).1
        have e2 := ordP_len ls st dy
        have e3 := L.len
        omega
      have a0 := R1.rs.nn j
      have a1 := R1.up j
      have ex : atI (encL r) (j : Int) = some (encP (at_ r j)) := atI_nat (at_get hj)
      rw [drop_at ho] at ht
      refine ⟨_, rfl, ?_⟩
      refine Bk.set 9 (φ := fun x => x = encP (if at_ r j < wn then at_ r j else wn)) ?_ (fun x e => ?_) sc_taken_on.nd
      · by_cases c : at_ r j < wn
        · rw [if_pos c]
          exact Dv.ifT (Dt.val (Dv.is (Dw.fc (gS (at_ r j) wn (by omega) (by omega)) (hr.mono (by decide)) (Da.c (Dl.ix (Dl.own 1 rfl) (Dv.var 8 rfl) ex) (Da.c (Dv.var 4 rfl) Da.nil))) (by simp only [decide_eq_true c]))) (Dl.ix (Dl.own 1 rfl) (Dv.var 8 rfl) ex)
        · rw [if_neg c]
          exact Dv.ifF (Dt.val (Dv.is (Dw.fc (gS (at_ r j) wn (by omega) (by omega)) (hr.mono (by decide)) (Da.c (Dl.ix (Dl.own 1 rfl) (Dv.var 8 rfl) ex) (Da.c (Dv.var 4 rfl) Da.nil))) (by simp only [decide_eq_false c]))) (Dv.var 4 rfl)
      · subst e
        rw [tk_cons] at ht
        by_cases c : 0 < (if at_ r j < wn then at_ r j else wn)
        · rw [if_pos c] at ht
          have x1 : (if at_ r j < wn then at_ r j else wn) ≤ at_ r j := by split <;> omega
          have x2 : (if at_ r j < wn then at_ r j else wn) ≤ wn := by split <;> omega
          generalize (if at_ r j < wn then at_ r j else wn) = x at c ht x1 x2 ⊢
          refine Bk.ifT (Dt.is (Dt.gt (Dv.ix (Dv.var 9 rfl) Dv.int) Dv.int) (decide_eq_true ((num_pos x).mpr c))) ?_
          refine Bk.seti 1 rfl (d := encP (at_ r j - x)) (m := j) (Dw.fc (gM (at_ r j) x (by omega) (by omega)) hr (Da.c (Dl.ix (Dl.own 1 rfl) (Dv.var 8 rfl) ex) (Da.c (Dv.var 9 rfl) Da.nil))) (Dv.var 8 rfl) (by rw [List.length_map]; exact hj) ?_
          rw [encL_set]
          refine Bk.set 4 (Dw.fc (gM wn x (by omega) (by omega)) hr (Da.c (Dv.var 4 rfl) (Da.c (Dv.var 9 rfl) Da.nil))) (fun y e => ?_) sc_taken_on.nd
          subst e
          refine Bk.app 5 rfl (by rw [List.length_map]; omega) (Dv.tup (Da.c (Dv.var 2 rfl) (Da.c (Dv.var 8 rfl) (Da.c (Dv.var 9 rfl) Da.nil)))) fun y e => ?_
          subst e
          refine Bk.nil (Bk.nil ⟨r.set j (at_ r j - x), wn - x, g ++ [(dy, j, x)], .d (.int l.last), .d (.int j), .d (encP x), v10, ?_, ⟨⟨by rw [List.length_set, R1.rs.len], at_ge_set R1.rs.nn (by omega) hj⟩, at_le_set R1.up (by omega) hj⟩, by omega, by omega, by rw [List.length_append]; simp only [List.length_cons, List.length_nil]; omega, ht⟩)
          unfold rowsD
          rw [List.map_append]
          rfl
        · rw [if_neg c] at ht
          refine Bk.skip (Dt.is (Dt.gt (Dv.ix (Dv.var 9 rfl) Dv.int) Dv.int) (decide_eq_false fun z => c ((num_pos _).mp z))) ?_
          exact Bk.nil ⟨r, wn, g, _, _, _, _, rfl, R1, w0, w1, by omega, ht⟩
  · rintro ds rfl ρ' ⟨r, wn, g, v7, v8, v9, v10, rfl, R1, w0, w1, gl, ht⟩
    rw [List.drop_eq_nil_of_le (by unfold ordN; rw [List.length_map, List.length_map]; exact Nat.le_refl _)] at ht
    rw [tk_nil] at ht
    rw [← ht]
    refine Bk.free 5 rfl ba ?_
    exact Bk.ret (Dv.tup (Da.c (Dv.var 5 rfl) (Da.c (Dv.var 4 rfl) Da.nil))) fun x e => ⟨_, rfl, e, rfl⟩
end
end Hb

namespace Hb
open PySem PySem.Spec PyProof.Rows L2 RZ
open Evl (Ex)
theorem eqv_P (a b : Int) : PyData.eqv (encP a) (encP b) = decide (a = b) := by
  by_cases h : a = b
  · subst h
    rw [decide_eq_true rfl]
    simp [encP, PyData.eqv, PyData.eqvAll]
  · rw [decide_eq_false h]
    cases q : PyData.eqv (encP a) (encP b) with
    | false => rfl
    | true =>
      simp [encP, PyData.eqv, PyData.eqvAll] at q
      exact absurd (enc_inj q.1 q.2) h
def goN (ls : List Lot) (hs : List Heat) (o : Out) : Out := match o with
  | (f', r', none) => goP ls hs r' f'
  | (f', r', some x) => (f', r', some x)
theorem goP_cons (ls : List Lot) (h : Heat) (hs : List Heat) (r : List Int) (f : List Row) : goP ls (h :: hs) r f = goN ls hs (goC ls h.1 0 h.2 r f) := rfl
def encLack : Option (Int × Int × Int) → PyData
  | none => .none
  | some x => .tuple [.int x.1, .int x.2.1, encP x.2.2]
abbrev encOut (o : Out) : PyData := .tuple [.list (rowsD o.1), .list (encL o.2.1), encLack o.2.2]
theorem Rb.tk {ls : List Lot} {r : List Int} (R : Rb ls r) {d wd : Int} {s : Nat} (hw : 0 ≤ wd) : Rb ls (tk d (ordN ls s d) r wd []).1 := by
  have t := tk_at R.rs s d hw
  exact ⟨R.rs.tk t, fun j => Int.le_trans (t.hi j) (R.up j)⟩
theorem LotsOk.rb {ls : List Lot} (L : LotsOk ls) : Rb ls (amts ls) := ⟨rs_amts L.pos, fun j => by
  cases h : ls[j]? with
  | none => rw [show at_ (amts ls) j = 0 by unfold at_; rw [List.getD_eq_getElem?_getD, List.getElem?_map, h]; rfl]; decide
  | some l =>
    rw [at_amts h]
    exact (L.ok l (List.mem_of_getElem? h)).a1⟩
theorem getD_w {c : List Int} {s : Nat} {w : Int} (h : c[s]? = some w) : c.getD s default = w := by
  rw [List.getD_eq_getElem?_getD, h]
  rfl
section
variable {P : Program} {w : World} {K : PySem.W.Frag} {mg : Str → Option Value} {base : Heap} {Pt : Addr}
abbrev GGone (P : Program) (w : World) (K : PySem.W.Frag) (mg : Str → Option Value) (base : Heap) (Pt : Addr) : Prop := ∀ (ls : List Lot) (pl : List Heat) (n : Nat), LotsOk ls → PlOk n pl → Fc P w K mg base Pt 5 "gone_through" p_gone_through [encLots ls, encPlan pl] (fun x => x = encOut (goAll ls pl))
theorem ok_gone_through (D : Df K mg "gone_through" "gone_through" s_gone_through p_gone_through) (T : Tx K mg) (gT : GTaken P w K mg base Pt) : GGone P w K mg base Pt := fun ls pl n L PL => by
  refine mkF D sc_gone_through rfl fun f cdv A outer s H E F0 hr => ?_
  refine Bk.setC 2 (own := [("lot", 10)]) (keep := fun _ => true) (ψ := fun d e => e = (fun d => match d with | .tuple [_, a, _, _] => a | _ => .none) d) rfl sc_gone_through.nd (blkOk_by (N := n_gone_through) (sc := defScope s_gone_through) (by decide +kernel)) (Wk.tupD (ds := ls.map encLot) (Dv.var 0 rfl)) (is := [10]) (as := as1) (by decide)
    (fun ds e => by
      subst e
      refine ⟨by rw [List.length_map]; have := L.len; omega, fun d hd => ?_⟩
      obtain ⟨l, _, rfl⟩ := List.mem_map.mp hd
      exact ⟨_, rfl, fun s H C cl fp => ⟨Gt.name 10 sc_gone_through.nd, Ts.nil, fun _ => Dv.ix (Dv.var 10 rfl) Dv.int⟩⟩) (fun b ds out bb e r2 => ?_) (by rfl)
  subst e
  have e2 := r2.fn
  rw [List.filter_eq_self.mpr fun _ _ => rfl, List.map_map] at e2
  have e3 : out = encL (amts ls) := by
    rw [e2]
    unfold encL amts
    rw [List.map_map]
    rfl
  subst e3
  clear e2 r2
  refine Bk.setN 3 (Dn.lst Da.nil fun ds e => by rw [e]; simp) (fun a ds ba e => ?_) sc_gone_through.nd
  subst e
  refine Bk.for PassesOwn.never rfl (Wk.tupD (ds := pl.map encHeat) (Dv.var 1 rfl)) (Gt.two 4 5 rfl sc_gone_through.nd)
    (fun ds i ρ' => ∃ r g v4 v5 v6 v7 v8 v9 v10, ρ' = [.d (encLots ls), .d (encPlan pl), .own b (encL r), .own a (rowsD g), v4, v5, v6, v7, v8, v9, v10] ∧ Rb ls r ∧ g.length ≤ 40 * i ∧ goP ls (pl.drop i) r g = goAll ls pl)
    (fun ds e => ⟨_, [], _, _, _, _, _, _, _, rfl, L.rb, Nat.le_refl _, rfl⟩) ?_ ?_
  · rintro ds rfl i d ρ' hd ⟨r, g, v4, v5, v6, v7, v8, v9, v10, rfl, R1, gl, ht⟩
    rw [List.getElem?_map] at hd
    cases q : pl[i]? with
    | none => rw [q] at hd; cases hd
    | some h =>
      rw [q] at hd
      cases hd
      have hm := List.mem_of_getElem? q
      have hi : i < 8 := by
        have := (List.getElem?_eq_some_iff.mp q).1
        have := PL.len
        omega
      have hn : h.2.length ≤ 5 := by
        rw [PL.po.len h hm]
        exact PL.n5
      refine ⟨_, rfl, ?_⟩
      refine Bk.for PassesOwn.never rfl (Wk.enumL (enc := encP) (ls := h.2) T.enum (Dv.var 5 rfl)) (Gt.two 6 7 rfl sc_gone_through.nd)
        (fun ds k ρ' => ∃ r g v6 v7 v8 v9 v10, ρ' = [.d (encLots ls), .d (encPlan pl), .own b (encL r), .own a (rowsD g), .d (.int h.1), .d (.tuple (encL h.2)), v6, v7, v8, v9, v10] ∧ Rb ls r ∧ g.length ≤ 40 * i + 8 * k ∧ goN ls (pl.drop (i + 1)) (goC ls h.1 k (h.2.drop k) r g) = goAll ls pl)
        (fun ds e => ⟨r, g, _, _, _, _, _, rfl, R1, by omega, by rw [← ht, drop_at q, goP_cons]; rfl⟩) ?_ ?_
      · rintro ds rfl k d ρ' hd ⟨r, g, v6, v7, v8, v9, v10, rfl, R1, gl, ht⟩
        have hk : k < h.2.length := by
          have := (List.getElem?_eq_some_iff.mp hd).1
          rw [List.length_map, List.length_range] at this
          exact this
        rw [List.getElem?_map, List.getElem?_range hk] at hd
        have hw := List.getElem?_eq_getElem hk
        replace hd := Option.some.inj hd
        simp only [getD_w hw] at hd
        subst hd
        have hwm := List.getElem_mem hk
        have w0 := PL.po.nn h hm _ hwm
        have w1 := PL.w1 h hm _ hwm
        rw [drop_at hw, goC_cons] at ht
        generalize h.2[k] = wd at hw w0 w1 ht ⊢
        refine ⟨_, rfl, ?_⟩
        refine Bk.unpR 2 rfl (fun b e => e) (gT ls r h.1 k wd L R1 w0 w1) hr (Dv.var 0 rfl) (Da.c (Dv.var 4 rfl) (Da.c (Dv.var 6 rfl) (Da.c (Dv.var 7 rfl) Da.nil))) (Gt.two 8 9 rfl sc_gone_through.nd) (as := items2) fun x rs hx => ?_
        obtain ⟨rfl, rfl⟩ := hx
        have t := tk_at R1.rs k h.1 w0
        have R2 := R1.tk (d := h.1) (s := k) w0
        generalize tk h.1 (ordN ls k h.1) r wd [] = o at t R2 ht ⊢
        obtain ⟨r', l, g'⟩ := o
        simp only at t R2 ht
        have gl2 : g'.length ≤ 8 := by
          have e1 := t.gl
          have e2 := ordN_len ls k h.1
          have e3 := L.len
          omega
        refine ⟨_, rfl, ?_⟩
        refine Bk.ext 3 rfl (φ := fun x => x = rowsD g') (Dw.mono (Dv.var 8 rfl) fun y e => ⟨_, rfl, e⟩) (fun es e => by rw [e, List.length_map, List.length_map]; omega) fun es e => ?_
        subst e
        rw [show rowsD g ++ rowsD g' = rowsD (g ++ g') from (List.map_append ..).symm]
        by_cases z : l = 0
        · subst z
          rw [if_pos rfl] at ht
          refine Bk.skip (Dt.is (Dt.ne hr.units (Dv.var 9 rfl) (Dv.nought T.nought)) (by show (!PyData.eqv (encP 0) (encP 0)) = false; rw [eqv_P]; rfl)) ?_
          exact Bk.nil ⟨r', g ++ g', _, _, _, _, _, rfl, R2, by rw [List.length_append]; omega, ht⟩
        · rw [if_neg z] at ht
          refine Bk.ifT (Dt.is (Dt.ne hr.units (Dv.var 9 rfl) (Dv.nought T.nought)) ?_) ?_
          · show (!PyData.eqv (encP l) (encP 0)) = true
            rw [eqv_P, decide_eq_false z]
            rfl
          · refine Bk.free 3 rfl ba ?_
            refine Bk.free 2 rfl bb ?_
            refine Bk.ret (Dv.tup (Da.c (Dv.var 3 rfl) (Da.c (Dv.var 2 rfl) (Da.c (Dv.tup (Da.c (Dv.var 4 rfl) (Da.c (Dv.var 6 rfl) (Da.c (Dv.var 9 rfl) Da.nil)))) Da.nil)))) fun y e => ?_
            rw [e, ← ht]
            rfl
      · rintro ds rfl ρ' ⟨r, g, v6, v7, v8, v9, v10, rfl, R1, gl, ht⟩
        rw [List.length_map, List.length_range] at gl ht
        rw [List.drop_eq_nil_of_le (Nat.le_refl _)] at ht
        exact Bk.nil ⟨r, g, _, _, _, _, _, _, _, rfl, R1, by omega, ht⟩
  · rintro ds rfl ρ' ⟨r, g, v4, v5, v6, v7, v8, v9, v10, rfl, R1, gl, ht⟩
    rw [List.length_map, List.drop_eq_nil_of_le (Nat.le_refl _)] at ht
    refine Bk.free 3 rfl ba ?_
    refine Bk.free 2 rfl bb ?_
    refine Bk.ret (Dv.tup (Da.c (Dv.var 3 rfl) (Da.c (Dv.var 2 rfl) (Da.c Dv.non Da.nil)))) fun y e => ?_
    rw [e, ← ht]
    rfl
end
end Hb

namespace Hb
open PySem PySem.Spec PyProof.Rows L2 RZ
open Evl (Ex)
theorem inV_int (i : Int) (ns : List Int) : inV (.int i) (ns.map V.int) = decide (i ∈ ns) := by
  unfold inV
  rw [List.any_map]
  rw [Bool.eq_iff_iff, List.any_eq_true, decide_eq_true_eq]
  constructor
  · rintro ⟨x, hx, e⟩
    have : x = i := by simpa [eqV] using e
    rw [← this]
    exact hx
  · intro h
    exact ⟨i, h, by simp [eqV]⟩
theorem flat_ints (ns : List Int) : (ns.map V.int).all flatV = true := by
  rw [List.all_eq_true]
  intro x hx
  obtain ⟨n, _, rfl⟩ := List.mem_map.mp hx
  rfl
abbrev intsD (ns : List Int) : PyData := .tuple (ns.map .int)
section
variable {Z : Vz} {X : Cx} {e : Expr} {es : List Expr} {ρ : List AV}
theorem opd_inT {K : PySem.W.Frag} {i : Int} {ns : List Int} {d : PyData} (hd : d = .tuple (ns.map .int) ∨ d = .list (ns.map .int)) : OpD K (rIn K false) (.int i) d (.bool (decide (i ∈ ns))) := fun F H x y Q _ h1 h2 q => by
  have hx := dp_int h1
  subst hx
  rcases hd with rfl | rfl
  · obtain ⟨a, xs, rfl, t1, t2⟩ := dp_tup h2
    have e := dpa_ints t2
    subst e
    refine ⟨a, _, rfl, .inr (Evl.ex_t cut_ex t1), rfl, flat_ints ns, ?_⟩
    rw [inV_int]
    exact q _ _ (Evl.Ex.refl _) (.bl _)
  · obtain ⟨a, xs, rfl, t1, t2⟩ := dp_lst h2
    have e := dpa_ints t2
    subst e
    refine ⟨a, _, rfl, .inl (Evl.ex_l cut_ex t1), rfl, flat_ints ns, ?_⟩
    rw [inV_int]
    exact q _ _ (Evl.Ex.refl _) (.bl _)
theorem Dt.inT {a b : Expr} {i : Int} {ns : List Int} {pos : Pos} (ha : Dv Z X a ρ (.int i)) (hb : Dv Z X b ρ (intsD ns)) (hm : behindInMarks .In b = false := by first | exact nomark _ | rfl) : Dt Z X (.Compare a [.In] [b] pos) ρ (decide (i ∈ ns)) := Dt.cmp op_in_seq ha hb (opd_inT (.inl rfl)) hm
theorem Dv.inL {a b : Expr} {i : Int} {ns : List Int} {pos : Pos} (ha : Dv Z X a ρ (.int i)) (hb : Dv Z X b ρ (.list (ns.map .int))) (hm : behindInMarks .In b = false := by first | exact nomark _ | rfl) : Dv Z X (.Compare a [.In] [b] pos) ρ (.bool (decide (i ∈ ns))) := Dv.cmp op_in_seq ha hb (opd_inT (.inr rfl)) hm
end
theorem sumOk_of : ∀ {ns : List Int}, (∀ n ∈ ns, 0 ≤ n ∧ n ≤ 1000) → ns.length ≤ 900 → SumOk ns := by
  have go : ∀ ns : List Int, (∀ n ∈ ns, 0 ≤ n ∧ n ≤ 1000) → 0 ≤ ns.sum ∧ ns.sum ≤ 1000 * ns.length := by
    intro ns
    induction ns with
    | nil => intro _; exact ⟨by decide, by decide⟩
    | cons n ns ih =>
      intro h
      obtain ⟨a, b⟩ := ih fun x hx => h x (List.mem_cons_of_mem _ hx)
      obtain ⟨c, d⟩ := h n List.mem_cons_self
      rw [List.sum_cons, List.length_cons]
      omega
  intro ns h hl i
  obtain ⟨a, b⟩ := go (ns.take i) fun x hx => h x (List.mem_of_mem_take hx)
  have c : (ns.take i).length ≤ ns.length := by
    rw [List.length_take]
    omega
  exact ⟨⟨by omega, by omega⟩, fun n hn => ⟨by have := h n hn; omega, by have := h n hn; omega⟩⟩
theorem sum_bd {ns : List Int} (h : SumOk ns) : Bd ns.sum := by
  have := (h ns.length).1
  rw [List.take_length] at this
  exact this
theorem encP_inj {a b : Int} (h : encP a = encP b) : a = b := by
  injection h with h
  injection h with h1 h
  injection h with h2 h
  injection h1 with h1
  injection h2 with h2
  exact enc_inj h1 h2
theorem map_inj {α β : Type} {f : α → β} (hf : ∀ a b, f a = f b → a = b) : ∀ {xs ys : List α}, xs.map f = ys.map f → xs = ys
  | [], [], _ => rfl
  | [], _ :: _, h => by cases h
  | _ :: _, [], h => by cases h
  | x :: xs, y :: ys, h => by
    rw [List.map_cons, List.map_cons] at h
    injection h with h1 h2
    rw [hf x y h1, map_inj hf h2]
theorem encHeat_inj (a b : Heat) (h : encHeat a = encHeat b) : a = b := by
  injection h with h
  injection h with h1 h
  injection h with h2 _
  injection h1 with h1
  injection h2 with h2
  cases a
  cases b
  simp only at h1 h2
  rw [h1, map_inj (fun a b => encP_inj) h2]
theorem encLot_inj (a b : Lot) (h : encLot a = encLot b) : a = b := by
  injection h with h
  injection h with h1 h
  injection h with h2 h
  injection h with h3 h
  injection h with h4 h
  injection h1 with h1
  injection h3 with h3
  injection h4 with h4
  have h2 := encP_inj h2
  cases a
  cases b
  simp only at h1 h2 h3 h4
  rw [h1, h2, h3, h4]
theorem encRow_inj (a b : Row) (h : encRow a = encRow b) : a = b := by
  injection h with h
  injection h with h1 h
  injection h with h2 h
  injection h with h3 h
  injection h1 with h1
  injection h2 with h2
  have h3 := encP_inj h3
  obtain ⟨a1, a2, a3⟩ := a
  obtain ⟨b1, b2, b3⟩ := b
  simp only at h1 h2 h3
  have h2 : a2 = b2 := by omega
  rw [h1, h2, h3]
theorem int_inj (a b : Int) (h : PyData.int a = .int b) : a = b := by
  injection h
theorem wants_ok {n : Nat} {pl : List Heat} (PL : PlOk n pl) (s : Nat) : ∀ h ∈ pl, 0 ≤ h.2.getD s 0 ∧ h.2.getD s 0 ≤ 1000 := fun h hm => by
  cases q : h.2[s]? with
  | none =>
    rw [List.getD_eq_getElem?_getD, q]
    exact ⟨by decide, by decide⟩
  | some w =>
    rw [getD_int q]
    exact ⟨PL.po.nn h hm w (List.mem_of_getElem? q), PL.w1 h hm w (List.mem_of_getElem? q)⟩
/-- the scope of the comprehension that a statement sets by a call -/
def setScope : Stmt → Scope
  | .Assign _ (.Call _ (.ListComp _ _ sc _ :: _) _ _) _ => sc
  | s => defScope s
section
variable {P : Program} {w : World} {K : PySem.W.Frag} {mg : Str → Option Value} {base : Heap} {Pt : Addr}
theorem ok_taken (D : Df K mg "taken" "taken" s_taken p_taken) (gG : GGone P w K mg base Pt) {ls : List Lot} {pl : List Heat} {n : Nat} (L : LotsOk ls) (PL : PlOk n pl) (h : (goAll ls pl).2.2 = none) : Fc P w K mg base Pt 6 "taken" p_taken [encLots ls, encPlan pl] (fun x => x = .list (rowsD (goAll ls pl).1)) := by
  refine mkF D sc_taken rfl fun f cdv A outer s H E F0 hr => ?_
  refine Bk.unp (Dw.fc (gG ls pl n L PL) hr (Da.c (Dv.var 0 rfl) (Da.c (Dv.var 1 rfl) Da.nil))) (Gt.three 2 3 4 rfl sc_taken.nd) (as := items3) fun d e => ?_
  subst e
  generalize goAll ls pl = o at h ⊢
  obtain ⟨f', r', x'⟩ := o
  simp only at h
  subst h
  refine ⟨_, rfl, ?_⟩
  refine Bk.skip (Dt.notN (Dv.var 4 rfl) non_none) ?_
  exact Bk.ret (Dv.var 2 rfl) fun d e => e
theorem ok_left_of (D : Df K mg "left_of" "left_of" s_left_of p_left_of) (T : Tx K mg) (gG : GGone P w K mg base Pt) {ls : List Lot} {pl : List Heat} {n : Nat} (L : LotsOk ls) (PL : PlOk n pl) (h : (goAll ls pl).2.2 = none) : Fc P w K mg base Pt 6 "left_of" p_left_of [encLots ls, encPlan pl] (fun x => x = .tuple (encL (goAll ls pl).2.1)) := by
  refine mkF D sc_left_of rfl fun f cdv A outer s H E F0 hr => ?_
  refine Bk.unp (Dw.fc (gG ls pl n L PL) hr (Da.c (Dv.var 0 rfl) (Da.c (Dv.var 1 rfl) Da.nil))) (Gt.three 2 3 4 rfl sc_left_of.nd) (as := items3) fun d e => ?_
  subst e
  generalize goAll ls pl = o at h ⊢
  obtain ⟨f', r', x'⟩ := o
  simp only at h
  subst h
  refine ⟨_, rfl, ?_⟩
  refine Bk.skip (Dt.notN (Dv.var 4 rfl) non_none) ?_
  exact Bk.ret (Dv.tupleOf T.tuple (Dv.var 3 rfl)) fun d e => e
abbrev GMuch (P : Program) (w : World) (K : PySem.W.Frag) (mg : Str → Option Value) (base : Heap) (Pt : Addr) : Prop := ∀ (ls : List Lot) (pl : List Heat) (n s : Nat) (S : List Int), LotsOk ls → PlOk n pl → s < n → S.length ≤ 1000 → Fc P w K mg base Pt 5 "is_too_much" p_is_too_much [encLots ls, encPlan pl, .int s, intsD S] (fun x => x = .bool (tooMuch ls pl s S))
theorem ok_is_too_much (D : Df K mg "is_too_much" "is_too_much" s_is_too_much p_is_too_much) (T : Tx K mg) (gO : GOpen P w K mg base Pt) (gS : GBin P w K mg base Pt 1 "smaller" p_smaller fun n m => .bool (decide (n < m)))
    (gT : ∀ ns, SumOk ns → Fc P w K mg base Pt 4 "total" p_total [.list (encL ns)] (fun d => d = encP ns.sum)) : GMuch P w K mg base Pt := fun ls pl n st S L PL hs hS => by
  refine mkF D sc_is_too_much rfl fun f cdv A outer s H E F0 hr => ?_
  have o1 : SumOk ((pl.filter fun h => decide (h.1 ∈ S)).map fun h => h.2.getD st 0) := sumOk_of (fun x hx => by
    obtain ⟨h, hm, rfl⟩ := List.mem_map.mp hx
    exact wants_ok PL st h (List.mem_filter.mp hm).1) (by
    rw [List.length_map]
    have := List.length_filter_le (fun h : Heat => decide (h.1 ∈ S)) pl
    have := PL.len
    omega)
  have o2 : SumOk ((ls.filter (opS st S)).map Lot.amt) := sumOk_of (fun x hx => by
    obtain ⟨l, hm, rfl⟩ := List.mem_map.mp hx
    have := L.ok l (List.mem_filter.mp hm).1
    have := this.a0
    have := (L.ok l (List.mem_filter.mp hm).1).a1
    omega) (by
    rw [List.length_map]
    have := List.length_filter_le (opS st S) ls
    have := L.len
    omega)
  refine Bk.set 4 (Dw.fc (gT _ o1) hr (Da.c (Dv.is (Dv.compE (own := [("day", 6), ("charge", 7)]) (qs := pl) (enc := encHeat) (kp := fun h => decide (h.1 ∈ S)) (g := fun h => encP (h.2.getD st 0)) rfl sc_is_too_much.nd (blkOk_by (N := n_is_too_much) (sc := defScope s_is_too_much) (by decide +kernel))
    (Wk.tupD (Dv.var 1 rfl)) (fun a _ b _ => encHeat_inj a b) (is := [6, 7]) (as := items2) (by decide) (by have := PL.len; omega)
    (fun h hh => ⟨_, rfl, fun s H C cl fp => ⟨Gt.two 6 7 rfl sc_is_too_much.nd, Ts.one (Dt.inT (Dv.var 6 rfl) (Dv.var 3 rfl)), fun _ => Dv.ix (Dv.var 7 rfl) (Dv.var 2 rfl) (atI_nat (at_get (by rw [PL.po.len h hh]; exact hs)))⟩⟩)) (by unfold encL; rw [List.map_map]; rfl)) Da.nil)) (fun d e => ?_) sc_is_too_much.nd
  subst e
  refine Bk.set 5 (Dw.fc (gT _ o2) hr (Da.c (Dv.is (Dv.compE (own := [("lot", 8)]) (qs := ls) (enc := encLot) (kp := opS st S) (g := fun l => encP l.amt) rfl sc_is_too_much.nd (blkOk_by (N := n_is_too_much) (sc := defScope s_is_too_much) (by decide +kernel))
    (Wk.tupD (Dv.var 0 rfl)) (fun a _ b _ => encLot_inj a b) (is := [8]) (as := as1) (by decide) (by have := L.len; omega)
    (fun l hl => ⟨_, rfl, fun s H C cl fp => ⟨Gt.name 8 sc_is_too_much.nd, Ts.one (Dt.val (Dv.is (Dv.any (bs := S.map fun d => isOpen l st d) rfl T.any (Dv.is (Dv.compE (own := [("day", 6)]) (qs := S) (enc := .int) (kp := fun _ => true) (g := fun d => .bool (isOpen l st d)) rfl sc_is_too_much.nd
      (blkOk_by (N := n_is_too_much) (sc := relS (setScope ((defBody s_is_too_much).getD 1 s_is_too_much)) (defScope s_is_too_much)) (by decide +kernel)) (Wk.tupD (Dv.var 3 rfl)) (fun a _ b _ => int_inj a b) (is := [6]) (as := as1) (by decide) (by omega)
      (fun d hd => ⟨_, rfl, fun s H C cl fp => ⟨Gt.name 6 sc_is_too_much.nd, Ts.nil, fun _ => Dw.fc (gO l st d) (hr.mono (by decide)) (Da.c (Dv.var 8 rfl) (Da.c (Dv.var 2 rfl) (Da.c (Dv.var 6 rfl) Da.nil)))⟩⟩)) (by rw [List.filter_eq_self.mpr fun _ _ => rfl, List.map_map]; rfl))) (by rw [List.any_map]; rfl))), fun _ => Dv.ix (Dv.var 8 rfl) Dv.int⟩⟩)) (by unfold encL; rw [List.map_map]; rfl)) Da.nil)) (fun d e => ?_) sc_is_too_much.nd
  subst e
  refine Bk.ret (Dw.fc (gS _ _ (sum_bd o2) (sum_bd o1)) (hr.mono (by decide)) (Da.c (Dv.var 5 rfl) (Da.c (Dv.var 4 rfl) Da.nil))) fun d e => ?_
  rw [e]
  unfold tooMuch there
  rw [wantOn_list]
end
end Hb

namespace Hb
open PySem PySem.Spec PyProof.Rows L2 RZ
open Evl (Ex)
/-! ### sorted by a lambda that tells (len(some), some) -/
abbrev keyD (ns : List Int) : PyData := .tuple [.int (ns.length : Nat), intsD ns]
section
variable {prog : Program} {w : World} {A : Around} {s : Shared}
theorem turn_raw {f c' t : Addr} {q : Str} {params : Arguments} {scope : Scope} {cl : List (Str × Addr)} {pm ctv : Value} {p1 p2 p3 p4 p5 : Pos} {x1} {mg mb : Str → Option Value} {ns : List Int}
    (hf : s.heap.get? f = some (PySem.W.kla_obj "<lambda>" q params (.Tuple [.Call (.Name "len" p1) [.Name "some" p2] [] p3, .Name "some" p4] x1 p5) scope cl pm c' ctv))
    (hc : ∃ (oc : Obj) (vs : Array Value) (t : Tok), s.heap.get? c' = some oc ∧ oc.data = .fields vs ∧ vs[1]? = some (.str q t)) (lim : s.heap.NoLimit) (hg : s.heap.Ns mainGlobals mg) (hm : mg "len" = none) (hb : s.heap.Ns builtinsNs mb) (hmb : mb "len" = some (.builtin "len"))
    (hr : A.depth < recursionLimit) (hco : scope.isCoroutine = false) (hgen : scope.isGenerator = false) (hcell : ∀ y ∈ scope.names, y.2 ≠ .cell) (hk : scope.kind = .function) (hsome : scope.names.lookup ("some" : Str) = some .local) (hlen : scope.names.lookup ("len" : Str) = some .globalImplicit)
    (hbind : ∀ v, bindArgs (PySem.W.kla_fn "<lambda>" q params (.Tuple [.Call (.Name "len" p1) [.Name "some" p2] [] p3, .Name "some" p4] x1 p5) scope cl pm (.ref c') ctv) ⟨[v], []⟩ = pure [(("some" : Str), v)])
    (hv : Reads s.heap (.ref t) (intsD ns) []) (hl : ns.length ≤ 1000) : wpAny (model prog w) A (call (.ref f) [.ref t]) (PySem.W.KeyPure (keyD ns) s) (fun _ _ => False) s := by
  obtain ⟨oc, vs, tq, hoc, hdc, hvc⟩ := hc
  refine wpAny_call (PySem.W.kla_callFunE hr hf rfl hco hgen rfl ⟨c', oc, vs, tq, rfl, hoc, hdc, hvc⟩ ?_)
  rw [hbind]
  refine wpAny_pure (wpAny_newFunctionEnv hcell (fun y hy => ?_) (fun h₁ hns hsb => ⟨lim.fresh _ hsb, ?_⟩) hk)
  · rw [List.mem_singleton] at hy
    rw [hy]
    exact hsome
  show codeAny _ _ (.expr _ (PySem.W.envX q scope s.heap.objs.size f (.ref c') cl)) _ _
  have kp : ∀ b o, s.heap.get? b = some o → h₁.get? b = some o := fun b o e => hsb.extBut b o (Nat.ne_of_lt (Heap.lt_size e)) (Heap.get?_push_of_some _ e)
  have loc : ∀ {Q : Value → Shared → Prop} {E : Value → Shared → Prop} {A' : Around} {p : Pos} {tk : Nat}, Q (.ref t) { s with heap := h₁, toks := tk } → wpAny (model prog w) A' (eval (.Name "some" p) (PySem.W.envX q scope s.heap.objs.size f (.ref c') cl)) Q E { s with heap := h₁, toks := tk } := fun {Q E A' p tk} h =>
    wpAny_Name (wpAny_loadName_local (env := PySem.W.envX q scope s.heap.objs.size f (.ref c') cl) hk hsome hns (by rfl) h)
  refine PySem.W.kla_codeExpr (wpAny_Tuple_spliced (Calls.spliced_cons ?_))
  have hv2 := hv
  cases hv with
  | @tuple _ o ws n _ as h1 h2 h3 h4 =>
    have len : ∀ {vs : List Value} {ns : List Int} {as : List Addr}, ReadsAll s.heap vs (ns.map .int) as → vs.length = ns.length := by
      intro vs ns
      induction ns generalizing vs with
      | nil =>
        intro as h
        cases h
        rfl
      | cons n ns ih =>
        intro as h
        cases h with
        | cons a b => rw [List.length_cons, List.length_cons, ih b]
    have hl2 := len h4
    refine Call_ (Calls.Name_function_global hk hlen (Calls.loadGlobal_builtin (hg.keeps kp) hm (hb.keeps kp) hmb ?_))
    refine PyProof.Rows.callWith_builtin1 (PyProof.Rows.args_cons (loc (PyProof.Rows.args_nil ?_)) rfl) rfl rfl
    refine len_tuple (items := ws) ⟨o, kp _ _ h1, h2, n, h3⟩ (by rw [← Array.length_toList, hl2]; have := line63; unfold sizeLine at *; omega) ?_
    refine Calls.spliced_cons (loc (Calls.spliced_nil ⟨by show 2 ≤ sizeLine; decide, ?_⟩))
    refine ⟨_, _, rfl, fun b o e => Heap.get?_push_of_some _ (kp b o e), ?_⟩
    refine .tuple (n := 0) (Heap.get?_push_size _ rfl) rfl rfl ?_
    show ReadsAll _ _ _ ([] ++ ([] ++ []))
    refine .cons ?_ (.cons (PyProof.Rows.Reads.keeps (fun b o e => Heap.get?_push_of_some _ (kp b o e)) hv2) .nil)
    rw [← hl2, Array.length_toList]
    exact .int _ _
end
section
variable {X : Cx} {pins : List (Addr × Obj)} {σ : L2.St} {H : Hp} {s : Shared}
/-- the lambda is made; but for its table all stands -/
theorem lam_one {c P : Addr} {q : Str} {params : Arguments} {body : Expr} {scope : Scope} {pos : Pos} {E : Value → Shared → Prop} {Q : Value → Shared → Prop} (I : Inv X pins σ H s) (TB : LamX.TabB X.base X.mg c P) (hcode : X.env.code = .ref c) (hq : X.env.qual ++ "<lambda>" = q)
    (hT : LamX.TabS H P q) (hdef : defaultsOf params X.env = ([], [])) (hfree : ∀ y ∈ scope.names, y.2 = .free → ∃ c, X.env.cells.lookup y.1 = some c)
    (h : ∀ (f c' : Addr) (pm ctv : Value) (H1 : Hp) (s1 : Shared), Inv X pins σ H1 s1 → (∀ b o, b ≠ P → H b = some o → H1 b = some o) → LamX.TabS H1 P q →
      s1.heap.get? f = some (PySem.W.kla_obj "<lambda>" q params body scope (cloFrom X.env.cells scope.names []) pm c' ctv) → H1 c' = some (LamX.CodeO c' q) → Q (.ref f) s1) :
    wpAny (model X.prog X.w) X.A (eval (.Lambda params body scope pos) X.env) Q E s := by
  subst hq
  obtain ⟨ps, tP, tt, ta⟩ := hT
  have rawP := I.hok P _ tP
  have gb : s.heap.BuiltinsAt X.mg P := TB.bm.keeps I.bk
  have gg : s.heap.Ns mainGlobals X.mg := I.mod.glob.keeps I.bk
  have gc := TB.code.keeps I.bk
  refine PySem.W.kla_eval hdef ?_
  cases look : codeAmong pos ps.toList with
  | some cv =>
    obtain ⟨c', rfl, hco⟩ := ta pos cv look
    refine PySem.W.kla_makeFunctionHit (c := c) (P := P) (mg := X.mg) (ps := ps) (closure_ok hfree) I.ok.glob gg hcode gc rawP tt look gb fun ctv h2 tk grow sz => ?_
    exact h h2.objs.size c' ((X.mg "__name__").getD .none) ctv H _ (I.kept fun b o e => Heap.get?_push_of_some _ (grow b o e)) (fun b o _ e => e) ⟨ps, tP, tt, ta⟩ (Heap.get?_push_size _ rfl) hco
  | none =>
    refine PySem.W.kla_makeFunction (c := c) (P := P) (mg := X.mg) (ps := ps) (closure_ok hfree) I.ok.glob gg hcode gc rawP tt look TB.gP gb fun c' ctv h2 tk grow lo hi rec tab => ?_
    obtain ⟨c2, oc, vs, t, ec, g1, g2, g3⟩ := rec
    cases ec
    have free : H c' = none := I.hok.fresh lo
    have ne : ∀ {b o}, H b = some o → b ≠ c' := fun {b o} e z => by
      rw [z, free] at e
      cases e
    have J := LamX.inv_table (q := X.env.qual ++ "<lambda>") (t' := tk) (more := #[rawInt pos.line, rawInt pos.col, .ref c']) (h' := h2.push (PySem.W.kla_obj "<lambda>" (X.env.qual ++ "<lambda>") params body scope (cloFrom X.env.cells scope.names []) ((X.mg "__name__").getD .none) c' ctv)) I tP
      (fun b o hb e => Heap.get?_push_of_some _ (grow b o hb e)) (Heap.get?_push_of_some _ tab) lo ⟨oc, vs, t, Heap.get?_push_of_some _ g1, g2, g3⟩
    have keep : ∀ b o, b ≠ P → H b = some o → upd (upd H P (.tbl (ps ++ #[rawInt pos.line, rawInt pos.col, .ref c']))) c' (LamX.CodeO c' (X.env.qual ++ "<lambda>")) b = some o := fun b o hb e => by
      rw [upd_ne (ne e), upd_ne hb, e]
    refine h h2.objs.size c' ((X.mg "__name__").getD .none) ctv _ _ J keep ⟨_, by rw [upd_ne (ne tP), upd_same], ?_, fun p2 cv hcv => ?_⟩ (Heap.get?_push_size _ rfl) upd_same
    · rw [show (ps ++ #[rawInt pos.line, rawInt pos.col, Value.ref c']).toList = ps.toList ++ [rawInt pos.line, rawInt pos.col, .ref c'] by simp]
      exact PySem.TriplesOk_snoc _ _ _ _ tt
    · rw [show (ps ++ #[rawInt pos.line, rawInt pos.col, Value.ref c']).toList = ps.toList ++ [rawInt pos.line, rawInt pos.col, .ref c'] by simp] at hcv
      rcases LamX.among_app _ tt hcv with z | z
      · obtain ⟨c0, e1, e2⟩ := ta p2 cv z
        refine ⟨c0, e1, keep _ _ (fun w => ?_) e2⟩
        rw [w, tP] at e2
        exact LamX.codeO_ne ps (Option.some.inj e2).symm
      · exact ⟨c', z, upd_same⟩
theorem chg_tab {Z : Vz} {H H1 : Hp} (hz : TabAt H Z.tab) (k : ∀ b o, b ≠ Z.tab → H b = some o → H1 b = some o) (t : TabAt H1 Z.tab) : Chg Z H H1 := by
  refine ⟨fun a o na e => k a o (fun z => na (by rw [z]; exact Z.ht)) e, fun a za => ⟨fun ⟨i, j, l, e⟩ => ?_, fun h => ?_⟩⟩
  · by_cases y : a = Z.tab
    · obtain ⟨ps, e1, _⟩ := hz
      rw [y, e1] at e
      cases e
    · exact ⟨i, j, l, k _ _ y e⟩
  · by_cases y : a = Z.tab
    · rw [y]
      exact t
    · obtain ⟨ps, e1, e2, e3⟩ := h
      refine ⟨ps, k _ _ y e1, e2, fun pos cv hc => ?_⟩
      obtain ⟨c, a1, a2⟩ := e3 pos cv hc
      refine ⟨c, a1, k _ _ (fun w => ?_) a2⟩
      obtain ⟨ps', e1', _⟩ := hz
      rw [w, e1'] at a2
      exact LamX.codeO_ne ps' (Option.some.inj a2).symm
end
theorem reads_ints {h : Heap} {v : Value} {ns : List Int} {as : List Addr} (r : Reads h v (intsD ns) as) : as = [] := by
  have go : ∀ {ns : List Int} {vs : List Value} {as : List Addr}, ReadsAll h vs (ns.map .int) as → as = [] := by
    intro ns
    induction ns with
    | nil =>
      intro vs as r
      cases r
      rfl
    | cons n ns ih =>
      intro vs as r
      cases r with
      | cons a b =>
        cases a
        rw [ih b]
        rfl
  cases r with
  | tuple _ _ _ h4 => exact go h4
theorem each_dp {K : PySem.W.Frag} {Hc : Hp} : ∀ {vs : List V} {us : List Value} {ss : List (List Int)}, DpAll K Hc vs (ss.map intsD) → Vals vs us → PySem.W.EachIs (fun u x => ∃ t, u = Value.ref t ∧ Dp K Hc (.ref t) (intsD x)) us ss
  | _, _, [], h, r => by
    cases h
    cases r
    exact .nil
  | _, _, x :: ss, h, r => by
    cases h with
    | cons a b =>
      cases r with
      | cons r1 r2 =>
        obtain ⟨t, xs, e, t1, t2⟩ := dp_tup a
        subst e
        cases r1
        exact .cons ⟨t, rfl, a⟩ (each_dp b r2)
theorem dp_each {K : PySem.W.Frag} {Hc : Hp} : ∀ {us : List Value} {ss : List (List Int)}, PySem.W.EachIs (fun u x => ∃ t, u = Value.ref t ∧ Dp K Hc (.ref t) (intsD x)) us ss → DpAll K Hc (us.map backV) (ss.map intsD) ∧ ∀ u ∈ us, ∃ a, u = Value.ref a
  | _, _, .nil => ⟨.nil, fun _ h => nomatch h⟩
  | _, _, .cons h1 t => by
    obtain ⟨a, b⟩ := dp_each t
    obtain ⟨c, rfl, d⟩ := h1
    refine ⟨.cons d a, fun u hu => ?_⟩
    rcases List.mem_cons.mp hu with rfl | hu
    · exact ⟨c, rfl⟩
    · exact b u hu
section
variable {Z : Vz} {X : Cx} {e : Expr} {es : List Expr} {ρ : List AV}
theorem Dn.sortLam {c : Addr} {k : Nat} {params : Arguments} {scope : Scope} {p pos kpos lpos p1 p2 p3 p4 p5 : Pos} {x1} {ss : List (List Int)} (hm : X.mg "sorted" = none) (hml : X.mg "len" = none) (hr : Room k X.A) (TB : LamX.TabB X.base X.mg c Z.tab) (hcode : X.env.code = .ref c) (hq : X.env.qual ++ "<lambda>" = qLam)
    (h : Dv Z X e ρ (.list (ss.map intsD))) (hl : ss.length ≤ 1000) (hl2 : ∀ S ∈ ss, S.length ≤ 1000) (hdef : defaultsOf params X.env = ([], []))
    (hco : scope.isCoroutine = false) (hgen : scope.isGenerator = false) (hnm : scope.names.all (fun y => decide (y.2 ≠ .cell) && decide (y.2 ≠ .free)) = true) (hk : scope.kind = .function) (hsome : scope.names.lookup ("some" : Str) = some .local) (hlen : scope.names.lookup ("len" : Str) = some .globalImplicit)
    (hbind : ∀ cl pm c' ctv v, bindArgs (PySem.W.kla_fn "<lambda>" qLam params (.Tuple [.Call (.Name "len" p1) [.Name "some" p2] [] p3, .Name "some" p4] x1 p5) scope cl pm (.ref c') ctv) ⟨[v], []⟩ = pure [(("some" : Str), v)])
    (hg : Gl X "sorted" := by rfl) (he : starEach [e] X.env = (false, eval e X.env) :: starEach [] X.env := by rfl) :
    Dn Z X (.Call (.Name "sorted" p) [e] [⟨some "key", .Lambda params (.Tuple [.Call (.Name "len" p1) [.Name "some" p2] [] p3, .Name "some" p4] x1 p5) scope lpos, kpos⟩] pos) ρ (fun out => ∃ ss' : List (List Int), ss'.Perm ss ∧ out = ss'.map intsD) := fun F σ H S Q q pins s I => by
  refine wpAny_Call_Name_kw (ld_blt (u := .builtin "sorted") I hg hm (by decide +kernel) ?_)
  refine PyProof.Rows.callWith_kw (PyProof.Rows.args_cons (thn (h F σ H S (fun v H1 => ∃ a xs, v = .ref a ∧ Chg Z H H1 ∧ SqL X.K H1 a xs ∧ DpAll X.K (cut H1 F) xs (ss.map intsD)) (fun v H1 d c e r => ?_) pins s I) fun u s1 ⟨v, H1, I1, r1, q1⟩ => PyProof.Rows.args_nil ?_) he) (by rw [he]; rfl) (by rw [he]; rfl)
  · subst e
    obtain ⟨a, xs, rfl, h1, h2⟩ := dp_lst r
    exact ⟨a, xs, rfl, c, Evl.ex_l cut_ex h1, h2⟩
  obtain ⟨a, xs, rfl, cc, hs, hd⟩ := q1
  cases r1
  have S1 := S.chg cc
  have hfree : ∀ y ∈ scope.names, y.2 = .free → ∃ c, X.env.cells.lookup y.1 = some c := fun y hy e => by
    have z := (List.all_eq_true.mp hnm) y hy
    rw [e] at z
    simp at z
  have hcell : ∀ y ∈ scope.names, y.2 ≠ .cell := fun y hy e => by
    have z := (List.all_eq_true.mp hnm) y hy
    rw [e] at z
    simp at z
  refine PyProof.Rows.evalAll_cons (wpAny_bind (lam_one I1 TB hcode hq S1.tb hdef hfree fun f c' pm ctv H2 s2 I2 k2 t2 hf hco2 => wpAny_bind (wpAny_standAt (wpAny_pure (PyProof.Rows.evalAll_nil ?_)))))
  show wpAny _ _ (call (.builtin "sorted") [.ref a] [(("key" : Str), .ref f)]) _ _ _
  have c12 : Chg Z H1 H2 := chg_tab S1.tb k2 t2
  have x12 := S1.exC c12
  have na : a ≠ Z.tab := fun z => by
    obtain ⟨ps, e1, _⟩ := S1.tb
    rcases hs with (h | ⟨o, h⟩) | ⟨o, its, n, h, h2, _, h4, _⟩
    · rw [z, e1] at h
      cases h
    · rw [z, e1] at h
      cases h
    · have h5 := I1.kIn a o h
      have h6 : s1.heap.get? Z.tab = some { cls := .none, data := .fields ps } := I1.hok Z.tab _ e1
      rw [z] at h5
      have h7 := Option.some.inj (h5.symm.trans h6)
      rw [h7] at h2
      cases h2
  have hs2 : SqL X.K H2 a xs := hs.imp (fun h => h.imp (fun h => k2 _ _ na h) fun ⟨o, h⟩ => ⟨o, k2 _ _ na h⟩) fun h => h
  obtain ⟨its, rv, pl, hz⟩ := I2.list hs2
  have e1 := each_dp hd rv
  have depth2 : ∀ x : List Int, (keyD x).depth = 2 := fun x => by
    simp [keyD, PyData.depth, PyData.depthAll, PySem.W.depth_ints]
  refine PySem.W.sorted_key_data (b := false) keyD pl.isList e1 (PySem.W.AllAlike.of fun x y => by simp [PySem.W.alike, PySem.W.alikeAll, PySem.W.alike_ints]) (PySem.W.Sortable.tuples fun _ => ⟨_, _, rfl⟩) (by have := line63; unfold sizeLine at *; omega) (fun x _ => ?_) (ksk_s1 _ _) (fun _ => ksk_l1 _ _) (fun _ => ksk_t1 _ _)
    (fun v x hR hx h3 tk kp => ?_) fun out n h3 tk kp fr hD hlen2 eo => ?_
  · rw [depth2]
    have := hr.units
    omega
  · obtain ⟨t, rfl, hdp⟩ := hR
    obtain ⟨⟨oc, vs, tq, g1, g2, g3⟩, _, _⟩ := I2.hok c' _ hco2
    obtain ⟨as, rd⟩ := Dp.reads I2 _ _ (.ref t) (dp_ex x12 hdp |> dp_ex cut_ex) rfl
    have ea := reads_ints rd
    subst ea
    obtain ⟨mb, b1, b2⟩ := I2.mod.blt
    exact turn_raw (s := { s2 with heap := h3, toks := tk }) (kp _ _ hf) ⟨oc, vs, tq, kp _ _ g1, g2, g3⟩ (I2.nolimit.keeps kp) ((I2.mod.glob.keeps I2.bk).keeps kp) hml ((b1.keeps I2.bk).keeps kp) (b2 _ (by decide)) (by have := hr.dp; show X.A.depth < _; omega) hco hgen hcell hk hsome hlen (hbind _ _ _ _)
      (PyProof.Rows.Reads.keeps kp rd) (hl2 x hx)
  · obtain ⟨d1, d2⟩ := dp_each eo
    have hp : (ss.mergeSort (PySem.W.dataLe false keyD)).Perm ss := List.mergeSort_perm ..
    have hol : (out.map backV).length ≤ sizeLine := by
      rw [List.length_map, hlen2]
      have := line63
      unfold sizeLine at *
      omega
    have nH : H2 (s2.heap.objs.size + 1) = none := I2.hok.fresh (Nat.le_succ _)
    refine ⟨.ref (s2.heap.objs.size + 1), upd H2 (s2.heap.objs.size + 1) (.lst (out.map backV)), I2.laid (t' := tk) kp (Nat.le_succ _) ⟨hol, out, n, vals_back d2, hD⟩, rfl, q _ (out.map backV) _ _ ((cc.trans c12).trans (Chg.of_ex (ex_new nH))) ?_ upd_same ⟨_, hp, rfl⟩ ?_⟩
    · have c2 := cc.trans c12
      have nF := (S.chg c2).new_out nH
      exact kd_none c2.1 (fun z => nF (S.zf _ z)) nH
    · exact dpa_ex (ex_cut_new nH) (dpa_ex x12 d1)
end
end Hb

namespace Hb
open PySem PySem.Spec PyProof.Rows L2 RZ
open Evl (Ex)
/-- a def whose code object stands at c -/
structure DfC (K : PySem.W.Frag) (mg : Str → Option Value) (x qual : Str) (st : Stmt) (ps : List Str) (c : Addr) : Prop where
  ex : ∃ (f : Addr) (oc : Value) (od an : Option Addr) (kV doc pm ct : Value) (osl : Array (Option Value)), K.lookup f = some ⟨oc, od, .func (PySem.W.fnOf x qual (defArgs st) (defBody st) (defScope st) .none kV doc pm an (.ref c) ct), osl⟩ ∧ PySem.W.codeIn K (.ref c) qual = true ∧ PySem.W.keepIn K (.ref f) = true ∧ mg x = some (.ref f) ∧
    Binds K (PySem.W.fnOf x qual (defArgs st) (defBody st) (defScope st) .none kV doc pm an (.ref c) ct) ps []
section
variable {P : Program} {w : World} {K : PySem.W.Frag} {mg : Str → Option Value} {base : Heap} {Pt : Addr} {x qual : Str} {st : Stmt} {N ps : List Str} {k : Nat}
theorem mkC {c : Addr} {ds : List PyData} {φ : PyData → Prop} (D : DfC K mg x qual st ps c) (S : FnScope N ps (defScope st)) (hlen : ds.length = ps.length)
    (hb : ∀ (f : Addr) (A : Around) (outer : List Env) (s : Shared) (H : Hp) (E : XK) (F0 : Addr → Prop), Room k (bodyX P w K mg base N qual st f (.ref c) A outer s H E).A →
      Bk (vz1 Pt) (vz1 Pt).has F0 H (bodyX P w K mg base N qual st f (.ref c) A outer s H E) (defBody st) (startA N (ds.map .d)) (fun _ => False) (Rt K fun _ d => φ d)) : Fc P w K mg base Pt (k + 1) x ps ds φ := by
  obtain ⟨f, oc, od, an, kV, doc, pm, ct, osl, lk, hcd, kp, hm, bi⟩ := D.ex
  refine ⟨f, _, fn_of lk hcd S (fun vs H Q E h => ?_) (fun A outer s H vs Q E hr h => ?_), hm, kp, bi⟩
  · obtain ⟨F0, ds', _, _, _, h1, h2, _⟩ := h
    rw [dpa_len h1, h2, hlen]
  · obtain ⟨F0, ds', hPt, htb, hd, h1, h2, hq⟩ := h
    subst h2
    have nop : ∀ (i : Nat) (a : Addr), ((ds'.map AV.d)[i]?.bind AV.addr) = some a → False := fun i a e => by
      rw [List.getElem?_map] at e
      cases q : ds'[i]? with
      | none => rw [q] at e; cases e
      | some d => rw [q] at e; cases e
    have run := hb f A outer s H E F0 hr F0 (L2.start N vs) H (start_ok (fun a (z : a = Pt) => by rw [z]; exact ⟨hPt, .inr htb⟩) htb hd (by rw [dpa_len h1, List.length_map]) (d_inj ds') fun i av e => ?_)
      ⟨fun a z => z, hd, Kd.refl, fun a h => h, fun a h => .inl h, fun i a e => ?_, fun a (z : a = Pt) => by rw [z]; exact hPt, fun a (z : a = Pt) => by rw [z]; exact hd Pt hPt, fun a z => ⟨fun h => h, fun h => h⟩⟩
      { nx := fun _ H' => Q .non H', rt := Q } (fun _ _ _ _ _ _ _ z => z.elim) fun v F' σ' H' ρ' s1 g1 ⟨d, h3, h4⟩ => hq v H' d ⟨g1.kept, g1.vk⟩ h3 (dp_ex (cut_sub g1.sub) h4)
    · exact ⟨_, (wb_pss (X := bodyX P w K mg base N qual st f (.ref c) A outer s H E)).nox, run⟩
    · rw [List.getElem?_map] at e
      cases q : ds'[i]? with
      | none => rw [q] at e; cases e
      | some d =>
        rw [q] at e
        cases e
        obtain ⟨v, e1, e2⟩ := dpa_get h1 q
        exact ⟨v, e1, v, rfl, e2⟩
    · exfalso
      unfold startA at e
      by_cases hi : i < (ds'.map AV.d).length
      · rw [List.getElem?_append_left hi] at e
        exact nop i a e
      · rw [List.getElem?_append_right (by omega), List.getElem?_replicate] at e
        split at e <;> cases e
abbrev GSets (P : Program) (w : World) (K : PySem.W.Frag) (mg : Str → Option Value) (base : Heap) (Pt : Addr) : Prop := ∀ days : List Int, days.length ≤ 8 → Fc P w K mg base Pt 2 "sets_of" p_sets_of [.list (days.map .int)] (fun d => ∃ ss : List (List Int), ss.Perm (subs days) ∧ d = .list (ss.map intsD))
theorem subs_lens {days : List Int} (h : days.length ≤ 8) : (subs days).length ≤ 256 ∧ ∀ S ∈ subs days, S.length ≤ 8 := by
  refine ⟨?_, fun S hS => Nat.le_trans (subs_sub _ _ hS).length_le h⟩
  rw [subs_len]
  exact Nat.le_trans (Nat.pow_le_pow_right (by decide) h) (by decide : 2 ^ 8 ≤ 256)
theorem intsD_inj (a b : List Int) (h : intsD a = intsD b) : a = b := by
  injection h with h
  exact map_inj int_inj h
theorem ok_sets_of {c : Addr} (D : DfC K mg "sets_of" "sets_of" s_sets_of p_sets_of c) (TB : LamX.TabB base mg c Pt) (T : Tx K mg) : GSets P w K mg base Pt := fun days hd8 => by
  refine mkC D sc_sets_of rfl fun f A outer s H E F0 hr => ?_
  refine Bk.setN 1 (Dn.lst (Da.c (Dv.tup Da.nil) Da.nil) fun ds e => by rw [e]; simp) (fun a ds ba e => ?_) sc_sets_of.nd
  subst e
  refine Bk.for PassesOwn.never rfl (Wk.lstD (Dv.var 0 rfl)) (Gt.name 2 sc_sets_of.nd) (fun ds i ρ' => ∃ a v2 v3, H a = none ∧ ρ' = [.d (.list (days.map .int)), .own a ((subs (days.take i)).map intsD), v2, v3]) (fun ds e => ⟨a, _, _, ba, rfl⟩) ?_ ?_
  · rintro ds rfl i d ρ' hd ⟨a, v2, v3, ha, rfl⟩
    rw [List.getElem?_map] at hd
    cases q : days[i]? with
    | none => rw [q] at hd; cases hd
    | some n =>
      rw [q] at hd
      cases hd
      have h8 : (days.take i).length ≤ 8 := by
        rw [List.length_take]
        omega
      obtain ⟨l1, l2⟩ := subs_lens h8
      refine ⟨_, rfl, ?_⟩
      refine Bk.setN 1 (Dn.cat (Dl.own 1 rfl) (Dn.l (Dn.compE (own := [("some", 3)]) (qs := subs (days.take i)) (enc := intsD) (kp := fun _ => true) (g := fun S => intsD (S ++ [n])) rfl sc_sets_of.nd (blkOk_by (N := n_sets_of) (sc := defScope s_sets_of) (by decide +kernel))
        (Wk.own (Dl.own 1 rfl)) (fun a _ b _ => intsD_inj a b) (is := [3]) (as := as1) (by decide) (by omega)
        (fun S hS => ⟨_, rfl, fun s H C cl fp => ⟨Gt.name 3 sc_sets_of.nd, Ts.nil, fun _ => Dv.is (Dv.cat (Dv.var 3 rfl) (Dv.tup (Da.c (Dv.var 2 rfl) Da.nil)) (by rw [List.length_map]; have := l2 S hS; simp only [List.length_cons, List.length_nil]; omega)) (by unfold intsD; rw [List.map_append]; rfl)⟩⟩)))
        (fun ds es e1 e2 => by rw [e1, e2, List.length_map, List.length_map, List.filter_eq_self.mpr fun _ _ => rfl]; omega)) (fun a ds ba e => ?_) sc_sets_of.nd
      obtain ⟨d1, d2, e1, e2, e3⟩ := e
      refine Bk.nil ⟨a, .d (.int n), v3, ba, ?_⟩
      rw [e3, e1, e2, List.filter_eq_self.mpr fun _ _ => rfl, take_snoc q, subs_snoc, List.map_append, List.map_map]
      rfl
  · rintro ds rfl ρ' ⟨a, v2, v3, ha, rfl⟩
    rw [List.length_map, List.take_length]
    obtain ⟨l1, l2⟩ := subs_lens hd8
    refine Bk.free 1 rfl ha ?_
    refine Bk.ret (Dn.w (Dn.sortLam T.sorted T.len hr TB rfl rfl (Dv.var 1 rfl) (by omega) (fun S hS => by have := l2 S hS; omega) rfl rfl rfl (by decide +kernel) rfl (by decide +kernel) (by decide +kernel) (fun _ _ _ _ _ => rfl))) fun d ⟨ds, ⟨ss, p1, p2⟩, e⟩ => ⟨ss, p1, by rw [e, p2]⟩
end
end Hb

namespace Hb
open PySem PySem.Spec PyProof.Rows L2 RZ
open Evl (Ex)
/-! ### shaped data -/
structure Sh (k : Nat) (d : PyData) : Prop where
  lay : d.canLay0 = true
  dep : d.depth ≤ k
theorem Sh.all {k : Nat} : ∀ {ds : List PyData}, (∀ d ∈ ds, Sh k d) → PyData.canLayAll0 ds = true ∧ PyData.depthAll ds ≤ k
  | [], _ => ⟨by simp [PyData.canLayAll0], by simp [PyData.depthAll]⟩
  | d :: ds, h => by
    obtain ⟨a, b⟩ := Sh.all fun x hx => h x (List.mem_cons_of_mem _ hx)
    have c := h d List.mem_cons_self
    rw [PyData.canLayAll0, PyData.depthAll, c.lay, a]
    exact ⟨rfl, Nat.max_le.mpr ⟨c.dep, b⟩⟩
theorem Sh.tup {k : Nat} {ds : List PyData} (h : ∀ d ∈ ds, Sh k d) : Sh (k + 1) (.tuple ds) := by
  obtain ⟨a, b⟩ := Sh.all h
  refine ⟨by rw [PyData.canLay0]; exact a, ?_⟩
  rw [PyData.depth]
  omega
theorem Sh.lst {k : Nat} {ds : List PyData} (h : ∀ d ∈ ds, Sh k d) : Sh (k + 1) (.list ds) := by
  obtain ⟨a, b⟩ := Sh.all h
  refine ⟨by rw [PyData.canLay0]; exact a, ?_⟩
  rw [PyData.depth]
  omega
theorem Sh.int (k : Nat) (i : Int) : Sh k (.int i) := ⟨by rw [PyData.canLay0], by rw [PyData.depth]; exact Nat.zero_le _⟩
theorem Sh.mono {j k : Nat} {d : PyData} (h : Sh j d) (e : j ≤ k) : Sh k d := ⟨h.lay, Nat.le_trans h.dep e⟩
theorem Sh.ok {k : Nat} {d : PyData} (h : Sh k d) (e : k ≤ 64 := by decide) : SeqAt.shaped d = true := by
  unfold SeqAt.shaped
  rw [h.lay, decide_eq_true (Nat.le_trans h.dep e)]
  rfl
theorem Sh.ints (S : List Int) : Sh 1 (intsD S) := Sh.tup fun d hd => by
  obtain ⟨n, _, rfl⟩ := List.mem_map.mp hd
  exact Sh.int 0 n
theorem Sh.P (n : Int) : Sh 1 (encP n) := Sh.tup fun d hd => by
  simp only [List.mem_cons, List.not_mem_nil, or_false] at hd
  rcases hd with rfl | rfl
  · exact Sh.int 0 _
  · exact Sh.int 0 _
theorem Sh.heat (h : Heat) : Sh 3 (encHeat h) := Sh.tup fun d hd => by
  simp only [List.mem_cons, List.not_mem_nil, or_false] at hd
  rcases hd with rfl | rfl
  · exact Sh.int 2 _
  · refine Sh.tup fun d hd => ?_
    obtain ⟨n, _, rfl⟩ := List.mem_map.mp hd
    exact Sh.P n
theorem Sh.lot (l : Lot) : Sh 2 (encLot l) := Sh.tup fun d hd => by
  simp only [List.mem_cons, List.not_mem_nil, or_false] at hd
  rcases hd with rfl | rfl | rfl | rfl
  · exact Sh.int 1 _
  · exact Sh.P _
  · exact Sh.int 1 _
  · exact Sh.int 1 _
theorem Sh.row (x : Row) : Sh 2 (encRow x) := Sh.tup fun d hd => by
  simp only [List.mem_cons, List.not_mem_nil, or_false] at hd
  rcases hd with rfl | rfl | rfl
  · exact Sh.int 1 _
  · exact Sh.int 1 _
  · exact Sh.P _
theorem Sh.plan (pl : List Heat) : Sh 4 (encPlan pl) := Sh.tup fun d hd => by
  obtain ⟨n, _, rfl⟩ := List.mem_map.mp hd
  exact Sh.heat n
theorem Sh.lots (ls : List Lot) : Sh 3 (encLots ls) := Sh.tup fun d hd => by
  obtain ⟨n, _, rfl⟩ := List.mem_map.mp hd
  exact Sh.lot n
theorem eqv_nilT (ds : List PyData) : PyData.eqv (.tuple ds) (.tuple []) = ds.isEmpty := by
  cases ds <;> simp [PyData.eqv, PyData.eqvAll]
theorem eqv_nilL (ds : List PyData) : PyData.eqv (.list ds) (.list []) = ds.isEmpty := by
  cases ds <;> simp [PyData.eqv, PyData.eqvAll]
theorem eqv_str (a b : Str) : PyData.eqv (.str a) (.str b) = (a == b) := by simp [PyData.eqv]
section
variable {Z : Vz} {Y F0 : Addr → Prop} {B : Hp} {X : Cx} {e e0 : Expr} {es : List Expr} {ρ : List AV} {sts rest : List Stmt} {N : List AV → Prop} {R : RT}
theorem Bk.setCE (i : Nat) {α : Type} {qs : List α} {enc : α → PyData} {kp : α → Bool} {g : α → PyData} {y : Str} {py spos pos : Pos} {scope : Scope} {tg elt it : Expr} {ifs : List Expr} {own : List (Str × Nat)} {is : List Nat} {as : PyData → Option (List PyData)}
    (hc : X.calm = true) (hN : X.N.Nodup) (ok : BlkOk X.N X.env.scope scope own) (hw : Wk Z X tg it ρ false fun x => x = qs.map enc) (inj : ∀ a ∈ qs, ∀ b ∈ qs, enc a = enc b → a = b) (his : ∀ i ∈ is, i ∈ own.map (·.2)) (hlen : qs.length ≤ 100000)
    (hel : ∀ q ∈ qs, Elt Z X scope tg elt ifs (own.map (·.2)) ρ is as (fun _ => kp q) (fun _ e => e = g q) (enc q))
    (k : ∀ a, B a = none → Bk Z Y F0 B X rest (ρ.set i (.own a ((qs.filter kp).map g))) N R)
    (hsw : swapsWith (.ListComp elt [⟨tg, it, ifs, 0⟩] scope pos) (some (.Name y py)) spos.line X.env = pure true) (hi : X.N[i]? = some y := by rfl) (hyl : X.env.scope.names.lookup y = some .local := by rfl)
    (hs : ∀ x, foldedSetIterable it X.env x = pure x := by intro _; rfl) : Bk Z Y F0 B X (.Assign [.Name y py] (.ListComp elt [⟨tg, it, ifs, 0⟩] scope pos) spos :: rest) ρ N R := by
  classical
  let kk : PyData → Bool := fun d => decide (∃ q ∈ qs, enc q = d ∧ kp q = true)
  let gg : PyData → PyData := fun d => if h : ∃ q ∈ qs, enc q = d then g h.choose else .none
  have k1 : ∀ q ∈ qs, kk (enc q) = kp q := fun q hq => by
    show decide _ = _
    cases hb : kp q with
    | true => exact decide_eq_true ⟨q, hq, rfl, hb⟩
    | false =>
      refine decide_eq_false fun ⟨b, h1, h2, h3⟩ => ?_
      rw [inj b h1 q hq h2, hb] at h3
      cases h3
  have g1 : ∀ q ∈ qs, gg (enc q) = g q := fun q hq => by
    have hx : ∃ b ∈ qs, enc b = enc q := ⟨q, hq, rfl⟩
    show (if h : ∃ b ∈ qs, enc b = enc q then g h.choose else .none) = _
    rw [dif_pos hx, inj _ hx.choose_spec.1 q hq hx.choose_spec.2]
  refine Bk.setC i (keep := kk) (ψ := fun d e => e = gg d) (as := as) hc hN ok hw his (fun x e => ?_) (fun a ds out ba e r => ?_) hsw hi hyl hs
  · subst e
    refine ⟨by rw [List.length_map]; exact hlen, fun d hd => ?_⟩
    obtain ⟨q, hq, rfl⟩ := List.mem_map.mp hd
    exact (hel q hq).cong (k1 q hq).symm fun e he => by rw [g1 q hq]; exact he
  · subst e
    have e2 : out = (qs.filter kp).map g := by
      rw [r.fn, List.filter_map, List.map_map]
      have e1 : qs.filter (kk ∘ enc) = qs.filter kp := List.filter_congr fun q hq => k1 q hq
      rw [e1]
      exact List.map_congr_left fun q hq => g1 q (List.mem_filter.mp hq).1
    rw [e2]
    exact k a ba
end
section
variable {P : Program} {w : World} {K : PySem.W.Frag} {mg : Str → Option Value} {base : Heap} {Pt : Addr}
/-- what had_or_not answers -/
def Paper (n : Nat) (ls : List Lot) (pl : List Heat) (d : PyData) : Prop := (HallAll n ls pl ∧ (goAll ls pl).2.2 = none ∧ d = .tuple [.str "had", .list (rowsD (goAll ls pl).1)]) ∨
  (¬ HallAll n ls pl ∧ ∃ (s : Nat) (S : List Int), s < n ∧ S ∈ subs (pl.map (·.1)) ∧ tooMuch ls pl s S = true ∧ d = .tuple [.str "short", .int s, intsD S])
abbrev GHad (P : Program) (w : World) (K : PySem.W.Frag) (mg : Str → Option Value) (base : Heap) (Pt : Addr) : Prop := ∀ (ls : List Lot) (pl : List Heat) (n : Nat), LotsOk ls → PlOk n pl → Fc P w K mg base Pt 6 "had_or_not" p_had_or_not [encLots ls, encPlan pl] (Paper n ls pl)
theorem ok_had_or_not (D : Df K mg "had_or_not" "had_or_not" s_had_or_not p_had_or_not) (T : Tx K mg) (gG : GGone P w K mg base Pt) (gS : GSets P w K mg base Pt) (gM : GMuch P w K mg base Pt) : GHad P w K mg base Pt := fun ls pl n L PL => by
  refine mkF D sc_had_or_not rfl fun f cdv A outer s H E F0 hr => ?_
  refine Bk.unp (Dw.fc (gG ls pl n L PL) hr (Da.c (Dv.var 0 rfl) (Da.c (Dv.var 1 rfl) Da.nil))) (Gt.three 2 3 4 rfl sc_had_or_not.nd) (as := items3) fun d e => ?_
  subst e
  refine ⟨_, rfl, ?_⟩
  have iff := had_iff PL.po L.pos
  cases hx : (goAll ls pl).2.2 with
  | none =>
    refine Bk.ifT (Dt.isN (Dv.var 4 rfl) (b := true) ?_) ?_
    · exact non_none
    · exact Bk.ret (Dv.tup (Da.c Dv.str (Da.c (Dv.var 2 rfl) Da.nil))) fun d e => .inl ⟨iff.mp hx, hx, e⟩
  | some x =>
    have nh : ¬ HallAll n ls pl := fun z => by
      rw [iff.mpr z] at hx
      cases hx
    refine Bk.skip (Dt.isN (Dv.var 4 rfl) (b := false) ?_) ?_
    · exact non_tuple
    have hpl : ∃ h t, pl = h :: t := by
      cases pl with
      | nil => cases hx
      | cons h t => exact ⟨h, t, rfl⟩
    obtain ⟨h0, t0, hpl⟩ := hpl
    have hn : h0.2.length = n := PL.po.len h0 (by rw [hpl]; exact List.mem_cons_self)
    have l8 : (pl.map (·.1)).length ≤ 8 := by
      rw [List.length_map]
      exact PL.len
    refine Bk.set 5 (Dw.fc (gS _ l8) (hr.mono (by decide)) (Da.c (Dv.is (Dv.compE (own := [("day", 8), ("charge", 9)]) (qs := pl) (enc := encHeat) (kp := fun _ => true) (g := fun h => .int h.1) rfl sc_had_or_not.nd (blkOk_by (N := n_had_or_not) (sc := defScope s_had_or_not) (by decide +kernel))
      (Wk.tupD (Dv.var 1 rfl)) (fun a _ b _ => encHeat_inj a b) (is := [8, 9]) (as := items2) (by decide) (by have := PL.len; omega) (fun h hh => ⟨_, rfl, fun s H C cl fp => ⟨Gt.two 8 9 rfl sc_had_or_not.nd, Ts.nil, fun _ => Dv.var 8 rfl⟩⟩)) (by rw [List.filter_eq_self.mpr fun _ _ => rfl, List.map_map]; rfl)) Da.nil)) (fun d e => ?_) sc_had_or_not.nd
    obtain ⟨ss, hss, rfl⟩ := e
    have m8 : ∀ S ∈ ss, S.length ≤ 8 := fun S hS => (subs_lens l8).2 S (hss.mem_iff.mp hS)
    have ml : ss.length ≤ 256 := by
      rw [hss.length_eq]
      exact (subs_lens l8).1
    refine Bk.for PassesOwn.never rfl (Wk.rng1 T.range (φ := fun m => m = (n : Int)) (Dw.mono (Dv.len T.len (Dv.ix (Dv.ix (Dv.var 1 rfl) Dv.int (d := encHeat h0) (by rw [hpl]; exact atI_nat (j := 0) rfl)) Dv.int)) fun d e => ⟨n, rfl, by rw [e, List.length_map, hn]⟩) (fun m e => by rw [e]; have := PL.n5; omega)) (Gt.name 6 sc_had_or_not.nd)
      (fun ds i ρ' => ∃ v6 v7 v8 v9 v10, ρ' = [.d (encLots ls), .d (encPlan pl), .d (.list (rowsD (goAll ls pl).1)), .d (.list (encL (goAll ls pl).2.1)), .d (encLack (some x)), .d (.list (ss.map intsD)), v6, v7, v8, v9, v10] ∧ ∀ s : Nat, s < i → ∀ S ∈ subs (pl.map (·.1)), tooMuch ls pl s S = false)
      (fun ds e => ⟨_, _, _, _, _, rfl, fun s hs => by omega⟩) ?_ ?_
    · rintro ds ⟨m, rfl, rfl⟩ i d ρ' hd ⟨v6, v7, v8, v9, v10, rfl, hno⟩
      have hi : i < n := by
        have := (List.getElem?_eq_some_iff.mp hd).1
        rw [irng_len] at this
        omega
      rw [irng_get (by omega)] at hd
      rw [Int.zero_add] at hd
      cases hd
      refine ⟨_, rfl, ?_⟩
      refine Bk.setCE 7 (own := [("days", 10)]) (qs := ss) (enc := intsD) (kp := fun S => tooMuch ls pl i S) (g := intsD) rfl sc_had_or_not.nd (blkOk_by (N := n_had_or_not) (sc := defScope s_had_or_not) (by decide +kernel)) (Wk.lstD (Dv.var 5 rfl)) (fun a _ b _ => intsD_inj a b) (is := [10]) (as := as1) (by decide) (by omega)
        (fun S hS => ⟨_, rfl, fun s H C cl fp => ⟨Gt.name 10 sc_had_or_not.nd, Ts.one (Dt.val (Dw.fc (gM ls pl n i S L PL hi (by have := m8 S hS; omega)) hr (Da.c (Dv.var 0 rfl) (Da.c (Dv.var 1 rfl) (Da.c (Dv.var 6 rfl) (Da.c (Dv.var 10 rfl) Da.nil)))))), fun _ => Dv.var 10 rfl⟩⟩) (fun a ba => ?_) (by rfl)
      cases hf : ss.filter fun S => tooMuch ls pl i S with
      | nil =>
        refine Bk.free 7 rfl ba ?_
        refine Bk.skip (Dt.is (Dt.ne hr.units (Dv.var 7 rfl) (Dn.v (Dn.lst Da.nil fun ds e => by rw [e]; simp))) (by rw [eqv_nilL]; rfl)) ?_
        refine Bk.nil ⟨_, _, _, _, _, rfl, fun s hs S hS => ?_⟩
        by_cases e : s = i
        · subst e
          cases h : tooMuch ls pl s S with
          | false => rfl
          | true =>
            have := List.mem_filter.mpr ⟨hss.mem_iff.mpr hS, h⟩
            rw [hf] at this
            cases this
        · exact hno s (by omega) S hS
      | cons S0 fs =>
        have h0 : S0 ∈ ss.filter fun S => tooMuch ls pl i S := by rw [hf]; exact List.mem_cons_self
        obtain ⟨m1, m2⟩ := List.mem_filter.mp h0
        have shp : Sh 2 (.list ((S0 :: fs).map intsD)) := Sh.lst fun d hd => by
          obtain ⟨n, _, rfl⟩ := List.mem_map.mp hd
          exact Sh.ints n
        refine Bk.free 7 rfl ba ?_
        refine Bk.ifT (Dt.is (Dt.ne hr.units (Dv.var 7 rfl) (Dn.v (Dn.lst Da.nil fun ds e => by rw [e]; simp)) shp.ok) (by rw [eqv_nilL]; rfl)) ?_
        exact Bk.ret (Dv.tup (Da.c Dv.str (Da.c (Dv.var 6 rfl) (Da.c (Dv.ixL (Dv.var 7 rfl) Dv.int (atI_nat (j := 0) rfl)) Da.nil)))) fun d e => .inr ⟨nh, i, S0, hi, hss.mem_iff.mp m1, m2, e⟩
    · rintro ds ⟨m, rfl, rfl⟩ ρ' ⟨v6, v7, v8, v9, v10, rfl, hno⟩
      rw [irng_len] at hno
      obtain ⟨s0, h1, S, h2, h3⟩ := not_hall L.pos nh
      rw [hno s0 (by omega) S h2] at h3
      cases h3
end
end Hb

namespace Hb
open PySem PySem.Spec PyProof.Rows L2 RZ
open Evl (Ex)
/-! ### dicts of pairs of ints -/
abbrev K2 (i j : Int) : List L2.Key := [.inl i, .inl j]
abbrev Ent := (Int × Int) × Int
abbrev encD (es : List Ent) : List (List L2.Key × PyData) := es.map fun e => (K2 e.1.1 e.1.2, encP e.2)
theorem K2_inj {i j k l : Int} (h : K2 i j = K2 k l) : i = k ∧ j = l := by
  injection h with h1 h
  injection h with h2 _
  injection h1 with h1
  injection h2 with h2
  exact ⟨h1, h2⟩
def putD (kvs : List (List L2.Key × PyData)) (k : List L2.Key) (d : PyData) : List (List L2.Key × PyData) :=
  if (kvs.any fun kv => decide (kv.1 = k)) = true then kvs.map (fun kv => if kv.1 = k then (kv.1, d) else kv) else kvs ++ [(k, d)]
theorem kv_put {K : PySem.W.Frag} {H : Hp} {vs : List (List L2.Key × V)} {kvs : List (List L2.Key × PyData)} {k : List L2.Key} {v : V} {d : PyData} (h : KvAll K H vs kvs) (r : Dp K H v d) : KvAll K H (putK vs k v) (putD kvs k d) := by
  have ha : ∀ {vs : List (List L2.Key × V)} {kvs : List (List L2.Key × PyData)}, vs.map (·.1) = kvs.map (·.1) → (vs.any fun kv => decide (kv.1 = k)) = kvs.any fun kv => decide (kv.1 = k) := by
    intro vs kvs h
    have e1 : (vs.any fun kv => decide (kv.1 = k)) = (vs.map (·.1)).any fun x => decide (x = k) := by rw [List.any_map]; rfl
    have e2 : (kvs.any fun kv => decide (kv.1 = k)) = (kvs.map (·.1)).any fun x => decide (x = k) := by rw [List.any_map]; rfl
    rw [e1, e2, h]
  have hm : ∀ {vs : List (List L2.Key × V)} {kvs : List (List L2.Key × PyData)}, KvAll K H vs kvs → KvAll K H (vs.map fun kv => if kv.1 = k then (kv.1, v) else kv) (kvs.map fun kv => if kv.1 = k then (kv.1, d) else kv) := by
    intro vs
    induction vs with
    | nil =>
      intro kvs h
      cases kvs with
      | nil => exact ⟨rfl, .nil⟩
      | cons q kvs => cases h.1
    | cons p vs ih =>
      intro kvs h
      cases kvs with
      | nil => cases h.1
      | cons q kvs =>
        obtain ⟨h1, h2⟩ := h
        injection h1 with e1 e2
        cases h2 with
        | cons a b =>
          obtain ⟨i1, i2⟩ := ih ⟨e2, b⟩
          rw [List.map_cons, List.map_cons]
          by_cases c : p.1 = k
          · rw [if_pos c, if_pos (e1.symm.trans c)]
            exact ⟨by rw [List.map_cons, List.map_cons, i1]; exact congrArg (· :: _) e1, .cons r i2⟩
          · rw [if_neg c, if_neg fun z => c (e1.trans z)]
            exact ⟨by rw [List.map_cons, List.map_cons, i1]; exact congrArg (· :: _) e1, .cons a i2⟩
  unfold putK putD
  rw [ha h.1]
  by_cases c : (kvs.any fun kv => decide (kv.1 = k)) = true
  · rw [if_pos c, if_pos c]
    exact hm h
  · rw [if_neg c, if_neg c]
    exact ⟨by rw [List.map_append, List.map_append, h.1]; rfl, by rw [List.map_append, List.map_append]; exact dpa_app h.2 (.cons r .nil)⟩
theorem kv_val {K : PySem.W.Frag} {H : Hp} {k : List L2.Key} : ∀ {vs : List (List L2.Key × V)} {kvs : List (List L2.Key × PyData)}, KvAll K H vs kvs → (valV vs k).isSome = (kvs.find? fun kv => decide (kv.1 = k)).isSome ∧ ∀ v, valV vs k = some v → ∃ d, (kvs.find? fun kv => decide (kv.1 = k)).map (·.2) = some d ∧ Dp K H v d
  | [], [], _ => ⟨rfl, fun v e => nomatch e⟩
  | [], _ :: _, h => by cases h.1
  | _ :: _, [], h => by cases h.1
  | p :: vs, q :: kvs, h => by
    obtain ⟨h1, h2⟩ := h
    injection h1 with e1 e2
    cases h2 with
    | cons a b =>
      obtain ⟨i1, i2⟩ := kv_val (k := k) (vs := vs) (kvs := kvs) ⟨e2, b⟩
      by_cases c : p.1 = k
      · have c2 : q.1 = k := e1.symm.trans c
        rw [valV_pos c, List.find?_cons, decide_eq_true c2]
        refine ⟨rfl, fun v e => ?_⟩
        cases e
        exact ⟨_, rfl, a⟩
      · have c2 : ¬ q.1 = k := fun z => c (e1.trans z)
        rw [valV_neg c, List.find?_cons, decide_eq_false c2]
        exact ⟨i1, i2⟩
section
variable {X : Cx} {pins : List (Addr × Obj)} {σ : L2.St} {H : Hp} {s : Shared} {a b : Addr} {A : Around} {E : Value → Shared → Prop}
theorem key_ofD {k : List L2.Key} (I : Inv X pins σ H s) (e : SqT X.K H b (k.map kV)) : (tupleKind (mixKind X.prog X.w)).is s.heap k b := by
  obtain ⟨its, r, ⟨o, h1, h2, n, h3⟩, _⟩ := I.tuple e
  exact ⟨o, its.toArray, n, h1, h2, h3, by simpa using items_are r⟩
def rNotInT (K : PySem.W.Frag) : R2 := fun x y H Q => ∃ (a b : Addr) (vs : List (List L2.Key × V)) (k : List L2.Key), y = .ref a ∧ x = .ref b ∧ Rd H a (.dT vs) ∧ SqT K H b (k.map kV) ∧ Q (.bl (!(valV vs k).isSome)) H
theorem op_notInT (hu : X.A.units + 1 < cLine) : OpR X (compareOp .NotIn) (rNotInT X.K) := by
  intro pins s σ H x y v u Q I rx ry h
  obtain ⟨a, b, vs, k, rfl, rfl, e, eb, q⟩ := h
  cases (show u = Value.ref a from ry)
  cases (show v = Value.ref b from rx)
  obtain ⟨z, hd, xs, rel, dd⟩ := dt_rd I.hok e
  refine wpAny_notIn_heap (tupleKind_room_in1 hu) (key_ofD I eb) hd dd ⟨.bl (!(valV vs k).isSome), H, I.tok _, ?_, q⟩
  have q := (rel.val k).isSome_eq
  rw [Option.isSome_map] at q
  rw [q]
  rfl
def tGetT (K : PySem.W.Frag) (td ty : TE) : TE := fun σ H Q => td σ H fun x H1 => ty σ H1 fun y H2 => ∃ (a b : Addr) (vs : List (List L2.Key × V)) (k : List L2.Key) (v : V), x = .ref a ∧ y = .ref b ∧ Rd H2 a (.dT vs) ∧ SqT K H2 b (k.map kV) ∧ valV vs k = some v ∧ Q v H2
theorem pe_getT {o i : Expr} {pos : Pos} {td ty : TE} (hu : X.A.units + 1 < cLine) (ho : PE X o td) (hi : PE X i ty) (hs : NoSl i) : PE X (.Subscript o i pos) (tGetT X.K td ty) := by
  refine ⟨fun pins s σ H Q I h => ?_⟩
  refine subD_of PySem.F.slot_dict_getitem.lookup hs (thn (ho.run pins s σ H _ I h) fun u s1 ⟨x, H1, I1, rx, q1⟩ => thn (hi.run pins s1 σ H1 _ I1 q1) fun iv s2 ⟨y, H2, I2, ry, a, b, vs, k, v, ex, ey, e, eb, l, q2⟩ => ?_)
  subst ex ey
  cases (show u = Value.ref a from rx)
  cases (show iv = Value.ref b from ry)
  obtain ⟨z, hd, xs, rel, dd⟩ := dt_rd I2.hok e
  obtain ⟨w', hw, rw'⟩ := RelO.some_of (v := v) (o := (atKey xs k).map (·.2)) (by rw [← l]; exact rel.val k)
  obtain ⟨p, hp, hp2⟩ := Option.map_eq_some_iff.mp hw
  refine ⟨dd.typeIs, wpAny_getItem_heap (tupleKind_room_in1 hu) (key_ofD I2 eb) dd hp ?_⟩
  rw [hp2]
  exact ⟨v, H2, I2.tok _, rw', q2⟩
/-- d[y] = v, y there -/
def sPutE (K : PySem.W.Frag) (td ty tv : TE) : TS := fun D σ H => tv σ H fun v H1 => td σ H1 fun x H2 => ty σ H2 fun y H3 => ∃ (a b : Addr) (vs : List (List L2.Key × V)) (k : List L2.Key), x = .ref a ∧ y = .ref b ∧ H3 a = some (.dT vs) ∧ SqT K H3 b (k.map kV) ∧ (valV vs k).isSome = true ∧ D.nx σ (upd H3 a (.dT (putK vs k v)))
theorem ps_putE {o i value : Expr} {pos pos' : Pos} {td ty tv : TE} (hu : X.A.units + 1 < cLine) (ho : PE X o td) (hi : PE X i ty) (hv : PE X value tv) (hs : swapsWith value (some (.Subscript o i pos')) pos.line X.env = pure false) :
    PS X (.Assign [.Subscript o i pos'] value pos) (sPutE X.K td ty tv) := by
  refine ⟨fun pins s σ H D I h => ?_⟩
  refine wpAny_Assign_Subscript (thn (hv.run pins s σ H _ I h) fun r s1 ⟨v, H1, I1, rv, q1⟩ => thn (ho.run pins s1 σ H1 _ I1 q1) fun u s2 ⟨x, H2, I2, rx, q2⟩ => thn (hi.run pins s2 σ H2 _ I2 q2) fun iv s3 ⟨y, H3, I3, ry, a, b, vs, k, ex, ey, e, eb, l, q3⟩ => ?_) hs
  subst ex ey
  cases (show u = Value.ref a from rx)
  cases (show iv = Value.ref b from ry)
  obtain ⟨z, hd, xs, rel, dd⟩ := dt_of I3.hok e
  have hz : xs.length ≤ sizeLine := by rw [← Paired.length rel]; exact z
  have there : (vs.any fun kv => decide (kv.1 = k)) = true := by rw [valV_any, l]
  have there2 : (atKey xs k).isSome = true := by
    rw [← l, (rel.val k).isSome_eq, Option.isSome_map]
  have pk : putK vs k v = vs.map fun kv => if kv.1 = k then (kv.1, v) else kv := by
    unfold putK
    rw [if_pos there]
  refine wpAny_setItem_heap (hsz := hz) (tupleKind_room_in1 hu) (key_ofD I3 eb) dd fun h' dd' hs => ⟨σ, upd H3 a (.dT (putK vs k v)), ?_, q3⟩
  obtain ⟨q, es, ep, hq, h2, h3, h4, _, h5⟩ := dd'
  have st : storedH xs k b r = xs.map (putAt k r) := by
    unfold storedH
    rw [if_pos there2]
  rw [st] at h4 h5
  have new : ObjOk X.prog X.w (upd H3 a (.dT (putK vs k v))) h' a (.dT (putK vs k v)) := by
    refine ⟨by rw [pk, List.length_map]; exact z, hd, xs.map (putAt k r), ?_, q, es, ep, hq, h2, h3, h4, h5⟩
    rw [pk]
    refine (rel.repl k rv).keeps fun c ys ec => ?_
    rw [upd_ne (ne_of ec e (fun z => nomatch z))]
    exact ec
  exact d_write I3 (by rw [e]; exact True.intro) hs ⟨q, hq⟩ new
end
end Hb

namespace Hb
open PySem PySem.Spec PyProof.Rows L2 RZ
open Evl (Ex)
theorem valV_nodup {k : List L2.Key} {v : V} : ∀ {vs : List (List L2.Key × V)} {i : Nat}, (vs.map (·.1)).Nodup → vs[i]? = some (k, v) → valV vs k = some v
  | [], _, _, h => by cases h
  | p :: vs, 0, _, h => by
    cases h
    exact valV_pos rfl
  | p :: vs, i + 1, nd, h => by
    rw [List.map_cons, List.nodup_cons] at nd
    have m : k ∈ vs.map (·.1) := List.mem_map.mpr ⟨(k, v), List.mem_of_getElem? h, rfl⟩
    rw [valV_neg fun z => nd.1 (by rw [z]; exact m)]
    exact valV_nodup nd.2 h
theorem kv_len {K : PySem.W.Frag} {H : Hp} {vs : List (List L2.Key × V)} {kvs : List (List L2.Key × PyData)} (h : KvAll K H vs kvs) : vs.length = kvs.length := by
  have := congrArg List.length h.1
  rw [List.length_map, List.length_map] at this
  exact this
theorem kv_at {K : PySem.W.Frag} {H : Hp} {vs : List (List L2.Key × V)} {kvs : List (List L2.Key × PyData)} {i : Nat} {k : List L2.Key} {v : V} (h : KvAll K H vs kvs) (e : vs[i]? = some (k, v)) : ∃ d, kvs[i]? = some (k, d) ∧ Dp K H v d := by
  obtain ⟨d, e1, e2⟩ := dpa_get' h.2 (v := v) (by rw [List.getElem?_map, e]; rfl)
  have e3 : (kvs.map (·.1))[i]? = some k := by rw [← h.1, List.getElem?_map, e]; rfl
  rw [List.getElem?_map] at e1 e3
  cases z : kvs[i]? with
  | none => rw [z] at e1; cases e1
  | some x =>
    rw [z] at e1 e3
    cases e1
    cases e3
    exact ⟨_, rfl, e2⟩
def tKeyE (K : PySem.W.Frag) (i j : Nat) : TE := fun σ H Q => ∃ (q a : Addr) (vs : List (List L2.Key × V)) (k : List L2.Key) (v : V) (n : Int), σ[j]? = some (some (.ref q)) ∧ σ[i]? = some (some (.ref a)) ∧ Rd H a (.dT vs) ∧ SqT K H q (k.map kV) ∧ valV vs k = some v ∧ Dp K H v (encP n) ∧ Q (.bl (decide (n = 0))) H
section
variable {Z : Vz} {Y F0 : Addr → Prop} {B : Hp} {X : Cx} {e e1 e2 ie : Expr} {es : List Expr} {ρ : List AV} {sts rest : List Stmt} {N : List AV → Prop} {R : RT}
theorem pe_keyE (i j : Nat) {x y z : Str} {p1 p2 p3 p4 pos : Pos} {a : Addr} (hu : X.A.units + 64 < cLine) (hm : X.mg z = some (.ref a)) (hd : ∀ H, Dp X.K H (.ref a) (encP 0)) (hi : X.N[i]? = some x) (hj : X.N[j]? = some y) (vi : Vis X.env.scope x) (vj : Vis X.env.scope y) (hg : Gl X z)
    (di : (x == ("__debug__" : Str)) = false) (ci : (x == ("__classdict__" : Str)) = false) (dj : (y == ("__debug__" : Str)) = false) (cj : (y == ("__classdict__" : Str)) = false) (dz : (z == ("__debug__" : Str)) = false) : PE X (.Compare (.Subscript (.Name x p1) (.Name y p2) p3) [.Eq] [.Name z p4] pos) (tKeyE X.K i j) := by
  have base := pe_cmpR (pos := pos) (op_eqD hu) (pe_getT (pos := p3) (by omega) (pv i (pos := p1) hi vi di ci) (pv j (pos := p2) hj vj dj cj) (fun _ _ => rfl)) (pe_glob (v := .ref a) (pos := p4) hg hm rfl dz) (by first | exact nomark _ | rfl)
  refine ⟨fun pins s σ H Q I h => base.run pins s σ H Q I ?_⟩
  obtain ⟨q, b, vs, k, v, n, h1, h2, h3, h4, h5, h6, h7⟩ := h
  refine ⟨.ref b, h2, .ref q, h1, b, q, vs, k, v, rfl, rfl, h3, h4, h5, ?_⟩
  exact ⟨encP n, encP 0, h6, hd H, (Sh.P n).ok, (Sh.P 0).ok, by rw [eqv_P]; exact h7⟩
theorem Dv.allK (i j : Nat) {a : Addr} {es : List Ent} {x y : Str} {scope : Scope} {elt : Expr} {p p1 p2 pos pos2 : Pos} (hi : ρ[i]? = some (.dic a (encD es))) (hnd : (es.map (·.1)).Nodup) (hlen : es.length ≤ 100000) (hij : i ≠ j) (hjr : j < ρ.length) (hc : X.calm = true) (hN : X.N.Nodup) (hm : X.mg "all" = none)
    (ok : BlkOk X.N X.env.scope scope [(y, j)]) (hel : ∀ s H C cl fp, PE (blkX X s H scope C cl fp) elt (tKeyE X.K i j)) (hgx : ∀ s H C cl fp, Loc (blkX X s H scope C cl fp).env.scope y) (hfx : ∀ s H C cl fp, (blkX X s H scope C cl fp).fn y = true ∨ (blkX X s H scope C cl fp).env.scope.names.lookup y = some .local)
    (hni : X.N[i]? = some x := by rfl) (hnj : X.N[j]? = some y := by rfl) (hv : Vis X.env.scope x := by first | exact Or.inl rfl | exact Or.inr (Or.inl rfl) | exact Or.inr (Or.inr rfl)) (hd : (x == ("__debug__" : Str)) = false := by decide) (hcd : (x == ("__classdict__" : Str)) = false := by decide)
    (hg : Gl X "all" := by rfl) (he : starEach [.ListComp elt [⟨.Name y p1, .Name x p2, [], 0⟩] scope pos2] X.env = [(false, eval (.ListComp elt [⟨.Name y p1, .Name x p2, [], 0⟩] scope pos2) X.env)] := by rfl)
    (hpl : (backTo pos (starEach [] X.env)).any (·.1) = false := by rfl) (hs : ∀ v, foldedSetIterable (.Name x p2) X.env v = pure v := by intro _; rfl) :
    Dv Z X (.Call (.Name "all" p) [.ListComp elt [⟨.Name y p1, .Name x p2, [], 0⟩] scope pos2] [] pos) ρ (.bool (es.all fun e => decide (e.2 = 0))) := fun F σ H S Q q => by
  obtain ⟨ov, q1, q2, q3, q4, vs, q5, q6⟩ := S.slot i _ hi
  refine we_of (pe_lock (pe_callB (cr_all hc) hg hm (by decide +kernel) (pa_cons (pe_lc hc hN (pi_keys (pv i hni hv hd hcd)) ok (fun s H C cl fp => pg_name (X := blkX X s H scope C cl fp) hN hnj (hgx s H C cl fp) (hfx s H C cl fp)) (fun s H C cl fp => pts_nil) hel hs) pa_nil he) (by decide) (by decide) he hpl)) ?_
  refine ⟨a, .dT vs, q5, trivial, fun od => ⟨.ref a, by rw [q1, q2], a, od, rfl, .inr ⟨vs, upd_same, fun D hD => ?_⟩⟩⟩
  have nDa : D ≠ a := fun z => by
    rw [z, upd_same] at hD
    cases hD
  have nHD : H D = none := by
    rw [upd_ne nDa] at hD
    exact hD
  have hl := kv_len q6
  rw [List.length_map] at hl
  have hk : vs.map (·.1) = es.map fun e => K2 e.1.1 e.1.2 := by
    rw [q6.1, List.map_map]
    rfl
  have nd : (vs.map (·.1)).Nodup := by
    rw [hk, show (es.map fun e => K2 e.1.1 e.1.2) = (es.map (·.1)).map fun p => K2 p.1 p.2 by rw [List.map_map]; rfl]
    refine List.pairwise_map.mpr (List.Pairwise.imp (fun {p q} ne e => ne ?_) hnd)
    obtain ⟨e1, e2⟩ := K2_inj e
    exact Prod.ext e1 e2
  have j_in : j ∈ [j] := List.mem_cons_self
  refine lc_it walk_keysT (Pv := fun n H' => H' = upd (upd H a (.frz od (.dT vs))) D (.lst ((es.take n).map fun e => .bl (decide (e.2 = 0))))) rfl (fun n H' _ e => by rw [e, upd_ne (Ne.symm nDa), upd_same]) (fun n v H' H'' hn e y => ?_) fun H' e => ?_
  · obtain ⟨rfl, k, w, q, y1, rfl, y2⟩ := y
    subst e
    obtain ⟨d, d1, d2⟩ := kv_at q6 y1
    rw [List.getElem?_map] at d1
    cases z : es[n]? with
    | none => rw [z] at d1; cases d1
    | some en =>
      rw [z] at d1
      cases d1
      have hjs : j < σ.length := by
        rw [S.len]
        exact hjr
      have hjl : j < (L2.wipe σ [j]).length := by
        have := wipe_get σ [j] j
        rw [if_pos j_in, List.getElem?_eq_getElem hjs] at this
        exact (List.getElem?_eq_some_iff.mp this).1
      have xx : Ex (cut H F) (upd (upd H a (.frz od (.dT vs))) D (.lst ((es.take n).map fun e => .bl (decide (e.2 = 0))))) := fun b o e => by
        obtain ⟨b1, b2⟩ := cut_some e
        have n1 : b ≠ D := ne_of_none b2 nHD
        have n2 : b ≠ a := fun z => b1 (by rw [z]; exact q3)
        rw [upd_ne n1, upd_ne n2]
        exact b2
      refine ⟨putsA_wipe (is := [j]) (ws := [.ref q]) (fun i hi => hi), ?_⟩
      unfold tYes
      simp only [if_true]
      refine ⟨q, a, vs, _, w, en.2, List.getElem?_set_self hjl, ?_, .inr ⟨od, by rw [upd_ne (Ne.symm nDa), upd_same]⟩, .inl (.inl y2), valV_nodup nd y1, dp_ex xx d2, _, upd_same, ?_, ?_⟩
      · rw [List.getElem?_set_ne (Ne.symm hij), wipe_get_out (by simpa using hij), q1, q2]
      · rw [List.length_map, List.length_take]
        exact Evl.sz_lt (by omega)
      · rw [take_snoc z, List.map_append]
        funext b
        by_cases c : b = D
        · rw [c, upd_same, upd_same]
          rfl
        · rw [upd_ne c, upd_ne c, upd_ne c]
  · subst e
    rw [hl, List.take_length]
    refine ⟨D, es.map fun e => decide (e.2 = 0), rfl, .inl (.inl (by rw [List.map_map]; exact upd_same)), by rw [upd_ne (Ne.symm nDa), upd_same], q _ _ _ (Chg.of_ex fun b o e => ?_) rfl ?_⟩
    · by_cases c : b = a
      · rw [c, upd_same]
        rw [c, q5] at e
        exact e
      · have n1 : b ≠ D := ne_of_none e nHD
        rw [upd_ne c, upd_ne n1, upd_ne c]
        exact e
    · rw [List.all_map]
      exact .bl _
/-- a dict of the def's own turns -/
theorem dic_upd {F : Addr → Prop} {σ : L2.St} {H : Hp} {i : Nat} {a : Addr} {kvs kvs' : List (List L2.Key × PyData)} {ws : List (List L2.Key × V)} (S : StOk Z F X.K H σ ρ) (g : Gr Y F0 B Z F H ρ) (hi : ρ[i]? = some (.dic a kvs)) (r : KvAll X.K (cut H F) ws kvs') :
    StOk Z F X.K (upd H a (.dT ws)) σ (ρ.set i (.dic a kvs')) ∧ Gr Y F0 B Z F (upd H a (.dT ws)) (ρ.set i (.dic a kvs')) ∧ cut (upd H a (.dT ws)) F = cut H F := by
  obtain ⟨ov, h1, h2, h3, h4, xs, h5, h6⟩ := S.slot i _ hi
  have ce : cut (upd H a (.dT ws)) F = cut H F := cut_upd_in h3
  have hl := (List.getElem?_eq_some_iff.mp hi).1
  have ga := g.own i a (by rw [hi]; rfl)
  have pu : ∀ {b : Addr}, Z b → PenAt H b → PenAt (upd H a (.dT ws)) b := fun {b} z ⟨p, q, t, e⟩ => ⟨p, q, t, by rw [upd_ne fun (y : b = a) => h4 (by rw [← y]; exact z)]; exact e⟩
  have vu : ∀ {b : Addr}, Z b → Vol H b → Vol (upd H a (.dT ws)) b := fun z v => v.elim (fun q => .inl (pu z q)) fun q => .inr (q.upd h5 plain_dT)
  have key : ∀ (j : Nat) (b : Addr), ((ρ.set i (.dic a kvs'))[j]?.bind AV.addr) = some b → (ρ[j]?.bind AV.addr) = some b := fun j b h => by
    by_cases q : i = j
    · subst q
      rw [List.getElem?_set_self hl] at h
      rw [hi]
      exact h
    · rw [List.getElem?_set_ne q] at h
      exact h
  refine ⟨⟨fun b z => ⟨(S.pen b z).1, vu z (S.pen b z).2⟩, S.tb.upd h5 plain_dT, fun b h => ?_, by simp [S.len], fun j l b e1 e2 => S.inj j l b (key j b e1) (key l b e2), fun j av e => ?_⟩, ?_, ce⟩
  · by_cases y : b = a
    · rw [y, upd_same]
      exact fun z => nomatch z
    · rw [upd_ne y]
      exact S.dom b h
  · by_cases q : i = j
    · subst q
      rw [List.getElem?_set_self hl] at e
      cases e
      exact ⟨ov, h1, h2, h3, h4, ws, upd_same, by rw [ce]; exact r⟩
    · rw [List.getElem?_set_ne q] at e
      obtain ⟨w, q1, q2⟩ := S.slot j av e
      have ne : ∀ b, av.addr = some b → b ≠ a := fun b hb z => q (S.inj i j a (by rw [hi]; rfl) (by rw [e]; show av.addr = some a; rw [hb, z]))
      refine ⟨w, q1, ?_⟩
      cases av with
      | no => trivial
      | d x =>
        obtain ⟨v, a1, a2⟩ := q2
        exact ⟨v, a1, by rw [ce]; exact a2⟩
      | own b es' =>
        obtain ⟨a1, a2, a3, zs, a4, a5⟩ := q2
        exact ⟨a1, a2, a3, zs, by rw [upd_ne (ne b rfl)]; exact a4, by rw [ce]; exact a5⟩
      | pen p => exact ⟨q2.1, q2.2.1, pu q2.2.1 q2.2.2⟩
      | dic b kvs =>
        obtain ⟨a1, a2, a3, zs, a4, a5, a6⟩ := q2
        exact ⟨a1, a2, a3, zs, by rw [upd_ne (ne b rfl)]; exact a4, a5, by rw [ce]; exact a6⟩
      | fd b kvs =>
        obtain ⟨a1, o, zs, a4, a5, a6⟩ := q2
        exact ⟨a1, o, zs, by rw [ce]; exact a4, a5, by rw [ce]; exact a6⟩
  · have g3 := g.av i (av := .dic a kvs') fun b e => by
      cases e
      exact ga
    refine ⟨g3.zy, g3.d0, fun b o ny h => ?_, g3.sub, g3.new, g3.own, g3.yf, g3.yb, fun b z => ⟨fun h => pu z ((g.vk b z).1 h), fun h => ((g.vk b z).2 h).upd h5 plain_dT⟩⟩
    have nb : b ≠ a := fun z => by
      rcases ga with q | q
      · exact ny (by rw [z]; exact q)
      · rw [z, q] at h
        cases h
    rw [upd_ne nb]
    exact g.kept b o ny h
/-- x = {} -/
theorem Bk.dnew (i : Nat) {x : Str} {p pos pos' : Pos} (k : ∀ a, Bk Z Y F0 B X rest (ρ.set i (.dic a [])) N R) (hN : X.N.Nodup) (hi : X.N[i]? = some x := by rfl)
    (hx : Loc X.env.scope x := by first | exact Or.inl rfl | exact Or.inr rfl) (hs : swapsWith (.Dict [] [] p) (some (.Name x pos')) pos.line X.env = pure false := by rfl)
    (hf : X.fn x = true ∨ X.env.scope.names.lookup x = some .local := by first | exact .inl rfl | exact .inr rfl) : Bk Z Y F0 B X (.Assign [.Name x pos'] (.Dict [] [] p) pos :: rest) ρ N R := Bk.one fun F σ H S g D n r =>
  ws_of (ps_set hN hi hx pe_dnewT hs hf) fun a na => by
    obtain ⟨bn, s1, g1, x1⟩ := own_put (av := .dic a []) S g (Chg.of_ex (ex_new na)) na upd_same i rfl fun nz => ⟨rfl, .inr rfl, nz, [], upd_same, rfl, .nil⟩
    exact n _ _ _ _ s1 g1 x1 (k a)
/-- x[a, b] = e -/
theorem Bk.dput (i : Nat) {a : Addr} {kvs : List (List L2.Key × PyData)} {k1 k2 : Int} {d : PyData} {x : Str} {kk : Nat} {px tp spos pos : Pos} (hu : X.A.units + 1 < cLine) (hi : ρ[i]? = some (.dic a kvs)) (hl : kvs.length < 100000) (he : Dv Z X e ρ d) (ha : Da Z X [e1, e2] ρ fun x => x = [.int k1, .int k2])
    (k : Bk Z Y F0 B X rest (ρ.set i (.dic a (putD kvs (K2 k1 k2) d))) N R)
    (hn : X.N[i]? = some x := by rfl) (hv : Vis X.env.scope x := by first | exact Or.inl rfl | exact Or.inr (Or.inl rfl) | exact Or.inr (Or.inr rfl)) (hd : (x == ("__debug__" : Str)) = false := by decide) (hcd : (x == ("__classdict__" : Str)) = false := by decide)
    (hs : swapsWith e (some (.Subscript (.Name x px) (.Tuple [e1, e2] kk tp) spos)) pos.line X.env = pure false := by rfl) :
    Bk Z Y F0 B X (.Assign [.Subscript (.Name x px) (.Tuple [e1, e2] kk tp) spos] e pos :: rest) ρ N R := Bk.one fun F σ H S g D n r => by
  obtain ⟨ov, q1, q2, q3, q4, vs, q5, q6⟩ := S.slot i _ hi
  refine ws_of (ps_dput hu (pv i hn hv hd hcd) (pe_tup wa_pa) we_pe hs) (he F σ H S _ fun v H1 d' c1 f1 rv => ⟨.ref a, by rw [q1, q2], ha F σ H1 (S.chg c1) _ fun ws H2 ds c2 f2 r2 => ?_⟩)
  subst f1 f2
  have cc := c1.trans c2
  have ew : ws = [V.int k1, V.int k2] := dpa_ints (ns := [k1, k2]) r2
  subst ew
  refine ⟨by show 2 ≤ sizeLine; decide, fun p np => ?_⟩
  have c3 := cc.trans (Chg.of_ex (ex_new (o := .tup [V.int k1, V.int k2]) np))
  have S3 := S.chg c3
  have l2 := kv_len q6
  have xk := S.exC c3
  obtain ⟨s1, g1, ce⟩ := dic_upd S3 (g.chg c3) hi (kv_put (k := K2 k1 k2) ⟨q6.1, dpa_ex xk q6.2⟩ (dp_ex (((S.chg c1).exC c2).trans ((S.chg cc).exC (Chg.of_ex (ex_new np)))) rv))
  exact ⟨a, _, rfl, DPut.t (k := K2 k1 k2) (c3.1 _ _ q4 q5) upd_same (Evl.sz_lt (by omega)), n F σ _ _ s1 g1 (by rw [ce]; exact xk) k⟩
/-- x[key] = e, the key is there -/
theorem Bk.dputE (i : Nat) {a : Addr} {kvs : List (List L2.Key × PyData)} {k1 k2 : Int} {d : PyData} {x : Str} {px spos pos : Pos} (hu : X.A.units + 1 < cLine) (hi : ρ[i]? = some (.dic a kvs)) (hl : (kvs.find? fun kv => decide (kv.1 = K2 k1 k2)).isSome = true) (he : Dv Z X e ρ d) (ha : Dv Z X ie ρ (.tuple [.int k1, .int k2]))
    (k : Bk Z Y F0 B X rest (ρ.set i (.dic a (putD kvs (K2 k1 k2) d))) N R)
    (hn : X.N[i]? = some x := by rfl) (hv : Vis X.env.scope x := by first | exact Or.inl rfl | exact Or.inr (Or.inl rfl) | exact Or.inr (Or.inr rfl)) (hd : (x == ("__debug__" : Str)) = false := by decide) (hcd : (x == ("__classdict__" : Str)) = false := by decide)
    (hs : swapsWith e (some (.Subscript (.Name x px) ie spos)) pos.line X.env = pure false := by rfl) :
    Bk Z Y F0 B X (.Assign [.Subscript (.Name x px) ie spos] e pos :: rest) ρ N R := Bk.one fun F σ H S g D n r => by
  obtain ⟨ov, q1, q2, q3, q4, vs, q5, q6⟩ := S.slot i _ hi
  refine ws_of (ps_putE hu (pv i hn hv hd hcd) we_pe we_pe hs) (he F σ H S _ fun v H1 d' c1 f1 rv => ⟨.ref a, by rw [q1, q2], ha F σ H1 (S.chg c1) _ fun y H2 dy c2 f2 r2 => ?_⟩)
  subst f1 f2
  obtain ⟨b, ws, rfl, t1, t2⟩ := dp_tup r2
  have ew : ws = [V.int k1, V.int k2] := dpa_ints (ns := [k1, k2]) t2
  subst ew
  have cc := c1.trans c2
  have xk := S.exC cc
  obtain ⟨s1, g1, ce⟩ := dic_upd (S.chg cc) (g.chg cc) hi (kv_put (k := K2 k1 k2) ⟨q6.1, dpa_ex xk q6.2⟩ (dp_ex ((S.chg c1).exC c2) rv))
  exact ⟨a, b, vs, K2 k1 k2, rfl, rfl, cc.1 _ _ q4 q5, Evl.ex_t cut_ex t1, by rw [(kv_val q6).1]; exact hl, n F σ _ _ s1 g1 (by rw [ce]; exact xk) k⟩
theorem Dt.dnotin (i : Nat) {a : Addr} {kvs : List (List L2.Key × PyData)} {k1 k2 : Int} {x : Str} {px pos : Pos} (hu : X.A.units + 1 < cLine) (hi : ρ[i]? = some (.dic a kvs)) (ha : Dv Z X ie ρ (.tuple [.int k1, .int k2]))
    (hn : X.N[i]? = some x := by rfl) (hv : Vis X.env.scope x := by first | exact Or.inl rfl | exact Or.inr (Or.inl rfl) | exact Or.inr (Or.inr rfl)) (hd : (x == ("__debug__" : Str)) = false := by decide) (hcd : (x == ("__classdict__" : Str)) = false := by decide)
    (hm : behindInMarks .NotIn (.Name x px) = false := by first | exact nomark _ | rfl) : Dt Z X (.Compare ie [.NotIn] [.Name x px] pos) ρ (!(kvs.find? fun kv => decide (kv.1 = K2 k1 k2)).isSome) := fun F σ H S Q q => by
  obtain ⟨ov, q1, q2, q3, q4, vs, q5, q6⟩ := S.slot i _ hi
  refine wt_of (pt_cmpR (op_notInT hu) we_pe (pv i hn hv hd hcd) hm) (ha F σ H S _ fun y H2 dy c2 f2 r2 => ⟨.ref a, by rw [q1, q2], ?_⟩)
  subst f2
  obtain ⟨b, ws, rfl, t1, t2⟩ := dp_tup r2
  have ew : ws = [V.int k1, V.int k2] := dpa_ints (ns := [k1, k2]) t2
  subst ew
  exact ⟨a, b, vs, K2 k1 k2, rfl, rfl, .inl (c2.1 _ _ q4 q5), Evl.ex_t cut_ex t1, _, by rw [(kv_val q6).1], q H2 c2⟩
theorem Dv.dget (i : Nat) {a : Addr} {kvs : List (List L2.Key × PyData)} {k1 k2 : Int} {d : PyData} {x : Str} {px pos : Pos} (hu : X.A.units + 1 < cLine) (hi : ρ[i]? = some (.dic a kvs)) (hl : (kvs.find? fun kv => decide (kv.1 = K2 k1 k2)).map (·.2) = some d) (ha : Dv Z X ie ρ (.tuple [.int k1, .int k2]))
    (hn : X.N[i]? = some x := by rfl) (hv : Vis X.env.scope x := by first | exact Or.inl rfl | exact Or.inr (Or.inl rfl) | exact Or.inr (Or.inr rfl)) (hd : (x == ("__debug__" : Str)) = false := by decide) (hcd : (x == ("__classdict__" : Str)) = false := by decide)
    (hs : NoSl ie := by exact fun _ _ => rfl) : Dv Z X (.Subscript (.Name x px) ie pos) ρ d := fun F σ H S Q q => by
  obtain ⟨ov, q1, q2, q3, q4, vs, q5, q6⟩ := S.slot i _ hi
  refine we_of (pe_getT hu (pv i hn hv hd hcd) we_pe hs) ⟨.ref a, by rw [q1, q2], ha F σ H S _ fun y H2 dy c2 f2 r2 => ?_⟩
  subst f2
  obtain ⟨b, ws, rfl, t1, t2⟩ := dp_tup r2
  have ew : ws = [V.int k1, V.int k2] := dpa_ints (ns := [k1, k2]) t2
  subst ew
  obtain ⟨z1, z2⟩ := kv_val (k := K2 k1 k2) q6
  cases z : valV vs (K2 k1 k2) with
  | none =>
    rw [z] at z1
    cases y : kvs.find? fun kv => decide (kv.1 = K2 k1 k2) with
    | none => rw [y] at hl; cases hl
    | some p => rw [y] at z1; cases z1
  | some v =>
    obtain ⟨d', e1, e2⟩ := z2 v z
    rw [e1] at hl
    cases hl
    exact ⟨a, b, vs, K2 k1 k2, v, rfl, rfl, .inl (c2.1 _ _ q4 q5), Evl.ex_t cut_ex t1, z, q v H2 _ c2 rfl (dp_ex (S.exC c2) e2)⟩
end
end Hb

namespace Hb
open PySem PySem.Spec PyProof.Rows L2 RZ
open Evl (Ex)
/-! ### isinstance(rows, (list, tuple)), rows a list -/
def rIsL (K : PySem.W.Frag) : List V → Hp → VK → Prop := fun xs H Q => ∃ (a tp : Addr) (ys : List V), xs = [.ref a, .ref tp] ∧ SqL K H a ys ∧ H tp = some (.tup [.ty "list", .ty "tuple"]) ∧ Q (.bl true) H
theorem call_isL {X : Cx} : CallR X (.builtin "isinstance") (rIsL X.K) := by
  intro pins s σ H xs us Q I r h
  obtain ⟨a, tp, ys, rfl, hs, hT, q⟩ := h
  obtain ⟨u1, u2, rfl, r1, r2⟩ := vals2 r
  cases (show u2 = Value.ref tp from r2)
  cases (show u1 = Value.ref a from r1)
  obtain ⟨_, _, ⟨ol, nl, e1, e2, _, _⟩, _⟩ := I.list hs
  obtain ⟨_, its, rv, o, h1, h2, n, h3⟩ := (show ObjOk X.prog X.w H s.heap tp (.tup [.ty "list", .ty "tuple"]) from I.hok tp _ hT)
  have e3 := ClsV.all (.cons (.ty "list") (.cons (.ty "tuple") .nil)) rv
  subst e3
  obtain ⟨oc, od, dt, sl⟩ := o
  simp only at h2 h3
  subst h2 h3
  exact PySem.W.kia_tup PySem.W.kitx_list I.kIn ⟨ol, e1, e2⟩ h1 (kitAny_cons (kit_ty (r := true) (by decide +kernel)) (fun z => nomatch z) fun _ => rfl) (fun z => nomatch z) fun tk => ⟨.bl true, H, I.tok tk, rfl, q⟩
section
variable {Z : Vz} {X : Cx} {e : Expr} {es : List Expr} {ρ : List AV}
theorem Dv.isLT {ds : List PyData} {kk : Nat} {q1 q2 tp p pos : Pos} (hi : X.mg "isinstance" = none) (hl : X.mg "list" = none) (ht : X.mg "tuple" = none) (h : Dv Z X e ρ (.list ds))
    (hg : Gl X "isinstance" := by rfl) (hgl : Gl X "list" := by rfl) (hgt : Gl X "tuple" := by rfl) (he : starEach [e, .Tuple [.Name "list" q1, .Name "tuple" q2] kk tp] X.env = (false, eval e X.env) :: starEach [.Tuple [.Name "list" q1, .Name "tuple" q2] kk tp] X.env := by rfl)
    (he2 : starEach [.Tuple [.Name "list" q1, .Name "tuple" q2] kk tp] X.env = [(false, eval (.Tuple [.Name "list" q1, .Name "tuple" q2] kk tp) X.env)] := by rfl)
    (h3 : starEach [.Name "list" q1, .Name "tuple" q2] X.env = (false, eval (.Name "list" q1) X.env) :: starEach [.Name "tuple" q2] X.env := by rfl) (h4 : starEach [.Name "tuple" q2] X.env = [(false, eval (.Name "tuple" q2) X.env)] := by rfl)
    (hpl : (backTo pos (starEach [.Tuple [.Name "list" q1, .Name "tuple" q2] kk tp] X.env)).any (·.1) = false := by rfl) : Dv Z X (.Call (.Name "isinstance" p) [e, .Tuple [.Name "list" q1, .Name "tuple" q2] kk tp] [] pos) ρ (.bool true) := fun F σ H S Q w =>
  we_of (pe_callB call_isL hg hi (by decide +kernel) (pa_cons we_pe (pa_cons (pe_tup (pa_cons (pe_bltn (v := .ty "list") hgl hl (by decide +kernel) rfl) (pa_cons (pe_bltn (v := .ty "tuple") hgt ht (by decide +kernel) rfl) pa_nil h4) h3)) pa_nil he2) he) (by decide) (by decide) he hpl) (h F σ H S _ fun v H2 d' c e1 r1 => by
    subst e1
    obtain ⟨a, xs, rfl, t1, t2⟩ := dp_lst r1
    refine ⟨by show 2 ≤ sizeLine; decide, fun p np => ⟨a, p, xs, rfl, Evl.ex_l (ex_new np) (Evl.ex_l cut_ex t1), upd_same, ?_⟩⟩
    exact w _ _ _ (c.trans (Chg.of_ex (ex_new np))) rfl (.bl true))
end
/-! ### what the rows are to be -/
structure RR (n : Nat) (ls : List Lot) (pl : List Heat) (g : List Row) : Prop where
  row : ∀ x ∈ g, (∃ h ∈ pl, h.1 = x.1) ∧ 0 < x.2.2 ∧ x.2.2 ≤ 1000 ∧ ∃ l, ls[x.2.1]? = some l ∧ l.first ≤ x.1 ∧ x.1 ≤ l.last ∧ ∃ s : Nat, s < n ∧ l.stuff = s
  sj : ∀ (j : Nat) l, ls[j]? = some l → sumJ j g ≤ l.amt
  want : ∀ h ∈ pl, ∀ s : Nat, s < n → sumG (fun x => decide (x.1 = h.1) && decide ((ls.getD x.2.1 l0).stuff = s)) g = h.2.getD s 0
  len : g.length ≤ 900
section
variable {P : Program} {w : World} {K : PySem.W.Frag} {mg : Str → Option Value} {base : Heap} {Pt : Addr}
abbrev GTaking (P : Program) (w : World) (K : PySem.W.Frag) (mg : Str → Option Value) (base : Heap) (Pt : Addr) : Prop := ∀ (ls : List Lot) (x : Row) (l : Lot), LotsOk ls → ls[x.2.1]? = some l → l.first ≤ x.1 → x.1 ≤ l.last → 0 < x.2.2 → Fc P w K mg base Pt 3 "is_taking" p_is_taking [encLots ls, encRow x] (fun d => d = .bool true)
theorem ok_is_taking (D : Df K mg "is_taking" "is_taking" s_is_taking p_is_taking) (T : Tx K mg) (gF : GFt P w K mg base Pt) (gI : GIsPart P w K mg base Pt) : GTaking P w K mg base Pt := fun ls x l L hx h1 h2 h3 => by
  refine mkF D sc_is_taking rfl fun f cdv A outer s H E F0 hr => ?_
  have hj := (List.getElem?_eq_some_iff.mp hx).1
  have lotE : ∀ {Z : Vz} {X : Cx} {ρ : List AV} {a b : Expr} {pos : Pos}, Dv Z X a ρ (encLots ls) → Dv Z X b ρ (.int (x.2.1 : Nat)) → PlainIx b → Dv Z X (.Subscript a b pos) ρ (encLot l) := fun ha hb hs => Dv.ix ha hb (atI_nat (by rw [List.getElem?_map, hx]; rfl)) hs
  refine Bk.skip (Db.t (Db.is (Db.or (Dt.not (Dt.val (Dv.isTup T.isi T.tuple (Dv.var 1 rfl)))) fun _ => Db.or (Dt.ne hr.units (Dv.len T.len (Dv.var 1 rfl)) Dv.int) fun _ =>
    Db.or1 (Dt.not (Dt.val (Dw.fc (gF _ _ _) (hr.mono (by decide)) (Da.c (Dv.ix (Dv.var 1 rfl) Dv.int) (Da.c Dv.int (Da.c (Dv.sub (Dv.len T.len (Dv.var 0 rfl)) Dv.int) Da.nil))))))) (by rw [ft_t (by omega) (by rw [List.length_map]; omega)]; rfl))) ?_
  refine Bk.skip (Dt.is (Dt.not (Dt.val (Dw.fc (gF _ _ _) (hr.mono (by decide)) (Da.c (Dv.ix (Dv.var 1 rfl) Dv.int) (Da.c (Dv.ix (lotE (Dv.var 0 rfl) (Dv.ix (Dv.var 1 rfl) Dv.int) (fun _ _ => rfl)) Dv.int) (Da.c (Dv.ix (lotE (Dv.var 0 rfl) (Dv.ix (Dv.var 1 rfl) Dv.int) (fun _ _ => rfl)) Dv.int) Da.nil)))))) (by rw [ft_t h1 h2]; rfl)) ?_
  refine Bk.ret (Dv.and (Dw.fc (gI x.2.2) hr (Da.c (Dv.ix (Dv.var 1 rfl) Dv.int) Da.nil)) fun _ => Dv.one (Dv.gt (Dv.ix (Dv.ix (Dv.var 1 rfl) Dv.int) Dv.int) Dv.int)) fun d e => ?_
  rw [e, decide_eq_true ((num_pos _).mpr h3)]
  rfl
end
end Hb

namespace Hb
open PySem PySem.Spec PyProof.Rows L2 RZ
open Evl (Ex)
abbrev DK := Int × Int
abbrev tab (ks : List DK) (f : DK → Int) : List (List L2.Key × PyData) := encD (ks.map fun k => (k, f k))
theorem K2_iff {k j : DK} : decide (K2 k.1 k.2 = K2 j.1 j.2) = decide (k = j) := by
  by_cases h : k = j
  · rw [h]
    simp
  · rw [decide_eq_false h]
    refine decide_eq_false fun e => h ?_
    obtain ⟨a, b⟩ := K2_inj e
    exact Prod.ext a b
theorem tab_find {f : DK → Int} {k : DK} : ∀ {ks : List DK}, k ∈ ks → ((tab ks f).find? fun kv => decide (kv.1 = K2 k.1 k.2)).map (·.2) = some (encP (f k))
  | [], h => nomatch h
  | j :: ks, h => by
    show (List.find? _ ((K2 j.1 j.2, encP (f j)) :: tab ks f)).map (·.2) = _
    rw [List.find?_cons]
    simp only [K2_iff]
    by_cases e : j = k
    · rw [decide_eq_true e, e]
      rfl
    · rw [decide_eq_false e]
      exact tab_find ((List.mem_cons.mp h).resolve_left (Ne.symm e))
theorem tab_find_some {f : DK → Int} {k : DK} {ks : List DK} (h : k ∈ ks) : ((tab ks f).find? fun kv => decide (kv.1 = K2 k.1 k.2)).isSome = true := by
  have := tab_find (f := f) h
  cases z : (tab ks f).find? fun kv => decide (kv.1 = K2 k.1 k.2) with
  | none => rw [z] at this; cases this
  | some p => rfl
theorem tab_any {f : DK → Int} {k : DK} {ks : List DK} : ((tab ks f).any fun kv => decide (kv.1 = K2 k.1 k.2)) = decide (k ∈ ks) := by
  unfold tab encD
  rw [List.map_map, List.any_map]
  rw [Bool.eq_iff_iff, List.any_eq_true, decide_eq_true_eq]
  constructor
  · rintro ⟨j, hj, e⟩
    have e : decide (K2 j.1 j.2 = K2 k.1 k.2) = true := e
    rw [K2_iff, decide_eq_true_eq] at e
    rw [← e]
    exact hj
  · intro h
    refine ⟨k, h, ?_⟩
    show decide (K2 k.1 k.2 = K2 k.1 k.2) = true
    simp
theorem tab_put {f : DK → Int} {k : DK} {ks : List DK} (h : k ∈ ks) (v : Int) : putD (tab ks f) (K2 k.1 k.2) (encP v) = tab ks fun j => if j = k then v else f j := by
  unfold putD
  rw [tab_any, decide_eq_true h, if_pos rfl]
  unfold tab encD
  rw [List.map_map, List.map_map, List.map_map]
  refine List.map_congr_left fun j _ => ?_
  show (if K2 j.1 j.2 = K2 k.1 k.2 then (K2 j.1 j.2, encP v) else (K2 j.1 j.2, encP (f j))) = (K2 j.1 j.2, encP (if j = k then v else f j))
  have := K2_iff (k := j) (j := k)
  by_cases e : j = k
  · rw [if_pos e, if_pos (by rw [e])]
  · rw [if_neg e, if_neg fun z => by rw [decide_eq_true z, decide_eq_false e] at this; cases this]
theorem tab_new {f : DK → Int} {k : DK} {ks : List DK} (h : k ∉ ks) : putD (tab ks f) (K2 k.1 k.2) (encP (f k)) = tab (ks ++ [k]) f := by
  unfold putD
  rw [tab_any, decide_eq_false h, if_neg (by decide)]
  unfold tab encD
  rw [List.map_append, List.map_append]
  rfl
/-- the keys of a plan -/
def kRow (d : Int) (m : Nat) : List DK := (List.range m).map fun s : Nat => (d, (s : Int))
def kAll (n : Nat) (pl : List Heat) : List DK := pl.flatMap fun h => kRow h.1 n
theorem kRow_mem {d : Int} {m : Nat} {k : DK} : k ∈ kRow d m ↔ k.1 = d ∧ ∃ s : Nat, s < m ∧ k.2 = s := by
  unfold kRow
  rw [List.mem_map]
  constructor
  · rintro ⟨s, hs, rfl⟩
    exact ⟨rfl, s, List.mem_range.mp hs, rfl⟩
  · rintro ⟨h1, s, h2, h3⟩
    exact ⟨s, List.mem_range.mpr h2, Prod.ext h1.symm h3.symm⟩
theorem kAll_mem {n : Nat} {pl : List Heat} {k : DK} : k ∈ kAll n pl ↔ ∃ h ∈ pl, k.1 = h.1 ∧ ∃ s : Nat, s < n ∧ k.2 = s := by
  unfold kAll
  rw [List.mem_flatMap]
  constructor
  · rintro ⟨h, h1, h2⟩
    exact ⟨h, h1, kRow_mem.mp h2⟩
  · rintro ⟨h, h1, h2⟩
    exact ⟨h, h1, kRow_mem.mpr h2⟩
theorem kRow_succ (d : Int) (m : Nat) : kRow d (m + 1) = kRow d m ++ [(d, (m : Int))] := by
  unfold kRow
  rw [List.range_succ, List.map_append]
  rfl
theorem kAll_snoc (n : Nat) (pl : List Heat) (h : Heat) : kAll n (pl ++ [h]) = kAll n pl ++ kRow h.1 n := by
  unfold kAll
  rw [List.flatMap_append]
  simp
/-- what a key's want is -/
def f0 (pl : List Heat) (k : DK) : Int := match pl.find? fun h => decide (h.1 = k.1) with
  | some h => h.2.getD k.2.toNat 0
  | none => 0
theorem find_day : ∀ {pl : List Heat} {h : Heat}, pl.Pairwise (fun a b => a.1 < b.1) → h ∈ pl → pl.find? (fun x => decide (x.1 = h.1)) = some h
  | [], _, _, h => nomatch h
  | x :: pl, h, hp, hm => by
    obtain ⟨h1, h2⟩ := List.pairwise_cons.mp hp
    rw [List.find?_cons]
    rcases List.mem_cons.mp hm with e | hm
    · rw [e, decide_eq_true rfl]
    · have := h1 h hm
      rw [decide_eq_false (by omega)]
      exact find_day h2 hm
theorem f0_eq {n : Nat} {pl : List Heat} {h : Heat} (P : PlanOk n pl) (hm : h ∈ pl) (s : Nat) : f0 pl (h.1, (s : Int)) = h.2.getD s 0 := by
  unfold f0
  show (match pl.find? (fun x => decide (x.1 = h.1)) with | some h => h.2.getD (s : Int).toNat 0 | none => 0) = _
  rw [find_day P.rise hm]
  rfl
/-- what the rows take of a key -/
def takes_ (ls : List Lot) (g : List Row) (k : DK) : Int := sumG (fun x => decide (x.1 = k.1) && decide ((ls.getD x.2.1 l0).stuff = k.2)) g
theorem takes_snoc (ls : List Lot) (g : List Row) (x : Row) (k : DK) : takes_ ls (g ++ [x]) k = takes_ ls g k + if (x.1, (ls.getD x.2.1 l0).stuff) = k then x.2.2 else 0 := by
  unfold takes_
  rw [sumG_app]
  show _ + ((if (decide (x.1 = k.1) && decide ((ls.getD x.2.1 l0).stuff = k.2)) = true then x.2.2 else 0) + 0) = _
  rw [Int.add_zero]
  congr 1
  by_cases e : (x.1, (ls.getD x.2.1 l0).stuff) = k
  · rw [if_pos e, if_pos (by rw [← e]; simp)]
  · rw [if_neg e, if_neg fun z => e ?_]
    rw [Bool.and_eq_true, decide_eq_true_eq, decide_eq_true_eq] at z
    exact Prod.ext z.1 z.2
theorem takes_nn {ls : List Lot} {g : List Row} (h : ∀ x ∈ g, 0 < x.2.2) (k : DK) : 0 ≤ takes_ ls g k := sumG_pos h
theorem takes_le {ls : List Lot} {g : List Row} (h : ∀ x ∈ g, 0 < x.2.2) (m : Nat) (k : DK) : takes_ ls (g.take m) k ≤ takes_ ls g k := by
  have e : takes_ ls g k = takes_ ls (g.take m) k + takes_ ls (g.drop m) k := by
    unfold takes_
    rw [← sumG_app, List.take_append_drop]
  have := takes_nn (ls := ls) (g := g.drop m) (fun x hx => h x (List.mem_of_mem_drop hx)) k
  omega
theorem RR.key {n : Nat} {ls : List Lot} {pl : List Heat} {g : List Row} (R : RR n ls pl g) {x : Row} (hx : x ∈ g) : (x.1, (ls.getD x.2.1 l0).stuff) ∈ kAll n pl := by
  obtain ⟨⟨h, h1, h2⟩, _, _, l, h3, _, _, s, h4, h5⟩ := R.row x hx
  refine kAll_mem.mpr ⟨h, h1, h2.symm, s, h4, ?_⟩
  show (ls.getD x.2.1 l0).stuff = s
  rw [getD_of h3]
  exact h5
theorem RR.want2 {n : Nat} {ls : List Lot} {pl : List Heat} {g : List Row} (R : RR n ls pl g) (P : PlanOk n pl) {k : DK} (hk : k ∈ kAll n pl) : takes_ ls g k = f0 pl k ∧ 0 ≤ f0 pl k := by
  obtain ⟨h, h1, h2, s, h3, h4⟩ := kAll_mem.mp hk
  have e : k = (h.1, (s : Int)) := Prod.ext h2 h4
  subst e
  rw [f0_eq P h1]
  refine ⟨R.want h h1 s h3, ?_⟩
  exact getD_nn P s h h1
theorem f0_le {n : Nat} {pl : List Heat} (PL : PlOk n pl) {k : DK} (hk : k ∈ kAll n pl) : f0 pl k ≤ 1000 := by
  obtain ⟨h, h1, h2, s, h3, h4⟩ := kAll_mem.mp hk
  have e : k = (h.1, (s : Int)) := Prod.ext h2 h4
  subst e
  rw [f0_eq PL.po h1]
  exact (wants_ok PL s h h1).2
theorem take_le' {α : Type} (l : List α) (i : Nat) : (l.take i).length ≤ i := by
  rw [List.length_take]
  omega
theorem kAll_len {n : Nat} : ∀ pl : List Heat, (kAll n pl).length = pl.length * n
  | [] => by simp [kAll]
  | h :: pl => by
    have := kAll_len (n := n) pl
    unfold kAll at this ⊢
    rw [List.flatMap_cons, List.length_append, this, List.length_cons, Nat.succ_mul]
    unfold kRow
    rw [List.length_map, List.length_range]
    omega
section
variable {P : Program} {w : World} {K : PySem.W.Frag} {mg : Str → Option Value} {base : Heap} {Pt : Addr}
abbrev GRight (P : Program) (w : World) (K : PySem.W.Frag) (mg : Str → Option Value) (base : Heap) (Pt : Addr) : Prop := ∀ (ls : List Lot) (pl : List Heat) (n : Nat) (g : List Row), LotsOk ls → PlOk n pl → RR n ls pl g → Fc P w K mg base Pt 5 "had_right" p_had_right [encLots ls, encPlan pl, .list (rowsD g)] (fun d => d = .bool true)
theorem ok_had_right (D : Df K mg "had_right" "had_right" s_had_right p_had_right) (T : Tx K mg) (gK : GTaking P w K mg base Pt) (gS : GBin P w K mg base Pt 1 "smaller" p_smaller fun n m => .bool (decide (n < m))) (gM : GBin P w K mg base Pt 3 "minus" p_minus fun n m => encP (n - m))
    (gT : ∀ ns, SumOk ns → Fc P w K mg base Pt 4 "total" p_total [.list (encL ns)] (fun d => d = encP ns.sum)) : GRight P w K mg base Pt := fun ls pl n g L PL R => by
  have gpos : ∀ x ∈ g, 0 < x.2.2 := fun x hx => (R.row x hx).2.1
  refine mkF D sc_had_right rfl fun f cdv A outer s H E F0 hr => ?_
  refine Bk.skip (Db.t (Db.is (Db.or (Dt.not (Dt.val (Dv.isLT T.isi T.list T.tuple (Dv.var 2 rfl)))) fun _ => Db.or1 (Dt.not (Dt.val (Dv.all (bs := g.map fun _ => true) rfl T.all (Dv.is (Dv.compE (own := [("row", 11)]) (qs := g) (enc := encRow) (kp := fun _ => true) (g := fun _ => .bool true) rfl sc_had_right.nd (blkOk_by (N := n_had_right) (sc := defScope s_had_right) (by decide +kernel))
    (Wk.lstD (Dv.var 2 rfl)) (fun a _ b _ => encRow_inj a b) (is := [11]) (as := as1) (by decide) (by have := R.len; omega)
    (fun x hx => ⟨_, rfl, fun s H C cl fp => ⟨Gt.name 11 sc_had_right.nd, Ts.nil, fun _ => (by
      obtain ⟨_, h2, _, l, h3, h4, h5, _⟩ := R.row x hx
      exact Dw.fc (gK ls x l L h3 h4 h5 h2) (hr.mono (by decide)) (Da.c (Dv.var 0 rfl) (Da.c (Dv.var 11 rfl) Da.nil)))⟩⟩)) (by rw [List.filter_eq_self.mpr fun _ _ => rfl, List.map_map]; rfl)))))) (by
      have h1 : ((g.map fun _ => true).all id) = true := by
        rw [List.all_eq_true]
        intro x hx
        obtain ⟨_, _, rfl⟩ := List.mem_map.mp hx
        rfl
      rw [h1]
      rfl))) ?_
  refine Bk.for PassesOwn.never rfl (Wk.enumL (enc := encLot) (ls := ls) T.enum (Dv.var 0 rfl)) (Gt.two 3 4 rfl sc_had_right.nd) (fun ds i ρ' => ∃ v3 v4, ρ' = [.d (encLots ls), .d (encPlan pl), .d (.list (rowsD g)), v3, v4, .no, .no, .no, .no, .no, .no, .no]) (fun ds e => ⟨_, _, rfl⟩) ?_ ?_
  · rintro ds rfl i d ρ' hd ⟨v3, v4, rfl⟩
    have hi : i < ls.length := by
      have := (List.getElem?_eq_some_iff.mp hd).1
      rw [List.length_map, List.length_range] at this
      exact this
    have hl := List.getElem?_eq_getElem hi
    rw [List.getElem?_map, List.getElem?_range hi] at hd
    replace hd := Option.some.inj hd
    simp only [getD_l0, getD_of hl] at hd
    subst hd
    generalize ls[i] = l at hl ⊢
    have Lo := L.ok l (List.mem_of_getElem? hl)
    have so : SumOk ((g.filter fun x => decide (x.2.1 = i)).map fun x => x.2.2) := sumOk_of (fun y hy => by
      obtain ⟨x, hx, rfl⟩ := List.mem_map.mp hy
      have := R.row x (List.mem_filter.mp hx).1
      omega) (by
      rw [List.length_map]
      have := List.length_filter_le (fun x : Row => decide (x.2.1 = i)) g
      have := R.len
      omega)
    refine ⟨_, rfl, ?_⟩
    refine Bk.skip (Dt.is (Dt.val (Dw.fc (gS l.amt _ (by have := Lo.a0; have := Lo.a1; omega) (sum_bd so)) (hr.mono (by decide)) (Da.c (Dv.ix (Dv.var 4 rfl) Dv.int) (Da.c (Dw.fc (gT _ so) hr (Da.c (Dv.is (Dv.compE (own := [("row", 11)]) (qs := g) (enc := encRow) (kp := fun x => decide (x.2.1 = i)) (g := fun x => encP x.2.2) rfl sc_had_right.nd (blkOk_by (N := n_had_right) (sc := defScope s_had_right) (by decide +kernel))
      (Wk.lstD (Dv.var 2 rfl)) (fun a _ b _ => encRow_inj a b) (is := [11]) (as := as1) (by decide) (by have := R.len; omega)
      (fun x hx => ⟨_, rfl, fun s H C cl fp => ⟨Gt.name 11 sc_had_right.nd, Ts.one (Dt.is (Dt.eq hr.units (Dv.ix (Dv.var 11 rfl) Dv.int) (Dv.var 3 rfl)) (by show ((x.2.1 : Int) == (i : Int)) = _; rw [Bool.eq_iff_iff, beq_iff_eq, decide_eq_true_eq]; omega)), fun _ => Dv.ix (Dv.var 11 rfl) Dv.int⟩⟩)) (by unfold encL; rw [List.map_map]; rfl)) Da.nil)) Da.nil)))) ?_) ?_
    · refine decide_eq_false fun z => ?_
      rw [sumG_list, ← sumJ_G] at z
      have := R.sj i l hl
      omega
    · exact Bk.nil ⟨_, _, rfl⟩
  · rintro ds rfl ρ' ⟨v3, v4, rfl⟩
    have hu1 : ∀ {X : Cx}, X.A.units + 64 < cLine → X.A.units + 1 < cLine := fun h => by omega
    refine Bk.dnew 5 (fun a => ?_) sc_had_right.nd
    refine Bk.for PassesOwn.never rfl (Wk.tupD (ds := pl.map encHeat) (Dv.var 1 rfl)) (Gt.two 6 7 rfl sc_had_right.nd)
      (fun ds i ρ' => ∃ v6 v7 v8 v9, ρ' = [.d (encLots ls), .d (encPlan pl), .d (.list (rowsD g)), v3, v4, .dic a (tab (kAll n (pl.take i)) (f0 pl)), v6, v7, v8, v9, .no, .no] ∧ (kAll n (pl.take i)).Nodup)
      (fun ds e => ⟨_, _, _, _, rfl, List.nodup_nil⟩) ?_ ?_
    · rintro ds rfl i d ρ' hd ⟨v6, v7, v8, v9, rfl, nd⟩
      rw [List.getElem?_map] at hd
      cases q : pl[i]? with
      | none => rw [q] at hd; cases hd
      | some h =>
        rw [q] at hd
        cases hd
        have hm := List.mem_of_getElem? q
        have hn := PL.po.len h hm
        have ri : ∀ x ∈ pl.take i, x.1 < h.1 := by
          have hp := PL.po.rise
          rw [← List.take_append_drop i pl, List.pairwise_append] at hp
          exact fun x hx => hp.2.2 x hx h (by rw [drop_at q]; exact List.mem_cons_self)
        have k40 : (kAll n (pl.take i)).length ≤ 40 := by
          rw [kAll_len]
          have h1 := PL.n5
          have h2 : (pl.take i).length ≤ 8 := Nat.le_trans (by rw [List.length_take]; omega) PL.len
          exact Nat.le_trans (Nat.mul_le_mul h2 h1) (by decide)
        refine ⟨_, rfl, ?_⟩
        refine Bk.for PassesOwn.never rfl (Wk.enumL (enc := encP) (ls := h.2) T.enum (Dv.var 7 rfl)) (Gt.two 8 9 rfl sc_had_right.nd)
          (fun ds k ρ' => ∃ v8 v9, ρ' = [.d (encLots ls), .d (encPlan pl), .d (.list (rowsD g)), v3, v4, .dic a (tab (kAll n (pl.take i) ++ kRow h.1 k) (f0 pl)), .d (.int h.1), .d (.tuple (encL h.2)), v8, v9, .no, .no] ∧ (kAll n (pl.take i) ++ kRow h.1 k).Nodup)
          (fun ds e => ⟨_, _, by rw [show kRow h.1 0 = [] from rfl, List.append_nil]; rfl, by rw [show kRow h.1 0 = [] from rfl, List.append_nil]; exact nd⟩) ?_ ?_
        · rintro ds rfl k d ρ' hd ⟨v8, v9, rfl, nd2⟩
          have hk : k < h.2.length := by
            have := (List.getElem?_eq_some_iff.mp hd).1
            rw [List.length_map, List.length_range] at this
            exact this
          rw [List.getElem?_map, List.getElem?_range hk] at hd
          replace hd := Option.some.inj hd
          subst hd
          have e0 : h.2.getD k default = f0 pl (h.1, (k : Int)) := (f0_eq PL.po hm k).symm
          have new : (h.1, (k : Int)) ∉ kAll n (pl.take i) ++ kRow h.1 k := fun z => by
            rcases List.mem_append.mp z with z | z
            · obtain ⟨h', z1, z2, _⟩ := kAll_mem.mp z
              have := ri h' z1
              simp only at z2
              omega
            · obtain ⟨_, s', z1, z2⟩ := kRow_mem.mp z
              simp only at z2
              omega
          have step : (kAll n (pl.take i) ++ kRow h.1 k) ++ [(h.1, (k : Int))] = kAll n (pl.take i) ++ kRow h.1 (k + 1) := by rw [kRow_succ, List.append_assoc]
          refine ⟨[.int (k : Nat), encP (f0 pl (h.1, (k : Int)))], by rw [← e0]; rfl, ?_⟩
          refine Bk.dput 5 (hu1 hr.units) rfl (by
            unfold tab encD
            rw [List.length_map, List.length_map, List.length_append]
            unfold kRow
            rw [List.length_map, List.length_range]
            have := PL.n5
            omega) (Dv.var 9 rfl) (Da.c (Dv.var 6 rfl) (Da.c (Dv.var 8 rfl) Da.nil)) ?_
          refine Bk.nil ⟨.d (.int (k : Nat)), .d (encP (f0 pl (h.1, (k : Int)))), ?_, ?_⟩
          · rw [← step]
            have e1 := tab_new (f := f0 pl) new
            show _ = _
            rw [← e1]
            rfl
          · rw [← step]
            exact List.nodup_append.mpr ⟨nd2, by simp, fun x hx y hy e => by
              rw [List.mem_singleton] at hy
              rw [e, hy] at hx
              exact new hx⟩
        · rintro ds rfl ρ' ⟨v8, v9, rfl, nd2⟩
          rw [List.length_map, List.length_range, hn] at nd2
          rw [List.length_map, List.length_range, hn]
          have step : kAll n (pl.take i) ++ kRow h.1 n = kAll n (pl.take (i + 1)) := by rw [take_snoc q, kAll_snoc]
          rw [step] at nd2
          exact Bk.nil ⟨_, _, _, _, by rw [step], nd2⟩
    · rintro ds rfl ρ' ⟨v6, v7, v8, v9, rfl, nd⟩
      rw [List.length_map, List.take_length] at nd
      rw [List.length_map, List.take_length]
      refine Bk.for PassesOwn.never rfl (Wk.lstD (ds := g.map encRow) (Dv.var 2 rfl)) (Gt.three 6 3 9 rfl sc_had_right.nd)
        (fun ds m ρ' => ∃ v3 v6 v7 v8 v9 v10, ρ' = [.d (encLots ls), .d (encPlan pl), .d (.list (rowsD g)), v3, v4, .dic a (tab (kAll n pl) fun k => f0 pl k - takes_ ls (g.take m) k), v6, v7, v8, v9, v10, .no])
        (fun ds e => ⟨_, _, _, _, _, _, by rw [show (fun k => f0 pl k - takes_ ls (g.take 0) k) = f0 pl from funext fun k => by rw [List.take_zero]; exact Int.sub_zero _]⟩) ?_ ?_
      · rintro ds rfl m d ρ' hd ⟨v3, v6, v7, v8, v9, v10, rfl⟩
        rw [List.getElem?_map] at hd
        cases q : g[m]? with
        | none => rw [q] at hd; cases hd
        | some x =>
          rw [q] at hd
          cases hd
          have hx := List.mem_of_getElem? q
          obtain ⟨_, x0, x1, l, hl, _⟩ := R.row x hx
          have hk := R.key hx
          obtain ⟨w1, w2⟩ := R.want2 PL.po hk
          have w3 := f0_le PL hk
          have t1 := takes_nn (ls := ls) (g := g.take m) (fun x hx => gpos x (List.mem_of_mem_take hx)) (x.1, (ls.getD x.2.1 l0).stuff)
          have t2 := takes_le (ls := ls) gpos m (x.1, (ls.getD x.2.1 l0).stuff)
          have el : ls.getD x.2.1 l0 = l := getD_of hl
          have sn := fun k => takes_snoc ls (g.take m) x k
          rw [el] at hk w1 w2 w3 t1 t2 sn
          refine ⟨_, rfl, ?_⟩
          refine Bk.set 10 (Dv.tup (Da.c (Dv.var 6 rfl) (Da.c (Dv.ix (Dv.ix (Dv.var 0 rfl) (Dv.var 3 rfl) (d := encLot l) (atI_nat (by rw [List.getElem?_map, hl]; rfl))) Dv.int) Da.nil))) (fun y e => ?_) sc_had_right.nd
          subst e
          refine Bk.skip (Dt.is (Dt.dnotin 5 (hu1 hr.units) rfl (Dv.var 10 rfl)) (by rw [tab_find_some hk]; rfl)) ?_
          refine Bk.dputE 5 (hu1 hr.units) rfl (tab_find_some hk) (Dw.fc (gM _ x.2.2 (by omega) (by omega)) (hr.mono (by decide)) (Da.c (Dv.dget 5 (hu1 hr.units) rfl (tab_find hk) (Dv.var 10 rfl)) (Da.c (Dv.var 9 rfl) Da.nil))) (Dv.var 10 rfl) ?_
          refine Bk.nil ⟨.d (.int (x.2.1 : Nat)), .d (.int x.1), v7, v8, .d (encP x.2.2), .d (.tuple [.int x.1, .int l.stuff]), ?_⟩
          have e1 := tab_put (f := fun k => f0 pl k - takes_ ls (g.take m) k) hk (f0 pl (x.1, l.stuff) - takes_ ls (g.take m) (x.1, l.stuff) - x.2.2)
          have e2 : (fun k => f0 pl k - takes_ ls (g.take (m + 1)) k) = fun j => if j = (x.1, l.stuff) then f0 pl (x.1, l.stuff) - takes_ ls (g.take m) (x.1, l.stuff) - x.2.2 else f0 pl j - takes_ ls (g.take m) j := funext fun k => by
            rw [take_snoc q, sn]
            by_cases c : k = (x.1, l.stuff)
            · rw [if_pos c.symm, if_pos c, c]
              omega
            · rw [if_neg (Ne.symm c), if_neg c]
              omega
          rw [e2, ← e1]
          rfl
      · rintro ds rfl ρ' ⟨v3, v6, v7, v8, v9, v10, rfl⟩
        obtain ⟨na, hm, hd⟩ := T.nought
        rw [List.length_map, List.take_length]
        refine Bk.ret (Dv.allK 5 10 (es := (kAll n pl).map fun k => (k, f0 pl k - takes_ ls g k)) rfl (by rw [show ((kAll n pl).map fun k => (k, f0 pl k - takes_ ls g k)).map (·.1) = kAll n pl by simp [Function.comp_def]]; exact nd) (by
          rw [List.length_map, kAll_len]
          have h1 := PL.n5
          have h2 := PL.len
          exact Nat.le_trans (Nat.mul_le_mul h2 h1) (by decide)) (by decide) (by show 10 < 12; decide) rfl sc_had_right.nd T.all (blkOk_by (N := n_had_right) (sc := defScope s_had_right) (by decide +kernel))
          (fun s H C cl fp => pe_keyE 5 10 hr.units hm hd rfl rfl (by first | exact Or.inl rfl | exact Or.inr (Or.inl rfl) | exact Or.inr (Or.inr rfl)) (by first | exact Or.inl rfl | exact Or.inr (Or.inl rfl) | exact Or.inr (Or.inr rfl)) rfl (by decide) (by decide) (by decide) (by decide) (by decide))
          (fun s H C cl fp => by first | exact Or.inl rfl | exact Or.inr rfl) (fun s H C cl fp => by first | exact Or.inl rfl | exact Or.inr rfl)) fun d e => ?_
        rw [e, List.all_map]
        congr 1
        rw [List.all_eq_true]
        intro k hk
        obtain ⟨w1, _⟩ := R.want2 PL.po hk
        show decide (f0 pl k - takes_ ls g k = 0) = true
        rw [w1]
        exact decide_eq_true (by omega)
end
end Hb

namespace Hb
open PySem PySem.Spec PyProof.Rows L2 RZ
open Evl (Ex)
def rgI (i j : Int) : List Int := (List.range (j - i).toNat).map fun k : Nat => i + (k : Int)
theorem rgI_V (i j : Int) : rgV i j = (rgI i j).map V.int := by
  unfold rgV rgI
  rw [List.map_map]
  rfl
theorem dpa_mapI {K : PySem.W.Frag} {H : Hp} : ∀ ns : List Int, DpAll K H (ns.map V.int) (ns.map PyData.int)
  | [] => .nil
  | n :: ns => .cons (.int n) (dpa_mapI ns)
section
variable {Z : Vz} {X : Cx} {e a b : Expr} {es : List Expr} {ρ : List AV}
theorem Dn.listRg {i j : Int} {p p2 pos pos2 : Pos} (hc : X.calm = true) (hl : X.mg "list" = none) (hm : X.mg "range" = none) (ha : Dv Z X a ρ (.int i)) (hb : Dv Z X b ρ (.int j)) (ok : RgOk i j) (hgl : Gl X "list" := by rfl) (hg : Gl X "range" := by rfl)
    (na : starEach [a, b] X.env = (false, eval a X.env) :: starEach [b] X.env := by rfl) (nb : starEach [b] X.env = (false, eval b X.env) :: starEach [] X.env := by rfl) (hp : (backTo pos2 (starEach [b] X.env)).any (·.1) = false := by rfl)
    (nr : starEach [.Call (.Name "range" p2) [a, b] [] pos2] X.env = (false, eval (.Call (.Name "range" p2) [a, b] [] pos2) X.env) :: starEach [] X.env := by rfl) :
    Dn Z X (.Call (.Name "list" p) [.Call (.Name "range" p2) [a, b] [] pos2] [] pos) ρ fun x => x = (rgI i j).map .int := fun F σ H S Q q =>
  we_of (pe_listRg hc hgl hl (prg_2 hg hm we_pe we_pe na nb hp) nr) (two ha hb S fun x y H2 da db c e1 e2 r1 r2 => by
    subst e1 e2
    refine ⟨i, j, dp_int r1, dp_int r2, ok, fun t nt => ?_⟩
    have nH : H t = none := kd_none c.1 (fun z => (S.chg c).new_out nt (S.zf _ z)) nt
    exact q t _ _ _ (c.trans (Chg.of_ex (ex_new nt))) nH upd_same rfl (by rw [rgI_V]; exact dpa_mapI _))
end
theorem Sh.str (k : Nat) {x : Str} (h : (PyData.str x).canLay0 = true) : Sh k (.str x) := ⟨h, by rw [PyData.depth]; exact Nat.zero_le _⟩
theorem tooMuch_pl {ls : List Lot} {pl : List Heat} {s : Nat} {S : List Int} (L : ∀ l ∈ ls, 0 < l.amt) (h : tooMuch ls pl s S = true) : ∃ h t, pl = h :: t := by
  cases pl with
  | cons h0 t0 => exact ⟨h0, t0, rfl⟩
  | nil =>
    unfold tooMuch at h
    rw [decide_eq_true_eq] at h
    have := there_nn (s := s) (S := S) L
    have e : wantOn s S [] = 0 := rfl
    omega
section
variable {P : Program} {w : World} {K : PySem.W.Frag} {mg : Str → Option Value} {base : Heap} {Pt : Addr}
theorem ok_had_holds1 (D : Df K mg "had_holds" "had_holds" s_had_holds p_had_holds) (T : Tx K mg) (gR : GRight P w K mg base Pt) (ls : List Lot) (pl : List Heat) (n : Nat) (g : List Row) (L : LotsOk ls) (PL : PlOk n pl) (R : RR n ls pl g) :
    Fc P w K mg base Pt 6 "had_holds" p_had_holds [encLots ls, encPlan pl, .tuple [.str "had", .list (rowsD g)]] (fun d => d = .bool true) := by
  have shp : Sh 4 (.tuple [.str "had", .list (rowsD g)]) := Sh.tup fun d hd => by
    simp only [List.mem_cons, List.not_mem_nil, or_false] at hd
    rcases hd with rfl | rfl
    · exact Sh.str 3 (by decide +kernel)
    · refine Sh.lst fun d hd => ?_
      obtain ⟨x, _, rfl⟩ := List.mem_map.mp hd
      exact Sh.row x
  refine mkF D sc_had_holds rfl fun f cdv A outer s H E F0 hr => ?_
  refine Bk.skip (Db.t (Db.is (Db.or (Dt.not (Dt.val (Dv.isTup T.isi T.tuple (Dv.var 2 rfl)))) fun _ => Db.or (Dt.eq hr.units (Dv.var 2 rfl) (Dv.tup Da.nil) shp.ok) fun _ =>
    Db.or1 (Dt.not (Dt.val (Dv.isStr T.isi T.str (Dv.ix (Dv.var 2 rfl) Dv.int))))) (by rw [eqv_nilT]; rfl))) ?_
  refine Bk.ifT (Dt.is (Dt.eq hr.units (Dv.ix (Dv.var 2 rfl) Dv.int) Dv.str (Sh.str 3 (by decide +kernel)).ok (Sh.str 3 (by decide +kernel)).ok) (by rw [eqv_str]; decide +kernel)) ?_
  refine Bk.ret (Dv.and (Dv.eq hr.units (Dv.len T.len (Dv.var 2 rfl)) Dv.int) fun _ => Dv.one (Dw.fc (gR ls pl n g L PL R) hr (Da.c (Dv.var 0 rfl) (Da.c (Dv.var 1 rfl) (Da.c (Dv.ix (Dv.var 2 rfl) Dv.int) Da.nil))))) fun d e => ?_
  rw [e]
  rfl
theorem ok_had_holds2 (D : Df K mg "had_holds" "had_holds" s_had_holds p_had_holds) (T : Tx K mg) (gF : GFt P w K mg base Pt) (gM : GMuch P w K mg base Pt) (ls : List Lot) (pl : List Heat) (n s : Nat) (S : List Int) (L : LotsOk ls) (PL : PlOk n pl) (hs : s < n) (hS : S ∈ subs (pl.map (·.1))) (ht : tooMuch ls pl s S = true) :
    Fc P w K mg base Pt 6 "had_holds" p_had_holds [encLots ls, encPlan pl, .tuple [.str "short", .int s, intsD S]] (fun d => d = .bool true) := by
  have shp : Sh 4 (.tuple [.str "short", .int s, intsD S]) := Sh.tup fun d hd => by
    simp only [List.mem_cons, List.not_mem_nil, or_false] at hd
    rcases hd with rfl | rfl | rfl
    · exact Sh.str 3 (by decide +kernel)
    · exact Sh.int 3 _
    · exact (Sh.ints S).mono (by decide)
  obtain ⟨h0, t0, hpl⟩ := tooMuch_pl L.pos ht
  have hn : h0.2.length = n := PL.po.len h0 (by rw [hpl]; exact List.mem_cons_self)
  have sub := subs_sub _ _ hS
  have l8 : S.length ≤ 8 := Nat.le_trans sub.length_le (by rw [List.length_map]; exact PL.len)
  have mem : ∀ d ∈ S, (1 ≤ d ∧ d ≤ 30) ∧ d ∈ pl.map (·.1) := fun d hd => by
    have h1 := sub.subset hd
    obtain ⟨h, h2, rfl⟩ := List.mem_map.mp h1
    exact ⟨PL.d0 h h2, h1⟩
  have rise : S.Pairwise (· < ·) := List.Pairwise.sublist sub (List.pairwise_map.mpr PL.po.rise)
  refine mkF D sc_had_holds rfl fun f cdv A outer st H E F0 hr => ?_
  refine Bk.skip (Db.t (Db.is (Db.or (Dt.not (Dt.val (Dv.isTup T.isi T.tuple (Dv.var 2 rfl)))) fun _ => Db.or (Dt.eq hr.units (Dv.var 2 rfl) (Dv.tup Da.nil) shp.ok) fun _ =>
    Db.or1 (Dt.not (Dt.val (Dv.isStr T.isi T.str (Dv.ix (Dv.var 2 rfl) Dv.int))))) (by rw [eqv_nilT]; rfl))) ?_
  refine Bk.skip (Dt.is (Dt.eq hr.units (Dv.ix (Dv.var 2 rfl) Dv.int) Dv.str (Sh.str 3 (by decide +kernel)).ok (Sh.str 3 (by decide +kernel)).ok) (by rw [eqv_str]; decide +kernel)) ?_
  refine Bk.skip (Db.t (Db.is (Db.or (Dt.ne hr.units (Dv.ix (Dv.var 2 rfl) Dv.int) Dv.str (Sh.str 3 (by decide +kernel)).ok (Sh.str 3 (by decide +kernel)).ok) fun _ => Db.or (Dt.ne hr.units (Dv.len T.len (Dv.var 2 rfl)) Dv.int) fun _ =>
    Db.or1 (Dt.eq hr.units (Dv.var 1 rfl) (Dv.tup Da.nil) (Sh.plan pl).ok)) (by rw [eqv_nilT, eqv_str, hpl, show (Str.ofString "short" == Str.ofString "short") = true by decide +kernel]; rfl))) ?_
  refine Bk.skip (Db.t (Db.is (Db.or (Dt.not (Dt.val (Dw.fc (gF _ _ _) (hr.mono (by decide)) (Da.c (Dv.ix (Dv.var 2 rfl) Dv.int) (Da.c Dv.int (Da.c (Dv.sub (Dv.is (Dv.len T.len (Dv.ix (Dv.ix (Dv.var 1 rfl) Dv.int (d := encHeat h0) (by rw [hpl]; exact atI_nat (j := 0) rfl)) Dv.int)) (show _ = PyData.int n by rw [List.length_map, hn])) Dv.int) Da.nil)))))) fun _ =>
    Db.or1 (Dt.not (Dt.val (Dv.isTup T.isi T.tuple (Dv.ix (Dv.var 2 rfl) Dv.int))))) (by rw [ft_t (by omega) (by omega)]; rfl))) ?_
  refine Bk.setN 3 (Dn.compE (own := [("day", 4), ("charge", 5)]) (qs := pl) (enc := encHeat) (kp := fun _ => true) (g := fun h => .int h.1) rfl sc_had_holds.nd (blkOk_by (N := n_had_holds) (sc := defScope s_had_holds) (by decide +kernel)) (Wk.tupD (Dv.var 1 rfl)) (fun a _ b _ => encHeat_inj a b) (is := [4, 5]) (as := items2) (by decide) (by have := PL.len; omega)
    (fun h hh => ⟨_, rfl, fun s H C cl fp => ⟨Gt.two 4 5 rfl sc_had_holds.nd, Ts.nil, fun _ => Dv.var 4 rfl⟩⟩)) (fun a ds ba e => ?_) sc_had_holds.nd
  subst e
  refine Bk.free 3 rfl ba ?_
  rw [List.filter_eq_self.mpr fun _ _ => rfl, show (pl.map fun h : Heat => PyData.int h.1) = (pl.map (·.1)).map .int by rw [List.map_map]; rfl]
  refine Bk.skip (Dt.is (Dt.not (Dt.val (Dv.all (bs := S.map fun _ => true) rfl T.all (Dv.is (Dv.compE (own := [("day", 4)]) (qs := S) (enc := .int) (kp := fun _ => true) (g := fun _ => .bool true) rfl sc_had_holds.nd (blkOk_by (N := n_had_holds) (sc := defScope s_had_holds) (by decide +kernel)) (Wk.tupD (Dv.ix (Dv.var 2 rfl) Dv.int)) (fun a _ b _ => int_inj a b) (is := [4]) (as := as1) (by decide) (by omega)
    (fun d hd => ⟨_, rfl, fun s H C cl fp => ⟨Gt.name 4 sc_had_holds.nd, Ts.nil, fun _ => Dv.is (Dv.and (Dw.fc (gF d 1 30) (hr.mono (by decide)) (Da.c (Dv.var 4 rfl) (Da.c Dv.int (Da.c (Dv.cInt T.mDay) Da.nil)))) fun _ => Dv.one (Dv.inL (Dv.var 4 rfl) (Dv.var 3 rfl))) (by rw [ft_t (mem d hd).1.1 (mem d hd).1.2, decide_eq_true (mem d hd).2]; rfl)⟩⟩)) (by rw [List.filter_eq_self.mpr fun _ _ => rfl, List.map_map]; rfl))))) (by rw [all_true]; rfl)) ?_
  refine Bk.skip (Dt.is (Dt.not (Dt.val (Dv.all (bs := (zipD (S.map .int) ((S.map .int).drop 1)).map fun _ => true) rfl T.all (Dv.is (Dv.compA (own := [("day", 4), ("later", 6)]) (g := fun _ => .bool true) rfl sc_had_holds.nd (blkOk_by (N := n_had_holds) (sc := defScope s_had_holds) (by decide +kernel))
    (Wk.zip T.zip (Dv.ix (Dv.var 2 rfl) Dv.int) (Dv.is (Dv.sl (Dv.ix (Dv.var 2 rfl) Dv.int) (Do.so Dv.int) Do.no) (by rw [cut1]))) (is := [4, 6]) (as := items2) (by decide) (by rw [zipD_len, List.length_map]; omega) (fun d hd => ?_)) (by rw [List.map_map]; rfl))))) (by rw [all_true]; rfl)) ?_
  · obtain ⟨i, a, b, h1, h2, rfl⟩ := zip_mem hd
    rw [List.getElem?_map] at h1
    rw [List.getElem?_drop, List.getElem?_map] at h2
    cases q1 : S[i]? with
    | none => rw [q1] at h1; cases h1
    | some x =>
      cases q2 : S[1 + i]? with
      | none => rw [q2] at h2; cases h2
      | some y =>
        rw [q1] at h1
        rw [q2] at h2
        cases h1
        cases h2
        have lt : x < y := by
          obtain ⟨l1, e1⟩ := List.getElem?_eq_some_iff.mp q1
          obtain ⟨l2, e2⟩ := List.getElem?_eq_some_iff.mp q2
          have := List.pairwise_iff_getElem.mp rise i (1 + i) l1 l2 (by omega)
          rw [e1, e2] at this
          exact this
        exact ⟨_, rfl, fun s H C cl fp => ⟨Gt.two 4 6 rfl sc_had_holds.nd, Ts.nil, fun _ => Dv.is (Dv.lt (Dv.var 4 rfl) (Dv.var 6 rfl)) (by rw [decide_eq_true lt])⟩⟩
  refine Bk.ret (Dw.fc (gM ls pl n s S L PL hs (by omega)) hr (Da.c (Dv.var 0 rfl) (Da.c (Dv.var 1 rfl) (Da.c (Dv.ix (Dv.var 2 rfl) Dv.int) (Da.c (Dv.ix (Dv.var 2 rfl) Dv.int) Da.nil))))) fun d e => ?_
  rw [e, ht]
end
end Hb

namespace Hb
open PySem PySem.Spec PyProof.Rows L2 RZ
open Evl (Ex)
/-- the same charge on some days -/
abbrev planOf (c : List Int) (S : List Int) : List Heat := S.map fun d => (d, c)
structure ChOk (n : Nat) (c : List Int) : Prop where
  len : c.length = n
  n1 : 1 ≤ n
  n5 : n ≤ 5
  w0 : ∀ w ∈ c, 0 ≤ w ∧ w ≤ 1000
theorem planOk_of {n : Nat} {c S : List Int} (C : ChOk n c) (hs : S.Pairwise (· < ·)) (hl : S.length ≤ 8) (hd : ∀ d ∈ S, 1 ≤ d ∧ d ≤ 30) : PlOk n (planOf c S) := by
  refine ⟨⟨List.pairwise_map.mpr hs, fun h hh => ?_, fun h hh w hw => ?_⟩, C.n1, C.n5, by rw [List.length_map]; exact hl, fun h hh => ?_, fun h hh w hw => ?_⟩
  · obtain ⟨d, _, rfl⟩ := List.mem_map.mp hh
    exact C.len
  · obtain ⟨d, _, rfl⟩ := List.mem_map.mp hh
    exact (C.w0 w hw).1
  · obtain ⟨d, h1, rfl⟩ := List.mem_map.mp hh
    exact hd d h1
  · obtain ⟨d, _, rfl⟩ := List.mem_map.mp hh
    exact (C.w0 w hw).2
theorem rgI_len (i j : Int) : (rgI i j).length = (j - i).toNat := by
  unfold rgI
  rw [List.length_map, List.length_range]
theorem rgI_mem {i j d : Int} (h : d ∈ rgI i j) : i ≤ d ∧ d < j := by
  unfold rgI at h
  obtain ⟨k, hk, rfl⟩ := List.mem_map.mp h
  have := List.mem_range.mp hk
  omega
theorem rgI_rise (i j : Int) : (rgI i j).Pairwise (· < ·) := by
  unfold rgI
  rw [List.pairwise_map]
  exact List.pairwise_lt_range.imp fun {a b} h => by omega
theorem nil_mem_subs : ∀ days : List Int, [] ∈ subs days := fun days => by
  have := subs_filter (fun _ => false) days
  rw [List.filter_eq_nil_iff.mpr (by simp)] at this
  exact this
def MostOk (ls : List Lot) (c days : List Int) (S : List Int) : Prop := S ∈ subs days ∧ (goAll ls (planOf c S)).2.2 = none ∧ ∀ S' ∈ subs days, (goAll ls (planOf c S')).2.2 = none → S'.length ≤ S.length
section
variable {P : Program} {w : World} {K : PySem.W.Frag} {mg : Str → Option Value} {base : Heap} {Pt : Addr}
abbrev GMost (P : Program) (w : World) (K : PySem.W.Frag) (mg : Str → Option Value) (base : Heap) (Pt : Addr) : Prop := ∀ (ls : List Lot) (c : List Int) (n : Nat) (i j : Int), LotsOk ls → ChOk n c → 1 ≤ i → i ≤ j → j ≤ 30 → j ≤ i + 7 → Fc P w K mg base Pt 6 "most_heats" p_most_heats [encLots ls, .tuple (encL c), .int i, .int j] (fun d => ∃ S, MostOk ls c (rgI i (j + 1)) S ∧ d = intsD S)
theorem ok_most_heats (D : Df K mg "most_heats" "most_heats" s_most_heats p_most_heats) (T : Tx K mg) (gF : GFt P w K mg base Pt) (gS : GSets P w K mg base Pt) (gG : GGone P w K mg base Pt) : GMost P w K mg base Pt := fun ls c n i j L C h1 h2 h3 h4 => by
  have days8 : (rgI i (j + 1)).length ≤ 8 := by
    rw [rgI_len]
    omega
  have plk : ∀ S ∈ subs (rgI i (j + 1)), PlOk n (planOf c S) ∧ S.length ≤ 8 := fun S hS => by
    have sub := subs_sub _ _ hS
    have l8 : S.length ≤ 8 := Nat.le_trans sub.length_le days8
    exact ⟨planOk_of C ((rgI_rise _ _).sublist sub) l8 fun d hd => by have := rgI_mem (sub.subset hd); omega, l8⟩
  refine mkF D sc_most_heats rfl fun f cdv A outer s H E F0 hr => ?_
  refine Bk.skip (Db.t (Db.is (Db.or (Dt.not (Dt.val (Dw.fc (gF i 1 30) (hr.mono (by decide)) (Da.c (Dv.var 2 rfl) (Da.c Dv.int (Da.c (Dv.cInt T.mDay) Da.nil)))))) fun _ =>
    Db.or1 (Dt.not (Dt.val (Dw.fc (gF j i (if i + 7 < 30 then i + 7 else 30)) (hr.mono (by decide)) (Da.c (Dv.var 3 rfl) (Da.c (Dv.var 2 rfl) (Da.c (Dv.min2 rfl T.min (Dv.cInt T.mDay) (Dv.add (Dv.var 2 rfl) (Dv.cInt T.mAhead))) Da.nil))))))) (by rw [ft_t h1 (by omega), ft_t h2 (by split <;> omega)]; rfl))) ?_
  refine Bk.set 4 (Dv.tup Da.nil) (fun d e => ?_) sc_most_heats.nd
  subst e
  refine Bk.for PassesOwn.never rfl (Wk.lst (φ := fun ds => ∃ ss : List (List Int), ss.Perm (subs (rgI i (j + 1))) ∧ ds = ss.map intsD) (Dw.mono (Dw.fc (gS _ days8) (hr.mono (by decide)) (Da.c (Dn.v (Dn.listRg rfl T.list T.range (Dv.var 2 rfl) (Dv.add (Dv.var 3 rfl) Dv.int) (RgOk.of_le (by omega) (by omega) (by omega) (by omega)))) Da.nil)) fun d ⟨ss, a, b⟩ => ⟨_, ⟨ss, a, rfl⟩, b⟩)) (Gt.name 5 sc_most_heats.nd)
    (fun ds k ρ' => ∃ S v5 v6 v7, ρ' = [.d (encLots ls), .d (.tuple (encL c)), .d (.int i), .d (.int j), .d (intsD S), v5, v6, v7] ∧ S ∈ subs (rgI i (j + 1)) ∧ (goAll ls (planOf c S)).2.2 = none ∧ ∀ S', intsD S' ∈ ds.take k → (goAll ls (planOf c S')).2.2 = none → S'.length ≤ S.length)
    (fun ds e => ⟨[], _, _, _, rfl, nil_mem_subs _, rfl, fun S' h => by rw [List.take_zero] at h; cases h⟩) ?_ ?_
  · rintro ds ⟨ss, hss, rfl⟩ k d ρ' hd ⟨S, v5, v6, v7, rfl, hS, hn, hm⟩
    have tk := take_snoc hd
    rw [List.getElem?_map] at hd
    cases q : ss[k]? with
    | none => rw [q] at hd; cases hd
    | some S2 =>
      rw [q] at hd
      cases hd
      have m2 := hss.mem_iff.mp (List.mem_of_getElem? q)
      obtain ⟨p2, l2⟩ := plk S2 m2
      refine ⟨_, rfl, ?_⟩
      refine Bk.set 6 (Dv.tupleOf T.tuple (Dv.is (Dv.compE (own := [("day", 7)]) (qs := S2) (enc := .int) (kp := fun _ => true) (g := fun d => encHeat (d, c)) rfl sc_most_heats.nd (blkOk_by (N := n_most_heats) (sc := defScope s_most_heats) (by decide +kernel)) (Wk.tupD (Dv.var 5 rfl)) (fun a _ b _ => int_inj a b) (is := [7]) (as := as1) (by decide) (by omega)
        (fun d hd => ⟨_, rfl, fun s H C cl fp => ⟨Gt.name 7 sc_most_heats.nd, Ts.nil, fun _ => Dv.tup (Da.c (Dv.var 7 rfl) (Da.c (Dv.var 1 rfl) Da.nil))⟩⟩)) (by rw [List.filter_eq_self.mpr fun _ _ => rfl, show (S2.map fun d => encHeat (d, c)) = (planOf c S2).map encHeat by rw [List.map_map]; rfl]))) (fun d e => ?_) sc_most_heats.nd
      subst e
      have hb : ∀ (K : PySem.W.Frag) H v, Dp K H v (encLack (goAll ls (planOf c S2)).2.2) → decide (v = V.non) = decide ((goAll ls (planOf c S2)).2.2 = none) := by
        cases z : (goAll ls (planOf c S2)).2.2 with
        | none => exact fun K H v h => by rw [non_none K H v h]; rfl
        | some x => exact fun K H v h => by rw [non_tuple K H v h]; rfl
      by_cases cc : S.length < S2.length ∧ (goAll ls (planOf c S2)).2.2 = none
      · refine Bk.ifT (Db.t (Db.is (Db.and (Dt.gt (Dv.len T.len (Dv.var 5 rfl)) (Dv.len T.len (Dv.var 4 rfl))) fun _ => Db.and1 (Dt.isN (Dv.ix (Dw.fc (gG ls (planOf c S2) n L p2) hr (Da.c (Dv.var 0 rfl) (Da.c (Dv.var 6 rfl) Da.nil))) Dv.int) hb)) ?_)) ?_
        · rw [List.length_map, List.length_map, decide_eq_true (by omega), decide_eq_true cc.2]
          rfl
        · refine Bk.set 4 (Dv.var 5 rfl) (fun d e => ?_) sc_most_heats.nd
          subst e
          refine Bk.nil (Bk.nil ⟨S2, _, _, _, rfl, m2, cc.2, fun S' h1 h2 => ?_⟩)
          rw [tk] at h1
          rcases List.mem_append.mp h1 with h1 | h1
          · have := hm S' h1 h2
            omega
          · rw [intsD_inj _ _ (List.mem_singleton.mp h1)]
            exact Nat.le_refl _
      · refine Bk.skip (Db.t (Db.is (Db.and (Dt.gt (Dv.len T.len (Dv.var 5 rfl)) (Dv.len T.len (Dv.var 4 rfl))) fun _ => Db.and1 (Dt.isN (Dv.ix (Dw.fc (gG ls (planOf c S2) n L p2) hr (Da.c (Dv.var 0 rfl) (Da.c (Dv.var 6 rfl) Da.nil))) Dv.int) hb)) ?_)) ?_
        · rw [List.length_map, List.length_map, Bool.and_eq_false_iff]
          by_cases c2 : S.length < S2.length
          · exact .inr (decide_eq_false fun z => cc ⟨c2, z⟩)
          · exact .inl (decide_eq_false (by omega))
        · refine Bk.nil ⟨S, _, _, _, rfl, hS, hn, fun S' h1 h2 => ?_⟩
          rw [tk] at h1
          rcases List.mem_append.mp h1 with h1 | h1
          · exact hm S' h1 h2
          · have e := intsD_inj _ _ (List.mem_singleton.mp h1)
            subst e
            exact Nat.le_of_not_lt fun z => cc ⟨z, h2⟩
  · rintro ds ⟨ss, hss, rfl⟩ ρ' ⟨S, v5, v6, v7, rfl, hS, hn, hm⟩
    refine Bk.ret (Dv.var 4 rfl) fun d e => ⟨S, ⟨hS, hn, fun S' h1 h2 => hm S' ?_ h2⟩, e⟩
    rw [List.take_length]
    exact List.mem_map.mpr ⟨S', hss.mem_iff.mpr h1, rfl⟩
end
end Hb

namespace Hb
open PySem PySem.Spec PyProof.Rows L2 RZ
open Evl (Ex)
/-! ### the law's pen -/
theorem chg_pen {Z : Vz} {H : Hp} {p : Addr} {i j k i' j' k' : Int} (z : Z p) (h : H p = some (.lst [.int i, .int j, .int k])) : Chg Z H (upd H p (.lst [.int i', .int j', .int k'])) := by
  refine ⟨fun a o na e => ?_, fun a za => ⟨fun ⟨x, y, t, e⟩ => ?_, fun t => t.upd h plain_lst⟩⟩
  · rw [upd_ne fun q => na (by rw [q]; exact z)]
    exact e
  · by_cases q : a = p
    · exact ⟨i', j', k', by rw [q, upd_same]⟩
    · exact ⟨x, y, t, by rw [upd_ne q]; exact e⟩
section
variable {Z : Vz} {Y F0 : Addr → Prop} {B : Hp} {X : Cx} {e a b : Expr} {es : List Expr} {ρ : List AV} {sts rest : List Stmt} {N : List AV → Prop} {R : RT}
theorem Dw.penix (i : Nat) {p : Addr} {c : Nat} {j : Nat} {x : Str} {px pc pos : Pos} (hi : ρ[i]? = some (.pen p)) (hc : c < 3) (hn : X.N[i]? = some x := by rfl) (hv : Vis X.env.scope x := by first | exact Or.inl rfl | exact Or.inr (Or.inl rfl) | exact Or.inr (Or.inr rfl))
    (hd : (x == ("__debug__" : Str)) = false := by decide) (hcd : (x == ("__classdict__" : Str)) = false := by decide) (hs : PlainIx (.Constant (.int (c : Nat)) j pc) := by exact fun _ _ => rfl) :
    Dw Z X (.Subscript (.Name x px) (.Constant (.int (c : Nat)) j pc) pos) ρ fun d => ∃ z : Int, d = .int z := fun F σ H S Q q => by
  obtain ⟨ov, h1, h2, zp, x1, x2, x3, e⟩ := S.slot i _ hi
  refine we_of (pe_ix ix_list (pv i hn hv hd hcd) pe_int hs) ⟨.ref p, by rw [h1, h2], ?_⟩
  have hg : ∃ z : Int, atI [V.int x1, V.int x2, V.int x3] (c : Int) = some (V.int z) := by
    match c, hc with
    | 0, _ => exact ⟨x1, rfl⟩
    | 1, _ => exact ⟨x2, rfl⟩
    | 2, _ => exact ⟨x3, rfl⟩
  obtain ⟨z, hz⟩ := hg
  exact ⟨p, _, _, V.int z, rfl, rfl, .inl (.inl e), hz, q _ H _ Chg.refl ⟨z, rfl⟩ (.int z)⟩
/-- a test of which nothing is known -/
def Dtn (Z : Vz) (X : Cx) (e : Expr) (ρ : List AV) : Prop := ∀ (F : Addr → Prop) (σ : L2.St) (H : Hp), StOk Z F X.K H σ ρ → ∀ Q : Bool → Hp → Prop, (∀ b H2, Chg Z H H2 → Q b H2) → WT X e σ H Q
def Dbn (Z : Vz) (X : Cx) (e : Expr) (ρ : List AV) : Prop :=
  ∃ t : TT, PW X e t ∧ ∀ (F : Addr → Prop) (σ : L2.St) (H : Hp), StOk Z F X.K H σ ρ → ∀ Q : Bool → Hp → Prop, (∀ b H2, Chg Z H H2 → Q b H2) → t σ H Q
theorem Dbn.t (h : Dbn Z X e ρ) : Dtn Z X e ρ := by
  obtain ⟨t, hp, ht⟩ := h
  exact fun F σ H S Q q => wt_of hp.pt (ht F σ H S Q q)
theorem Dbn.and1 {a : Expr} {pos : Pos} (h : Dtn Z X a ρ) : Dbn Z X (.BoolOp .And [a] pos) ρ := ⟨_, pw_and1 wt_pt, fun F σ H S Q q => h F σ H S Q q⟩
theorem Dbn.and {a b : Expr} {rest : List Expr} {pos : Pos} (h : Dtn Z X a ρ) (k : Dbn Z X (.BoolOp .And (b :: rest) pos) ρ) : Dbn Z X (.BoolOp .And (a :: b :: rest) pos) ρ := by
  obtain ⟨t, hp, ht⟩ := k
  refine ⟨_, pw_and wt_pt hp, fun F σ H S Q w => h F σ H S _ fun b H2 c => ?_⟩
  cases b with
  | true => exact ht F σ H2 (S.chg c) Q fun b H3 c3 => w b H3 (c.trans c3)
  | false => exact w false H2 c
theorem Dtn.cmp {a b : Expr} {op : CmpOp} {r : R2} {φ ψ : PyData → Prop} {pos : Pos} (ho : OpR X (compareOp op) r) (ha : Dw Z X a ρ φ) (hb : Dw Z X b ρ ψ) (hr : ∀ da db, φ da → ψ db → ∃ k, OpD X.K r da db (.bool k)) (hm : behindInMarks op b = false := by first | exact nomark _ | rfl) :
    Dtn Z X (.Compare a [op] [b] pos) ρ := fun F σ H S Q q => wt_of (pt_cmpR ho we_pe we_pe hm) (two ha hb S fun x y H2 da' db' c p1 p2 r1 r2 => by
  obtain ⟨k, hk⟩ := hr da' db' p1 p2
  exact hk F H2 x y _ (S.domC c) r1 r2 fun v H3 e r3 => ⟨k, dp_bl r3, q k H3 (c.trans (Chg.of_ex e))⟩)
theorem Bk.ifN {c : Expr} {A1 A2 : List Stmt} {pos : Pos} (hc : Dtn Z X c ρ) (h1 : Bk Z Y F0 B X A1 ρ (fun ρ' => Bk Z Y F0 B X rest ρ' N R) R) (h2 : Bk Z Y F0 B X A2 ρ (fun ρ' => Bk Z Y F0 B X rest ρ' N R) R) : Bk Z Y F0 B X (.If c A1 A2 pos :: rest) ρ N R := Bk.one fun F σ H S g D n r =>
  ws_of (ps_if wt_pt wb_pss wb_pss) (hc F σ H S _ fun b H2 c2 => by
    cases b with
    | true =>
      rw [if_pos rfl]
      exact h1 F σ H2 (S.chg c2) (g.chg c2) _ (fun F' σ' H' ρ' s1 g1 x q => n F' σ' H' ρ' s1 g1 ((S.exC c2).trans x) q) r
    | false =>
      rw [if_neg Bool.false_ne_true]
      exact h2 F σ H2 (S.chg c2) (g.chg c2) _ (fun F' σ' H' ρ' s1 g1 x q => n F' σ' H' ρ' s1 g1 ((S.exC c2).trans x) q) r)
/-- pen[c] = e -/
theorem Bk.penset (i : Nat) {p : Addr} {c : Nat} {j : Nat} {x : Str} {px pc spos pos : Pos} (hi : ρ[i]? = some (.pen p)) (hc : c < 3) (he : Dw Z X e ρ fun d => ∃ z : Int, d = .int z) (k : Bk Z Y F0 B X rest ρ N R)
    (hn : X.N[i]? = some x := by rfl) (hv : Vis X.env.scope x := by first | exact Or.inl rfl | exact Or.inr (Or.inl rfl) | exact Or.inr (Or.inr rfl)) (hd : (x == ("__debug__" : Str)) = false := by decide) (hcd : (x == ("__classdict__" : Str)) = false := by decide)
    (ha : ∀ v, assign (.Subscript (.Name x px) (.Constant (.int (c : Nat)) j pc) spos) X.env v = (do
      let ov ← holding [v] (eval (.Name x px) X.env)
      let iv ← holding [v, ov] (eval (.Constant (.int (c : Nat)) j pc) X.env)
      standAt spos
      holding [v, ov, iv] (setItem ov iv v)
      release [v, ov, iv] []) := by intro _; rfl)
    (hs : swapsWithSole [.Subscript (.Name x px) (.Constant (.int (c : Nat)) j pc) spos] e pos.line X.env = pure false := by rfl) (hw : swappedStores [.Subscript (.Name x px) (.Constant (.int (c : Nat)) j pc) spos] e X.env = pure none := by rfl)
    (h1 : (assignEach [.Subscript (.Name x px) (.Constant (.int (c : Nat)) j pc) spos] X.env).map (·.2) = [assign (.Subscript (.Name x px) (.Constant (.int (c : Nat)) j pc) spos) X.env] := by rfl) :
    Bk Z Y F0 B X (.Assign [.Subscript (.Name x px) (.Constant (.int (c : Nat)) j pc) spos] e pos :: rest) ρ N R := Bk.one fun F σ H S g D n r => by
  obtain ⟨ov, q1, q2, zp, _⟩ := S.slot i _ hi
  refine ws_of (ps_asg we_pe (pg_sub (pv i hn hv hd hcd) pe_int set_list ha) hs hw h1) (he F σ H S _ fun v H2 d' c1 ⟨z, e1⟩ rv => ⟨.ref p, by rw [q1, q2], ?_⟩)
  subst e1
  have ev := dp_int rv
  subst ev
  obtain ⟨_, _, _, _, x1, x2, x3, e2⟩ := (S.chg c1).slot i _ hi
  have fin : ∀ y1 y2 y3 : Int, D.nx σ (upd H2 p (.lst [.int y1, .int y2, .int y3])) := fun y1 y2 y3 => by
    have cc := c1.trans (chg_pen (i' := y1) (j' := y2) (k' := y3) zp e2)
    exact n F σ _ ρ (S.chg cc) (g.chg cc) (S.exC cc) k
  match c, hc with
  | 0, _ => exact ⟨p, _, 0, 0, rfl, rfl, e2, rfl, fin z x2 x3⟩
  | 1, _ => exact ⟨p, _, 1, 1, rfl, rfl, e2, rfl, fin x1 z x3⟩
  | 2, _ => exact ⟨p, _, 2, 2, rfl, rfl, e2, rfl, fin x1 x2 z⟩
end
section
variable {P : Program} {w : World} {K : PySem.W.Frag} {mg : Str → Option Value} {base : Heap} {Pt : Addr} {x qual : Str} {st : Stmt} {N ps : List Str} {k : Nat}
/-- mkF for all data of a kind -/
theorem mkW {pre : List PyData → Prop} {post : List PyData → PyData → Prop} (D : Df K mg x qual st ps) (S : FnScope N ps (defScope st)) (hlen : ∀ ds, pre ds → ds.length = ps.length)
    (hb : ∀ (ds : List PyData), pre ds → ∀ (f : Addr) (cdv : Value) (A : Around) (outer : List Env) (s : Shared) (H : Hp) (E : XK) (F0 : Addr → Prop), Room k (bodyX P w K mg base N qual st f cdv A outer s H E).A →
      Bk (vz1 Pt) (vz1 Pt).has F0 H (bodyX P w K mg base N qual st f cdv A outer s H E) (defBody st) (startA N (ds.map .d)) (fun _ => False) (Rt K fun _ d => post ds d)) : Kk P w K mg base (k + 1) x ps (SpP K Pt pre post) := by
  obtain ⟨f, fd, F, hm, bi⟩ := D.ex
  refine ⟨f, fd, F.ok S (fun vs H Q E h => ?_) (fun cdv A outer s H vs Q E hr h => ?_), hm, F.kp, bi⟩
  · obtain ⟨F0, ds', _, _, _, h1, h2, _⟩ := h
    rw [dpa_len h1, hlen ds' h2]
  · obtain ⟨F0, ds', hPt, htb, hd, h1, h2, hq⟩ := h
    have nop : ∀ (i : Nat) (a : Addr), ((ds'.map AV.d)[i]?.bind AV.addr) = some a → False := fun i a e => by
      rw [List.getElem?_map] at e
      cases q : ds'[i]? with
      | none => rw [q] at e; cases e
      | some d => rw [q] at e; cases e
    refine ⟨_, wb_pss, hb ds' h2 f cdv A outer s H E F0 hr F0 (L2.start N vs) H (start_ok (fun a (z : a = Pt) => by rw [z]; exact ⟨hPt, .inr htb⟩) htb hd (by rw [dpa_len h1, List.length_map]) (d_inj ds') fun i av e => ?_)
      ⟨fun a z => z, hd, Kd.refl, fun a h => h, fun a h => .inl h, fun i a e => ?_, fun a (z : a = Pt) => by rw [z]; exact hPt, fun a (z : a = Pt) => by rw [z]; exact hd Pt hPt, fun a z => ⟨fun h => h, fun h => h⟩⟩
      _ (fun _ _ _ _ _ _ _ z => z.elim) fun v F' σ' H' ρ' s1 g1 ⟨d, h3, h4⟩ => hq v H' d ⟨g1.kept, g1.vk⟩ h3 (dp_ex (cut_sub g1.sub) h4)⟩
    · rw [List.getElem?_map] at e
      cases q : ds'[i]? with
      | none => rw [q] at e; cases e
      | some d =>
        rw [q] at e
        cases e
        obtain ⟨v, e1, e2⟩ := dpa_get h1 q
        exact ⟨v, e1, v, rfl, e2⟩
    · exfalso
      unfold startA at e
      by_cases hi : i < (ds'.map AV.d).length
      · rw [List.getElem?_append_left hi] at e
        exact nop i a e
      · rw [List.getElem?_append_right (by omega), List.getElem?_replicate] at e
        split at e <;> cases e
end
end Hb

namespace Hb
open PySem PySem.Spec PyProof.Rows L2 RZ
open Evl (Ex)
def IntIn (lo hi : Int) (d : PyData) : Prop := ∃ z : Int, d = .int z ∧ lo ≤ z ∧ z < hi
abbrev AnyI (d : PyData) : Prop := ∃ z : Int, d = .int z
section
variable {Z : Vz} {X : Cx} {e a b : Expr} {ρ : List AV}
theorem Dtn.eqI {j : Int} {pos : Pos} (hu : X.A.units + 64 < cLine) (ha : Dw Z X a ρ AnyI) (hb : Dv Z X b ρ (.int j)) (hm : behindInMarks .Eq b = false := by first | exact nomark _ | rfl) : Dtn Z X (.Compare a [.Eq] [b] pos) ρ := Dtn.cmp (op_eqD hu) ha hb (fun da db h1 h2 => by
  obtain ⟨z, rfl⟩ := h1
  have h2 : db = .int j := h2
  subst h2
  exact ⟨_, opd_eq rfl rfl⟩) hm
theorem Dtn.gtI {j : Int} {pos : Pos} (ha : Dw Z X a ρ AnyI) (hb : Dv Z X b ρ (.int j)) (hm : behindInMarks .Gt b = false := by first | exact nomark _ | rfl) : Dtn Z X (.Compare a [.Gt] [b] pos) ρ := Dtn.cmp op_gt ha hb (fun da db h1 h2 => by
  obtain ⟨z, rfl⟩ := h1
  have h2 : db = .int j := h2
  subst h2
  exact ⟨_, opd_B0 (g := fun i j => decide (j < i))⟩) hm
theorem Dw.modI {m : Int} {pos : Pos} (m0 : 0 < m) (ha : Dw Z X a ρ AnyI) (hb : Dv Z X b ρ (.int m)) : Dw Z X (.BinOp a .Mod b pos) ρ (IntIn 0 m) := Dw.bin op_mod ha hb fun da db h1 h2 => by
  obtain ⟨z, rfl⟩ := h1
  have h2 : db = .int m := h2
  subst h2
  exact ⟨_, ⟨_, rfl, Int.emod_nonneg _ (by omega), Int.emod_lt_of_pos _ m0⟩, opd_I (C := fun _ j => 0 < j) m0⟩
theorem Dw.fdivI {m : Int} {pos : Pos} (m0 : 0 < m) (m1 : m < 1073741824) (ha : Dw Z X a ρ AnyI) (hb : Dv Z X b ρ (.int m)) : Dw Z X (.BinOp a .FloorDiv b pos) ρ AnyI := Dw.bin op_fdiv ha hb fun da db h1 h2 => by
  obtain ⟨z, rfl⟩ := h1
  have h2 : db = .int m := h2
  subst h2
  exact ⟨_, ⟨_, rfl⟩, opd_I ⟨m0, m1⟩⟩
theorem Dw.addI {j : Int} {pos : Pos} (ha : Dw Z X a ρ AnyI) (hb : Dv Z X b ρ (.int j)) : Dw Z X (.BinOp a .Add b pos) ρ AnyI := Dw.bin op_add ha hb fun da db h1 h2 => by
  obtain ⟨z, rfl⟩ := h1
  have h2 : db = .int j := h2
  subst h2
  exact ⟨_, ⟨_, rfl⟩, opd_I0⟩
theorem Dw.addIn {lo hi j : Int} {pos : Pos} (ha : Dv Z X a ρ (.int j)) (hb : Dw Z X b ρ (IntIn lo hi)) : Dw Z X (.BinOp a .Add b pos) ρ (IntIn (j + lo) (j + hi)) := Dw.bin op_add ha hb fun da db h1 h2 => by
  obtain ⟨z, rfl, z1, z2⟩ := h2
  have h1 : da = .int j := h1
  subst h1
  exact ⟨_, ⟨_, rfl, by omega, by omega⟩, opd_I0⟩
theorem IntIn.any {lo hi : Int} {d : PyData} (h : IntIn lo hi d) : AnyI d := ⟨h.choose, h.choose_spec.1⟩
end
section
variable {P : Program} {w : World} {K : PySem.W.Frag} {mg : Str → Option Value} {base : Heap} {Pt : Addr}
abbrev GNext (P : Program) (w : World) (K : PySem.W.Frag) (mg : Str → Option Value) (base : Heap) (Pt : Addr) : Prop := Kk P w K mg base 1 "_law_next" p_law_next (SpP K Pt (fun ds => ∃ i : Int, ds = [.int i]) fun _ d => ∃ z : Int, d = .int z)
theorem ok_next (D : Df K mg "_law_next" "_law_next" s_law_next p_law_next) : GNext P w K mg base Pt := by
  refine mkW D sc_law_next (fun ds ⟨i, e⟩ => by rw [e]; rfl) fun ds ⟨i, e⟩ f cdv A outer s H E F0 hr => ?_
  subst e
  refine Bk.set 0 (Dv.mod (Dv.add (Dv.var 0 rfl) Dv.int) Dv.int (by decide)) (fun d e => ?_) sc_law_next.nd
  subst e
  have h0 := Int.emod_nonneg (i + 7919) (b := 2147483647) (by decide)
  have h1 := Int.emod_lt_of_pos (i + 7919) (b := 2147483647) (by decide)
  exact Bk.ret (Dv.mod (Dv.add (Dv.add (Dv.mul (Dv.var 0 rfl) (Dv.var 0 rfl) (.inl ⟨by omega, by omega⟩)) (Dv.mul Dv.int (Dv.var 0 rfl) (.inl ⟨by decide, by decide⟩))) Dv.int) Dv.int (by decide)) fun d e => ⟨_, e⟩
abbrev GDraw (P : Program) (w : World) (K : PySem.W.Frag) (mg : Str → Option Value) (base : Heap) (Pt : Addr) : Prop := ∀ m : Int, 0 < m → m ≤ 1000 → Fp P w K mg base Pt 2 "_law_draw" p_law_draw [.int m] (IntIn 0 m)
theorem ok_draw (D : Df K mg "_law_draw" "_law_draw" s_law_draw p_law_draw) (gN : GNext P w K mg base Pt) : GDraw P w K mg base Pt := fun m m0 m1 => by
  refine mkN D sc_law_draw rfl fun f cdv A outer s H E F0 p hr => ?_
  refine Bk.ifN (Dbn.t (Dbn.and (Dtn.eqI hr.units (Dw.penix 0 (c := 1) rfl (by decide)) Dv.int) (Dbn.and1 (Dtn.gtI (Dw.penix 0 (c := 0) rfl (by decide)) Dv.int)))) ?_ (Bk.nil ?_)
  · refine Bk.set 2 (Dw.modI m0 (Dw.penix 0 (c := 0) rfl (by decide)) (Dv.var 1 rfl)) (fun d hd => ?_) sc_law_draw.nd
    refine Bk.penset 0 (c := 0) rfl (by decide) (Dw.fdivI m0 (by omega) (Dw.penix 0 (c := 0) rfl (by decide)) (Dv.var 1 rfl)) ?_
    exact Bk.ret (Dv.var 2 rfl) fun d' e => by rw [e]; exact hd
  · have one : ∀ ds : List PyData, (∃ d r, ds = d :: r ∧ AnyI d ∧ r = []) → ∃ i : Int, ds = [.int i] := fun ds ⟨d, r, e1, ⟨z, e2⟩, e3⟩ => ⟨z, by rw [e1, e2, e3]⟩
    refine Bk.penset 0 (c := 2) rfl (by decide) (Dw.call (χ := AnyI) gN (hr.mono (by decide)) (Da.cons (Dw.addI (Dw.call (χ := AnyI) gN (hr.mono (by decide)) (Da.cons (Dw.penix 0 (c := 2) rfl (by decide)) Da.nil) one fun ds d _ h => h) Dv.int) Da.nil) one fun ds d _ h => h) ?_
    exact Bk.ret (Dw.modI m0 (Dw.fdivI (by decide) (by decide) (Dw.penix 0 (c := 2) rfl (by decide)) Dv.int) (Dv.var 1 rfl)) fun d h => h
def MadePre (ds : List PyData) : Prop := ∃ t b n : Int, ds = [.int t, .int b] ∧ 0 < b ∧ b ≤ 1000 ∧ t * 6 = n * b
def MadePost (ds : List PyData) (d : PyData) : Prop := ∃ t b n : Int, ds = [.int t, .int b] ∧ 0 < b ∧ t * 6 = n * b ∧ d = encP n
theorem made_uniq {t b n : Int} {d : PyData} (hb : 0 < b) (h : t * 6 = n * b) (p : MadePost [.int t, .int b] d) : d = encP n := by
  obtain ⟨t', b', n', e, _, h', rfl⟩ := p
  injection e with e1 e
  injection e with e2 _
  injection e1 with e1
  injection e2 with e2
  subst e1 e2
  have : n' * b = n * b := h'.symm.trans h
  rw [Int.eq_of_mul_eq_mul_right (by omega) this]
abbrev GLMade (P : Program) (w : World) (K : PySem.W.Frag) (mg : Str → Option Value) (base : Heap) (Pt : Addr) : Prop := Kk P w K mg base 1 "_law_made" p_law_made (SpP K Pt MadePre MadePost)
theorem ok_lmade (D : Df K mg "_law_made" "_law_made" s_law_made p_law_made) (T : Tx K mg) : GLMade P w K mg base Pt := by
  refine mkW D sc_law_made (fun ds ⟨t, b, n, e, _⟩ => by rw [e]; rfl) fun ds ⟨t, b, n, e, hb, hb2, hn⟩ f cdv A outer s H E F0 hr => ?_
  subst e
  refine Bk.par 2 3 (Da.c (Dv.is (Dv.max2 rfl T.max (Dv.var 0 rfl) (Dv.sub Dv.int (Dv.var 0 rfl))) (show _ = PyData.int ((t.natAbs : Nat) : Int) by congr 1; split <;> omega)) (Da.c (Dv.is (Dv.var 1 rfl) (show _ = PyData.int ((b.natAbs : Nat) : Int) by congr 1; omega)) Da.nil)) (fun ds e => ⟨_, _, e, ?_⟩) rfl sc_law_made.nd (by decide) rfl
  refine Bk.while PassesOwn.never (fun m ρ' => ∃ x y : Nat, y = m ∧ Nat.gcd x y = Nat.gcd t.natAbs b.natAbs ∧ ρ' = [.d (.int t), .d (.int b), .d (.int (x : Nat)), .d (.int (y : Nat))]) b.natAbs ⟨t.natAbs, b.natAbs, rfl, rfl, rfl⟩ ?_
  rintro m ρ' ⟨x, y, e1, e2, rfl⟩
  rcases Nat.eq_zero_or_pos y with h | h
  · refine .inr ⟨Dt.is (Dt.gt (Dv.var 3 rfl) Dv.int) (decide_eq_false (by omega)), ?_⟩
    have ex : x = Nat.gcd t.natAbs b.natAbs := by rw [← e2, h, Nat.gcd_zero_right]
    subst ex
    refine Bk.ret (Dv.tup (Da.c (Dv.fdiv (Dv.var 0 rfl) (Dv.var 2 rfl) (gcd_pos hb hb2)) (Da.c (Dv.fdiv (Dv.var 1 rfl) (Dv.var 2 rfl) (by have h := gcd_pos (t := t) hb hb2; exact ⟨h.1, h.2⟩)) Da.nil))) fun d e => ⟨t, b, n, rfl, hb, hn, ?_⟩
    obtain ⟨h1, h2⟩ := lowest hb hn
    rw [e, h1, h2]
    rfl
  · refine .inl ⟨Dt.is (Dt.gt (Dv.var 3 rfl) Dv.int) (decide_eq_true (by omega)), ?_⟩
    refine Bk.par 2 3 (Da.c (Dv.var 3 rfl) (Da.c (Dv.mod (Dv.var 2 rfl) (Dv.var 3 rfl) (by omega)) Da.nil)) (fun ds e => ⟨_, _, e, ?_⟩) rfl sc_law_made.nd (by decide) rfl
    refine Bk.nil ⟨x % y, by rw [← e1]; exact Nat.mod_lt _ h, y, x % y, rfl, ?_, ?_⟩
    · rw [← e2, Nat.gcd_comm y, Nat.gcd_comm x y, ← Nat.gcd_rec]
    · show [AV.d (.int t), AV.d (.int b), AV.d (.int (y : Nat)), AV.d (.int ((x : Int) % (y : Int)))] = _
      rw [← Int.natCast_emod]
theorem ok_lplus (D : Df K mg "_law_plus" "_law_plus" s_law_plus p_law_plus) (gM : GLMade P w K mg base Pt) : GBin P w K mg base Pt 2 "_law_plus" p_law_plus fun n m => encP (n + m) := fun n m hn hm => by
  refine mkF D sc_law_plus rfl fun f cdv A outer s H E F0 hr => ?_
  refine Bk.ret (Dv.call (ds := [.int (num n * den m + num m * den n), .int (den n * den m)]) gM hr
    (Da.c (Dv.add (Dv.mul (Dv.ix (Dv.var 0 rfl) Dv.int) (Dv.ix (Dv.var 1 rfl) Dv.int) (num_ok hn _)) (Dv.mul (Dv.ix (Dv.var 1 rfl) Dv.int) (Dv.ix (Dv.var 0 rfl) Dv.int) (num_ok hm _)))
      (Da.c (Dv.mul (Dv.ix (Dv.var 0 rfl) Dv.int) (Dv.ix (Dv.var 1 rfl) Dv.int) (den_ok n _)) Da.nil)) ⟨_, _, n + m, rfl, (den_mul n m).1, (den_mul n m).2, sum_parts n m⟩ (fun d h => made_uniq (den_mul n m).1 (sum_parts n m) h)) fun d e => e
abbrev GLTotal (P : Program) (w : World) (K : PySem.W.Frag) (mg : Str → Option Value) (base : Heap) (Pt : Addr) : Prop := ∀ ns : List Int, SumOk ns → Fc P w K mg base Pt 3 "_law_total" p_law_total [.list (encL ns)] (fun d => d = encP ns.sum)
theorem ok_ltotal (D : Df K mg "_law_total" "_law_total" s_law_total p_law_total) (gP : GBin P w K mg base Pt 2 "_law_plus" p_law_plus fun n m => encP (n + m)) : GLTotal P w K mg base Pt := fun ns hb => by
  refine mkF D sc_law_total rfl fun f cdv A outer s H E F0 hr => ?_
  refine Bk.set 1 (φ := fun d => d = encP 0) (Dv.tup (Da.c Dv.int (Da.c Dv.int Da.nil))) (fun d e => ?_) sc_law_total.nd
  subst e
  refine Bk.for PassesOwn.never rfl (Wk.lstD (Dv.var 0 rfl)) (Gt.name 2 sc_law_total.nd) (fun ds i ρ' => ∃ av, ρ' = [.d (.list (encL ns)), .d (encP (ns.take i).sum), av]) (fun ds e => ⟨.no, by rw [List.take_zero]; rfl⟩) ?_ ?_
  · rintro ds rfl i d ρ' hd ⟨av, rfl⟩
    rw [List.getElem?_map] at hd
    cases q : ns[i]? with
    | none => rw [q] at hd; cases hd
    | some n =>
      rw [q] at hd
      cases hd
      refine ⟨_, rfl, ?_⟩
      refine Bk.set 1 (Dw.fc (gP _ _ (hb i).1 ((hb i).2 n (List.mem_of_getElem? q))) hr (Da.c (Dv.var 1 rfl) (Da.c (Dv.var 2 rfl) Da.nil))) (fun d e => ?_) sc_law_total.nd
      subst e
      refine Bk.nil ⟨.d (encP n), ?_⟩
      rw [L2.sum_take q]
      rfl
  · rintro ds rfl ρ' ⟨av, rfl⟩
    refine Bk.ret (Dv.var 1 rfl) fun d e => ?_
    rw [e, List.length_map, List.take_length]
end
end Hb

namespace Hb
open PySem PySem.Spec PyProof.Rows L2 RZ
open Evl (Ex)
def PIn (lo hi : Int) (d : PyData) : Prop := ∃ n : Int, d = encP n ∧ lo ≤ n ∧ n ≤ hi
theorem made_range {t b : Int} (h0 : 0 ≤ t) (h1 : 1 ≤ b) (h2 : b < 4) : ∃ n : Int, t * 6 = n * b ∧ 2 * t ≤ n ∧ n ≤ 6 * t := by
  have h : b = 1 ∨ b = 2 ∨ b = 3 := by omega
  rcases h with rfl | rfl | rfl
  · exact ⟨6 * t, by omega, by omega, by omega⟩
  · exact ⟨3 * t, by omega, by omega, by omega⟩
  · exact ⟨2 * t, by omega, by omega, by omega⟩
section
variable {Z : Vz} {Y F0 : Addr → Prop} {B : Hp} {X : Cx} {e a b : Expr} {es : List Expr} {ρ : List AV} {sts rest : List Stmt} {N : List AV → Prop} {R : RT}
theorem Dw.made {lo hi : Int} {p pos : Pos} (G : GLMade X.prog X.w X.K X.mg X.base Z.tab) (hr : Room 1 X.A) (h0 : 0 ≤ lo) (h1 : hi ≤ 100) (ha : Dw Z X a ρ (IntIn lo hi)) (hb : Dw Z X b ρ (IntIn 1 4)) (hg : Gl X "_law_made" := by rfl)
    (he : starEach [a, b] X.env = (false, eval a X.env) :: starEach [b] X.env := by rfl) (he2 : starEach [b] X.env = (false, eval b X.env) :: starEach [] X.env := by rfl) (hpl : (backTo pos (starEach [b] X.env)).any (·.1) = false := by rfl) :
    Dw Z X (.Call (.Name "_law_made" p) [a, b] [] pos) ρ (PIn (2 * lo) (6 * (hi - 1))) :=
  Dw.call G hr (Da.cons ha (Da.cons hb Da.nil he2) he) (fun ds ⟨d, r, e1, ⟨t, e2, t1, t2⟩, d', r', e3, ⟨z, e4, z1, z2⟩, e5⟩ => by
      obtain ⟨n, n1, _, _⟩ := made_range (t := t) (b := z) (by omega) z1 z2
      exact ⟨t, z, n, by rw [e1, e2, e3, e4, e5], by omega, by omega, n1⟩)
    (fun ds d ⟨d1, r, e1, ⟨t, e2, t1, t2⟩, d', r', e3, ⟨z, e4, z1, z2⟩, e5⟩ h => by
      obtain ⟨n, n1, n2, n3⟩ := made_range (t := t) (b := z) (by omega) z1 z2
      have e6 : ds = [.int t, .int z] := by rw [e1, e2, e3, e4, e5]
      subst e6
      exact ⟨n, made_uniq (by omega) n1 h, by omega, by omega⟩) hg (by decide) he hpl
/-- a, b = x, [..], the second a new list -/
theorem Bk.parN (i j : Nat) {φ : PyData → Prop} {ψ : List PyData → Prop} {x y : Str} {a b : Expr} {px py pt : Pos} {kt k2 pt2 pos} (ha : Dw Z X a ρ φ) (hb : Dn Z X b ρ ψ) (k : ∀ d c ds, B c = none → φ d → ψ ds → Bk Z Y F0 B X rest ((ρ.set i (.d d)).set j (.own c ds)) N R)
    (hc : X.calm = true) (hN : X.N.Nodup) (hij : i ≠ j) (hw : swappedStores [.Tuple [.Name x px, .Name y py] kt pt] (.Tuple [a, b] k2 pt2) X.env = pure (some [x, y]))
    (h1 : starEach [a, b] X.env = (false, eval a X.env) :: starEach [b] X.env := by rfl) (h2 : starEach [b] X.env = [(false, eval b X.env)] := by rfl)
    (hi : X.N[i]? = some x := by rfl) (hj : X.N[j]? = some y := by rfl) (hx : X.env.scope.names.lookup x = some .local := by rfl) (hy : X.env.scope.names.lookup y = some .local := by rfl)
    (hs : swapsWithSole [.Tuple [.Name x px, .Name y py] kt pt] (.Tuple [a, b] k2 pt2) pos.line X.env = pure false := by rfl) :
    Bk Z Y F0 B X (.Assign [.Tuple [.Name x px, .Name y py] kt pt] (.Tuple [a, b] k2 pt2) pos :: rest) ρ N R := Bk.one fun F σ H S g D n r =>
  ws_of (ps_par hc hN hi hj hij hx hy (pa_cons we_pe (pa_cons we_pe pa_nil h2) h1) hw hs) (ha F σ H S _ fun v H1 d c1 p1 r1 => hb F σ H1 (S.chg c1) _ fun c xs H2 ds c2 na l p2 r2 => by
    have S1 := (S.chg c1).put i r1
    have g1 := (g.chg c1).d (x := d) i
    obtain ⟨bn, s1, g2, x1⟩ := own_put (av := .own c ds) S1 g1 c2 na l j rfl fun nz => ⟨rfl, .inr rfl, nz, xs, l, r2⟩
    exact ⟨v, .ref c, rfl, n _ _ H2 _ s1 g2 ((S.exC c1).trans x1) (k d c ds bn p1 p2)⟩)
end
structure LotIn (n : Nat) (l : Lot) : Prop where
  ok : LotOk l
  st : l.stuff < n
  am : l.amt ≤ 72
theorem outs_of {α : Type} {enc : α → PyData} {p : α → Prop} {ψ : PyData → PyData → Prop} (h : ∀ d e, ψ d e → ∃ l, p l ∧ e = enc l) : ∀ {ds es : List PyData}, Rel2 ψ ds es → ∃ ls : List α, es = ls.map enc ∧ (∀ l ∈ ls, p l) ∧ ls.length = ds.length
  | _, _, .nil => ⟨[], rfl, by simp, rfl⟩
  | _, _, .cons a b => by
    obtain ⟨l, h1, rfl⟩ := h _ _ a
    obtain ⟨ls, rfl, h2, h3⟩ := outs_of h b
    refine ⟨l :: ls, rfl, fun x hx => ?_, by rw [List.length_cons, List.length_cons, h3]⟩
    rcases List.mem_cons.mp hx with rfl | hx
    · exact h1
    · exact h2 x hx
section
variable {P : Program} {w : World} {K : PySem.W.Frag} {mg : Str → Option Value} {base : Heap} {Pt : Addr}
abbrev GLot (P : Program) (w : World) (K : PySem.W.Frag) (mg : Str → Option Value) (base : Heap) (Pt : Addr) : Prop := ∀ n : Nat, 1 ≤ n → n ≤ 3 → Fp P w K mg base Pt 3 "_law_lot" p_law_lot [.int n] (fun d => ∃ l, LotIn n l ∧ d = encLot l)
theorem ok_llot (D : Df K mg "_law_lot" "_law_lot" s_law_lot p_law_lot) (gD : GDraw P w K mg base Pt) (gM : GLMade P w K mg base Pt) : GLot P w K mg base Pt := fun n n1 n3 => by
  refine mkN D sc_law_lot rfl fun f cdv A outer s H E F0 p hr => ?_
  refine Bk.set 2 (Dw.addIn Dv.int (Dw.fp 0 rfl (gD 12 (by decide) (by decide)) hr (Da.c Dv.int Da.nil))) (fun d hd => ?_) sc_law_lot.nd
  obtain ⟨z, rfl, z1, z2⟩ := hd
  refine Bk.set 3 (Dw.made gM (hr.mono (by decide)) (lo := 1) (hi := 13) (by decide) (by decide) (Dw.addIn (j := 1) (lo := 0) (hi := 12) Dv.int (Dw.fp 0 rfl (gD 12 (by decide) (by decide)) hr (Da.c Dv.int Da.nil))) (Dw.addIn (j := 1) (lo := 0) (hi := 3) Dv.int (Dw.fp 0 rfl (gD 3 (by decide) (by decide)) hr (Da.c Dv.int Da.nil)))) (fun d hd => ?_) sc_law_lot.nd
  obtain ⟨y, rfl, y1, y2⟩ := hd
  refine Bk.ret (Dw.tup (Da.cons (Dw.fp 0 rfl (gD n (by omega) (by omega)) hr (Da.c (Dv.var 1 rfl) Da.nil)) (Da.cons (Dv.var 3 rfl) (Da.cons (Dv.var 2 rfl) (Da.cons (φ := IntIn (z + 0) (z + 9)) (Dw.addIn (Dv.var 2 rfl) (Dw.fp 0 rfl (gD 9 (by decide) (by decide)) hr (Da.c Dv.int Da.nil))) Da.nil)))) fun ds ⟨a1, r1, e1, _, a2, r2, e2, _, a3, r3, e3, _, a4, r4, e4, _, e5⟩ => by rw [e1, e2, e3, e4, e5]; simp) fun d ⟨ds, ⟨a1, r1, e1, ⟨s1, f1, f2, f3⟩, a2, r2, e2, g2, a3, r3, e3, g3, a4, r4, e4, ⟨l1, h1, h2, h3⟩, e5⟩, e⟩ => ?_
  refine ⟨⟨s1, y, z, l1⟩, ⟨⟨f2, by show s1 ≤ 4; omega, by show 0 < y; omega, by show y ≤ 1000; omega, by show 1 ≤ z; omega, by show z ≤ l1; omega, by show l1 ≤ 30; omega⟩, f3, by show y ≤ 72; omega⟩, ?_⟩
  rw [e, e1, e2, e3, e4, e5, f1, g2, g3, h1]
abbrev LotsIn (n : Nat) (ls : List Lot) : Prop := ls.length ≤ 8 ∧ ∀ l ∈ ls, LotIn n l
abbrev GLots (P : Program) (w : World) (K : PySem.W.Frag) (mg : Str → Option Value) (base : Heap) (Pt : Addr) : Prop := ∀ n : Nat, 1 ≤ n → n ≤ 3 → Fp P w K mg base Pt 4 "_law_lots" p_law_lots [.int n] (fun d => ∃ ls, LotsIn n ls ∧ d = encLots ls)
theorem ok_llots (D : Df K mg "_law_lots" "_law_lots" s_law_lots p_law_lots) (T : Tx K mg) (gD : GDraw P w K mg base Pt) (gL : GLot P w K mg base Pt) : GLots P w K mg base Pt := fun n n1 n3 => by
  refine mkN D sc_law_lots rfl fun f cdv A outer s H E F0 p hr => ?_
  refine Bk.ret (Dw.tupleOf T.tuple (φ := fun ds => ∃ ls : List Lot, LotsIn n ls ∧ ds = ls.map encLot) (Dw.mono (Dn.w (Dn.comp (own := [("_law_number", 2)]) (keep := fun _ => true) (ψ := fun _ e => ∃ l, LotIn n l ∧ e = encLot l) rfl sc_law_lots.nd (blkOk_by (N := n_law_lots) (sc := defScope s_law_lots) (by decide +kernel))
    (Wk.rng1 T.range (φ := fun m => 0 ≤ m ∧ m ≤ 8) (Dw.ix (χ := fun d => ∃ m, (0 ≤ m ∧ m ≤ 8) ∧ d = .int m) (Dn.v (Dn.lst (Da.c Dv.int (Da.c Dv.int (Da.c Dv.int (Da.c Dv.int (Da.c Dv.int (Da.c Dv.int Da.nil)))))) fun ds e => by rw [e]; simp)) (Dw.fp 0 rfl (gD 6 (by decide) (by decide)) (hr.mono (by decide)) (Da.c Dv.int Da.nil)) fun da db h1 ⟨z, h2, z1, z2⟩ => ?_) (fun m hm => by omega)) (is := [2]) (as := as1) (by decide)
    (fun ds ⟨m, hm, e⟩ => ⟨by rw [e, irng_len]; omega, fun d hd => ⟨_, rfl, fun s H C cl fp => ⟨Gt.name 2 sc_law_lots.nd, Ts.nil, fun _ => Dw.fp 0 rfl (gL n n1 n3) hr (Da.c (Dv.var 1 rfl) Da.nil)⟩⟩⟩))) fun d ⟨out, ⟨ds, ⟨m, hm, e2⟩, r⟩, e⟩ => ?_)) fun d ⟨ds, ⟨ls, h1, h2⟩, e⟩ => ⟨ls, h1, by rw [e, h2]⟩
  · have hz : z = 0 ∨ z = 1 ∨ z = 2 ∨ z = 3 ∨ z = 4 ∨ z = 5 := by omega
    rcases hz with rfl | rfl | rfl | rfl | rfl | rfl
    · exact ⟨_, _, _, .inr h1, h2, rfl, _, ⟨by decide, by decide⟩, rfl⟩
    · exact ⟨_, _, _, .inr h1, h2, rfl, _, ⟨by decide, by decide⟩, rfl⟩
    · exact ⟨_, _, _, .inr h1, h2, rfl, _, ⟨by decide, by decide⟩, rfl⟩
    · exact ⟨_, _, _, .inr h1, h2, rfl, _, ⟨by decide, by decide⟩, rfl⟩
    · exact ⟨_, _, _, .inr h1, h2, rfl, _, ⟨by decide, by decide⟩, rfl⟩
    · exact ⟨_, _, _, .inr h1, h2, rfl, _, ⟨by decide, by decide⟩, rfl⟩
  · obtain ⟨ls, h1, h2, h3⟩ := outs_of (enc := encLot) (p := LotIn n) (fun _ _ h => h) r
    refine ⟨out, ⟨ls, ⟨?_, h2⟩, h1⟩, e⟩
    rw [h3, List.filter_eq_self.mpr fun _ _ => rfl, e2, irng_len]
    omega
end
end Hb

namespace Hb
open PySem PySem.Spec PyProof.Rows L2 RZ
open Evl (Ex)
structure PlIn (n : Nat) (day : Int) (pl : List Heat) : Prop where
  rise : pl.Pairwise fun a b => a.1 < b.1
  each : ∀ h ∈ pl, h.2.length = n ∧ (∀ w ∈ h.2, 0 ≤ w ∧ w ≤ 72) ∧ 1 ≤ h.1 ∧ h.1 ≤ day
theorem PlIn.snoc {n : Nat} {day : Int} {pl : List Heat} {d : Int} {c : List Int} (P : PlIn n day pl) (h1 : day < d) (h0 : 0 ≤ day) (h2 : c.length = n) (h3 : ∀ w ∈ c, 0 ≤ w ∧ w ≤ 72) : PlIn n d (pl ++ [(d, c)]) := by
  refine ⟨List.pairwise_append.mpr ⟨P.rise, List.pairwise_singleton _ _, fun a ha b hb => ?_⟩, fun h hh => ?_⟩
  · rw [List.mem_singleton.mp hb]
    have := (P.each a ha).2.2.2
    show a.1 < d
    omega
  · rcases List.mem_append.mp hh with hh | hh
    · obtain ⟨a1, a2, a3, a4⟩ := P.each h hh
      exact ⟨a1, a2, a3, by omega⟩
    · rw [List.mem_singleton.mp hh]
      exact ⟨h2, h3, by show 1 ≤ d; omega, Int.le_refl _⟩
theorem PlIn.ok {n : Nat} {day : Int} {pl : List Heat} (P : PlIn n day pl) (n1 : 1 ≤ n) (n5 : n ≤ 5) (hl : pl.length ≤ 8) (hd : day ≤ 30) : PlOk n pl :=
  ⟨⟨P.rise, fun h hh => (P.each h hh).1, fun h hh w hw => ((P.each h hh).2.1 w hw).1⟩, n1, n5, hl, fun h hh => by have := (P.each h hh).2.2; omega, fun h hh w hw => by have := ((P.each h hh).2.1 w hw).2; omega⟩
section
variable {P : Program} {w : World} {K : PySem.W.Frag} {mg : Str → Option Value} {base : Heap} {Pt : Addr}
abbrev GPlan (P : Program) (w : World) (K : PySem.W.Frag) (mg : Str → Option Value) (base : Heap) (Pt : Addr) : Prop := ∀ n : Nat, 1 ≤ n → n ≤ 3 → Fp P w K mg base Pt 3 "_law_plan" p_law_plan [.int n] (fun d => ∃ pl, PlOk n pl ∧ d = encPlan pl)
theorem ok_lplan (D : Df K mg "_law_plan" "_law_plan" s_law_plan p_law_plan) (T : Tx K mg) (gD : GDraw P w K mg base Pt) (gM : GLMade P w K mg base Pt) : GPlan P w K mg base Pt := fun n n1 n3 => by
  refine mkN D sc_law_plan rfl fun f cdv A outer s H E F0 p hr => ?_
  refine Bk.parN 2 3 (Dw.fp 0 rfl (gD 4 (by decide) (by decide)) hr (Da.c Dv.int Da.nil)) (Dn.lst Da.nil fun ds e => by rw [e]; simp) (fun d c ds bc hd e => ?_) rfl sc_law_plan.nd (by decide) rfl
  subst e
  obtain ⟨d0, rfl, d1, d2⟩ := hd
  refine Bk.set 4 (Dw.ix (χ := fun d => ∃ m : Int, d = .int m ∧ 3 ≤ m ∧ m ≤ 13) (Dn.v (Dn.lst (Da.c Dv.int (Da.c Dv.int (Da.c Dv.int Da.nil))) fun ds e => by rw [e]; simp)) (Dw.fp 0 rfl (gD 3 (by decide) (by decide)) hr (Da.c Dv.int Da.nil)) fun da db h1 ⟨z, h2, z1, z2⟩ => ?_) (fun d hd => ?_) sc_law_plan.nd
  · have hz : z = 0 ∨ z = 1 ∨ z = 2 := by omega
    rcases hz with rfl | rfl | rfl
    · exact ⟨_, _, _, .inr h1, h2, rfl, _, rfl, by decide, by decide⟩
    · exact ⟨_, _, _, .inr h1, h2, rfl, _, rfl, by decide, by decide⟩
    · exact ⟨_, _, _, .inr h1, h2, rfl, _, rfl, by decide, by decide⟩
  obtain ⟨top, rfl, t1, t2⟩ := hd
  refine Bk.for PassesOwn.never rfl (Wk.rng1 T.range (φ := fun m => 0 ≤ m ∧ m ≤ 8) (Dw.mono (Dw.fp 0 rfl (gD 9 (by decide) (by decide)) hr (Da.c Dv.int Da.nil)) fun d ⟨z, e, z1, z2⟩ => ⟨z, by omega, e⟩) (fun m hm => by omega)) (Gt.name 5 sc_law_plan.nd)
    (fun ds i ρ' => ∃ day pl v5 v6, ρ' = [.pen p, .d (.int n), .d (.int day), .own c (pl.map encHeat), .d (.int top), v5, v6] ∧ 0 ≤ day ∧ day ≤ 3 + 3 * (i : Int) ∧ pl.length = i ∧ PlIn n day pl)
    (fun ds e => ⟨d0, [], _, _, rfl, d1, by omega, rfl, ⟨List.Pairwise.nil, fun h hh => nomatch hh⟩⟩) ?_ ?_
  · rintro ds ⟨m, hm, rfl⟩ i d ρ' hd ⟨day, pl, v5, v6, rfl, y1, y2, hl, PI⟩
    have hi : i < 8 := by
      have := (List.getElem?_eq_some_iff.mp hd).1
      rw [irng_len] at this
      omega
    refine ⟨_, rfl, ?_⟩
    refine Bk.set 2 (Dw.addIn (Dv.add (Dv.var 2 rfl) Dv.int) (Dw.fp 0 rfl (gD 3 (by decide) (by decide)) hr (Da.c Dv.int Da.nil))) (fun d' hd' => ?_) sc_law_plan.nd
    obtain ⟨nd, rfl, k1, k2⟩ := hd'
    refine Bk.app 3 rfl (by rw [List.length_map]; omega) (φ := fun d => ∃ c : List Int, c.length = n ∧ (∀ w ∈ c, 0 ≤ w ∧ w ≤ 72) ∧ d = encHeat (nd, c)) (Dw.mono (Dw.tup (Da.cons (Dv.var 2 rfl) (Da.cons (Dw.tupleOf T.tuple (φ := fun ds => ∃ c : List Int, c.length = n ∧ (∀ w ∈ c, 0 ≤ w ∧ w ≤ 72) ∧ ds = encL c)
      (Dw.mono (Dn.w (Dn.comp (own := [("_law_stuff", 6)]) (keep := fun _ => true) (ψ := fun _ e => PIn 0 72 e) rfl sc_law_plan.nd (blkOk_by (N := n_law_plan) (sc := defScope s_law_plan) (by decide +kernel)) (Wk.rng1 T.range (φ := fun m => m = (n : Int)) (Dw.mono (Dv.var 1 rfl) fun d e => ⟨n, rfl, e⟩) (fun m hm => by omega)) (is := [6]) (as := as1) (by decide)
        (fun ds ⟨m, hm, e⟩ => ⟨by rw [e, irng_len]; omega, fun d hd => ⟨_, rfl, fun s H C cl fp => ⟨Gt.name 6 sc_law_plan.nd, Ts.nil, fun _ => Dw.mono (Dw.made (lo := 0) (hi := top) gM (hr.mono (by decide)) (by decide) (by omega) (Dw.fp 0 rfl (gD top (by omega) (by omega)) hr (Da.c (Dv.var 4 rfl) Da.nil)) (Dw.addIn (j := 1) (lo := 0) (hi := 3) Dv.int (Dw.fp 0 rfl (gD 3 (by decide) (by decide)) hr (Da.c Dv.int Da.nil)))) fun d ⟨z, e, z1, z2⟩ => ⟨z, e, by omega, by omega⟩⟩⟩⟩))) fun d ⟨out, ⟨ds, ⟨m, hm, e2⟩, r⟩, e⟩ => ?_)) Da.nil))
      fun ds ⟨a1, r1, e1, _, a2, r2, e2, _, e3⟩ => by rw [e1, e2, e3]; simp) fun d ⟨ds, ⟨a1, r1, e1, g1, a2, r2, e2, ⟨ds2, ⟨cc, c1, c2, c3⟩, g2⟩, e3⟩, e⟩ => ⟨cc, c1, c2, by rw [e, e1, e2, e3, g1, g2, c3]⟩) fun d ⟨cc, c1, c2, e⟩ => ?_
    · obtain ⟨ls, h1, h2, h3⟩ := outs_of (enc := encP) (p := fun w => 0 ≤ w ∧ w ≤ 72) (fun _ _ ⟨z, e, z1, z2⟩ => ⟨z, ⟨z1, z2⟩, e⟩) r
      refine ⟨out, ⟨ls, ?_, h2, h1⟩, e⟩
      rw [h3, List.filter_eq_self.mpr fun _ _ => rfl, e2, irng_len]
      omega
    · subst e
      refine Bk.nil ⟨nd, pl ++ [(nd, cc)], .d d, v6, ?_, by omega, by omega, by rw [List.length_append, hl]; rfl, PI.snoc (by omega) y1 c1 c2⟩
      rw [List.map_append]
      rfl
  · rintro ds ⟨m, hm, rfl⟩ ρ' ⟨day, pl, v5, v6, rfl, y1, y2, hl, PI⟩
    rw [irng_len] at hl y2
    refine Bk.free 3 rfl bc ?_
    exact Bk.ret (Dv.tupleOf T.tuple (Dv.var 3 rfl)) fun d e => ⟨pl, PI.ok n1 (by omega) (by omega) (by omega), e⟩
end
end Hb

namespace Hb
open PySem PySem.Spec PyProof.Rows L2 RZ
open Evl (Ex)
/-! ### t[::-1], t a tuple -/
theorem filterMap_rev (xs : Array Value) : ((List.range xs.size).filterMap fun (m : Nat) => xs[(((xs.size : Int) - 1) + (m : Int) * (-1)).toNat]?) = xs.toList.reverse := by
  apply List.ext_getElem?
  intro i
  have e : ((List.range xs.size).filterMap fun (m : Nat) => xs[(((xs.size : Int) - 1) + (m : Int) * (-1)).toNat]?) = (List.range xs.size).map fun m : Nat => xs.toList.getD (xs.size - 1 - m) .none := by
    have go : ∀ l : List Nat, (∀ m ∈ l, m < xs.size) → (l.filterMap fun (m : Nat) => xs[(((xs.size : Int) - 1) + (m : Int) * (-1)).toNat]?) = l.map fun m : Nat => xs.toList.getD (xs.size - 1 - m) .none := by
      intro l
      induction l with
      | nil => intro _; rfl
      | cons m l ih =>
        intro h
        have hm := h m List.mem_cons_self
        have e1 : (((xs.size : Int) - 1) + (m : Int) * (-1)).toNat = xs.size - 1 - m := by omega
        have hl : xs.size - 1 - m < xs.size := by omega
        have e2 : xs[(((xs.size : Int) - 1) + (m : Int) * (-1)).toNat]? = some (xs.toList.getD (xs.size - 1 - m) .none) := by
          rw [e1]
          simp [hl]
        rw [List.filterMap_cons, e2, List.map_cons, ← ih fun x hx => h x (List.mem_cons_of_mem _ hx)]
    exact go _ fun m hm => List.mem_range.mp hm
  rw [e]
  by_cases hi : i < xs.size
  · rw [List.getElem?_map, List.getElem?_range hi, List.getElem?_reverse (by simpa using hi)]
    have hl : xs.size - 1 - i < xs.size := by omega
    simp [hl]
  · rw [List.getElem?_eq_none (by simp; omega), List.getElem?_eq_none (by simp; omega)]
section
variable {prog : Program} {w : World} {A : Around} {E : Value → Shared → Prop} {s : Shared}
open HT in
theorem applied_rev {sl : Addr} {vl vu vs : Value} {n : Nat} {Q : Int × Int × Nat → Shared → Prop} (hs : s.heap.IsSliceOf sl vl vu vs) (pl : IsPart vl none) (pu : IsPart vu none) (ps : IsPart vs (some (-1))) (h : Q ((n : Int) - 1, -1, n) s) :
    wpAny (model prog w) A (Builtin.Slice.sliceApplied (.ref sl) (pure (n : Int))) Q E s := by
  obtain ⟨so, so1, so2, so3⟩ := hs
  unfold Builtin.Slice.sliceApplied Builtin.Slice.sliceFields
  refine wpAny_bind (wpAny_bind (wpAny_field so1 so3 (x := vl) rfl (wpAny_bind (wpAny_field so1 so3 (x := vu) rfl (wpAny_bind (wpAny_field so1 so3 (x := vs) rfl (wpAny_pure ?_)))))))
  refine wpAny_bind (slicePart_ ps ?_)
  show wpAny _ _ (if ((-1 : Int) == 0) = true then _ else _) _ _ s
  rw [if_neg (by decide)]
  refine wpAny_bind (slicePart_ pl (wpAny_bind (slicePart_ pu (wpAny_bind (wpAny_pure ?_)))))
  show wpAny _ _ (match Builtin.Slice.sliceAdjust none none (-1) (n : Int) with | (lo, hi) => pure (lo, (-1 : Int), Builtin.Slice.slicePlaces lo hi (-1))) _ _ s
  have ea : Builtin.Slice.sliceAdjust none none (-1) (n : Int) = ((n : Int) - 1, -1) := by
    unfold Builtin.Slice.sliceAdjust
    simp
  rw [ea]
  have ep : Builtin.Slice.slicePlaces ((n : Int) - 1) (-1) (-1) = n := by
    unfold Builtin.Slice.slicePlaces
    rw [if_neg (by decide), show (- -1 : Int) = 1 by decide, Int.ediv_one]
    split <;> omega
  show wpAny _ _ (pure ((n : Int) - 1, (-1 : Int), Builtin.Slice.slicePlaces ((n : Int) - 1) (-1) (-1))) _ _ s
  rw [ep]
  exact wpAny_pure h
open HT in
theorem item_rev {t sl : Addr} {items : Array Value} {vl vu vs : Value} {Q : Value → Shared → Prop} (ht : IsTup s.heap t items) (hs : s.heap.IsSliceOf sl vl vu vs) (pl : IsPart vl none) (pu : IsPart vu none) (ps : IsPart vs (some (-1)))
    (h : Q (.ref s.heap.objs.size) { s with heap := s.heap.push { cls := .type "tuple", data := .seq items.toList.reverse.toArray } }) (hsz : items.size ≤ sizeLine) : wpAny (model prog w) A (getItem (.ref t) (.ref sl)) Q E s := by
  have ok : sizeOk (.seq items.toList.reverse.toArray) := by
    show items.toList.reverse.toArray.size ≤ sizeLine
    rw [List.size_toArray, List.length_reverse, Array.length_toList]
    exact hsz
  obtain ⟨so, so1, so2, so3⟩ := id hs
  have isS : s.TypeIs (.ref sl) "slice" := ⟨so, so1, so2⟩
  unfold getItem
  try with_reducible refine wpAny_holding ?_
  first | refine wpAny_bind (wpAny_pure ?_) | skip
  refine wpAny_bind (wpAny_sequenceKey ht.typeIs (by decide) (wpAny_bind (wpAny_callSpecial?_slot (name := Str.ofString "__getitem__") ht.typeIs PyProof.Rows.slot_tuple_getitem (wpAny_call_entry PyProof.Rows.slot_tuple_getitem ht.typeIs entry_tuple_getitem ?_ (args_tuple_getitem _ _)))))
  show wpAny _ _ (Builtin.Tuple.tupleItemsOf (.ref t) >>= _) _ _ s
  refine wpAny_bind (tupleItemsOf_ ht (wpAny_bind (wpAny_typeOf isS ?_)))
  rw [if_pos (by decide)]
  refine wpAny_bind (applied_rev hs pl pu ps ?_)
  have hno : ¬ ((((items.size : Int) - 1) == 0 && (-1 : Int) == 1 && items.size == items.size) = true) := by
    rw [show ((-1 : Int) == 1) = false by decide, Bool.and_false, Bool.false_and]
    decide
  show wpAny _ _ (if (((items.size : Int) - 1) == 0 && (-1 : Int) == 1 && items.size == items.size) = true then _ else _) _ _ s
  rw [if_neg hno, filterMap_rev]
  first
    | exact wpAny_bind (m := Builtin.Tuple.tupleExact _) (wpAny_newObj_type (wpAny_pure ⟨_, rfl, wpAny_pure h⟩) ok)
    | exact wpAny_bind (m := Builtin.Tuple.tupleExact _) (wpAny_newObj_type (wpAny_bind (wpAny_pure (wpAny_pure ⟨_, rfl, wpAny_pure h⟩))) ok)
end
def tRevT (K : PySem.W.Frag) (te : TE) : TE := fun σ H Q => te σ H fun x H1 => ∃ (a : Addr) (xs : List V), x = .ref a ∧ SqT K H1 a xs ∧ ∀ p, H1 p = none → Q (.ref p) (upd H1 p (.tup xs.reverse))
theorem pe_revT {X : Cx} {e : Expr} {te : TE} {k : Nat} {p1 p2 p3 pos : Pos} (he : PE X e te) : PE X (.Subscript e (.Slice none none (some (.UnaryOp .USub (.Constant (.int 1) k p1) p2)) p3) pos) (tRevT X.K te) := by
  refine ⟨fun pins s σ H Q I h => Subscript_ (thn (he.run pins s σ H _ I h) fun v s1 ⟨x, H1, I1, r1, a, xs, ex, hx, q⟩ => ?_)⟩
  subst ex
  cases r1
  have neg1 : PO X (some (.UnaryOp .USub (.Constant (.int 1) k p1) p2)) (tPart (tUn (rU fun i => .int (-i)) (tC (.int 1)))) := po_some (pe_un un_neg pe_int)
  refine wpAny_Slice (thn (po_none.run pins s1 σ H1 (fun o Hb => o = none ∧ Hb = H1) I1 ⟨rfl, rfl⟩) fun vl s2 ⟨l, H2, I2, pl, el, e2⟩ => ?_)
  subst el e2
  refine thn (po_none.run pins s2 σ H2 (fun o Hb => o = none ∧ Hb = H2) I2 ⟨rfl, rfl⟩) fun vu s3 ⟨u, H3, I3, pu, eu, e3⟩ => ?_
  subst eu e3
  refine thn (neg1.run pins s3 σ H3 (fun o Hb => o = some (-1) ∧ Hb = H3) I3 ⟨1, rfl, -1, rfl, rfl, rfl⟩) fun vs s4 ⟨o, H4, I4, ps, eo, e4⟩ => ?_
  subst eo e4
  have J : Inv X pins σ H4 { s4 with heap := s4.heap.push { cls := .type "slice", data := .fields #[vl, vu, vs] } } := I4.kept (t' := s4.toks) fun b ob z => Heap.get?_push_of_some _ z
  obtain ⟨its, r, ht, hz⟩ := J.tuple hx
  have hlen := r.length
  show wpAny (model X.prog X.w) X.A (subscriptTail e (.Slice none none (some (.UnaryOp .USub (.Constant (.int 1) k p1) p2)) p3) (.ref a) (.ref s4.heap.objs.size)) (EP X pins σ Q) X.xe { s4 with heap := s4.heap.push { cls := .type "slice", data := .fields #[vl, vu, vs] } }
  refine tail_any (ops := [.ref a, .ref s4.heap.objs.size]) ht.typeIs (PyProof.Rows.slot_tuple_getitem.lookup) ?_ (by with_unfolding_all rfl)
  refine item_rev ht (Heap.IsSliceOf.new _ vl vu vs) pl pu ps ⟨.ref _, _, J.laid (t' := s4.toks) (o := .tup xs.reverse) (fun b ob z => Heap.get?_push_of_some _ z) (Nat.le_refl _) ?_, rfl, q _ (J.hok.fresh (Nat.le_refl _))⟩ (by rw [List.size_toArray]; omega)
  exact ⟨by rw [List.length_reverse]; exact hz, _, r.reverse, IsTup.new _ _⟩
section
variable {Z : Vz} {X : Cx} {e : Expr} {ρ : List AV}
theorem dpa_rev' {K : PySem.W.Frag} {H : Hp} {vs : List V} {ds : List PyData} (h : DpAll K H vs ds) : DpAll K H vs.reverse ds.reverse := dpa_rev h
theorem Dv.revT {ds : List PyData} {k : Nat} {p1 p2 p3 pos : Pos} (h : Dv Z X e ρ (.tuple ds)) : Dv Z X (.Subscript e (.Slice none none (some (.UnaryOp .USub (.Constant (.int 1) k p1) p2)) p3) pos) ρ (.tuple ds.reverse) := fun F σ H S Q q =>
  we_of (pe_revT we_pe) (h F σ H S _ fun v H2 d c e r => by
    subst e
    obtain ⟨a, xs, rfl, h1, h2⟩ := dp_tup r
    refine ⟨a, xs, rfl, Evl.ex_t cut_ex h1, fun p np => q _ _ _ (c.trans (Chg.of_ex (ex_new np))) rfl (.tup (.inl (.inl (cut_new fun h => S.domC c p h np))) (dpa_ex ((Kd.of_ex (ex_new np)).cut (Z := F) fun _ h => h) (dpa_rev h2)))⟩)
theorem Dn.revL {ds : List PyData} {k : Nat} {p1 p2 p3 pos : Pos} (h : Dv Z X e ρ (.list ds)) : Dn Z X (.Subscript e (.Slice none none (some (.UnaryOp .USub (.Constant (.int 1) k p1) p2)) p3) pos) ρ fun x => x = ds.reverse := fun F σ H S Q q =>
  we_of (pe_revL we_pe) (h F σ H S _ fun v H2 d c e r => by
    subst e
    obtain ⟨a, xs, rfl, h1, h2⟩ := dp_lst r
    exact ⟨a, xs, rfl, Evl.ex_l cut_ex h1, fun p np => q p _ _ _ (c.trans (Chg.of_ex (ex_new np))) (chg_none S c np) upd_same rfl (dpa_ex (ex_cut_new np) (dpa_rev h2))⟩)
end
end Hb

namespace Hb
open PySem PySem.Spec PyProof.Rows L2 RZ
open Evl (Ex)
theorem tk_len (d : Int) : ∀ (o : List Nat) (r : List Int) (w : Int) (f : List Row), (tk d o r w f).2.2.length ≤ f.length + o.length
  | [], r, w, f => by rw [tk_nil]; exact Nat.le_refl _
  | j :: o, r, w, f => by
    rw [tk_cons]
    by_cases c : 0 < (if at_ r j < w then at_ r j else w)
    · rw [if_pos c]
      refine Nat.le_trans (tk_len d o _ _ _) ?_
      rw [List.length_append]
      simp only [List.length_cons, List.length_nil]
      omega
    · rw [if_neg c]
      refine Nat.le_trans (tk_len d o _ _ _) ?_
      rw [List.length_cons]
      omega
theorem goC_len {ls : List Lot} (hl : ls.length ≤ 8) (d : Int) : ∀ (ws : List Int) (s : Nat) (r : List Int) (f : List Row), (goC ls d s ws r f).1.length ≤ f.length + 8 * ws.length
  | [], s, r, f => Nat.le_add_right _ _
  | w :: ws, s, r, f => by
    have h1 := tk_len d (ordN ls s d) r w []
    have h2 := ordN_len ls s d
    rw [List.length_nil] at h1
    rw [goC_cons, List.length_cons]
    split
    · have h3 := goC_len hl d ws (s + 1) (tk d (ordN ls s d) r w []).1 (f ++ (tk d (ordN ls s d) r w []).2.2)
      rw [List.length_append] at h3
      omega
    · show (f ++ (tk d (ordN ls s d) r w []).2.2).length ≤ _
      rw [List.length_append]
      omega
theorem goP_len {ls : List Lot} (hl : ls.length ≤ 8) : ∀ (pl : List Heat) (r : List Int) (f : List Row), (∀ h ∈ pl, h.2.length ≤ 5) → (goP ls pl r f).1.length ≤ f.length + 40 * pl.length
  | [], r, f, _ => Nat.le_add_right _ _
  | h :: pl, r, f, hp => by
    have h1 := goC_len hl h.1 h.2 0 r f
    have h5 := hp h List.mem_cons_self
    rw [goP_cons, List.length_cons]
    generalize goC ls h.1 0 h.2 r f = o at h1 ⊢
    obtain ⟨f', r', x⟩ := o
    simp only at h1
    cases x with
    | none =>
      have h2 := goP_len hl pl r' f' fun x hx => hp x (List.mem_cons_of_mem _ hx)
      show (goP ls pl r' f').1.length ≤ _
      omega
    | some x =>
      show f'.length ≤ _
      omega
theorem le_sumJ {g : List Row} (hp : ∀ x ∈ g, 0 < x.2.2) : ∀ {x : Row}, x ∈ g → x.2.2 ≤ sumJ x.2.1 g := by
  induction g with
  | nil => intro x h; cases h
  | cons y g ih =>
    intro x h
    have nn : 0 ≤ sumJ x.2.1 g := by
      rw [sumJ_G]
      exact sumG_pos fun z hz => hp z (List.mem_cons_of_mem _ hz)
    rw [sumJ_cons]
    rcases List.mem_cons.mp h with e | h
    · subst e
      rw [if_pos rfl]
      omega
    · have := ih (fun z hz => hp z (List.mem_cons_of_mem _ hz)) h
      have := hp y List.mem_cons_self
      split <;> omega
theorem rr_of {n : Nat} {ls : List Lot} {pl : List Heat} (L : LotsOk ls) (PL : PlOk n pl) (h : (goAll ls pl).2.2 = none) : RR n ls pl (goAll ls pl).1 ∧ ∀ (j : Nat) l, ls[j]? = some l → sumJ j (goAll ls pl).1 + at_ (goAll ls pl).2.1 j = l.amt := by
  have H := had_of PL.po L.pos h
  have hl := goP_len L.len pl (amts ls) [] fun x hx => by rw [PL.po.len x hx]; exact PL.n5
  have p8 := PL.len
  rw [List.length_nil] at hl
  have sj : ∀ (j : Nat) l, ls[j]? = some l → sumJ j (goAll ls pl).1 + at_ (goAll ls pl).2.1 j = l.amt := fun j l hj => by
    have := H.sj j
    rw [at_amts hj] at this
    omega
  refine ⟨⟨fun x hx => ?_, fun j l hj => ?_, H.want, by show (goP ls pl (amts ls) []).1.length ≤ 900; omega⟩, sj⟩
  · obtain ⟨h1, h2, l, h3, h4, h5, h6⟩ := H.row x hx
    refine ⟨h1, h2, ?_, l, h3, h4, h5, h6⟩
    have h7 := le_sumJ (fun z hz => (H.row z hz).2.1) hx
    have h8 := sj _ _ h3
    have h9 := H.rs.nn x.2.1
    have h10 := (L.ok l (List.mem_of_getElem? h3)).a1
    omega
  · have h8 := sj _ _ hj
    have h9 := H.rs.nn j
    omega
theorem RR.rev {n : Nat} {ls : List Lot} {pl : List Heat} {g : List Row} (R : RR n ls pl g) : RR n ls pl g.reverse :=
  ⟨fun x hx => R.row x (List.mem_reverse.mp hx), fun j l h => by rw [sumJ_G, sumG_rev, ← sumJ_G]; exact R.sj j l h, fun h hh s hs => by rw [sumG_rev]; exact R.want h hh s hs, by rw [List.length_reverse]; exact R.len⟩
theorem RR.sum {n : Nat} {ls : List Lot} {pl : List Heat} {g : List Row} (R : RR n ls pl g) (p : Row → Bool) : SumOk ((g.filter p).map fun x => x.2.2) := sumOk_of (fun y hy => by
  obtain ⟨x, hx, rfl⟩ := List.mem_map.mp hy
  have := R.row x (List.mem_filter.mp hx).1
  omega) (by
  rw [List.length_map]
  have := List.length_filter_le p g
  have := R.len
  omega)
section
variable {P : Program} {w : World} {K : PySem.W.Frag} {mg : Str → Option Value} {base : Heap} {Pt : Addr}
abbrev GHolds1 (P : Program) (w : World) (K : PySem.W.Frag) (mg : Str → Option Value) (base : Heap) (Pt : Addr) : Prop := ∀ (ls : List Lot) (pl : List Heat) (n : Nat) (g : List Row), LotsOk ls → PlOk n pl → RR n ls pl g → Fc P w K mg base Pt 6 "had_holds" p_had_holds [encLots ls, encPlan pl, .tuple [.str "had", .list (rowsD g)]] (fun d => d = .bool true)
theorem ok_ltaken (D : Df K mg "_law_taken_right" "_law_taken_right" s_law_taken_right p_law_taken_right) (T : Tx K mg)
    (gT : ∀ (ls : List Lot) (pl : List Heat) (n : Nat), LotsOk ls → PlOk n pl → (goAll ls pl).2.2 = none → Fc P w K mg base Pt 6 "taken" p_taken [encLots ls, encPlan pl] (fun x => x = .list (rowsD (goAll ls pl).1)))
    (gL : ∀ (ls : List Lot) (pl : List Heat) (n : Nat), LotsOk ls → PlOk n pl → (goAll ls pl).2.2 = none → Fc P w K mg base Pt 6 "left_of" p_left_of [encLots ls, encPlan pl] (fun x => x = .tuple (encL (goAll ls pl).2.1)))
    (gS : GLTotal P w K mg base Pt) (gP : GBin P w K mg base Pt 2 "_law_plus" p_law_plus fun n m => encP (n + m)) (gH : GHolds1 P w K mg base Pt) (ls : List Lot) (pl : List Heat) (n : Nat) (L : LotsOk ls) (PL : PlOk n pl) (h : (goAll ls pl).2.2 = none) :
    Fc P w K mg base Pt 7 "_law_taken_right" p_law_taken_right [encLots ls, encPlan pl] (fun d => d = .bool true) := by
  obtain ⟨R, sj⟩ := rr_of L PL h
  have rl := (had_of PL.po L.pos h).rs
  refine mkF D sc_law_taken_right rfl fun f cdv A outer s H E F0 hr => ?_
  refine Bk.par 2 3 (Da.c (Dw.fc (gT ls pl n L PL h) hr (Da.c (Dv.var 0 rfl) (Da.c (Dv.var 1 rfl) Da.nil))) (Da.c (Dw.fc (gL ls pl n L PL h) hr (Da.c (Dv.var 0 rfl) (Da.c (Dv.var 1 rfl) Da.nil))) Da.nil)) (fun ds e => ⟨_, _, e, ?_⟩) rfl sc_law_taken_right.nd (by decide) rfl
  generalize (goAll ls pl).1 = g at R sj ⊢
  generalize (goAll ls pl).2.1 = r' at sj rl ⊢
  refine Bk.for PassesOwn.never rfl (Wk.enumL (enc := encLot) (ls := ls) T.enum (Dv.var 0 rfl)) (Gt.two 4 5 rfl sc_law_taken_right.nd) (fun ds i ρ' => ∃ v4 v5 v6, ρ' = [.d (encLots ls), .d (encPlan pl), .d (.list (rowsD g)), .d (.tuple (encL r')), v4, v5, v6, .no, .no, .no, .no, .no, .no, .no]) (fun ds e => ⟨_, _, _, rfl⟩) ?_ ?_
  · rintro ds rfl i d ρ' hd ⟨v4, v5, v6, rfl⟩
    have hi : i < ls.length := by
      have := (List.getElem?_eq_some_iff.mp hd).1
      rw [List.length_map, List.length_range] at this
      exact this
    have hl := List.getElem?_eq_getElem hi
    rw [List.getElem?_map, List.getElem?_range hi] at hd
    replace hd := Option.some.inj hd
    simp only [getD_l0, getD_of hl] at hd
    subst hd
    generalize ls[i] = l at hl ⊢
    have Lo := L.ok l (List.mem_of_getElem? hl)
    have so := R.sum fun x => decide (x.2.1 = i)
    refine ⟨_, rfl, ?_⟩
    refine Bk.set 6 (Dw.fc (gS _ so) (hr.mono (by decide)) (Da.c (Dv.is (Dv.compE (own := [("_law_day", 7), ("_law_at", 11), ("_law_amount", 12)]) (qs := g) (enc := encRow) (kp := fun x => decide (x.2.1 = i)) (g := fun x => encP x.2.2) rfl sc_law_taken_right.nd (blkOk_by (N := n_law_taken_right) (sc := defScope s_law_taken_right) (by decide +kernel))
      (Wk.lstD (Dv.var 2 rfl)) (fun a _ b _ => encRow_inj a b) (is := [7, 11, 12]) (as := items3) (by decide) (by have := R.len; omega)
      (fun x hx => ⟨_, rfl, fun s H C cl fp => ⟨Gt.three 7 11 12 rfl sc_law_taken_right.nd, Ts.one (Dt.is (Dt.eq hr.units (Dv.var 11 rfl) (Dv.var 4 rfl)) (by show ((x.2.1 : Int) == (i : Int)) = _; rw [Bool.eq_iff_iff, beq_iff_eq, decide_eq_true_eq]; omega)), fun _ => Dv.var 12 rfl⟩⟩)) (by unfold encL; rw [List.map_map]; rfl)) Da.nil)) (fun d e => ?_) sc_law_taken_right.nd
    subst e
    have es : ((g.filter fun x => decide (x.2.1 = i)).map fun x => x.2.2).sum = sumJ i g := by rw [sumG_list, ← sumJ_G]
    rw [es]
    have s0 : 0 ≤ sumJ i g := by
      rw [sumJ_G]
      exact sumG_pos fun z hz => (R.row z hz).2.1
    have s1 := sj i l hl
    have s2 := rl.nn i
    have hir : i < r'.length := by
      rw [rl.len]
      exact hi
    refine Bk.skip (Dt.is (Dt.ne hr.units (Dw.fc (gP (sumJ i g) (at_ r' i) (by have := Lo.a1; omega) (by have := Lo.a1; omega)) (hr.mono (by decide)) (Da.c (Dv.var 6 rfl) (Da.c (Dv.ix (Dv.var 3 rfl) (Dv.var 4 rfl) (atI_nat (at_get hir))) Da.nil))) (Dv.ix (Dv.var 5 rfl) Dv.int)) ?_) ?_
    · show (!PyData.eqv (encP (sumJ i g + at_ r' i)) (encP l.amt)) = false
      rw [eqv_P, decide_eq_true s1]
      rfl
    · exact Bk.nil ⟨_, _, _, rfl⟩
  · rintro ds rfl ρ' ⟨v4, v5, v6, rfl⟩
    refine Bk.for PassesOwn.never rfl (Wk.tupD (ds := pl.map encHeat) (Dv.var 1 rfl)) (Gt.two 7 8 rfl sc_law_taken_right.nd) (fun ds i ρ' => ∃ v7 v8 v9 v10, ρ' = [.d (encLots ls), .d (encPlan pl), .d (.list (rowsD g)), .d (.tuple (encL r')), v4, v5, v6, v7, v8, v9, v10, .no, .no, .no]) (fun ds e => ⟨_, _, _, _, rfl⟩) ?_ ?_
    · rintro ds rfl i d ρ' hd ⟨v7, v8, v9, v10, rfl⟩
      rw [List.getElem?_map] at hd
      cases q : pl[i]? with
      | none => rw [q] at hd; cases hd
      | some ht =>
        rw [q] at hd
        cases hd
        have hm := List.mem_of_getElem? q
        have hn := PL.po.len ht hm
        refine ⟨_, rfl, ?_⟩
        refine Bk.for PassesOwn.never rfl (Wk.enumL (enc := encP) (ls := ht.2) T.enum (Dv.var 8 rfl)) (Gt.two 9 10 rfl sc_law_taken_right.nd) (fun ds k ρ' => ∃ v9 v10, ρ' = [.d (encLots ls), .d (encPlan pl), .d (.list (rowsD g)), .d (.tuple (encL r')), v4, v5, v6, .d (.int ht.1), .d (.tuple (encL ht.2)), v9, v10, .no, .no, .no]) (fun ds e => ⟨_, _, rfl⟩) ?_ ?_
        · rintro ds rfl k d ρ' hd ⟨v9, v10, rfl⟩
          have hk : k < ht.2.length := by
            have := (List.getElem?_eq_some_iff.mp hd).1
            rw [List.length_map, List.length_range] at this
            exact this
          rw [List.getElem?_map, List.getElem?_range hk] at hd
          replace hd := Option.some.inj hd
          subst hd
          have so := R.sum fun x => decide (x.1 = ht.1) && decide ((ls.getD x.2.1 l0).stuff = k)
          have want := R.want ht hm k (by omega)
          refine ⟨_, rfl, ?_⟩
          refine Bk.skip (Dt.is (Dt.ne hr.units (Dw.fc (gS _ so) (hr.mono (by decide)) (Da.c (Dv.is (Dv.compE (own := [("_law_on", 13), ("_law_at", 11), ("_law_amount", 12)]) (qs := g) (enc := encRow) (kp := fun x => decide (x.1 = ht.1) && decide ((ls.getD x.2.1 l0).stuff = k)) (g := fun x => encP x.2.2) rfl sc_law_taken_right.nd (blkOk_by (N := n_law_taken_right) (sc := defScope s_law_taken_right) (by decide +kernel))
            (Wk.lstD (Dv.var 2 rfl)) (fun a _ b _ => encRow_inj a b) (is := [13, 11, 12]) (as := items3) (by decide) (by have := R.len; omega)
            (fun x hx => ⟨_, rfl, fun s H C cl fp => ⟨Gt.three 13 11 12 rfl sc_law_taken_right.nd, Ts.one (Db.t (Db.is (Db.and (Dt.eq hr.units (Dv.var 13 rfl) (Dv.var 7 rfl)) fun _ => Db.and1 (Dt.eq hr.units (Dv.ix (Dv.ix (Dv.var 0 rfl) (Dv.var 11 rfl) (d := encLot (ls.getD x.2.1 l0)) (by
              obtain ⟨_, _, _, l, hl, _⟩ := R.row x hx
              rw [getD_of hl]
              exact atI_nat (by rw [List.getElem?_map, hl]; rfl))) Dv.int) (Dv.var 9 rfl))) (by
              show ((x.1 == ht.1) && ((ls.getD x.2.1 l0).stuff == (k : Int))) = _
              rw [Bool.eq_iff_iff, Bool.and_eq_true, Bool.and_eq_true, beq_iff_eq, beq_iff_eq, decide_eq_true_eq, decide_eq_true_eq]))), fun _ => Dv.var 12 rfl⟩⟩)) (by unfold encL; rw [List.map_map]; rfl)) Da.nil)) (Dv.var 10 rfl) (Sh.P _).ok (Sh.P _).ok) ?_) ?_
          · rw [sumG_list, eqv_P, want, decide_eq_true (show ht.2.getD k 0 = ht.2.getD k default from rfl)]
            rfl
          · exact Bk.nil ⟨_, _, rfl⟩
        · rintro ds rfl ρ' ⟨v9, v10, rfl⟩
          exact Bk.nil ⟨_, _, _, _, rfl⟩
    · rintro ds rfl ρ' ⟨v7, v8, v9, v10, rfl⟩
      refine Bk.ret (Dv.isB (Dw.fc (gH ls pl n g.reverse L PL R.rev) hr (Da.c (Dv.var 0 rfl) (Da.c (Dv.var 1 rfl) (Da.c (Dv.tup (Da.c Dv.str (Da.c (Dv.is (Dn.v (Dn.revL (Dv.var 2 rfl))) (by rw [← List.map_reverse])) Da.nil))) Da.nil)))) Dv.bl) fun d e => e
end
end Hb

namespace Hb
open PySem PySem.Spec PyProof.Rows L2 RZ
open Evl (Ex)
theorem cut_to {ds : List PyData} {k : Nat} (h : k ≤ ds.length) : cutD ds none (some (k : Int)) = ds.take k := by
  unfold cutD
  rw [HT.sIx_none, HT.sIx_nat, List.drop_zero, Nat.min_eq_left h, Nat.sub_zero]
theorem cut_from (ds : List PyData) (k : Nat) : cutD ds (some (k : Int)) none = ds.drop k := by
  unfold cutD
  rw [HT.sIx_none, HT.sIx_nat]
  by_cases h : k ≤ ds.length
  · rw [Nat.min_eq_left h, List.take_of_length_le (by rw [List.length_drop]; omega)]
  · rw [Nat.min_eq_right (by omega), List.drop_eq_nil_of_le (Nat.le_refl _), List.drop_eq_nil_of_le (by omega), List.take_nil]
theorem cut_last (ds : List PyData) : cutD ds none (some (-1)) = ds.take (ds.length - 1) := by
  unfold cutD
  rw [HT.sIx_none, List.drop_zero, Nat.sub_zero]
  congr 1
  unfold HT.sIx
  simp
  omega
section
variable {Z : Vz} {X : Cx} {e a b : Expr} {ρ : List AV}
theorem Dv.neg {i : Int} {pos : Pos} (h : Dv Z X e ρ (.int i)) : Dv Z X (.UnaryOp .USub e pos) ρ (.int (-i)) := fun F σ H S Q q =>
  we_of (pe_un un_neg we_pe) (h F σ H S _ fun v H2 d c e r => ⟨i, dp_int (by rw [← e]; exact r), q _ H2 _ c rfl (.int _)⟩)
end
open Classical in
noncomputable def wordOf (n : Nat) (ls : List Lot) (pl : List Heat) : Str := if HallAll n ls pl then "had" else "short"
theorem word_had {n : Nat} {ls : List Lot} {pl : List Heat} (h : HallAll n ls pl) : wordOf n ls pl = "had" := if_pos h
theorem word_short {n : Nat} {ls : List Lot} {pl : List Heat} (h : ¬ HallAll n ls pl) : wordOf n ls pl = "short" := if_neg h
section
variable {Z : Vz} {X : Cx} {a b : Expr} {ρ : List AV}
theorem Dv.had {n : Nat} {ls : List Lot} {pl : List Heat} {j : Nat} {p pos pc pos2 : Pos} (G : GHad X.prog X.w X.K X.mg X.base Z.tab) (hr : Room 6 X.A) (L : LotsOk ls) (PL : PlOk n pl) (ha : Dv Z X a ρ (encLots ls)) (hb : Dv Z X b ρ (encPlan pl)) (hg : Gl X "had_or_not" := by rfl)
    (he : starEach [a, b] X.env = (false, eval a X.env) :: starEach [b] X.env := by rfl) (he2 : starEach [b] X.env = (false, eval b X.env) :: starEach [] X.env := by rfl) (hpl : (backTo pos (starEach [b] X.env)).any (·.1) = false := by rfl) :
    Dv Z X (.Subscript (.Call (.Name "had_or_not" p) [a, b] [] pos) (.Constant (.int 0) j pc) pos2) ρ (.str (wordOf n ls pl)) :=
  Dw.ix (Dw.fc (G ls pl n L PL) hr (Da.c ha (Da.c hb Da.nil he2) he) hg (by decide) he hpl) Dv.int (fun da db h1 h2 => by
    have h2 : db = .int 0 := h2
    subst h2
    rcases h1 with ⟨h, _, e⟩ | ⟨h, s, S, _, _, _, e⟩
    · exact ⟨_, 0, _, .inl e, rfl, rfl, by rw [word_had h]⟩
    · exact ⟨_, 0, _, .inl e, rfl, rfl, by rw [word_short h]⟩)
end
theorem eqv_cons (a b : PyData) (as bs : List PyData) : PyData.eqv (.list (a :: as)) (.list (b :: bs)) = (PyData.eqv a b && PyData.eqv (.list as) (.list bs)) := by simp [PyData.eqv, PyData.eqvAll]
theorem Sh.word (k n : Nat) (ls : List Lot) (pl : List Heat) : Sh k (.str (wordOf n ls pl)) := by
  by_cases h : HallAll n ls pl
  · rw [word_had h]
    exact Sh.str k (by decide +kernel)
  · rw [word_short h]
    exact Sh.str k (by decide +kernel)
theorem Sh.two (a b : PyData) (h1 : Sh 0 a) (h2 : Sh 0 b) : Sh 1 (.list [a, b]) := Sh.lst fun d hd => by
  simp only [List.mem_cons, List.not_mem_nil, or_false] at hd
  rcases hd with rfl | rfl
  · exact h1
  · exact h2
theorem PlOk.sub {n : Nat} {pl pl' : List Heat} (P : PlOk n pl) (h : pl'.Sublist pl) : PlOk n pl' :=
  ⟨P.po.sub h, P.n1, P.n5, Nat.le_trans h.length_le P.len, fun x hx => P.d0 x (h.subset hx), fun x hx => P.w1 x (h.subset hx)⟩
theorem LotsOk.sub {ls ls' : List Lot} (L : LotsOk ls) (h : ls'.Sublist ls) : LotsOk ls' := ⟨Nat.le_trans h.length_le L.len, fun x hx => L.ok x (h.subset hx)⟩
theorem LotsOk.rev {ls : List Lot} (L : LotsOk ls) : LotsOk ls.reverse := ⟨by rw [List.length_reverse]; exact L.len, fun x hx => L.ok x (List.mem_reverse.mp hx)⟩
theorem LotsIn.oks {n : Nat} {ls : List Lot} (L : LotsIn n ls) : LotsOk ls := ⟨L.1, fun l hl => (L.2 l hl).ok⟩
theorem hall_nil {n : Nat} {ls : List Lot} (L : ∀ l ∈ ls, 0 < l.amt) : HallAll n ls [] := fun s hs S => by
  have := there_nn (s := s) (S := S) L
  show wantOn s S [] ≤ _
  have e : wantOn s S [] = 0 := rfl
  omega
theorem PlOk.more {n : Nat} {pl : List Heat} {x : Heat} (P : PlOk n (pl ++ [x])) (h1 : (pl ++ [x]).length < 8) (h2 : x.1 < 30) : PlOk n ((pl ++ [x]) ++ [(x.1 + 1, x.2)]) := by
  have mx : x ∈ pl ++ [x] := List.mem_append_right _ List.mem_cons_self
  refine ⟨⟨List.pairwise_append.mpr ⟨P.po.rise, List.pairwise_singleton _ _, fun a ha b hb => ?_⟩, fun h hh => ?_, fun h hh => ?_⟩, P.n1, P.n5, by rw [List.length_append]; simp only [List.length_cons, List.length_nil]; omega, fun h hh => ?_, fun h hh => ?_⟩
  · rw [List.mem_singleton.mp hb]
    show a.1 < x.1 + 1
    rcases List.mem_append.mp ha with z | z
    · have := (List.pairwise_append.mp P.po.rise).2.2 a z x List.mem_cons_self
      omega
    · rw [List.mem_singleton.mp z]
      omega
  · rcases List.mem_append.mp hh with z | z
    · exact P.po.len h z
    · rw [List.mem_singleton.mp z]
      exact P.po.len x mx
  · rcases List.mem_append.mp hh with z | z
    · exact P.po.nn h z
    · rw [List.mem_singleton.mp z]
      exact P.po.nn x mx
  · rcases List.mem_append.mp hh with z | z
    · exact P.d0 h z
    · rw [List.mem_singleton.mp z]
      have := P.d0 x mx
      show 1 ≤ x.1 + 1 ∧ x.1 + 1 ≤ 30
      omega
  · rcases List.mem_append.mp hh with z | z
    · exact P.w1 h z
    · rw [List.mem_singleton.mp z]
      exact P.w1 x mx
end Hb

namespace Hb
open PySem PySem.Spec PyProof.Rows L2 RZ
open Evl (Ex)
section
variable {P : Program} {w : World} {K : PySem.W.Frag} {mg : Str → Option Value} {base : Heap} {Pt : Addr}
abbrev GALots (P : Program) (w : World) (K : PySem.W.Frag) (mg : Str → Option Value) (base : Heap) (Pt : Addr) : Prop := ∀ ls, LotsOk ls → Fc P w K mg base Pt 4 "are_lots" p_are_lots [encLots ls] (fun d => d = .bool true)
abbrev GIPlan (P : Program) (w : World) (K : PySem.W.Frag) (mg : Str → Option Value) (base : Heap) (Pt : Addr) : Prop := ∀ (n : Nat) pl, PlOk n pl → Fc P w K mg base Pt 6 "is_plan" p_is_plan [encPlan pl] (fun d => d = .bool true)
abbrev GChanged (P : Program) (w : World) (K : PySem.W.Frag) (mg : Str → Option Value) (base : Heap) (Pt : Addr) : Prop := ∀ (n : Nat) (ls : List Lot) (pl : List Heat), LotsIn n ls → PlOk n pl → Fp P w K mg base Pt 7 "_law_changed_right" p_law_changed_right [encLots ls, encPlan pl, .str (wordOf n ls pl)] (fun d => d = .bool true)
theorem ok_lchanged (D : Df K mg "_law_changed_right" "_law_changed_right" s_law_changed_right p_law_changed_right) (T : Tx K mg) (gD : GDraw P w K mg base Pt) (gP : GBin P w K mg base Pt 2 "_law_plus" p_law_plus fun n m => encP (n + m))
    (gA : GALots P w K mg base Pt) (gI : GIPlan P w K mg base Pt) (gH : GHad P w K mg base Pt) : GChanged P w K mg base Pt := fun n ls pl LI PL => by
  have L := LI.oks
  refine mkN D sc_law_changed_right rfl fun f cdv A outer s H E F0 p hr => ?_
  have p8 := PL.len
  have l8 := L.len
  refine Bk.set 4 (Dw.fp 0 rfl (gD ((pl.length : Int) + 1) (by omega) (by omega)) (hr.mono (by decide)) (Da.c (Dv.is (Dv.add (Dv.len T.len (Dv.var 2 rfl)) Dv.int) (by rw [List.length_map])) Da.nil)) (fun d hd => ?_) sc_law_changed_right.nd
  obtain ⟨z, rfl, z1, z2⟩ := hd
  obtain ⟨k, rfl⟩ := Int.eq_ofNat_of_zero_le z1
  have fsub : (pl.take k ++ pl.drop (k + 1)).Sublist pl := by
    have h1 : (pl.take k ++ pl.drop (k + 1)).Sublist (pl.take k ++ pl.drop k) := (List.Sublist.refl _).append (by
      rw [← List.drop_drop (i := 1) (j := k)]
      exact List.drop_sublist _ _)
    rw [List.take_append_drop] at h1
    exact h1
  refine Bk.par 5 6 (Da.c (Dv.is (Dv.cat (Dv.sl (Dv.var 2 rfl) Do.no (Do.so (Dv.var 4 rfl))) (Dv.sl (Dv.var 2 rfl) (Do.so (Dv.add (Dv.var 4 rfl) Dv.int)) Do.no) (by
      unfold cutD
      rw [List.length_take, List.length_take, List.length_drop, List.length_drop, List.length_map]
      omega)) (show _ = encPlan (pl.take k ++ pl.drop (k + 1)) by
      rw [cut_to (by rw [List.length_map]; omega), show ((k : Int) + 1) = ((k + 1 : Nat) : Int) by omega, cut_from, ← List.map_take, ← List.map_drop, ← List.map_append])) (Da.c (Dv.is (Dv.revT (Dv.var 1 rfl)) (show _ = encLots ls.reverse by rw [← List.map_reverse])) Da.nil)) (fun ds e => ⟨_, _, e, ?_⟩) rfl sc_law_changed_right.nd (by decide) rfl
  refine Bk.set 7 (Dv.var 1 rfl) (fun d e => ?_) sc_law_changed_right.nd
  subst e
  have F1 : PlOk n (pl.take k ++ pl.drop (k + 1)) := PL.sub fsub
  have H1 : HallAll n ls pl → HallAll n ls (pl.take k ++ pl.drop (k + 1)) := fun h => hall_fewer PL.po fsub h
  generalize pl.take k ++ pl.drop (k + 1) = fw at F1 H1 ⊢
  have key : ∀ (gr : List Lot) (v8 v9 : AV), LotsOk gr → (HallAll n ls pl → HallAll n gr pl) → Bk (vz2 p Pt) (vz2 p Pt).has F0 H (bodyX P w K mg base n_law_changed_right "_law_changed_right" s_law_changed_right f cdv A outer s H E) ((defBody s_law_changed_right).drop 4)
      [.pen p, .d (encLots ls), .d (encPlan pl), .d (.str (wordOf n ls pl)), .d (.int (k : Nat)), .d (encPlan fw), .d (encLots ls.reverse), .d (encLots gr), v8, v9, .no, .no] (fun _ => False) (Rt K fun _ d => d = .bool true) := fun gr v8 v9 GL GH => by
    refine Bk.skip (Db.t (Db.is (Db.or (Dt.isnotB (Dw.fc (gA gr GL) (hr.mono (by decide)) (Da.c (Dv.var 7 rfl) Da.nil)) Dv.bl) fun _ => Db.or1 (Dt.isnotB (Dw.fc (gI n fw F1) hr (Da.c (Dv.var 5 rfl) Da.nil)) Dv.bl)) rfl)) ?_
    refine Bk.set 10 (Dn.v (Dn.lst (Da.c (Dv.had (n := n) gH hr L F1 (Dv.var 1 rfl) (Dv.var 5 rfl)) (Da.c (Dv.had (n := n) gH hr GL PL (Dv.var 7 rfl) (Dv.var 2 rfl)) Da.nil)) fun ds e => by rw [e]; simp)) (fun d e => ?_) sc_law_changed_right.nd
    subst e
    have shH : Sh 0 (.str "had") := Sh.str 0 (by decide +kernel)
    have shS : Sh 0 (.str "short") := Sh.str 0 (by decide +kernel)
    by_cases hA : HallAll n ls pl
    · have e1 := word_had hA
      refine Bk.skip (Db.t (Db.is (Db.or (p := false) (Db.t (Db.is (Db.and (Dt.eq hr.units (Dv.var 3 rfl) Dv.str (Sh.word 0 n ls pl).ok shH.ok) fun _ => Db.and1 (Dt.ne hr.units (Dv.var 10 rfl) (Dn.v (Dn.lst (Da.c Dv.str (Da.c Dv.str Da.nil)) fun ds e => by rw [e]; simp)) (Sh.two _ _ (Sh.word 0 n ls fw) (Sh.word 0 n gr pl)).ok (Sh.two _ _ shH shH).ok)) (by
          rw [eqv_cons, eqv_cons, eqv_nilL, word_had (H1 hA), word_had (GH hA), e1, eqv_str]
          decide +kernel))) fun _ =>
        Db.or1 (Dt.ne hr.units (Dv.had (n := n) gH hr L.rev PL (Dv.var 6 rfl) (Dv.var 2 rfl)) (Dv.var 3 rfl) (Sh.word 0 n ls.reverse pl).ok (Sh.word 0 n ls pl).ok)) (by
          rw [e1, word_had (hall_rev.mpr hA), eqv_str]
          decide +kernel))) ?_
      refine Bk.ifT (Dt.is (Dt.eq hr.units (Dv.var 3 rfl) Dv.str (Sh.word 0 n ls pl).ok shH.ok) (by rw [e1, eqv_str]; decide +kernel)) ?_
      exact Bk.ret Dv.bl fun d e => e
    · have e1 := word_short hA
      have hpl : ∃ p0 x, pl = p0 ++ [x] := by
        rcases List.eq_nil_or_concat pl with e | ⟨p0, x, e⟩
        · subst e
          exact absurd (hall_nil L.pos) hA
        · exact ⟨p0, x, by rw [e, List.concat_eq_append]⟩
      obtain ⟨p0, x, rfl⟩ := hpl
      have lastE : atI ((p0 ++ [x]).map encHeat) (-1) = some (encHeat x) := by
        rw [List.map_append]
        exact atI_last _ _
      refine Bk.skip (Db.t (Db.is (Db.or (p := false) (Db.t (Db.is (Db.and (p := false) (q := false) (Dt.is (Dt.eq hr.units (Dv.var 3 rfl) Dv.str (Sh.word 0 n ls (p0 ++ [x])).ok shH.ok) (by rw [e1, eqv_str]; decide +kernel)) fun z => nomatch z) rfl)) fun _ =>
        Db.or1 (Dt.ne hr.units (Dv.had (n := n) gH hr L.rev PL (Dv.var 6 rfl) (Dv.var 2 rfl)) (Dv.var 3 rfl) (Sh.word 0 n ls.reverse (p0 ++ [x])).ok (Sh.word 0 n ls (p0 ++ [x])).ok)) (by
          rw [e1, word_short fun h => hA (hall_rev.mp h), eqv_str]
          decide +kernel))) ?_
      refine Bk.skip (Dt.is (Dt.eq hr.units (Dv.var 3 rfl) Dv.str (Sh.word 0 n ls (p0 ++ [x])).ok shH.ok) (by rw [e1, eqv_str]; decide +kernel)) ?_
      have fin : ∀ mo : List Heat, PlOk n mo → ¬ HallAll n ls mo → Bk (vz2 p Pt) (vz2 p Pt).has F0 H (bodyX P w K mg base n_law_changed_right "_law_changed_right" s_law_changed_right f cdv A outer s H E) ((defBody s_law_changed_right).drop 9)
          [.pen p, .d (encLots ls), .d (encPlan (p0 ++ [x])), .d (.str (wordOf n ls (p0 ++ [x]))), .d (.int (k : Nat)), .d (encPlan fw), .d (encLots ls.reverse), .d (encLots gr), v8, v9, .d (.list [.str (wordOf n ls fw), .str (wordOf n gr (p0 ++ [x]))]), .d (encPlan mo)] (fun _ => False) (Rt K fun _ d => d = .bool true) := fun mo MO HM => by
        have tsub : (ls.take (ls.length - 1)).Sublist ls := List.take_sublist _ _
        have HT1 : ¬ HallAll n (ls.take (ls.length - 1)) (p0 ++ [x]) := fun h => hA (by
          have := hall_front (b := ls.drop (ls.length - 1)) (fun l hl => L.pos l (List.mem_of_mem_drop hl)) h
          rw [List.take_append_drop] at this
          exact this)
        refine Bk.ret (Dv.eq hr.units (Dn.v (Dn.lst (Da.c (Dv.had (n := n) gH hr (L.sub tsub) PL (Dv.is (Dv.sl (Dv.var 1 rfl) Do.no (Do.so (Dv.neg Dv.int))) (show _ = encLots (ls.take (ls.length - 1)) by rw [show (-(1 : Int)) = -1 from rfl, cut_last, List.length_map, ← List.map_take])) (Dv.var 2 rfl)) (Da.c (Dv.had (n := n) gH hr L MO (Dv.var 1 rfl) (Dv.var 11 rfl)) Da.nil)) fun ds e => by rw [e]; simp))
          (Dn.v (Dn.lst (Da.c Dv.str (Da.c Dv.str Da.nil)) fun ds e => by rw [e]; simp)) (Sh.two _ _ (Sh.word 0 n _ _) (Sh.word 0 n _ _)).ok (Sh.two _ _ shS shS).ok) fun d e => ?_
        rw [e, eqv_cons, eqv_cons, eqv_nilL, word_short HT1, word_short HM, eqv_str]
        congr 1
      have lastI : ∀ {X : Cx} {ρ : List AV} {b : Expr} {pos : Pos} {Z : Vz}, Dv Z X b ρ (encPlan (p0 ++ [x])) → ∀ {p1 p2 : Pos} {j : Nat}, Dv Z X (.Subscript b (.UnaryOp .USub (.Constant (.int 1) j p1) p2) pos) ρ (encHeat x) := by
        intro X ρ b pos Z hb p1 p2 j
        exact Dv.ix hb (Dv.neg Dv.int) lastE
      by_cases cc : (p0 ++ [x]).length < 8 ∧ x.1 < 30
      · refine Bk.set 11 (Dv.ifT (Db.t (Db.is (Db.and (Dt.lt (Dv.len T.len (Dv.var 2 rfl)) Dv.int) fun _ => Db.and1 (Dt.lt (Dv.ix (lastI (Dv.var 2 rfl)) Dv.int) Dv.int)) (by
          rw [List.length_map, decide_eq_true (by omega), decide_eq_true cc.2]
          rfl))) (Dv.is (Dv.cat (Dv.var 2 rfl) (Dv.tup (Da.c (Dv.tup (Da.c (Dv.add (Dv.ix (lastI (Dv.var 2 rfl)) Dv.int) Dv.int) (Da.c (Dv.ix (lastI (Dv.var 2 rfl)) Dv.int) Da.nil))) Da.nil)) (by rw [List.length_map]; simp only [List.length_cons, List.length_nil]; omega)) (show _ = encPlan ((p0 ++ [x]) ++ [(x.1 + 1, x.2)]) by rw [encPlan, List.map_append (l₁ := p0 ++ [x])]; rfl))) (fun d e => ?_) sc_law_changed_right.nd
        subst e
        have MO := PL.more cc.1 cc.2
        exact fin _ MO fun h => hA (hall_fewer MO.po (List.sublist_append_left _ _) h)
      · refine Bk.set 11 (Dv.ifF (Db.t (Db.is (Db.and (Dt.lt (Dv.len T.len (Dv.var 2 rfl)) Dv.int) fun _ => Db.and1 (Dt.lt (Dv.ix (lastI (Dv.var 2 rfl)) Dv.int) Dv.int)) (by
          rw [List.length_map, Bool.and_eq_false_iff]
          by_cases c2 : (p0 ++ [x]).length < 8
          · exact .inr (decide_eq_false fun z => cc ⟨c2, z⟩)
          · exact .inl (decide_eq_false (by omega))))) (Dv.var 2 rfl)) (fun d e => ?_) sc_law_changed_right.nd
        subst e
        exact fin _ PL hA
  cases hls : ls with
  | nil =>
    rw [← hls]
    refine Bk.skip (Dt.is (Dt.ne hr.units (Dv.var 1 rfl) (Dv.tup Da.nil) (Sh.lots ls).ok) (by rw [eqv_nilT, hls]; rfl)) ?_
    exact key ls _ _ L fun h => h
  | cons l0' t0' =>
    rw [← hls]
    have nz : 0 < ls.length := by rw [hls, List.length_cons]; omega
    refine Bk.ifT (Dt.is (Dt.ne hr.units (Dv.var 1 rfl) (Dv.tup Da.nil) (Sh.lots ls).ok) (by rw [eqv_nilT, hls]; rfl)) ?_
    refine Bk.set 8 (Dw.fp 0 rfl (gD (ls.length : Int) (by omega) (by omega)) (hr.mono (by decide)) (Da.c (Dv.is (Dv.len T.len (Dv.var 1 rfl)) (by rw [List.length_map])) Da.nil)) (fun d hd => ?_) sc_law_changed_right.nd
    obtain ⟨y, rfl, y1, y2⟩ := hd
    obtain ⟨j, rfl⟩ := Int.eq_ofNat_of_zero_le y1
    have hj : j < ls.length := by omega
    have hl := List.getElem?_eq_getElem hj
    generalize ls[j] = l at hl
    have Lo := L.ok l (List.mem_of_getElem? hl)
    have Li := LI.2 l (List.mem_of_getElem? hl)
    have spl : ls = ls.take j ++ l :: ls.drop (j + 1) := by rw [← drop_at hl, List.take_append_drop]
    refine Bk.set 9 (Dv.ix (Dv.var 1 rfl) (Dv.var 8 rfl) (d := encLot l) (atI_nat (by rw [List.getElem?_map, hl]; rfl))) (fun d e => ?_) sc_law_changed_right.nd
    subst e
    refine Bk.set 9 (Dv.tup (Da.c (Dv.ix (Dv.var 9 rfl) Dv.int) (Da.c (Dw.fc (gP l.amt 3 (by have := Lo.a0; have := Lo.a1; omega) (by omega)) (hr.mono (by decide)) (Da.c (Dv.ix (Dv.var 9 rfl) Dv.int) (Da.c (Dv.is (Dv.tup (Da.c Dv.int (Da.c Dv.int Da.nil))) (show _ = encP 3 by rfl)) Da.nil))) (Da.c (Dv.ix (Dv.var 9 rfl) Dv.int) (Da.c (Dv.ix (Dv.var 9 rfl) Dv.int) Da.nil))))) (fun d e => ?_) sc_law_changed_right.nd
    subst e
    refine Bk.set 7 (Dv.is (Dv.cat (Dv.cat (Dv.sl (Dv.var 1 rfl) Do.no (Do.so (Dv.var 8 rfl))) (Dv.tup (Da.c (Dv.var 9 rfl) Da.nil)) (by unfold cutD; rw [List.length_take, List.length_drop, List.length_map]; simp only [List.length_cons, List.length_nil]; omega)) (Dv.sl (Dv.var 1 rfl) (Do.so (Dv.add (Dv.var 8 rfl) Dv.int)) Do.no) (by
        unfold cutD
        rw [List.length_append, List.length_take, List.length_drop, List.length_take, List.length_drop, List.length_map]
        simp only [List.length_cons, List.length_nil]
        omega)) (show _ = encLots (ls.take j ++ { l with amt := l.amt + 3 } :: ls.drop (j + 1)) by
        rw [cut_to (by rw [List.length_map]; omega), show ((j : Int) + 1) = ((j + 1 : Nat) : Int) by omega, cut_from, ← List.map_take, ← List.map_drop, encLots, List.map_append, List.append_assoc]
        rfl)) (fun d e => ?_) sc_law_changed_right.nd
    subst e
    refine Bk.nil (key (ls.take j ++ { l with amt := l.amt + 3 } :: ls.drop (j + 1)) _ _ ⟨?_, fun x hx => ?_⟩ fun h => ?_)
    · have e1 := congrArg List.length spl
      rw [List.length_append, List.length_cons] at e1 ⊢
      omega
    · rcases List.mem_append.mp hx with hx | hx
      · exact L.ok x (List.mem_of_mem_take hx)
      · rcases List.mem_cons.mp hx with rfl | hx
        · exact ⟨Lo.s0, Lo.s1, by have := Lo.a0; show 0 < l.amt + 3; omega, by have := Li.am; show l.amt + 3 ≤ 1000; omega, Lo.f0, Lo.fl, Lo.l1⟩
        · exact L.ok x (List.mem_of_mem_drop hx)
    · rw [spl] at h
      exact hall_greater (by decide) h
end
end Hb

namespace Hb
open PySem PySem.Spec PyProof.Rows L2 RZ
open Evl (Ex)
theorem rgI_D (i j : Int) : irng i (j - i).toNat = (rgI i j).map .int := by
  unfold irng rgI
  rw [List.map_map]
  rfl
theorem eqv_bool (a b : Bool) : PyData.eqv (.bool a) (.bool b) = (a == b) := by simp [PyData.eqv]
section
variable {P : Program} {w : World} {K : PySem.W.Frag} {mg : Str → Option Value} {base : Heap} {Pt : Addr}
def MostPre (ds : List PyData) : Prop := ∃ (ls : List Lot) (c : List Int) (n : Nat) (i : Int), ds = [encLots ls, .tuple (encL c), .int i] ∧ LotsOk ls ∧ ChOk n c ∧ 1 ≤ i ∧ i ≤ 20
abbrev GLMost (P : Program) (w : World) (K : PySem.W.Frag) (mg : Str → Option Value) (base : Heap) (Pt : Addr) : Prop := Kk P w K mg base 7 "_law_most_right" p_law_most_right (SpP K Pt MostPre fun _ d => d = .bool true)
theorem ok_lmost (D : Df K mg "_law_most_right" "_law_most_right" s_law_most_right p_law_most_right) (T : Tx K mg) (gM : GMost P w K mg base Pt) (gH : GHad P w K mg base Pt) : GLMost P w K mg base Pt := by
  refine mkW D sc_law_most_right (fun ds ⟨_, _, _, _, e, _⟩ => by rw [e]; rfl) fun ds ⟨ls, c, n, i, e, L, C, i1, i2⟩ f cdv A outer s H E F0 hr => ?_
  subst e
  refine Bk.set 3 (Dw.fc (gM ls c n i (i + 4) L C i1 (by omega) (by omega) (by omega)) hr (Da.c (Dv.var 0 rfl) (Da.c (Dv.var 1 rfl) (Da.c (Dv.var 2 rfl) (Da.c (Dv.add (Dv.var 2 rfl) Dv.int) Da.nil))))) (fun d hd => ?_) sc_law_most_right.nd
  obtain ⟨S, ⟨m1, m2, m3⟩, rfl⟩ := hd
  rw [show i + 4 + 1 = i + 5 by omega] at m1 m3
  have sub := subs_sub _ _ m1
  have r5 : (rgI i (i + 5)).length = 5 := by
    rw [rgI_len]
    omega
  have l5 : S.length ≤ 5 := by
    rw [← r5]
    exact sub.length_le
  have dIn : ∀ d ∈ rgI i (i + 5), 1 ≤ d ∧ d ≤ 30 := fun d hd => by have := rgI_mem hd; omega
  have P1 : PlOk n (planOf c S) := planOk_of C ((rgI_rise _ _).sublist sub) (by omega) fun d hd => dIn d (sub.subset hd)
  have P2 : PlOk n (planOf c (rgI i (i + 5))) := planOk_of C (rgI_rise _ _) (by omega) dIn
  have cE : ∀ S : List Int, (S.map fun d => encHeat (d, c)) = (planOf c S).map encHeat := fun S => by
    rw [List.map_map]
    rfl
  refine Bk.set 4 (Dv.tupleOf T.tuple (Dv.is (Dv.compE (own := [("_law_day", 6)]) (qs := S) (enc := .int) (kp := fun _ => true) (g := fun d => encHeat (d, c)) rfl sc_law_most_right.nd (blkOk_by (N := n_law_most_right) (sc := defScope s_law_most_right) (by decide +kernel)) (Wk.tupD (Dv.var 3 rfl)) (fun a _ b _ => int_inj a b) (is := [6]) (as := as1) (by decide) (by omega)
    (fun d hd => ⟨_, rfl, fun s H C cl fp => ⟨Gt.name 6 sc_law_most_right.nd, Ts.nil, fun _ => Dv.tup (Da.c (Dv.var 6 rfl) (Da.c (Dv.var 1 rfl) Da.nil))⟩⟩)) (by rw [List.filter_eq_self.mpr fun _ _ => rfl, cE]))) (fun d e => ?_) sc_law_most_right.nd
  subst e
  have hS : HallAll n ls (planOf c S) := (had_iff P1.po L.pos).mp m2
  refine Bk.skip (Dt.is (Dt.ne hr.units (Dv.had (n := n) gH (hr.mono (by decide)) L P1 (Dv.var 0 rfl) (Dv.var 4 rfl)) Dv.str (Sh.word 0 n _ _).ok (Sh.str 0 (by decide +kernel)).ok) (by rw [word_had hS, eqv_str]; decide +kernel)) ?_
  refine Bk.set 5 (Dv.tupleOf T.tuple (Dv.is (Dv.compE (own := [("_law_day", 6)]) (qs := rgI i (i + 5)) (enc := .int) (kp := fun _ => true) (g := fun d => encHeat (d, c)) rfl sc_law_most_right.nd (blkOk_by (N := n_law_most_right) (sc := defScope s_law_most_right) (by decide +kernel)) ((Wk.rng2 T.range (Dv.var 2 rfl) (Dv.add (Dv.var 2 rfl) Dv.int) (by omega)).mono fun x e => by rw [e, rgI_D]) (fun a _ b _ => int_inj a b) (is := [6]) (as := as1) (by decide) (by omega)
    (fun d hd => ⟨_, rfl, fun s H C cl fp => ⟨Gt.name 6 sc_law_most_right.nd, Ts.nil, fun _ => Dv.tup (Da.c (Dv.var 6 rfl) (Da.c (Dv.var 1 rfl) Da.nil))⟩⟩)) (by rw [List.filter_eq_self.mpr fun _ _ => rfl, cE]))) (fun d e => ?_) sc_law_most_right.nd
  subst e
  refine Bk.ret (Dv.eq hr.units (Dv.eq hr.units (Dv.had (n := n) gH (hr.mono (by decide)) L P2 (Dv.var 0 rfl) (Dv.var 5 rfl)) Dv.str (Sh.word 0 n _ _).ok (Sh.str 0 (by decide +kernel)).ok) (Dv.eq hr.units (Dv.len T.len (Dv.var 3 rfl)) Dv.int)) fun d e => ?_
  rw [e, eqv_bool, List.length_map]
  congr 1
  by_cases hE : HallAll n ls (planOf c (rgI i (i + 5)))
  · have h5 := m3 _ (subs_self _) ((had_iff P2.po L.pos).mpr hE)
    have e5 : S.length = 5 := by omega
    rw [word_had hE, e5, eqv_str]
    decide +kernel
  · have n5 : S.length ≠ 5 := fun z => hE (by
      have e : S = rgI i (i + 5) := sub.eq_of_length (by rw [z, r5])
      rw [← e]
      exact hS)
    rw [word_short hE, eqv_str, show ((Str.ofString "short" : Str) == Str.ofString "had") = false by decide +kernel]
    show (false == ((S.length : Int) == 5)) = true
    rw [show ((S.length : Int) == 5) = false from beq_eq_false_iff_ne.mpr (by omega)]
    rfl
theorem ok_cell_at (D : Df K mg "_law_cell_at" "_law_cell_at" s_law_cell_at p_law_cell_at) (T : Tx K mg) (ns : List Int) : Fc P w K mg base Pt 1 "_law_cell_at" p_law_cell_at [.list (ns.map .int), .int 0] AnyI := by
  refine mkF D sc_law_cell_at rfl fun f cdv A outer s H E F0 hr => ?_
  cases ns with
  | nil =>
    refine Bk.skip (Dt.is (Dt.lt (Dv.var 1 rfl) (Dv.lenL T.len (Dv.var 0 rfl))) rfl) ?_
    exact Bk.ret Dv.int fun d e => ⟨_, e⟩
  | cons z zs =>
    refine Bk.ifT (Dt.is (Dt.lt (Dv.var 1 rfl) (Dv.lenL T.len (Dv.var 0 rfl))) (decide_eq_true (by rw [List.length_map, List.length_cons]; omega))) ?_
    exact Bk.ret (Dv.ixL (Dv.var 0 rfl) (Dv.var 1 rfl) (d := .int z) (atI_nat (j := 0) rfl)) fun d e => ⟨z, e⟩
end
end Hb

namespace Hb
open PySem PySem.Spec PyProof.Rows L2 RZ
open Evl (Ex)
/-! ### a def that hands back a new list -/
def SpL (K : PySem.W.Frag) (Pt : Addr) (pre : List PyData → Prop) (post : List PyData → Prop) : Sp := fun vs H Q _ => ∃ (F : Addr → Prop) (ds : List PyData), F Pt ∧ TabAt H Pt ∧ (∀ a, F a → H a ≠ none) ∧ DpAll K (cut H F) vs ds ∧ pre ds ∧
  ∀ (p : Addr) (xs : List V) H' es, Chg (vz1 Pt) H H' → H p = none → H' p = some (.lst xs) → post es → DpAll K (cut H' fun b => F b ∨ b = p) xs es → Q (.ref p) H'
def Rn (K : PySem.W.Frag) (B : Hp) (φ : List PyData → Prop) : RT := fun v F H ρ => ∃ (p : Addr) (xs : List V) (es : List PyData), v = .ref p ∧ B p = none ∧ H p = some (.lst xs) ∧ φ es ∧ DpAll K (cut H fun b => F b ∨ b = p) xs es
section
variable {Z : Vz} {Y F0 : Addr → Prop} {B : Hp} {X : Cx} {e : Expr} {es : List Expr} {ρ : List AV} {sts rest : List Stmt} {N : List AV → Prop} {R : RT}
theorem Bk.retN {φ : List PyData → Prop} {pos : Pos} (he : Dn Z X e ρ φ) : Bk Z Y F0 B X (.Return (some e) pos :: rest) ρ N (Rn X.K B φ) := Bk.one fun F σ H S g D n r =>
  ws_of (ps_ret we_pe) (he F σ H S _ fun a xs H2 ds c na l p q => r (.ref a) F σ H2 ρ (S.chg c) (g.chg c) ⟨a, xs, ds, rfl, fresh_B S g na, l, p, q⟩)
theorem Dn.callL {k : Nat} {x : Str} {ps : List Str} {pre : List PyData → Prop} {post : List PyData → Prop} {φ : List PyData → Prop} {p pos : Pos} (G : Kn X k x ps (SpL X.K Z.tab pre post)) (hr : Room k X.A) (ha : Da Z X (e :: es) ρ φ) (hpre : ∀ ds, φ ds → pre ds)
    (hg : Gl X x := by rfl) (hdb : (x == ("__debug__" : Str)) = false := by decide) (he : starEach (e :: es) X.env = (false, eval e X.env) :: starEach es X.env := by rfl) (hpl : (backTo pos (starEach es X.env)).any (·.1) = false := by rfl) :
    Dn Z X (.Call (.Name x p) (e :: es) [] pos) ρ post := fun F σ H S Q q => by
  obtain ⟨f, fd, ok, hm, kp, b⟩ := G.ex
  exact we_of (pe_call ok hr hg hm kp b .nil pass0 wa_pa hdb he hpl) (ha F σ H S _ fun vs H2 ds c pd r => by
    rw [List.append_nil]
    have S2 := S.chg c
    exact ⟨F, ds, S2.zf _ Z.ht, S2.tb, S2.dom, r, hpre ds pd, fun v xs H' es x nv hv hp rd => q v xs H' es (c.trans (x.lift (fun a (h : a = Z.tab) => by rw [h]; exact Z.ht) fun a (h : a = Z.tab) => .inr (by rw [h]; exact S2.tb))) (kd_none c.1 (fun z => S2.new_out nv (S.zf _ z)) nv) hv hp rd⟩)
end
section
variable {P : Program} {w : World} {K : PySem.W.Frag} {mg : Str → Option Value} {base : Heap} {Pt : Addr} {x qual : Str} {st : Stmt} {N ps : List Str} {k : Nat}
/-- from a def's Fun: its body against what it hands back -/
theorem fnR {f : Addr} {fd : FuncData} {pre : List PyData → Prop} {sp : Sp} (RR : (Addr → Prop) → Hp → RT) (F : Fun K x qual st f fd) (S : FnScope N ps (defScope st)) (hlen : ∀ ds, pre ds → ds.length = ps.length)
    (hsp : ∀ vs H Q E, sp vs H Q E → ∃ (F0 : Addr → Prop) (ds : List PyData), F0 Pt ∧ TabAt H Pt ∧ (∀ a, F0 a → H a ≠ none) ∧ DpAll K (cut H F0) vs ds ∧ pre ds ∧ ∀ v F' H' ρ', (∀ a, F0 a → F' a) → Chg (vz1 Pt) H H' → RR F0 H v F' H' ρ' → Q v H')
    (hb : ∀ (ds : List PyData), pre ds → ∀ (cdv : Value) (A : Around) (outer : List Env) (s : Shared) (H : Hp) (E : XK) (F0 : Addr → Prop), Room k (bodyX P w K mg base N qual st f cdv A outer s H E).A →
      Bk (vz1 Pt) (vz1 Pt).has F0 H (bodyX P w K mg base N qual st f cdv A outer s H E) (defBody st) (startA N (ds.map .d)) (fun _ => False) (RR F0 H)) : FnOk P w K mg base CX0 (k + 1) f fd ps sp := by
  refine F.ok S (fun vs H Q E h => ?_) (fun cdv A outer s H vs Q E hr h => ?_)
  · obtain ⟨F0, ds', _, _, _, h1, h2, _⟩ := hsp vs H Q E h
    rw [dpa_len h1, hlen ds' h2]
  · obtain ⟨F0, ds', hPt, htb, hd, h1, h2, hq⟩ := hsp vs H Q E h
    have nop : ∀ (i : Nat) (a : Addr), ((ds'.map AV.d)[i]?.bind AV.addr) = some a → False := fun i a e => by
      rw [List.getElem?_map] at e
      cases q : ds'[i]? with
      | none => rw [q] at e; cases e
      | some d => rw [q] at e; cases e
    refine ⟨_, wb_pss, hb ds' h2 cdv A outer s H E F0 hr F0 (L2.start N vs) H (start_ok (fun a (z : a = Pt) => by rw [z]; exact ⟨hPt, .inr htb⟩) htb hd (by rw [dpa_len h1, List.length_map]) (d_inj ds') fun i av e => ?_)
      ⟨fun a z => z, hd, Kd.refl, fun a h => h, fun a h => .inl h, fun i a e => ?_, fun a (z : a = Pt) => by rw [z]; exact hPt, fun a (z : a = Pt) => by rw [z]; exact hd Pt hPt, fun a z => ⟨fun h => h, fun h => h⟩⟩
      _ (fun _ _ _ _ _ _ _ z => z.elim) fun v F' σ' H' ρ' s1 g1 h3 => hq v F' H' ρ' g1.sub ⟨g1.kept, g1.vk⟩ h3⟩
    · rw [List.getElem?_map] at e
      cases q : ds'[i]? with
      | none => rw [q] at e; cases e
      | some d =>
        rw [q] at e
        cases e
        obtain ⟨v, e1, e2⟩ := dpa_get h1 q
        exact ⟨v, e1, v, rfl, e2⟩
    · exfalso
      unfold startA at e
      by_cases hi : i < (ds'.map AV.d).length
      · rw [List.getElem?_append_left hi] at e
        exact nop i a e
      · rw [List.getElem?_append_right (by omega), List.getElem?_replicate] at e
        split at e <;> cases e
abbrev GPen (P : Program) (w : World) (K : PySem.W.Frag) (mg : Str → Option Value) (base : Heap) (Pt : Addr) : Prop := Kk P w K mg base 1 "_law_pen_of" p_law_pen_of (SpL K Pt (fun ds => ∃ i : Int, ds = [.int i]) fun es => ∃ x y z : Int, es = [.int x, .int y, .int z])
theorem ok_pen_of (D : Df K mg "_law_pen_of" "_law_pen_of" s_law_pen_of p_law_pen_of) (T : Tx K mg) : GPen P w K mg base Pt := by
  obtain ⟨f, fd, F, hm, bi⟩ := D.ex
  refine ⟨f, fd, fnR (Pt := Pt) (pre := fun ds => ∃ i : Int, ds = [.int i]) (fun _ B => Rn K B fun es => ∃ x y z : Int, es = [.int x, .int y, .int z]) F sc_law_pen_of (fun ds ⟨i, e⟩ => by rw [e]; rfl) (fun vs H Q E h => ?_) (fun ds ⟨i, e⟩ cdv A outer s H E F0 hr => ?_), hm, F.kp, bi⟩
  · obtain ⟨F0, ds, h1, h2, h3, h4, h5, h6⟩ := h
    refine ⟨F0, ds, h1, h2, h3, h4, h5, fun v F' H' ρ' hs c ⟨p, xs, es, e, hb, hl, hp, hd⟩ => ?_⟩
    rw [e]
    exact h6 p xs H' es c hb hl hp (dpa_ex (cut_sub fun b hb => hb.imp (hs b) fun z => z) hd)
  · subst e
    refine Bk.set 1 (Dv.max2 rfl T.max (Dv.var 0 rfl) (Dv.sub Dv.int (Dv.var 0 rfl))) (fun d e => ?_) sc_law_pen_of.nd
    subst e
    refine Bk.retN ((Dn.lst (Da.c (Dv.var 1 rfl) (Da.c (Dv.intB T.int (Dv.ge (Dv.var 1 rfl) (Dv.pow Dv.int Dv.int ⟨by decide, by decide, by decide⟩))) (Da.c (Dv.mod (Dv.var 1 rfl) Dv.int (by decide)) Da.nil))) fun ds e => by rw [e]; simp).mono fun es e => ⟨_, _, _, e⟩)
end
/-! ### from a list of one's own to the pen -/
theorem StOk.weak {a Pt : Addr} {F : Addr → Prop} {K : PySem.W.Frag} {H : Hp} {σ : L2.St} {ρ ρ2 : List AV} (S : StOk (vz2 a Pt) F K H σ ρ) (hl : ρ2.length = ρ.length) (h : ∀ (i : Nat) av, ρ2[i]? = some av → av = .no ∨ ∃ x, av = .d x ∧ ρ[i]? = some (.d x)) : StOk (vz1 Pt) F K H σ ρ2 := by
  refine ⟨fun b (z : b = Pt) => S.pen b (.inr z), S.tb, S.dom, by rw [S.len, hl], fun i j b e _ => ?_, fun i av e => ?_⟩
  · exfalso
    cases q : ρ2[i]? with
    | none => rw [q] at e; cases e
    | some av =>
      rw [q] at e
      rcases h i av q with rfl | ⟨x, rfl, _⟩
      · cases e
      · cases e
  · rcases h i av e with rfl | ⟨x, rfl, e2⟩
    · have hi := (List.getElem?_eq_some_iff.mp e).1
      have hs : i < σ.length := by
        rw [S.len, ← hl]
        exact hi
      exact ⟨_, List.getElem?_eq_getElem hs, trivial⟩
    · exact S.slot i _ e2
theorem Bk.zoom {Pt : Addr} {F0 : Addr → Prop} {B : Hp} {X : Cx} {sts : List Stmt} {ρ : List AV} {N : List AV → Prop} {φ : PyData → Prop} (i m : Nat) {a : Addr} {x y z : Int} {sc : PyData} (hi : ρ[i]? = some (.own a [.int x, .int y, .int z])) (only : ∀ (j : Nat) b, (ρ[j]?.bind AV.addr) = some b → j = i) (ba : B a = none)
    (hN : N (.d sc :: List.replicate m .no)) (k : ∀ F0' B', Bk (vz2 a Pt) (vz2 a Pt).has F0' B' X sts (ρ.set i (.pen a)) (fun ρ' => ρ'[0]? = some (.d sc) ∧ ρ'.length = m + 1) (Rt X.K fun _ d => φ d)) :
    Bk (vz1 Pt) (vz1 Pt).has F0 B X sts ρ N (Rt X.K fun _ d => φ d) := fun F σ H S g D n r => by
  obtain ⟨ov, h1, h2, h3, h4, xs, h5, h6⟩ := S.slot i _ hi
  have ex : xs = [V.int x, V.int y, V.int z] := dpa_ints (ns := [x, y, z]) h6
  subst ex
  have hl := (List.getElem?_eq_some_iff.mp hi).1
  have pa : PenAt H a := ⟨x, y, z, h5⟩
  have noAddr : ∀ (j : Nat) (b : Addr), ((ρ.set i (.pen a))[j]?.bind AV.addr) = some b → False := fun j b e => by
    by_cases q : i = j
    · subst q
      rw [List.getElem?_set_self hl] at e
      cases e
    · rw [List.getElem?_set_ne q] at e
      exact q (only j b e).symm
  have PtF : F Pt := S.zf Pt rfl
  have S2 : StOk (vz2 a Pt) F X.K H σ (ρ.set i (.pen a)) := by
    refine ⟨fun b zb => zb.elim (fun e => by rw [e]; exact ⟨h3, .inl pa⟩) fun e => S.pen b e, S.tb, S.dom, by simp [S.len], fun j l b e _ => (noAddr j b e).elim, fun j av e => ?_⟩
    by_cases q : i = j
    · subst q
      rw [List.getElem?_set_self hl] at e
      cases e
      exact ⟨ov, h1, h2, .inl rfl, pa⟩
    · rw [List.getElem?_set_ne q] at e
      obtain ⟨w, q1, q2⟩ := S.slot j av e
      refine ⟨w, q1, ?_⟩
      cases av with
      | no => trivial
      | d x => exact q2
      | own b es' => exact absurd (only j b (by rw [e]; rfl)).symm q
      | pen p => exact ⟨q2.1, .inr q2.2.1, q2.2.2⟩
      | dic b kvs => exact absurd (only j b (by rw [e]; rfl)).symm q
      | fd b kvs => exact q2
  have g2 : Gr (vz2 a Pt).has F H (vz2 a Pt) F H (ρ.set i (.pen a)) :=
    ⟨fun _ h => h, S.dom, Kd.refl, fun _ h => h, fun _ h => .inl h, fun j b e => (noAddr j b e).elim, fun b zb => zb.elim (fun e => by rw [e]; exact h3) fun e => by rw [e]; exact PtF, fun b zb => zb.elim (fun e => by rw [e]; exact S.dom a h3) fun e => by rw [e]; exact S.dom Pt PtF, fun _ _ => ⟨fun h => h, fun h => h⟩⟩
  have back : ∀ {F' : Addr → Prop} {H' : Hp} {ρ' ρ2 : List AV}, Gr (vz2 a Pt).has F H (vz2 a Pt) F' H' ρ' → (∀ (j : Nat) (b : Addr), (ρ2[j]?.bind AV.addr) = some b → False) → Gr (vz1 Pt).has F0 B (vz1 Pt) F' H' ρ2 := fun {F' H' ρ' ρ2} g1 na => by
    have bn : ∀ b, H b = none → B b = none := fun b hb => by
      cases q : B b with
      | none => rfl
      | some o =>
        by_cases hy : (vz1 Pt).has b
        · exact absurd hb (S.dom b (g.yf b hy))
        · rw [g.kept b o hy q] at hb
          cases hb
    refine ⟨fun _ h => h, g.d0, fun b o ny hb => ?_, fun b h => g1.sub b (g.sub b h), fun b h => (g1.new b h).elim (g.new b) fun e => .inr (bn b e), fun j b e => (na j b e).elim, fun b h => g1.sub b (g.yf b h), g.yb, fun b zb => ⟨fun h => (g1.vk b (.inr zb)).1 ((g.vk b zb).1 h), fun h => (g1.vk b (.inr zb)).2 ((g.vk b zb).2 h)⟩⟩
    have nba : b ≠ a := fun q => by
      rw [q, ba] at hb
      cases hb
    exact g1.kept b o (fun zb => zb.elim nba fun e => ny e) (g.kept b o ny hb)
  have nr : ∀ (q : Nat) (j : Nat) (b : Addr), ((List.replicate q AV.no)[j]?.bind AV.addr) = some b → False := fun q j b e => by
    rw [List.getElem?_replicate] at e
    split at e <;> cases e
  refine k F H F σ H S2 g2 D (fun F' σ' H' ρ' s1 g1 xx ⟨e0, el⟩ => n F' σ' H' (.d sc :: List.replicate m .no) (s1.weak (by rw [el, List.length_cons, List.length_replicate]) fun j av e => ?_) (back g1 fun j b e => ?_) xx hN) fun v F' σ' H' ρ' s1 g1 q => r v F' σ' H' (List.replicate ρ'.length .no) (s1.weak (by rw [List.length_replicate]) fun j av e => ?_) (back g1 (nr _)) q
  · cases j with
    | zero =>
      cases e
      exact .inr ⟨sc, rfl, e0⟩
    | succ j =>
      rw [List.getElem?_cons_succ, List.getElem?_replicate] at e
      split at e
      · exact .inl (Option.some.inj e).symm
      · cases e
  · cases j with
    | zero => cases e
    | succ j =>
      rw [List.getElem?_cons_succ] at e
      exact nr m j b e
  · rw [List.getElem?_replicate] at e
    split at e
    · exact .inl (Option.some.inj e).symm
    · cases e
end Hb

namespace Hb
open PySem PySem.Spec PyProof.Rows L2 RZ
open Evl (Ex)
section
variable {P : Program} {w : World} {K : PySem.W.Frag} {mg : Str → Option Value} {base : Heap} {Pt : Addr}
abbrev GHolds2 (P : Program) (w : World) (K : PySem.W.Frag) (mg : Str → Option Value) (base : Heap) (Pt : Addr) : Prop := ∀ (ls : List Lot) (pl : List Heat) (n s : Nat) (S : List Int), LotsOk ls → PlOk n pl → s < n → S ∈ subs (pl.map (·.1)) → tooMuch ls pl s S = true → Fc P w K mg base Pt 6 "had_holds" p_had_holds [encLots ls, encPlan pl, .tuple [.str "short", .int s, intsD S]] (fun d => d = .bool true)
abbrev GLTaken (P : Program) (w : World) (K : PySem.W.Frag) (mg : Str → Option Value) (base : Heap) (Pt : Addr) : Prop := ∀ (ls : List Lot) (pl : List Heat) (n : Nat), LotsOk ls → PlOk n pl → (goAll ls pl).2.2 = none → Fc P w K mg base Pt 7 "_law_taken_right" p_law_taken_right [encLots ls, encPlan pl] (fun d => d = .bool true)
def LawPre (ds : List PyData) : Prop := ∃ ns : List Int, ds = [.list (ns.map .int)]
theorem ok_law {f : Addr} {fd : FuncData} (F : Fun K "law" "law" s_law f fd) (T : Tx K mg) (gC : ∀ ns : List Int, Fc P w K mg base Pt 1 "_law_cell_at" p_law_cell_at [.list (ns.map .int), .int 0] AnyI) (gPen : GPen P w K mg base Pt) (gD : GDraw P w K mg base Pt) (gM : GLMade P w K mg base Pt)
    (gLots : GLots P w K mg base Pt) (gPlan : GPlan P w K mg base Pt) (gH : GHad P w K mg base Pt) (gH1 : GHolds1 P w K mg base Pt) (gH2 : GHolds2 P w K mg base Pt) (gCh : GChanged P w K mg base Pt) (gT : GLTaken P w K mg base Pt) (gMo : GLMost P w K mg base Pt) :
    FnOk P w K mg base CX0 8 f fd p_law (SpP K Pt LawPre fun _ d => d = .bool true) := by
  refine fnR (Pt := Pt) (pre := LawPre) (fun _ _ => Rt K fun _ d => d = .bool true) F sc_law (fun ds ⟨ns, e⟩ => by rw [e]; rfl) (fun vs H Q E h => ?_) (fun ds ⟨ns, e⟩ cdv A outer s H E F0 hr => ?_)
  · obtain ⟨F0, ds, h1, h2, h3, h4, h5, h6⟩ := h
    exact ⟨F0, ds, h1, h2, h3, h4, h5, fun v F' H' ρ' hs c ⟨d, e, hd⟩ => h6 v H' d c e (dp_ex (cut_sub hs) hd)⟩
  subst e
  refine Bk.for PassesOwn.never rfl (Wk.lst (φ := fun ds => ∀ d ∈ ds, AnyI d) (Dw.mono (Dn.w (Dn.cat (Dn.l (Dn.lst (φ := fun ds => ∃ d r, ds = d :: r ∧ AnyI d ∧ r = []) (Da.cons (Dw.fc (gC ns) (hr.mono (by decide)) (Da.c (Dv.var 0 rfl) (Da.c Dv.int Da.nil))) Da.nil) fun ds ⟨d, r, e, _, e2⟩ => by rw [e, e2]; simp)) (Dn.l (Dn.sl (Dv.var 0 rfl) (Do.so Dv.int) (Do.so Dv.int)))
    fun ds es ⟨d, r, e, _, e2⟩ e3 => by
      rw [e, e2, e3]
      have h : ∀ ds : List PyData, (cutD ds (some 1) (some 3)).length ≤ 3 := fun ds => by
        unfold cutD
        rw [List.length_take]
        have h3 : HT.sIx ds.length ds.length (some 3) ≤ 3 := by
          have := HT.sIx_nat ds.length ds.length 3
          have e : HT.sIx ds.length ds.length (some 3) = min 3 ds.length := this
          omega
        omega
      have := h (ns.map .int)
      simp only [List.length_cons, List.length_nil]
      omega)) fun d ⟨ds, ⟨d1, d2, ⟨z, r, e1, z1, e2⟩, e3, e4⟩, e⟩ => ⟨ds, fun x hx => by
      rw [e4, e1, e2] at hx
      rcases List.mem_append.mp hx with hx | hx
      · rw [List.mem_singleton.mp hx]
        exact z1
      · rw [e3] at hx
        unfold cutD at hx
        obtain ⟨y, _, rfl⟩ := List.mem_map.mp (List.mem_of_mem_drop (List.mem_of_mem_take hx))
        exact ⟨y, rfl⟩, e⟩)) (Gt.name 1 sc_law.nd) (fun ds i ρ' => ∃ v1, (v1 = .no ∨ ∃ x, v1 = .d x) ∧ ρ' = .d (.list (ns.map .int)) :: v1 :: List.replicate 8 .no) (fun ds e => ⟨.no, .inl rfl, rfl⟩) ?_ ?_
  · rintro ds hds i d ρ' hd ⟨v1, hv1, rfl⟩
    obtain ⟨cell, rfl⟩ := hds d (List.mem_of_getElem? hd)
    refine ⟨_, rfl, ?_⟩
    refine Bk.setN 2 (Dn.callL gPen (hr.mono (by decide)) (Da.c (Dv.var 1 rfl) Da.nil) fun ds e => ⟨cell, e⟩) (fun a es ba he => ?_) sc_law.nd
    obtain ⟨x1, x2, x3, rfl⟩ := he
    refine Bk.zoom (φ := fun d => d = .bool true) (sc := .list (ns.map .int)) 2 9 rfl (fun j b e => ?_) ba ⟨.no, .inl rfl, rfl⟩ fun F0' B' => ?_
    · match j with
      | 0 => cases e
      | 1 => cases e
      | 2 => rfl
      | j + 3 =>
        exfalso
        have e : ((List.replicate 7 AV.no)[j]?.bind AV.addr) = some b := e
        rw [List.getElem?_replicate] at e
        split at e <;> cases e
    show Bk (vz2 a Pt) (vz2 a Pt).has F0' B' (bodyX P w K mg base n_law "law" s_law f cdv A outer s H E) _ [.d (.list (ns.map .int)), .d (.int cell), .pen a, .no, .no, .no, .no, .no, .no, .no] _ _
    refine Bk.set 3 (Dw.addIn (j := 1) (lo := 0) (hi := 3) Dv.int (Dw.fp 2 rfl (gD 3 (by decide) (by decide)) (hr.mono (by decide)) (Da.c Dv.int Da.nil))) (fun d hd => ?_) sc_law.nd
    obtain ⟨z, rfl, z1, z2⟩ := hd
    obtain ⟨n, rfl⟩ := Int.eq_ofNat_of_zero_le (show 0 ≤ z by omega)
    have n1 : 1 ≤ n := by omega
    have n3 : n ≤ 3 := by omega
    refine Bk.par 4 5 (Da.cons (Dw.fp 2 rfl (gLots n n1 n3) (hr.mono (by decide)) (Da.c (Dv.var 3 rfl) Da.nil)) (Da.cons (Dw.fp 2 rfl (gPlan n n1 n3) (hr.mono (by decide)) (Da.c (Dv.var 3 rfl) Da.nil)) Da.nil)) (fun ds hd => ?_) rfl sc_law.nd (by decide) rfl
    obtain ⟨d1, r1, e1, ⟨ls, LI, f1⟩, d2, r2, e2, ⟨pl, PL, f2⟩, e3⟩ := hd
    refine ⟨encLots ls, encPlan pl, by rw [e1, e2, e3, f1, f2], ?_⟩
    have L := LI.oks
    refine Bk.for PassesOwn.never rfl (Wk.lst (φ := fun ds => ds = [encPlan pl, encPlan (pl.take 2)]) (Dw.mono (Dn.v (Dn.lst (Da.c (Dv.var 5 rfl) (Da.c (Dv.sl (Dv.var 5 rfl) Do.no (Do.so Dv.int)) Da.nil)) fun ds e => by rw [e]; simp)) fun d e => ⟨_, rfl, by
      rw [e]
      congr 2
      show [PyData.tuple (cutD (pl.map encHeat) none (some 2))] = [encPlan (pl.take 2)]
      congr 2
      unfold cutD
      rw [HT.sIx_none, List.drop_zero, Nat.sub_zero, show HT.sIx (pl.map encHeat).length (pl.map encHeat).length (some 2) = min 2 (pl.map encHeat).length from HT.sIx_nat _ _ 2, List.map_take]
      by_cases h : 2 ≤ (pl.map encHeat).length
      · rw [Nat.min_eq_left h]
      · rw [Nat.min_eq_right (by omega), List.take_of_length_le (Nat.le_refl _), List.take_of_length_le (by omega)]⟩)) (Gt.name 6 sc_law.nd)
      (fun ds i ρ' => ∃ v6 v7, ρ' = [.d (.list (ns.map .int)), .d (.int cell), .pen a, .d (.int (n : Nat)), .d (encLots ls), .d (encPlan pl), v6, v7, .no, .no]) (fun ds e => ⟨_, _, rfl⟩) ?_ ?_
    · rintro ds rfl i d ρ' hd ⟨v6, v7, rfl⟩
      have hq : ∃ q, PlOk n q ∧ d = encPlan q := by
        match i, hd with
        | 0, hd => exact ⟨pl, PL, (Option.some.inj hd).symm⟩
        | 1, hd => exact ⟨pl.take 2, PL.sub (List.take_sublist _ _), (Option.some.inj hd).symm⟩
        | i + 2, hd => cases hd
      obtain ⟨q, Q, rfl⟩ := hq
      refine ⟨_, rfl, ?_⟩
      refine Bk.set 7 (Dw.fc (gH ls q n L Q) (hr.mono (by decide)) (Da.c (Dv.var 4 rfl) (Da.c (Dv.var 6 rfl) Da.nil))) (fun d hp => ?_) sc_law.nd
      rcases hp with ⟨hA, hn, rfl⟩ | ⟨hA, s0, S0, s1, s2, s3, rfl⟩
      · have RRx := (rr_of L Q hn).1
        refine Bk.skip (Db.t (Db.is (Db.or (Dt.isnotB (Dw.fc (gH1 ls q n _ L Q RRx) (hr.mono (by decide)) (Da.c (Dv.var 4 rfl) (Da.c (Dv.var 6 rfl) (Da.c (Dv.var 7 rfl) Da.nil)))) Dv.bl) fun _ => Db.or1 (Dt.not (Dt.val (Dw.fp 2 rfl (gCh n ls q LI Q) hr (Da.c (Dv.var 4 rfl) (Da.c (Dv.var 6 rfl) (Da.c (Dv.is (Dv.ix (Dv.var 7 rfl) Dv.int) (by rw [word_had hA])) Da.nil))))))) rfl)) ?_
        refine Bk.skip (Db.t (Db.is (Db.and (Dt.eq hr.units (Dv.ix (Dv.var 7 rfl) Dv.int) Dv.str (Sh.str 0 (by decide +kernel)).ok (Sh.str 0 (by decide +kernel)).ok) fun _ => Db.and1 (Dt.not (Dt.val (Dw.fc (gT ls q n L Q hn) hr (Da.c (Dv.var 4 rfl) (Da.c (Dv.var 6 rfl) Da.nil)))))) (by rw [eqv_str]; decide +kernel))) ?_
        exact Bk.nil ⟨_, _, rfl⟩
      · refine Bk.skip (Db.t (Db.is (Db.or (Dt.isnotB (Dw.fc (gH2 ls q n s0 S0 L Q s1 s2 s3) (hr.mono (by decide)) (Da.c (Dv.var 4 rfl) (Da.c (Dv.var 6 rfl) (Da.c (Dv.var 7 rfl) Da.nil)))) Dv.bl) fun _ => Db.or1 (Dt.not (Dt.val (Dw.fp 2 rfl (gCh n ls q LI Q) hr (Da.c (Dv.var 4 rfl) (Da.c (Dv.var 6 rfl) (Da.c (Dv.is (Dv.ix (Dv.var 7 rfl) Dv.int) (by rw [word_short hA])) Da.nil))))))) rfl)) ?_
        refine Bk.skip (Db.t (Db.is (Db.and (p := false) (q := false) (Dt.is (Dt.eq hr.units (Dv.ix (Dv.var 7 rfl) Dv.int) Dv.str (Sh.str 0 (by decide +kernel)).ok (Sh.str 0 (by decide +kernel)).ok) (by rw [eqv_str]; decide +kernel)) fun z => nomatch z) rfl)) ?_
        exact Bk.nil ⟨_, _, rfl⟩
    · rintro ds rfl ρ' ⟨v6, v7, rfl⟩
      refine Bk.set 8 (Dw.tupleOf T.tuple (φ := fun ds => ∃ c : List Int, ChOk n c ∧ ds = encL c) (Dw.mono (Dn.w (Dn.comp (own := [("_law_stuff", 9)]) (keep := fun _ => true) (ψ := fun _ e => PIn 0 18 e) rfl sc_law.nd (blkOk_by (N := n_law) (sc := defScope s_law) (by decide +kernel)) (Wk.rng1 T.range (φ := fun m => m = (n : Int)) (Dw.mono (Dv.var 3 rfl) fun d e => ⟨n, rfl, e⟩) (fun m hm => by omega)) (is := [9]) (as := as1) (by decide)
        (fun ds ⟨m, hm, e⟩ => ⟨by rw [e, irng_len]; omega, fun d hd => ⟨_, rfl, fun s H C cl fp => ⟨Gt.name 9 sc_law.nd, Ts.nil, fun _ => Dw.mono (Dw.made (lo := 0) (hi := 4) gM (hr.mono (by decide)) (by decide) (by decide) (Dw.fp 2 rfl (gD 4 (by decide) (by decide)) (hr.mono (by decide)) (Da.c Dv.int Da.nil)) (Dw.mono (Dw.addIn (j := 1) (lo := 0) (hi := 2) Dv.int (Dw.fp 2 rfl (gD 2 (by decide) (by decide)) (hr.mono (by decide)) (Da.c Dv.int Da.nil))) fun d ⟨z, e, z1, z2⟩ => ⟨z, e, by omega, by omega⟩)) fun d ⟨z, e, z1, z2⟩ => ⟨z, e, by omega, by omega⟩⟩⟩⟩))) fun d ⟨out, ⟨ds, ⟨m, hm, e2⟩, r⟩, e⟩ => ?_)) (fun d hd => ?_) sc_law.nd
      · obtain ⟨c, h1, h2, h3⟩ := outs_of (enc := encP) (p := fun w => 0 ≤ w ∧ w ≤ 18) (fun _ _ ⟨z, e, z1, z2⟩ => ⟨z, ⟨z1, z2⟩, e⟩) r
        refine ⟨out, ⟨c, ⟨?_, n1, by omega, fun w hw => by have := h2 w hw; omega⟩, h1⟩, e⟩
        rw [h3, List.filter_eq_self.mpr fun _ _ => rfl, e2, irng_len]
        omega
      · obtain ⟨ds, ⟨c, C, rfl⟩, rfl⟩ := hd
        refine Bk.skip (Dt.is (Dt.not (Dt.val (Dw.call gMo hr (Da.cons (Dv.var 4 rfl) (Da.cons (Dv.var 8 rfl) (Da.cons (Dw.addIn (j := 1) (lo := 0) (hi := 20) Dv.int (Dw.fp 2 rfl (gD 20 (by decide) (by decide)) (hr.mono (by decide)) (Da.c Dv.int Da.nil))) Da.nil)))
          (fun ds ⟨a1, r1, e1, g1, a2, r2, e2, g2, a3, r3, e3, ⟨z, g3, z1, z2⟩, e4⟩ => ⟨ls, c, n, z, by rw [e1, e2, e3, e4, g1, g2, g3], L, C, by omega, by omega⟩) (fun ds d _ h => h)))) rfl) ?_
        exact Bk.nil ⟨rfl, rfl⟩
  · rintro ds hds ρ' ⟨v1, hv1, rfl⟩
    exact Bk.ret Dv.bl fun d e => e
end
end Hb

/-! the end (printed by gen_z.py) -/
namespace Hb
open PySem PySem.Spec PyProof.Rows L2 RZ
open Evl (Ex)
/-- what the top has left of a def -/
structure Stands (K : PySem.W.Frag) (x : Str) (st : Stmt) : Prop where
  ex : ∃ (f : Addr) (oc : Value) (od an : Option Addr) (kV doc pm cd ct : Value) (osl : Array (Option Value)), PySem.W.nsIn K mainGlobals x = some (some (.ref f)) ∧ K.lookup f = some ⟨oc, od, .func (PySem.W.fnOf x x (defArgs st) (defBody st) (defScope st) .none kV doc pm an cd ct), osl⟩ ∧ PySem.W.codeIn K cd x = true ∧ PySem.W.keepIn K (.ref f) = true
theorem Stands.of {K : PySem.W.Frag} {x : Str} {st : Stmt} {f : Addr} {oc : Value} {od an : Option Addr} {kV doc pm cd ct : Value} {osl : Array (Option Value)} (a : PySem.W.nsIn K mainGlobals x = some (some (.ref f))) (l : K.lookup f = some ⟨oc, od, .func (PySem.W.fnOf x x (defArgs st) (defBody st) (defScope st) .none kV doc pm an cd ct), osl⟩)
    (c : PySem.W.codeIn K cd x = true) (k : PySem.W.keepIn K (.ref f) = true) : Stands K x st := ⟨f, oc, od, an, kV, doc, pm, cd, ct, osl, a, l, c, k⟩
theorem Stands.df {K : PySem.W.Frag} {x : Str} {st : Stmt} {h : Heap} {mg : Str → Option Value} {ps : List Str} (S : Stands K x st) (X : K.In h) (G : h.Ns mainGlobals mg)
    (b : ∀ (kV doc pm : Value) (an : Option Addr) (cdv ct : Value) (us : List Value), us.length = ps.length → bindArgs (PySem.W.fnOf x x (defArgs st) (defBody st) (defScope st) .none kV doc pm an cdv ct) ⟨us, []⟩ = pure (ps.zip us)) : Df K mg x x st ps := by
  obtain ⟨f, oc, od, an, kV, doc, pm, cd, ct, osl, a, l, c, k⟩ := S.ex
  have F := fun_mk (st := st) l c k
  exact ⟨f, _, F, PySem.W.mg_of X G a, F.binds b⟩
structure StandsC (K : PySem.W.Frag) (c : Addr) : Prop where
  ex : ∃ (f : Addr) (oc : Value) (od an : Option Addr) (kV doc pm ct : Value) (osl : Array (Option Value)), PySem.W.nsIn K mainGlobals "sets_of" = some (some (.ref f)) ∧ K.lookup f = some ⟨oc, od, .func (PySem.W.fnOf "sets_of" "sets_of" (defArgs s_sets_of) (defBody s_sets_of) (defScope s_sets_of) .none kV doc pm an (.ref c) ct), osl⟩ ∧ PySem.W.codeIn K (.ref c) "sets_of" = true ∧ PySem.W.keepIn K (.ref f) = true
theorem StandsC.of {K : PySem.W.Frag} {f c : Addr} {oc : Value} {od an : Option Addr} {kV doc pm ct : Value} {osl : Array (Option Value)} (a : PySem.W.nsIn K mainGlobals "sets_of" = some (some (.ref f))) (l : K.lookup f = some ⟨oc, od, .func (PySem.W.fnOf "sets_of" "sets_of" (defArgs s_sets_of) (defBody s_sets_of) (defScope s_sets_of) .none kV doc pm an (.ref c) ct), osl⟩)
    (e : PySem.W.codeIn K (.ref c) "sets_of" = true) (k : PySem.W.keepIn K (.ref f) = true) : StandsC K c := ⟨f, oc, od, an, kV, doc, pm, ct, osl, a, l, e, k⟩
/-- the constant NOUGHT -/
structure NoughtIn (K : PySem.W.Frag) : Prop where
  ex : ∃ (a : Addr) (od : Option Addr) (n : Nat) (t u : Tok) (sl : Array (Option Value)), PySem.W.nsIn K mainGlobals "NOUGHT" = some (some (.ref a)) ∧ K.lookup a = some ⟨.type "tuple", od, .seq #[.int 0 t, .int 1 u] n, sl⟩
theorem NoughtIn.of {K : PySem.W.Frag} {a : Addr} {od : Option Addr} {n : Nat} {t u : Tok} {sl : Array (Option Value)} (h : PySem.W.nsIn K mainGlobals "NOUGHT" = some (some (.ref a))) (l : K.lookup a = some ⟨.type "tuple", od, .seq #[.int 0 t, .int 1 u] n, sl⟩) : NoughtIn K := ⟨a, od, n, t, u, sl, h, l⟩
theorem NoughtIn.tx {K : PySem.W.Frag} {h : Heap} {mg : Str → Option Value} (N : NoughtIn K) (X : K.In h) (G : h.Ns mainGlobals mg) : ∃ a, mg "NOUGHT" = some (.ref a) ∧ ∀ H, Dp K H (.ref a) (encP 0) := by
  obtain ⟨a, od, n, t, u, sl, e, l⟩ := N.ex
  refine ⟨a, PySem.W.mg_of X G e, fun H => ?_⟩
  have e0 : encP 0 = .tuple [.int 0, .int 1] := rfl
  rw [e0]
  exact .tup (xs := [.int 0, .int 1]) (.inr ⟨_, _, n, l, rfl, rfl, by show 2 ≤ sizeLine; decide, .cons ⟨t, rfl⟩ (.cons ⟨u, rfl⟩ .nil)⟩) (.cons (.int 0) (.cons (.int 1) .nil))
structure ConstIn (K : PySem.W.Frag) (x : Str) (i : Int) : Prop where
  ex : ∃ t : Tok, PySem.W.nsIn K mainGlobals x = some (some (.int i t))
theorem ConstIn.of {K : PySem.W.Frag} {x : Str} {i : Int} {t : Tok} (h : PySem.W.nsIn K mainGlobals x = some (some (.int i t))) : ConstIn K x i := ⟨t, h⟩
theorem ConstIn.tx {K : PySem.W.Frag} {h : Heap} {mg : Str → Option Value} {x : Str} {i : Int} (C : ConstIn K x i) (X : K.In h) (G : h.Ns mainGlobals mg) : ∃ t, mg x = some (.int i t) := by
  obtain ⟨t, e⟩ := C.ex
  exact ⟨t, PySem.W.mg_of X G e⟩

theorem all_mk {l : PySem.W.OpenLaw} {w : World} {K : PySem.W.Frag} {h : Heap} {mg : Str → Option Value} {fa fl c Pt : Addr} (X : K.In h) (G : h.Ns mainGlobals mg) (hfa : mg "law" = some (.ref fa)) (hP : h.get? Pt = some { cls := .none, data := .fields #[] })
    (z_len : PySem.W.nsIn K mainGlobals "len" = some none) (z_abs : PySem.W.nsIn K mainGlobals "abs" = some none) (z_isinstance : PySem.W.nsIn K mainGlobals "isinstance" = some none) (z_int : PySem.W.nsIn K mainGlobals "int" = some none) (z_bool : PySem.W.nsIn K mainGlobals "bool" = some none) (z_tuple : PySem.W.nsIn K mainGlobals "tuple" = some none) (z_str : PySem.W.nsIn K mainGlobals "str" = some none) (z_list : PySem.W.nsIn K mainGlobals "list" = some none) (z_all : PySem.W.nsIn K mainGlobals "all" = some none) (z_any : PySem.W.nsIn K mainGlobals "any" = some none) (z_zip : PySem.W.nsIn K mainGlobals "zip" = some none) (z_set : PySem.W.nsIn K mainGlobals "set" = some none) (z_sorted : PySem.W.nsIn K mainGlobals "sorted" = some none) (z_enumerate : PySem.W.nsIn K mainGlobals "enumerate" = some none) (z_range : PySem.W.nsIn K mainGlobals "range" = some none) (z_max : PySem.W.nsIn K mainGlobals "max" = some none) (z_min : PySem.W.nsIn K mainGlobals "min" = some none)
    (c_mStuff : ConstIn K "MOST_STUFF" 4) (c_mLots : ConstIn K "MOST_LOTS" 8) (c_mHeats : ConstIn K "MOST_HEATS" 8) (c_mDay : ConstIn K "MOST_DAY" 30) (c_mAhead : ConstIn K "MOST_AHEAD" 7) (c_nought : NoughtIn K)
    (i_is_whole : Stands K "is_whole" s_is_whole) (i_common : Stands K "common" s_common) (i_is_part : Stands K "is_part" s_is_part) (i_made : Stands K "made" s_made) (i_plus : Stands K "plus" s_plus) (i_minus : Stands K "minus" s_minus) (i_total : Stands K "total" s_total) (i_smaller : Stands K "smaller" s_smaller) (i_not_below : Stands K "not_below" s_not_below) (i_are_amounts : Stands K "are_amounts" s_are_amounts) (i_is_from_to : Stands K "is_from_to" s_is_from_to) (i_is_lot : Stands K "is_lot" s_is_lot) (i_are_lots : Stands K "are_lots" s_are_lots) (i_is_heat : Stands K "is_heat" s_is_heat) (i_is_plan : Stands K "is_plan" s_is_plan) (i_is_open : Stands K "is_open" s_is_open) (i_taken_on : Stands K "taken_on" s_taken_on) (i_gone_through : Stands K "gone_through" s_gone_through) (i_taken : Stands K "taken" s_taken) (i_left_of : Stands K "left_of" s_left_of) (i_is_too_much : Stands K "is_too_much" s_is_too_much) (i_had_or_not : Stands K "had_or_not" s_had_or_not) (i_is_taking : Stands K "is_taking" s_is_taking) (i_had_right : Stands K "had_right" s_had_right) (i_had_holds : Stands K "had_holds" s_had_holds) (i_most_heats : Stands K "most_heats" s_most_heats) (i_law_cell_at : Stands K "_law_cell_at" s_law_cell_at) (i_law_next : Stands K "_law_next" s_law_next) (i_law_pen_of : Stands K "_law_pen_of" s_law_pen_of) (i_law_draw : Stands K "_law_draw" s_law_draw) (i_law_made : Stands K "_law_made" s_law_made) (i_law_plus : Stands K "_law_plus" s_law_plus) (i_law_total : Stands K "_law_total" s_law_total) (i_law_lot : Stands K "_law_lot" s_law_lot) (i_law_lots : Stands K "_law_lots" s_law_lots) (i_law_plan : Stands K "_law_plan" s_law_plan) (i_law_taken_right : Stands K "_law_taken_right" s_law_taken_right) (i_law_changed_right : Stands K "_law_changed_right" s_law_changed_right) (i_law_most_right : Stands K "_law_most_right" s_law_most_right)
    (i_sets_of : StandsC K c) (hcP : PySem.W.codeHdIn K c Pt = true) (nP : K.lookup Pt = none)
    {oc : Value} {od an : Option Addr} {kV doc pm cd ct : Value} {osl : Array (Option Value)} (aL : PySem.W.nsIn K mainGlobals "law" = some (some (.ref fl))) (lL : K.lookup fl = some ⟨oc, od, .func (PySem.W.fnOf "law" "law" (defArgs s_law) (defBody s_law) (defScope s_law) .none kV doc pm an cd ct), osl⟩) (cL : PySem.W.codeIn K cd "law" = true) (kL : PySem.W.keepIn K (.ref fl) = true) :
    LamX.LawAtS l w K CX0 8 63 "_law_script" mg fa h := by
  have e := hfa.symm.trans (PySem.W.mg_of X G aL)
  cases e
  have T : Tx K mg := ⟨PySem.W.mg_none_of X G z_len, PySem.W.mg_none_of X G z_abs, PySem.W.mg_none_of X G z_isinstance, PySem.W.mg_none_of X G z_int, PySem.W.mg_none_of X G z_bool, PySem.W.mg_none_of X G z_tuple, PySem.W.mg_none_of X G z_str, PySem.W.mg_none_of X G z_list, PySem.W.mg_none_of X G z_all, PySem.W.mg_none_of X G z_any, PySem.W.mg_none_of X G z_zip, PySem.W.mg_none_of X G z_set, PySem.W.mg_none_of X G z_sorted, PySem.W.mg_none_of X G z_enumerate, PySem.W.mg_none_of X G z_range, PySem.W.mg_none_of X G z_max, PySem.W.mg_none_of X G z_min, c_nought.tx X G, c_mStuff.tx X G, c_mLots.tx X G, c_mHeats.tx X G, c_mDay.tx X G, c_mAhead.tx X G⟩
  have D_is_whole : Df K mg "is_whole" "is_whole" s_is_whole p_is_whole := i_is_whole.df X G fun _ _ _ _ _ _ us hl => match us, hl with | [_], _ => rfl
  have D_common : Df K mg "common" "common" s_common p_common := i_common.df X G fun _ _ _ _ _ _ us hl => match us, hl with | [_, _], _ => rfl
  have D_is_part : Df K mg "is_part" "is_part" s_is_part p_is_part := i_is_part.df X G fun _ _ _ _ _ _ us hl => match us, hl with | [_], _ => rfl
  have D_made : Df K mg "made" "made" s_made p_made := i_made.df X G fun _ _ _ _ _ _ us hl => match us, hl with | [_, _], _ => rfl
  have D_plus : Df K mg "plus" "plus" s_plus p_plus := i_plus.df X G fun _ _ _ _ _ _ us hl => match us, hl with | [_, _], _ => rfl
  have D_minus : Df K mg "minus" "minus" s_minus p_minus := i_minus.df X G fun _ _ _ _ _ _ us hl => match us, hl with | [_, _], _ => rfl
  have D_total : Df K mg "total" "total" s_total p_total := i_total.df X G fun _ _ _ _ _ _ us hl => match us, hl with | [_], _ => rfl
  have D_smaller : Df K mg "smaller" "smaller" s_smaller p_smaller := i_smaller.df X G fun _ _ _ _ _ _ us hl => match us, hl with | [_, _], _ => rfl
  have D_not_below : Df K mg "not_below" "not_below" s_not_below p_not_below := i_not_below.df X G fun _ _ _ _ _ _ us hl => match us, hl with | [_], _ => rfl
  have D_are_amounts : Df K mg "are_amounts" "are_amounts" s_are_amounts p_are_amounts := i_are_amounts.df X G fun _ _ _ _ _ _ us hl => match us, hl with | [_, _], _ => rfl
  have D_is_from_to : Df K mg "is_from_to" "is_from_to" s_is_from_to p_is_from_to := i_is_from_to.df X G fun _ _ _ _ _ _ us hl => match us, hl with | [_, _, _], _ => rfl
  have D_is_lot : Df K mg "is_lot" "is_lot" s_is_lot p_is_lot := i_is_lot.df X G fun _ _ _ _ _ _ us hl => match us, hl with | [_], _ => rfl
  have D_are_lots : Df K mg "are_lots" "are_lots" s_are_lots p_are_lots := i_are_lots.df X G fun _ _ _ _ _ _ us hl => match us, hl with | [_], _ => rfl
  have D_is_heat : Df K mg "is_heat" "is_heat" s_is_heat p_is_heat := i_is_heat.df X G fun _ _ _ _ _ _ us hl => match us, hl with | [_], _ => rfl
  have D_is_plan : Df K mg "is_plan" "is_plan" s_is_plan p_is_plan := i_is_plan.df X G fun _ _ _ _ _ _ us hl => match us, hl with | [_], _ => rfl
  have D_is_open : Df K mg "is_open" "is_open" s_is_open p_is_open := i_is_open.df X G fun _ _ _ _ _ _ us hl => match us, hl with | [_, _, _], _ => rfl
  have D_taken_on : Df K mg "taken_on" "taken_on" s_taken_on p_taken_on := i_taken_on.df X G fun _ _ _ _ _ _ us hl => match us, hl with | [_, _, _, _, _], _ => rfl
  have D_gone_through : Df K mg "gone_through" "gone_through" s_gone_through p_gone_through := i_gone_through.df X G fun _ _ _ _ _ _ us hl => match us, hl with | [_, _], _ => rfl
  have D_taken : Df K mg "taken" "taken" s_taken p_taken := i_taken.df X G fun _ _ _ _ _ _ us hl => match us, hl with | [_, _], _ => rfl
  have D_left_of : Df K mg "left_of" "left_of" s_left_of p_left_of := i_left_of.df X G fun _ _ _ _ _ _ us hl => match us, hl with | [_, _], _ => rfl
  have D_is_too_much : Df K mg "is_too_much" "is_too_much" s_is_too_much p_is_too_much := i_is_too_much.df X G fun _ _ _ _ _ _ us hl => match us, hl with | [_, _, _, _], _ => rfl
  have D_had_or_not : Df K mg "had_or_not" "had_or_not" s_had_or_not p_had_or_not := i_had_or_not.df X G fun _ _ _ _ _ _ us hl => match us, hl with | [_, _], _ => rfl
  have D_is_taking : Df K mg "is_taking" "is_taking" s_is_taking p_is_taking := i_is_taking.df X G fun _ _ _ _ _ _ us hl => match us, hl with | [_, _], _ => rfl
  have D_had_right : Df K mg "had_right" "had_right" s_had_right p_had_right := i_had_right.df X G fun _ _ _ _ _ _ us hl => match us, hl with | [_, _, _], _ => rfl
  have D_had_holds : Df K mg "had_holds" "had_holds" s_had_holds p_had_holds := i_had_holds.df X G fun _ _ _ _ _ _ us hl => match us, hl with | [_, _, _], _ => rfl
  have D_most_heats : Df K mg "most_heats" "most_heats" s_most_heats p_most_heats := i_most_heats.df X G fun _ _ _ _ _ _ us hl => match us, hl with | [_, _, _, _], _ => rfl
  have D_law_cell_at : Df K mg "_law_cell_at" "_law_cell_at" s_law_cell_at p_law_cell_at := i_law_cell_at.df X G fun _ _ _ _ _ _ us hl => match us, hl with | [_, _], _ => rfl
  have D_law_next : Df K mg "_law_next" "_law_next" s_law_next p_law_next := i_law_next.df X G fun _ _ _ _ _ _ us hl => match us, hl with | [_], _ => rfl
  have D_law_pen_of : Df K mg "_law_pen_of" "_law_pen_of" s_law_pen_of p_law_pen_of := i_law_pen_of.df X G fun _ _ _ _ _ _ us hl => match us, hl with | [_], _ => rfl
  have D_law_draw : Df K mg "_law_draw" "_law_draw" s_law_draw p_law_draw := i_law_draw.df X G fun _ _ _ _ _ _ us hl => match us, hl with | [_, _], _ => rfl
  have D_law_made : Df K mg "_law_made" "_law_made" s_law_made p_law_made := i_law_made.df X G fun _ _ _ _ _ _ us hl => match us, hl with | [_, _], _ => rfl
  have D_law_plus : Df K mg "_law_plus" "_law_plus" s_law_plus p_law_plus := i_law_plus.df X G fun _ _ _ _ _ _ us hl => match us, hl with | [_, _], _ => rfl
  have D_law_total : Df K mg "_law_total" "_law_total" s_law_total p_law_total := i_law_total.df X G fun _ _ _ _ _ _ us hl => match us, hl with | [_], _ => rfl
  have D_law_lot : Df K mg "_law_lot" "_law_lot" s_law_lot p_law_lot := i_law_lot.df X G fun _ _ _ _ _ _ us hl => match us, hl with | [_, _], _ => rfl
  have D_law_lots : Df K mg "_law_lots" "_law_lots" s_law_lots p_law_lots := i_law_lots.df X G fun _ _ _ _ _ _ us hl => match us, hl with | [_, _], _ => rfl
  have D_law_plan : Df K mg "_law_plan" "_law_plan" s_law_plan p_law_plan := i_law_plan.df X G fun _ _ _ _ _ _ us hl => match us, hl with | [_, _], _ => rfl
  have D_law_taken_right : Df K mg "_law_taken_right" "_law_taken_right" s_law_taken_right p_law_taken_right := i_law_taken_right.df X G fun _ _ _ _ _ _ us hl => match us, hl with | [_, _], _ => rfl
  have D_law_changed_right : Df K mg "_law_changed_right" "_law_changed_right" s_law_changed_right p_law_changed_right := i_law_changed_right.df X G fun _ _ _ _ _ _ us hl => match us, hl with | [_, _, _, _], _ => rfl
  have D_law_most_right : Df K mg "_law_most_right" "_law_most_right" s_law_most_right p_law_most_right := i_law_most_right.df X G fun _ _ _ _ _ _ us hl => match us, hl with | [_, _, _], _ => rfl
  have D_sets_of : DfC K mg "sets_of" "sets_of" s_sets_of p_sets_of c := by
    obtain ⟨f, oc, od, an, kV, doc, pm, ct, osl, a, l, e, k⟩ := i_sets_of.ex
    exact ⟨f, oc, od, an, kV, doc, pm, ct, osl, l, e, k, PySem.W.mg_of X G a, (fun_mk (st := s_sets_of) l e k).binds fun _ _ _ _ _ _ us hl => match us, hl with | [_], _ => rfl⟩
  refine ⟨PySem.W.fnOf "law" "law" (defArgs s_law) (defBody s_law) (defScope s_law) .none kV doc pm an cd ct, [(c, Pt)], SpP K Pt LawPre fun _ d => d = .bool true, fun p hp => ?_, fun p hp => ?_, fun p hp => ?_, fun s v => .of_eq rfl, fun H a ns hlen hbits hT hS => ?_, fun base Kb gb hTB => ?_⟩
  · rw [List.mem_singleton.mp hp]
    exact hP
  · rw [List.mem_singleton.mp hp]
    exact nP
  · rw [List.mem_singleton.mp hp]
    exact PySem.W.codeHd_of_K X hcP
  · have hPt : H Pt = some (.tbl #[]) := hT (c, Pt) List.mem_cons_self
    refine ⟨fun b => b = Pt, [.list (ns.map .int)], rfl, LamX.TabS.nil hPt, fun b (e : b = Pt) => (by rw [e, hPt]; exact (fun z => nomatch z)), .cons (.lst ?_ (dpa_mapI ns)) .nil, ⟨ns, rfl⟩, fun v H' d _ e hd => ?_⟩
    · rcases hS with hS | hS
      · have na : a ≠ Pt := fun z => by
          rcases hS with hS | ⟨o, hS⟩
          · rw [z, hPt] at hS
            cases hS
          · rw [z, hPt] at hS
            cases hS
        have co : cut H (fun b => b = Pt) a = H a := cut_out (F := fun b => b = Pt) na
        refine .inl ?_
        rcases hS with hS | ⟨o, hS⟩
        · exact .inl (by rw [co]; exact hS)
        · exact .inr ⟨o, by rw [co]; exact hS⟩
      · exact .inr hS
    · subst e
      exact dp_bl hd
  · have TB := hTB (c, Pt) List.mem_cons_self
    have g_whole : GW l.prog w K mg base Pt := ok_is_whole D_is_whole T
    have g_common : GC l.prog w K mg base Pt := ok_common D_common T
    have g_part : GIsPart l.prog w K mg base Pt := ok_is_part D_is_part T g_whole g_common
    have g_made : GMade l.prog w K mg base Pt 2 "made" p_made := ok_made D_made T g_common
    have g_plus : GBin l.prog w K mg base Pt 3 "plus" p_plus fun n m => encP (n + m) := ok_plus D_plus T g_made
    have g_minus : GBin l.prog w K mg base Pt 3 "minus" p_minus fun n m => encP (n - m) := ok_minus D_minus T g_made
    have g_smaller : GBin l.prog w K mg base Pt 1 "smaller" p_smaller fun n m => .bool (decide (n < m)) := ok_smaller D_smaller T
    have g_total := fun ns hb => ok_total (P := l.prog) (w := w) (base := base) (Pt := Pt) D_total T g_plus ns hb
    have g_below := fun n hn => ok_not_below (P := l.prog) (w := w) (base := base) (Pt := Pt) D_not_below T g_part n hn
    have g_amounts := fun ns hn hl => ok_are_amounts (P := l.prog) (w := w) (base := base) (Pt := Pt) D_are_amounts T g_below ns hn hl
    have g_ft : GFt l.prog w K mg base Pt := ok_is_from_to D_is_from_to T
    have g_lot := fun l1 L => ok_is_lot (P := l.prog) (w := w) (base := base) (Pt := Pt) D_is_lot T g_ft g_part l1 L
    have g_alots : GALots l.prog w K mg base Pt := fun ls L => ok_are_lots D_are_lots T g_lot ls L
    have g_heat := fun h1 a1 a2 a3 a4 a5 => ok_is_heat (P := l.prog) (w := w) (base := base) (Pt := Pt) D_is_heat T g_ft g_amounts h1 a1 a2 a3 a4 a5
    have g_iplan : GIPlan l.prog w K mg base Pt := fun n pl L => ok_is_plan D_is_plan T g_heat n pl L
    have g_open : GOpen l.prog w K mg base Pt := ok_is_open D_is_open T
    have g_ton : GTaken l.prog w K mg base Pt := ok_taken_on D_taken_on T g_open g_smaller g_minus
    have g_gone : GGone l.prog w K mg base Pt := ok_gone_through D_gone_through T g_ton
    have g_much : GMuch l.prog w K mg base Pt := ok_is_too_much D_is_too_much T g_open g_smaller g_total
    have g_sets : GSets l.prog w K mg base Pt := ok_sets_of D_sets_of TB T
    have g_had : GHad l.prog w K mg base Pt := ok_had_or_not D_had_or_not T g_gone g_sets g_much
    have g_taking : GTaking l.prog w K mg base Pt := ok_is_taking D_is_taking T g_ft g_part
    have g_right : GRight l.prog w K mg base Pt := ok_had_right D_had_right T g_taking g_smaller g_minus g_total
    have g_h1 : GHolds1 l.prog w K mg base Pt := fun ls pl n g L PL R => ok_had_holds1 D_had_holds T g_right ls pl n g L PL R
    have g_h2 : GHolds2 l.prog w K mg base Pt := fun ls pl n s S L PL hs hS ht => ok_had_holds2 D_had_holds T g_ft g_much ls pl n s S L PL hs hS ht
    have g_most : GMost l.prog w K mg base Pt := ok_most_heats D_most_heats T g_ft g_sets g_gone
    have g_next : GNext l.prog w K mg base Pt := ok_next D_law_next
    have g_draw : GDraw l.prog w K mg base Pt := ok_draw D_law_draw g_next
    have g_lmade : GLMade l.prog w K mg base Pt := ok_lmade D_law_made T
    have g_lplus : GBin l.prog w K mg base Pt 2 "_law_plus" p_law_plus fun n m => encP (n + m) := ok_lplus D_law_plus g_lmade
    have g_ltotal : GLTotal l.prog w K mg base Pt := ok_ltotal D_law_total g_lplus
    have g_llot : GLot l.prog w K mg base Pt := ok_llot D_law_lot g_draw g_lmade
    have g_llots : GLots l.prog w K mg base Pt := ok_llots D_law_lots T g_draw g_llot
    have g_lplan : GPlan l.prog w K mg base Pt := ok_lplan D_law_plan T g_draw g_lmade
    have g_ltaken : GLTaken l.prog w K mg base Pt := fun ls pl n L PL hx => ok_ltaken D_law_taken_right T (fun ls pl n L PL hx => ok_taken D_taken g_gone L PL hx) (fun ls pl n L PL hx => ok_left_of D_left_of T g_gone L PL hx) g_ltotal g_lplus g_h1 ls pl n L PL hx
    have g_lchanged : GChanged l.prog w K mg base Pt := ok_lchanged D_law_changed_right T g_draw g_lplus g_alots g_iplan g_had
    have g_lmost : GLMost l.prog w K mg base Pt := ok_lmost D_law_most_right T g_most g_had
    exact ok_law (fun_mk (st := s_law) lL cL kL) T (fun ns => ok_cell_at D_law_cell_at T ns) (ok_pen_of D_law_pen_of T) g_draw g_lmade g_llots g_lplan g_had g_h1 g_h2 g_lchanged g_ltaken g_lmost
end Hb

open PySem PySem.W PyProof.Rows L2 in
set_option maxRecDepth 100000 in
set_option maxHeartbeats 0 in
theorem PySem.Challenge.cw_hearthbook_k77_whole_lots_holds : PySem.Challenge.rw_hearthbook_k77_whole_lots.Holds := by
  w_on; o_law; k_head; (case hw => w_witness2)
  k_fill
  refine LamX.walk_ofTs (l := PySem.Challenge.rw_hearthbook_k77_whole_lots) (n := 63) (k := 8) (x := "_law_script") (CX := fun _ => CX0) rfl (by decide) rfl ⟨rfl, by decide, by decide⟩ (fun w h Y => PySem.W.km_in_of Y) ?F fun _ _ _ _ _ z => z
  case F =>
    intro w mg fa h Y KX G hmg
    refine' Hb.all_mk (Pt := 196) KX G hmg (PySem.W.km_tabs_of Y _ (by k_mem)) ?z_len ?z_abs ?z_isinstance ?z_int ?z_bool ?z_tuple ?z_str ?z_list ?z_all ?z_any ?z_zip ?z_set ?z_sorted ?z_enumerate ?z_range ?z_max ?z_min ?c_mStuff ?c_mLots ?c_mHeats ?c_mDay ?c_mAhead ?c_nought ?i_is_whole ?i_common ?i_is_part ?i_made ?i_plus ?i_minus ?i_total ?i_smaller ?i_not_below ?i_are_amounts ?i_is_from_to ?i_is_lot ?i_are_lots ?i_is_heat ?i_is_plan ?i_is_open ?i_taken_on ?i_gone_through ?i_taken ?i_left_of ?i_is_too_much ?i_had_or_not ?i_is_taking ?i_had_right ?i_had_holds ?i_most_heats ?i_law_cell_at ?i_law_next ?i_law_pen_of ?i_law_draw ?i_law_made ?i_law_plus ?i_law_total ?i_law_lot ?i_law_lots ?i_law_plan ?i_law_taken_right ?i_law_changed_right ?i_law_most_right ?i_sets_of ?hcP ?nP ?aL ?lL ?cL ?kL
    (case z_len => k_is)
    (case z_abs => k_is)
    (case z_isinstance => k_is)
    (case z_int => k_is)
    (case z_bool => k_is)
    (case z_tuple => k_is)
    (case z_str => k_is)
    (case z_list => k_is)
    (case z_all => k_is)
    (case z_any => k_is)
    (case z_zip => k_is)
    (case z_set => k_is)
    (case z_sorted => k_is)
    (case z_enumerate => k_is)
    (case z_range => k_is)
    (case z_max => k_is)
    (case z_min => k_is)
    (case c_mStuff => refine' Hb.ConstIn.of ?a; (case a => k_is))
    (case c_mLots => refine' Hb.ConstIn.of ?a; (case a => k_is))
    (case c_mHeats => refine' Hb.ConstIn.of ?a; (case a => k_is))
    (case c_mDay => refine' Hb.ConstIn.of ?a; (case a => k_is))
    (case c_mAhead => refine' Hb.ConstIn.of ?a; (case a => k_is))
    (case c_nought => refine' Hb.NoughtIn.of ?a ?l; (case a => k_is); (case l => k_is))
    (case i_is_whole => refine' Hb.Stands.of ?a ?l ?c ?k; (case a => k_is); (case l => k_is); (case c => k_is); (case k => k_is))
    (case i_common => refine' Hb.Stands.of ?a ?l ?c ?k; (case a => k_is); (case l => k_is); (case c => k_is); (case k => k_is))
    (case i_is_part => refine' Hb.Stands.of ?a ?l ?c ?k; (case a => k_is); (case l => k_is); (case c => k_is); (case k => k_is))
    (case i_made => refine' Hb.Stands.of ?a ?l ?c ?k; (case a => k_is); (case l => k_is); (case c => k_is); (case k => k_is))
    (case i_plus => refine' Hb.Stands.of ?a ?l ?c ?k; (case a => k_is); (case l => k_is); (case c => k_is); (case k => k_is))
    (case i_minus => refine' Hb.Stands.of ?a ?l ?c ?k; (case a => k_is); (case l => k_is); (case c => k_is); (case k => k_is))
    (case i_total => refine' Hb.Stands.of ?a ?l ?c ?k; (case a => k_is); (case l => k_is); (case c => k_is); (case k => k_is))
    (case i_smaller => refine' Hb.Stands.of ?a ?l ?c ?k; (case a => k_is); (case l => k_is); (case c => k_is); (case k => k_is))
    (case i_not_below => refine' Hb.Stands.of ?a ?l ?c ?k; (case a => k_is); (case l => k_is); (case c => k_is); (case k => k_is))
    (case i_are_amounts => refine' Hb.Stands.of ?a ?l ?c ?k; (case a => k_is); (case l => k_is); (case c => k_is); (case k => k_is))
    (case i_is_from_to => refine' Hb.Stands.of ?a ?l ?c ?k; (case a => k_is); (case l => k_is); (case c => k_is); (case k => k_is))
    (case i_is_lot => refine' Hb.Stands.of ?a ?l ?c ?k; (case a => k_is); (case l => k_is); (case c => k_is); (case k => k_is))
    (case i_are_lots => refine' Hb.Stands.of ?a ?l ?c ?k; (case a => k_is); (case l => k_is); (case c => k_is); (case k => k_is))
    (case i_is_heat => refine' Hb.Stands.of ?a ?l ?c ?k; (case a => k_is); (case l => k_is); (case c => k_is); (case k => k_is))
    (case i_is_plan => refine' Hb.Stands.of ?a ?l ?c ?k; (case a => k_is); (case l => k_is); (case c => k_is); (case k => k_is))
    (case i_is_open => refine' Hb.Stands.of ?a ?l ?c ?k; (case a => k_is); (case l => k_is); (case c => k_is); (case k => k_is))
    (case i_taken_on => refine' Hb.Stands.of ?a ?l ?c ?k; (case a => k_is); (case l => k_is); (case c => k_is); (case k => k_is))
    (case i_gone_through => refine' Hb.Stands.of ?a ?l ?c ?k; (case a => k_is); (case l => k_is); (case c => k_is); (case k => k_is))
    (case i_taken => refine' Hb.Stands.of ?a ?l ?c ?k; (case a => k_is); (case l => k_is); (case c => k_is); (case k => k_is))
    (case i_left_of => refine' Hb.Stands.of ?a ?l ?c ?k; (case a => k_is); (case l => k_is); (case c => k_is); (case k => k_is))
    (case i_is_too_much => refine' Hb.Stands.of ?a ?l ?c ?k; (case a => k_is); (case l => k_is); (case c => k_is); (case k => k_is))
    (case i_had_or_not => refine' Hb.Stands.of ?a ?l ?c ?k; (case a => k_is); (case l => k_is); (case c => k_is); (case k => k_is))
    (case i_is_taking => refine' Hb.Stands.of ?a ?l ?c ?k; (case a => k_is); (case l => k_is); (case c => k_is); (case k => k_is))
    (case i_had_right => refine' Hb.Stands.of ?a ?l ?c ?k; (case a => k_is); (case l => k_is); (case c => k_is); (case k => k_is))
    (case i_had_holds => refine' Hb.Stands.of ?a ?l ?c ?k; (case a => k_is); (case l => k_is); (case c => k_is); (case k => k_is))
    (case i_most_heats => refine' Hb.Stands.of ?a ?l ?c ?k; (case a => k_is); (case l => k_is); (case c => k_is); (case k => k_is))
    (case i_law_cell_at => refine' Hb.Stands.of ?a ?l ?c ?k; (case a => k_is); (case l => k_is); (case c => k_is); (case k => k_is))
    (case i_law_next => refine' Hb.Stands.of ?a ?l ?c ?k; (case a => k_is); (case l => k_is); (case c => k_is); (case k => k_is))
    (case i_law_pen_of => refine' Hb.Stands.of ?a ?l ?c ?k; (case a => k_is); (case l => k_is); (case c => k_is); (case k => k_is))
    (case i_law_draw => refine' Hb.Stands.of ?a ?l ?c ?k; (case a => k_is); (case l => k_is); (case c => k_is); (case k => k_is))
    (case i_law_made => refine' Hb.Stands.of ?a ?l ?c ?k; (case a => k_is); (case l => k_is); (case c => k_is); (case k => k_is))
    (case i_law_plus => refine' Hb.Stands.of ?a ?l ?c ?k; (case a => k_is); (case l => k_is); (case c => k_is); (case k => k_is))
    (case i_law_total => refine' Hb.Stands.of ?a ?l ?c ?k; (case a => k_is); (case l => k_is); (case c => k_is); (case k => k_is))
    (case i_law_lot => refine' Hb.Stands.of ?a ?l ?c ?k; (case a => k_is); (case l => k_is); (case c => k_is); (case k => k_is))
    (case i_law_lots => refine' Hb.Stands.of ?a ?l ?c ?k; (case a => k_is); (case l => k_is); (case c => k_is); (case k => k_is))
    (case i_law_plan => refine' Hb.Stands.of ?a ?l ?c ?k; (case a => k_is); (case l => k_is); (case c => k_is); (case k => k_is))
    (case i_law_taken_right => refine' Hb.Stands.of ?a ?l ?c ?k; (case a => k_is); (case l => k_is); (case c => k_is); (case k => k_is))
    (case i_law_changed_right => refine' Hb.Stands.of ?a ?l ?c ?k; (case a => k_is); (case l => k_is); (case c => k_is); (case k => k_is))
    (case i_law_most_right => refine' Hb.Stands.of ?a ?l ?c ?k; (case a => k_is); (case l => k_is); (case c => k_is); (case k => k_is))
    (case i_sets_of => refine' Hb.StandsC.of ?a ?l ?c ?k; (case a => k_is); (case l => k_is); (case c => k_is); (case k => k_is))
    (case hcP => kernel_rfl)
    (case nP => kernel_rfl)
    (case aL => k_is)
    (case lL => k_is)
    (case cL => k_is)
    (case kL => k_is)
