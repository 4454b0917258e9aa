import PyProof.Rows.All
import Wide.All
import OpenK.AllK
import Wide.FinOn
import HandS.ForMost
import HandS.TupAny
import HandS.Deep
import HandS.Conv
import HandS.IsInst
import HandS.Wide
import HandS.Walk
import KE.GoesNew
import HandS.DictComp
import KE.KDictKeyed
import PySem.Challenge.RW_oneofeach_k18_whole_structures_layer_by
set_option Elab.async false
set_option linter.all false
set_option maxRecDepth 100000
set_option maxHeartbeats 4000000
/-! Dn1: values told by what they describe; what a reading evaluates to. -/
namespace D18
open PySem L2

/-! ### data in tuples (never changed) -/
mutual
inductive Dt (H : Hp) : V → PyData → Prop
  | non : Dt H .non .none
  | bl (b : Bool) : Dt H (.bl b) (.bool b)
  | int (i : Int) : Dt H (.int i) (.int i)
  | str (x : Str) : Dt H (.str x) (.str x)
  | tup {a : Addr} {xs : List V} {ds : List PyData} : H a = some (.tup xs) → Dts H xs ds → Dt H (.ref a) (.tuple ds)
inductive Dts (H : Hp) : List V → List PyData → Prop
  | nil : Dts H [] []
  | cons {v : V} {vs : List V} {d : PyData} {ds : List PyData} : Dt H v d → Dts H vs ds → Dts H (v :: vs) (d :: ds)
end

def TK (H H' : Hp) : Prop := ∀ b xs, H b = some (.tup xs) → H' b = some (.tup xs)
theorem TK.refl (H : Hp) : TK H H := fun _ _ e => e
theorem TK.trans {H H1 H2 : Hp} (a : TK H H1) (b : TK H1 H2) : TK H H2 := fun c xs e => b c xs (a c xs e)
theorem tk_same {H H' : Hp} (s : Same H H') : TK H H' := fun b _ e => s b _ e
theorem tk_upd {H : Hp} {a : Addr} {o : HO} (h : ∀ xs, H a ≠ some (.tup xs)) : TK H (upd H a o) := fun b xs e => by
  have n : b ≠ a := fun q => by subst q; exact h xs e
  rw [upd_ne n]; exact e
theorem tk_lst {H : Hp} {a : Addr} {xs : List V} {o : HO} (h : H a = some (.lst xs)) : TK H (upd H a o) := tk_upd fun ys e => by rw [h] at e; cases e
theorem tk_new {H : Hp} {a : Addr} {o : HO} (h : H a = none) : TK H (upd H a o) := tk_upd fun ys e => by rw [h] at e; cases e
theorem same_new {H : Hp} {p : Addr} {o : HO} (h : H p = none) : Same H (upd H p o) := fun b u q => by rw [upd_ne (ne_of_none q h)]; exact q
theorem same_mut {H H' : Hp} {p : Addr} {o : HO} (s : Same H H') (h : H p = none) : Same H (upd H' p o) := fun b u q => by rw [upd_ne (ne_of_none q h)]; exact s _ _ q

mutual
theorem Dt.mono {H H' : Hp} (t : TK H H') : ∀ {d : PyData} {v : V}, Dt H v d → Dt H' v d
  | .none, _, .non => .non
  | .bool _, _, .bl b => .bl b
  | .int _, _, .int i => .int i
  | .str _, _, .str x => .str x
  | .tuple ds, _, .tup e r => .tup (t _ _ e) (Dts.mono t r)
theorem Dts.mono {H H' : Hp} (t : TK H H') : ∀ {ds : List PyData} {vs : List V}, Dts H vs ds → Dts H' vs ds
  | [], _, .nil => .nil
  | _ :: _, _, .cons h r => .cons (Dt.mono t h) (Dts.mono t r)
end
theorem Dt.up {H H' : Hp} {d : PyData} {v : V} (s : Same H H') (h : Dt H v d) : Dt H' v d := h.mono (tk_same s)
theorem Dts.up {H H' : Hp} {ds : List PyData} {vs : List V} (s : Same H H') (h : Dts H vs ds) : Dts H' vs ds := h.mono (tk_same s)
theorem Dts.length {H : Hp} : ∀ {vs : List V} {ds : List PyData}, Dts H vs ds → vs.length = ds.length
  | _, _, .nil => rfl
  | _, _, .cons _ r => congrArg (· + 1) r.length
theorem Dts.get {H : Hp} : ∀ {vs : List V} {ds : List PyData} {i : Nat} {d : PyData}, Dts H vs ds → ds[i]? = some d → ∃ v, vs[i]? = some v ∧ Dt H v d
  | _, _, _, _, .nil, e => by simp at e
  | _, _, 0, _, .cons h _, e => by simp at e; subst e; exact ⟨_, rfl, h⟩
  | _, _, i + 1, d, .cons _ r, e => by
    obtain ⟨v, h1, h2⟩ := Dts.get (i := i) (d := d) r (by simpa using e)
    exact ⟨v, by simpa using h1, h2⟩
theorem Dts.getV {H : Hp} : ∀ {vs : List V} {ds : List PyData} {i : Nat} {v : V}, Dts H vs ds → vs[i]? = some v → ∃ d, ds[i]? = some d ∧ Dt H v d
  | _, _, _, _, .nil, e => by simp at e
  | _, _, 0, _, .cons h _, e => by simp at e; subst e; exact ⟨_, rfl, h⟩
  | _, _, i + 1, v, .cons _ r, e => by
    obtain ⟨d, h1, h2⟩ := Dts.getV (i := i) (v := v) r (by simpa using e)
    exact ⟨d, by simpa using h1, h2⟩
theorem Dts.append {H : Hp} : ∀ {vs ws : List V} {ds es : List PyData}, Dts H vs ds → Dts H ws es → Dts H (vs ++ ws) (ds ++ es)
  | _, _, _, _, .nil, s => s
  | _, _, _, _, .cons h r, s => .cons h (Dts.append r s)
theorem Dts.take {H : Hp} : ∀ {vs : List V} {ds : List PyData} (n : Nat), Dts H vs ds → Dts H (vs.take n) (ds.take n)
  | _, _, 0, _ => .nil
  | _, _, _ + 1, .nil => .nil
  | _, _, n + 1, .cons h r => .cons h (Dts.take n r)
theorem Dts.drop {H : Hp} : ∀ {vs : List V} {ds : List PyData} (n : Nat), Dts H vs ds → Dts H (vs.drop n) (ds.drop n)
  | _, _, 0, r => r
  | _, _, _ + 1, .nil => .nil
  | _, _, n + 1, .cons _ r => Dts.drop n r
theorem Dts.dropLast {H : Hp} {vs : List V} {ds : List PyData} (h : Dts H vs ds) : Dts H vs.dropLast ds.dropLast := by
  rw [List.dropLast_eq_take, List.dropLast_eq_take, h.length]; exact h.take _
theorem Dts.eraseIdx {H : Hp} : ∀ {vs : List V} {ds : List PyData} (n : Nat), Dts H vs ds → Dts H (vs.eraseIdx n) (ds.eraseIdx n)
  | _, _, _, .nil => .nil
  | _, _, 0, .cons _ r => r
  | _, _, n + 1, .cons h r => .cons h (Dts.eraseIdx n r)
theorem Dts.ints {H : Hp} : ∀ {vs : List V} {ns : List Int}, Dts H vs (ns.map .int) → vs = ns.map V.int
  | _, [], .nil => rfl
  | _, _ :: _, .cons (.int _) r => by rw [Dts.ints r]; rfl
theorem dts_ints {H : Hp} : ∀ (ns : List Int), Dts H (ns.map V.int) (ns.map .int)
  | [] => .nil
  | n :: r => .cons (.int n) (dts_ints r)
theorem Dts.strs {H : Hp} : ∀ {vs : List V} {ns : List Str}, Dts H vs (ns.map .str) → vs = ns.map V.str
  | _, [], .nil => rfl
  | _, _ :: _, .cons (.str _) r => by rw [Dts.strs r]; rfl
theorem dts_strs {H : Hp} : ∀ (ns : List Str), Dts H (ns.map V.str) (ns.map .str)
  | [] => .nil
  | n :: r => .cons (.str n) (dts_strs r)
theorem Dts.bls {H : Hp} : ∀ {vs : List V} {ns : List Bool}, Dts H vs (ns.map .bool) → vs = ns.map V.bl
  | _, [], .nil => rfl
  | _, _ :: _, .cons (.bl _) r => by rw [Dts.bls r]; rfl
theorem Dt.int_inv {H : Hp} {v : V} {i : Int} (h : Dt H v (.int i)) : v = .int i := by cases h; rfl
theorem Dt.str_inv {H : Hp} {v : V} {i : Str} (h : Dt H v (.str i)) : v = .str i := by cases h; rfl
theorem Dt.bl_inv {H : Hp} {v : V} {i : Bool} (h : Dt H v (.bool i)) : v = .bl i := by cases h; rfl
theorem Dt.tup_inv {H : Hp} {v : V} {ds : List PyData} (h : Dt H v (.tuple ds)) : ∃ a xs, v = .ref a ∧ H a = some (.tup xs) ∧ Dts H xs ds := by
  cases h with
  | tup e r => exact ⟨_, _, rfl, e, r⟩
mutual
theorem Dt.dp {K : PySem.W.Frag} {H : Hp} : ∀ {d : PyData} {v : V}, Dt H v d → Dp K H v d
  | .none, _, .non => .non
  | .bool _, _, .bl b => .bl b
  | .int _, _, .int i => .int i
  | .str _, _, .str x => .str x
  | .tuple ds, _, .tup e r => .tup (SqT.of e) (Dts.dp r)
theorem Dts.dp {K : PySem.W.Frag} {H : Hp} : ∀ {ds : List PyData} {vs : List V}, Dts H vs ds → DpAll K H vs ds
  | [], _, .nil => .nil
  | _ :: _, _, .cons h r => .cons (Dt.dp h) (Dts.dp r)
end

/-! ### descriptors: G the heap ahead (what is new is not in it), H the heap now -/
abbrev De := Hp → Hp → V → Prop
class Mo (δ : De) : Prop where
  mo : ∀ {G H G0 H3 : Hp} {v : V}, δ G H v → Same H H3 → (∀ b, G b = none → G0 b = none) → δ G0 H3 v
class Sta (δ : De) : Prop where
  st : ∀ {G H G0 H3 : Hp} {v : V}, δ G H v → TK H H3 → (∀ b o, G b = none → H b = some o → H3 b = some o) → (∀ b, G b = none → G0 b = none) → δ G0 H3 v
instance (priority := low) {δ : De} [Sta δ] : Mo δ := ⟨fun h s g => Sta.st h (tk_same s) (fun b o _ e => s b o e) g⟩
theorem up {δ : De} [m : Mo δ] {G H H3 : Hp} {v : V} (h : δ G H v) (s : Same H H3) : δ G H3 v := m.mo h s fun _ e => e
theorem none_back {H H' : Hp} (s : Same H H') : ∀ b, H' b = none → H b = none := fun _ e => s.free e

/-- exactly w -/
def dV (w : V) : De := fun _ _ v => v = w
/-- data -/
def dD (x : PyData) : De := fun _ H v => Dt H v x
/-- a list that is read, of data -/
def dL (K : PySem.W.Frag) (xs : List PyData) : De := fun _ H v => ∃ a vs, v = .ref a ∧ SqL K H a vs ∧ Dts H vs xs
/-- a new list -/
def dN {α : Type} (f : α → De) (as : List α) : De := fun G H v => ∃ p vs, v = .ref p ∧ G p = none ∧ H p = some (.lst vs) ∧ Paired (fun v a => f a G H v) vs as
/-- a descriptor with something said -/
def dE {α : Type} (P : α → Prop) (f : α → De) : De := fun G H v => ∃ a, P a ∧ f a G H v
instance {w : V} : Sta (dV w) := ⟨fun h _ _ _ => h⟩
instance {x : PyData} : Sta (dD x) := ⟨fun h t _ _ => Dt.mono t h⟩
theorem sql_up {K : PySem.W.Frag} {H H' : Hp} {a : Addr} {xs : List V} (e : Same H H') (h : SqL K H a xs) : SqL K H' a xs := e.seq h
instance {K : PySem.W.Frag} {xs : List PyData} : Mo (dL K xs) := ⟨fun ⟨a, vs, e, h, r⟩ s _ => ⟨a, vs, e, sql_up s h, r.up s⟩⟩
theorem paired_map {α β : Type} {F G : α → β → Prop} : ∀ {l₁ : List α} {l₂ : List β}, Paired F l₁ l₂ → (∀ a b, F a b → G a b) → Paired G l₁ l₂
  | _, _, .nil, _ => .nil
  | _, _, .cons r t, f => .cons (f _ _ r) (paired_map t f)
instance {α : Type} {f : α → De} {as : List α} [s : ∀ a, Sta (f a)] : Sta (dN f as) :=
  ⟨fun ⟨p, vs, e, g, h, r⟩ t k g0 => ⟨p, vs, e, g0 p g, k p _ g h, paired_map r fun _ a q => (s a).st q t k g0⟩⟩
instance {α : Type} {P : α → Prop} {f : α → De} [s : ∀ a, Sta (f a)] : Sta (dE P f) := ⟨fun ⟨a, h, q⟩ t k g0 => ⟨a, h, (s a).st q t k g0⟩⟩
theorem dts_of {H : Hp} {α : Type} {enc : α → PyData} : ∀ {vs : List V} {as : List α}, Paired (fun v a => Dt H v (enc a)) vs as → Dts H vs (as.map enc)
  | _, _, .nil => .nil
  | _, _, .cons h r => .cons h (dts_of r)
theorem of_dts {H : Hp} {α : Type} {enc : α → PyData} : ∀ {vs : List V} {as : List α}, Dts H vs (as.map enc) → Paired (fun v a => Dt H v (enc a)) vs as
  | _, [], .nil => .nil
  | _, _ :: _, .cons h r => .cons h (of_dts r)
/-- a new list of data, by its data -/
def dM (xs : List PyData) : De := fun G H v => ∃ p vs, v = .ref p ∧ G p = none ∧ H p = some (.lst vs) ∧ Dts H vs xs
instance {xs : List PyData} : Sta (dM xs) := ⟨fun ⟨p, vs, e, g, h, r⟩ t k g0 => ⟨p, vs, e, g0 p g, k p _ g h, r.mono t⟩⟩
theorem dM_of_dN {α : Type} {enc : α → PyData} {as : List α} {G H : Hp} {v : V} : dN (fun a => dD (enc a)) as G H v → dM (as.map enc) G H v := fun ⟨p, vs, e, g, h, r⟩ => ⟨p, vs, e, g, h, dts_of r⟩
theorem dN_of_dM {α : Type} {enc : α → PyData} {as : List α} {G H : Hp} {v : V} : dM (as.map enc) G H v → dN (fun a => dD (enc a)) as G H v := fun ⟨p, vs, e, g, h, r⟩ => ⟨p, vs, e, g, h, of_dts r⟩
theorem dL_of_dM {K : PySem.W.Frag} {xs : List PyData} {G H : Hp} {v : V} : dM xs G H v → dL K xs G H v := fun ⟨p, vs, e, _, h, r⟩ => ⟨p, vs, e, SqL.of h, r⟩

/-! ### evaluation -/
def EvX (te : TE) (σ : St) (H : Hp) (δ : De) : Prop := ∀ H1, Same H H1 → ∀ Q : VK, (∀ v H2, Same H1 H2 → δ H1 H2 v → Q v H2) → te σ H1 Q
def EvT (tt : TT) (σ : St) (H : Hp) (b : Bool) : Prop := ∀ H1, Same H H1 → ∀ Q : Bool → Hp → Prop, (∀ H2, Same H1 H2 → Q b H2) → tt σ H1 Q
/-- lists of values -/
def All2 (G H : Hp) : List V → List De → Prop
  | [], [] => True
  | v :: vs, δ :: δs => δ G H v ∧ All2 G H vs δs
  | _, _ => False
theorem All2.length {G H : Hp} : ∀ {vs : List V} {δs : List De}, All2 G H vs δs → vs.length = δs.length
  | [], [], _ => rfl
  | _ :: _, _ :: _, h => congrArg (· + 1) (All2.length h.2)
  | [], _ :: _, h => h.elim
  | _ :: _, [], h => h.elim
def EvA (ta : TA) (σ : St) (H : Hp) (δs : List De) : Prop := ∀ H1, Same H H1 → ∀ Q : List V → Hp → Prop, (∀ vs H2, Same H1 H2 → All2 H1 H2 vs δs → Q vs H2) → ta σ H1 Q
section
variable {K : PySem.W.Frag} {σ : St} {H H' : Hp} {ta tb tc te : TE} {tt tu : TT} {δ δ' : De} {δs : List De}
theorem EvX.mono (s : Same H H') (h : EvX te σ H δ) : EvX te σ H' δ := fun H1 e => h H1 (s.trans e)
theorem EvT.mono {b : Bool} (s : Same H H') (h : EvT tt σ H b) : EvT tt σ H' b := fun H1 e => h H1 (s.trans e)
theorem EvA.mono {ta : TA} (s : Same H H') (h : EvA ta σ H δs) : EvA ta σ H' δs := fun H1 e => h H1 (s.trans e)
theorem EvX.imp (h : EvX te σ H δ) (i : ∀ G H v, δ G H v → δ' G H v) : EvX te σ H δ' := fun H1 e Q q => h H1 e Q fun v H2 s d => q v H2 s (i _ _ _ d)
theorem EvX.to (h : EvX te σ H δ) (e : δ = δ') : EvX te σ H δ' := e ▸ h
theorem EvT.to {b b' : Bool} (h : EvT tt σ H b) (e : b = b') : EvT tt σ H b' := e ▸ h
theorem ev_l {xs : List PyData} (h : EvX te σ H (dM xs)) : EvX te σ H (dL K xs) := h.imp fun _ _ _ => dL_of_dM
theorem ev_m {α : Type} {enc : α → PyData} {as : List α} (h : EvX te σ H (dN (fun a => dD (enc a)) as)) : EvX te σ H (dM (as.map enc)) := h.imp fun _ _ _ => dM_of_dN
/-! names, constants -/
theorem ev_var {i : Nat} {v : V} (h : σ[i]? = some (some v)) : EvX (tVar i) σ H (dV v) := fun H1 _ Q q => ⟨v, h, q v H1 (Same.refl _) rfl⟩
theorem ed_var {i : Nat} {v : V} {d : PyData} (h : σ[i]? = some (some v)) (hd : Dt H v d) : EvX (tVar i) σ H (dD d) := fun H1 e Q q => ⟨v, h, q v H1 (Same.refl _) (hd.up e)⟩
theorem el_var {i : Nat} {v : V} {ds : List PyData} (h : σ[i]? = some (some v)) (hd : dL K ds H H v) : EvX (tVar i) σ H (dL K ds) := fun H1 e Q q => ⟨v, h, q v H1 (Same.refl _) (show dL K ds H H1 v from up hd e)⟩
theorem ev_c {v : V} : EvX (tC v) σ H (dV v) := fun H1 _ Q q => q v H1 (Same.refl _) rfl
theorem ed_int {i : Int} : EvX (tC (.int i)) σ H (dD (.int i)) := fun H1 _ Q q => q _ H1 (Same.refl _) (.int i)
theorem ed_str {i : Str} : EvX (tC (.str i)) σ H (dD (.str i)) := fun H1 _ Q q => q _ H1 (Same.refl _) (.str i)
theorem ed_bl {i : Bool} : EvX (tC (.bl i)) σ H (dD (.bool i)) := fun H1 _ Q q => q _ H1 (Same.refl _) (.bl i)
/-! two operands -/
theorem ev_op {δ1 δ2 : De} {r : R2} [m : Mo δ1] (ha : EvX ta σ H δ1) (hb : EvX tb σ H δ2)
    (hr : ∀ G H1 x y, Same H G → Same G H1 → δ1 G H1 x → δ2 G H1 y → ∀ Q : VK, (∀ v H2, Same H1 H2 → δ H1 H2 v → Q v H2) → r x y H1 Q) [Mo δ2] [Mo δ] : EvX (tOp r ta tb) σ H δ := fun H1 e Q q =>
  ha H1 e _ fun x H2 s2 d2 => hb H2 (e.trans s2) _ fun y H3 s3 d3 => hr H1 H3 x y e (s2.trans s3) (Mo.mo d2 s3 fun _ z => z) (Mo.mo d3 (Same.refl _) fun _ z => s2.free z) Q fun v H4 s4 d4 =>
    q v H4 (s2.trans (s3.trans s4)) (Mo.mo d4 (Same.refl _) fun _ z => (s2.trans s3).free z)
theorem ed_op0 {i j : Int} {g : Int → Int → Int} (ha : EvX ta σ H (dD (.int i))) (hb : EvX tb σ H (dD (.int j))) : EvX (tOp (rI0 fun i j => .int (g i j)) ta tb) σ H (dD (.int (g i j))) :=
  ev_op ha hb fun G H1 x y _ _ dx dy Q q => ⟨i, j, dx.int_inv, dy.int_inv, q _ H1 (Same.refl _) (.int _)⟩
theorem ed_opC {i j : Int} {C : Int → Int → Prop} {g : Int → Int → Int} (ha : EvX ta σ H (dD (.int i))) (hb : EvX tb σ H (dD (.int j))) (hc : C i j) : EvX (tOp (rI C fun i j => .int (g i j)) ta tb) σ H (dD (.int (g i j))) :=
  ev_op ha hb fun G H1 x y _ _ dx dy Q q => ⟨i, j, dx.int_inv, dy.int_inv, hc, q _ H1 (Same.refl _) (.int _)⟩
theorem ed_cmp {i j : Int} {g : Int → Int → Bool} (ha : EvX ta σ H (dD (.int i))) (hb : EvX tb σ H (dD (.int j))) : EvX (tOp (rI0 fun i j => .bl (g i j)) ta tb) σ H (dD (.bool (g i j))) :=
  ev_op ha hb fun G H1 x y _ _ dx dy Q q => ⟨i, j, dx.int_inv, dy.int_inv, q _ H1 (Same.refl _) (.bl _)⟩
theorem ed_eqI {i j : Int} (ha : EvX ta σ H (dD (.int i))) (hb : EvX tb σ H (dD (.int j))) : EvX (tOp rEq ta tb) σ H (dD (.bool (decide (i = j)))) :=
  ev_op ha hb fun G H1 x y _ _ dx dy Q q => by
    rw [dx.int_inv, dy.int_inv]
    refine ⟨rfl, ?_⟩
    rw [dec_int]
    exact q _ H1 (Same.refl _) (.bl _)
theorem ed_neI {i j : Int} (ha : EvX ta σ H (dD (.int i))) (hb : EvX tb σ H (dD (.int j))) : EvX (tOp rNe ta tb) σ H (dD (.bool (!decide (i = j)))) :=
  ev_op ha hb fun G H1 x y _ _ dx dy Q q => by
    rw [dx.int_inv, dy.int_inv]
    refine ⟨rfl, ?_⟩
    rw [dec_int]
    exact q _ H1 (Same.refl _) (.bl _)
theorem ed_eqS {i j : Str} (ha : EvX ta σ H (dD (.str i))) (hb : EvX tb σ H (dD (.str j))) : EvX (tOp rEq ta tb) σ H (dD (.bool (decide (i = j)))) :=
  ev_op ha hb fun G H1 x y _ _ dx dy Q q => by
    rw [dx.str_inv, dy.str_inv]
    refine ⟨rfl, ?_⟩
    have e : decide (V.str i = V.str j) = decide (i = j) := by
      by_cases h : i = j
      · subst h; simp
      · rw [decide_eq_false h, decide_eq_false fun z => h (V.str.inj z)]
    rw [e]
    exact q _ H1 (Same.refl _) (.bl _)
theorem ed_eqB {i j : Bool} (ha : EvX ta σ H (dD (.bool i))) (hb : EvX tb σ H (dD (.bool j))) : EvX (tOp rEq ta tb) σ H (dD (.bool (i == j))) :=
  ev_op ha hb fun G H1 x y _ _ dx dy Q q => by
    rw [dx.bl_inv, dy.bl_inv]
    refine ⟨rfl, ?_⟩
    rw [dec_bl]
    exact q _ H1 (Same.refl _) (.bl _)
/-! subscripts -/
theorem ed_ixT {ds : List PyData} {i : Int} {d : PyData} (ha : EvX ta σ H (dD (.tuple ds))) (hb : EvX tb σ H (dD (.int i))) (h : atI ds i = some d) : EvX (tOp (rIxT K) ta tb) σ H (dD d) :=
  ev_op ha hb fun G H1 x y _ _ dx dy Q q => by
    obtain ⟨a, xs, rfl, e, r⟩ := dx.tup_inv
    have h' : (ixN xs.length i).bind (fun j => ds[j]?) = some d := by rw [r.length]; exact h
    obtain ⟨j, hj, hd⟩ := Option.bind_eq_some_iff.mp h'
    obtain ⟨v, hv, dv⟩ := r.get hd
    exact ⟨a, xs, i, v, rfl, dy.int_inv, SqT.of e, by rw [atI, hj]; exact hv, q v H1 (Same.refl _) dv⟩
theorem ed_ixL {ds : List PyData} {i : Int} {d : PyData} (ha : EvX ta σ H (dL K ds)) (hb : EvX tb σ H (dD (.int i))) (h : atI ds i = some d) : EvX (tOp (rIxL K) ta tb) σ H (dD d) :=
  ev_op ha hb fun G H1 x y _ _ dx dy Q q => by
    obtain ⟨a, xs, rfl, e, r⟩ := dx
    have h' : (ixN xs.length i).bind (fun j => ds[j]?) = some d := by rw [r.length]; exact h
    obtain ⟨j, hj, hd⟩ := Option.bind_eq_some_iff.mp h'
    obtain ⟨v, hv, dv⟩ := r.get hd
    exact ⟨a, xs, i, v, rfl, dy.int_inv, e, by rw [atI, hj]; exact hv, q v H1 (Same.refl _) dv⟩
theorem ev_ixL {a : Addr} {xs : List V} {i : Int} {v : V} (ha : EvX ta σ H (dV (.ref a))) (hb : EvX tb σ H (dD (.int i))) (hl : SqL K H a xs) (h : atI xs i = some v) : EvX (tOp (rIxL K) ta tb) σ H (dV v) :=
  ev_op ha hb fun G H1 x y s1 s2 dx dy Q q => ⟨a, xs, i, v, dx, dy.int_inv, sql_up (s1.trans s2) hl, h, q v H1 (Same.refl _) rfl⟩
/-! tuples, lists -/
theorem ea_nil : EvA tNil σ H [] := fun H1 _ Q q => q [] H1 (Same.refl _) True.intro
theorem all2_mono {G H G0 H3 : Hp} (s : Same H H3) (g : ∀ b, G b = none → G0 b = none) : ∀ {vs : List V} {δs : List De}, (∀ δ ∈ δs, Mo δ) → All2 G H vs δs → All2 G0 H3 vs δs
  | [], [], _, _ => True.intro
  | _ :: _, _ :: _, m, h => ⟨(m _ (List.mem_cons_self ..)).mo h.1 s g, all2_mono s g (fun δ z => m δ (List.mem_cons_of_mem _ z)) h.2⟩
  | [], _ :: _, _, h => h.elim
  | _ :: _, [], _, h => h.elim
class MoL (δs : List De) : Prop where
  all : ∀ δ ∈ δs, Mo δ
instance : MoL [] := ⟨fun _ h => by cases h⟩
instance {δ : De} {δs : List De} [m : Mo δ] [r : MoL δs] : MoL (δ :: δs) := ⟨fun x h => by
  cases h with
  | head => exact m
  | tail _ h => exact r.all x h⟩
instance {ds : List PyData} : MoL (ds.map dD) := ⟨fun x h => by
  obtain ⟨d, _, rfl⟩ := List.mem_map.mp h
  infer_instance⟩
theorem ea_cons {ta : TE} {tr : TA} [m : Mo δ] [r : MoL δs] (h : EvX ta σ H δ) (hr : EvA tr σ H δs) : EvA (tCons ta tr) σ H (δ :: δs) := fun H1 e Q q =>
  h H1 e _ fun x H2 s2 d2 => hr H2 (e.trans s2) _ fun xs H3 s3 d3 => q _ H3 (s2.trans s3) ⟨Mo.mo d2 s3 fun _ z => z, all2_mono (Same.refl _) (fun _ z => s2.free z) r.all d3⟩
theorem all2_data {G H : Hp} : ∀ {vs : List V} {ds : List PyData}, All2 G H vs (ds.map dD) → Dts H vs ds
  | [], [], _ => .nil
  | _ :: _, _ :: _, h => .cons h.1 (all2_data h.2)
  | [], _ :: _, h => h.elim
  | _ :: _, [], h => h.elim
theorem ed_tup {t : TA} {ds : List PyData} (h : EvA t σ H (ds.map dD)) (hl : ds.length ≤ sizeLine) : EvX (tTup t) σ H (dD (.tuple ds)) := fun H1 e Q q =>
  h H1 e _ fun vs H2 s2 d2 => by
    have r := all2_data d2
    refine ⟨by rw [r.length]; exact hl, fun p hp => q _ _ (s2.trans (same_new hp)) (.tup upd_same (r.mono (tk_new hp)))⟩
theorem em_lst {t : TA} {ds : List PyData} (h : EvA t σ H (ds.map dD)) (hl : ds.length ≤ sizeLine) : EvX (tLst t) σ H (dM ds) := fun H1 e Q q =>
  h H1 e _ fun vs H2 s2 d2 => by
    have r := all2_data d2
    refine ⟨by rw [r.length]; exact hl, fun p hp => q _ _ (s2.trans (same_new hp)) ⟨p, vs, rfl, s2.free hp, upd_same, r.mono (tk_new hp)⟩⟩
theorem ed_cat {ds es : List PyData} (ha : EvX ta σ H (dD (.tuple ds))) (hb : EvX tb σ H (dD (.tuple es))) (hl : ds.length + es.length ≤ sizeLine) : EvX (tOp (rCatA K) ta tb) σ H (dD (.tuple (ds ++ es))) :=
  ev_op ha hb fun G H1 x y _ _ dx dy Q q => by
    obtain ⟨a, xs, rfl, e, r⟩ := dx.tup_inv
    obtain ⟨b, ys, rfl, e', r'⟩ := dy.tup_inv
    refine ⟨a, b, xs, ys, rfl, rfl, SqT.of e, SqT.of e', by rw [r.length, r'.length]; exact hl, fun z => ?_, fun _ z => ?_, fun _ _ p hp => ?_⟩
    · subst z; cases r; exact q _ H1 (Same.refl _) dy
    · subst z; cases r'; exact q _ H1 (Same.refl _) (by rw [List.append_nil]; exact dx)
    · exact q _ _ (same_new hp) (.tup upd_same ((r.append r').mono (tk_new hp)))
/-! in -/
theorem inV_ints (i : Int) : ∀ ns : List Int, inV (.int i) (ns.map V.int) = decide (i ∈ ns)
  | [] => by simp [inV]
  | n :: r => by
    have h := inV_ints i r
    unfold inV at h ⊢
    rw [List.map_cons, List.any_cons, h]
    by_cases e : n = i
    · subst e; simp [eqV]
    · have e' : ¬ i = n := fun z => e z.symm
      have : eqV (V.int n) (V.int i) = false := by simp [eqV, e]
      rw [this]; simp [e']
theorem inV_strs (i : Str) : ∀ ns : List Str, inV (.str i) (ns.map V.str) = decide (i ∈ ns)
  | [] => by simp [inV]
  | n :: r => by
    have h := inV_strs i r
    unfold inV at h ⊢
    rw [List.map_cons, List.any_cons, h]
    by_cases e : n = i
    · subst e; simp [eqV]
    · have e' : ¬ i = n := fun z => e z.symm
      have : eqV (V.str n) (V.str i) = false := by simp [eqV, e]
      rw [this]; simp [e']
theorem flat_ints (ns : List Int) : (ns.map V.int).all flatV = true := by simp [flatV]
theorem flat_strs (ns : List Str) : (ns.map V.str).all flatV = true := by simp [flatV]
theorem ed_inT {i : Int} {ns : List Int} (ha : EvX ta σ H (dD (.int i))) (hb : EvX tb σ H (dD (.tuple (ns.map .int)))) : EvX (tOp (rIn K false) ta tb) σ H (dD (.bool (decide (i ∈ ns)))) :=
  ev_op ha hb fun G H1 x y _ _ dx dy Q q => by
    obtain ⟨b, ys, rfl, e', r'⟩ := dy.tup_inv
    rw [dx.int_inv]
    refine ⟨b, ys, rfl, .inr (SqT.of e'), rfl, by rw [r'.ints]; exact flat_ints ns, ?_⟩
    rw [r'.ints, inV_ints]
    exact q _ H1 (Same.refl _) (.bl _)
theorem ed_notinT {i : Int} {ns : List Int} (ha : EvX ta σ H (dD (.int i))) (hb : EvX tb σ H (dD (.tuple (ns.map .int)))) : EvX (tOp (rIn K true) ta tb) σ H (dD (.bool (!decide (i ∈ ns)))) :=
  ev_op ha hb fun G H1 x y _ _ dx dy Q q => by
    obtain ⟨b, ys, rfl, e', r'⟩ := dy.tup_inv
    rw [dx.int_inv]
    refine ⟨b, ys, rfl, .inr (SqT.of e'), rfl, by rw [r'.ints]; exact flat_ints ns, ?_⟩
    rw [r'.ints, inV_ints]
    exact q _ H1 (Same.refl _) (.bl _)
theorem ed_inL {i : Str} {ns : List Str} (ha : EvX ta σ H (dD (.str i))) (hb : EvX tb σ H (dL K (ns.map .str))) : EvX (tOp (rIn K false) ta tb) σ H (dD (.bool (decide (i ∈ ns)))) :=
  ev_op ha hb fun G H1 x y _ _ dx dy Q q => by
    obtain ⟨b, ys, rfl, e', r'⟩ := dy
    rw [dx.str_inv]
    refine ⟨b, ys, rfl, .inl e', rfl, by rw [r'.strs]; exact flat_strs ns, ?_⟩
    rw [r'.strs, inV_strs]
    exact q _ H1 (Same.refl _) (.bl _)
/-! deep == -/
theorem ed_eqD {d e : PyData} (ha : EvX ta σ H (dD d)) (hb : EvX tb σ H (dD e)) (sd : SeqAt.shaped d = true) (se : SeqAt.shaped e = true) : EvX (tOp (rEqD K) ta tb) σ H (dD (.bool (PyData.eqv d e))) :=
  ev_op ha hb fun G H1 x y _ _ dx dy Q q => ⟨d, e, dx.dp, dy.dp, sd, se, q _ H1 (Same.refl _) (.bl _)⟩
theorem dL_dp {ds : List PyData} {G H : Hp} {v : V} (h : dL K ds G H v) : Dp K H v (.list ds) := by
  obtain ⟨a, vs, rfl, e, r⟩ := h
  exact .lst e r.dp
theorem ed_eqL {d e : List PyData} (ha : EvX ta σ H (dL K d)) (hb : EvX tb σ H (dL K e)) (sd : SeqAt.shaped (.list d) = true) (se : SeqAt.shaped (.list e) = true) : EvX (tOp (rEqD K) ta tb) σ H (dD (.bool (PyData.eqv (.list d) (.list e)))) :=
  ev_op ha hb fun G H1 x y _ _ dx dy Q q => ⟨.list d, .list e, dL_dp dx, dL_dp dy, sd, se, q _ H1 (Same.refl _) (.bl _)⟩
theorem ed_inD {d : PyData} {es : List PyData} (ha : EvX ta σ H (dD d)) (hb : EvX tb σ H (dL K es)) (sd : SeqAt.shaped d = true) (se : SeqAt.shaped (.list es) = true) : EvX (tOp (rInD K) ta tb) σ H (dD (.bool (es.any fun z => PyData.eqv z d))) :=
  ev_op ha hb fun G H1 x y _ _ dx dy Q q => ⟨d, es, dx.dp, dL_dp dy, sd, se, q _ H1 (Same.refl _) (.bl _)⟩
/-! built-in calls -/
theorem ev_cb {t : TA} {r : List V → Hp → VK → Prop} [MoL δs] [Mo δ] (h : EvA t σ H δs)
    (hr : ∀ G H1 vs, Same H G → Same G H1 → All2 G H1 vs δs → ∀ Q : VK, (∀ v H2, Same H1 H2 → δ H1 H2 v → Q v H2) → r vs H1 Q) : EvX (tCB r t) σ H δ := fun H1 e Q q =>
  h H1 e _ fun vs H2 s2 d2 => hr H1 H2 vs e s2 d2 Q fun v H3 s3 d3 => q v H3 (s2.trans s3) (Mo.mo d3 (Same.refl _) fun _ z => s2.free z)
theorem all2_1 {G H : Hp} {vs : List V} {δ : De} (h : All2 G H vs [δ]) : ∃ v, vs = [v] ∧ δ G H v := by
  match vs, h with
  | [v], h => exact ⟨v, rfl, h.1⟩
theorem all2_2 {G H : Hp} {vs : List V} {δ δ' : De} (h : All2 G H vs [δ, δ']) : ∃ v w, vs = [v, w] ∧ δ G H v ∧ δ' G H w := by
  match vs, h with
  | [v, w], h => exact ⟨v, w, rfl, h.1, h.2.1⟩
theorem all2_3 {G H : Hp} {vs : List V} {δ δ' δ2 : De} (h : All2 G H vs [δ, δ', δ2]) : ∃ v w u, vs = [v, w, u] ∧ δ G H v ∧ δ' G H w ∧ δ2 G H u := by
  match vs, h with
  | [v, w, u], h => exact ⟨v, w, u, rfl, h.1, h.2.1, h.2.2.1⟩
theorem all2_4 {G H : Hp} {vs : List V} {δ δ' δ2 δ3 : De} (h : All2 G H vs [δ, δ', δ2, δ3]) : ∃ v w u z, vs = [v, w, u, z] ∧ δ G H v ∧ δ' G H w ∧ δ2 G H u ∧ δ3 G H z := by
  match vs, h with
  | [v, w, u, z], h => exact ⟨v, w, u, z, rfl, h.1, h.2.1, h.2.2.1, h.2.2.2.1⟩
def rLenQ (K : PySem.W.Frag) : List V → Hp → VK → Prop := fun xs H Q => ∃ p ys, xs = [.ref p] ∧ (SqL K H p ys ∨ SqT K H p ys) ∧ Q (.int ys.length) H
theorem ed_lenT {ds : List PyData} (ha : EvX ta σ H (dD (.tuple ds))) : EvX (tCB (rLenQ K) (tCons ta tNil)) σ H (dD (.int ds.length)) :=
  ev_cb (ea_cons ha ea_nil) fun G H1 vs _ _ h Q q => by
    obtain ⟨v, rfl, d⟩ := all2_1 h
    obtain ⟨a, xs, rfl, e, r⟩ := d.tup_inv
    exact ⟨a, xs, rfl, .inr (SqT.of e), by rw [r.length]; exact q _ H1 (Same.refl _) (.int _)⟩
theorem ed_lenL {ds : List PyData} (ha : EvX ta σ H (dL K ds)) : EvX (tCB (rLenQ K) (tCons ta tNil)) σ H (dD (.int ds.length)) :=
  ev_cb (ea_cons ha ea_nil) fun G H1 vs _ _ h Q q => by
    obtain ⟨v, rfl, d⟩ := all2_1 h
    obtain ⟨a, xs, rfl, e, r⟩ := d
    exact ⟨a, xs, rfl, .inl e, by rw [r.length]; exact q _ H1 (Same.refl _) (.int _)⟩
theorem ed_lenV {a : Addr} {xs : List V} (ha : EvX ta σ H (dV (.ref a))) (hl : SqL K H a xs) : EvX (tCB (rLenQ K) (tCons ta tNil)) σ H (dD (.int xs.length)) :=
  ev_cb (ea_cons ha ea_nil) fun G H1 vs s1 s2 h Q q => by
    obtain ⟨v, rfl, d⟩ := all2_1 h
    cases d
    exact ⟨a, xs, rfl, .inl (sql_up (s1.trans s2) hl), q _ H1 (Same.refl _) (.int _)⟩
end
end D18
set_option Elab.async false
set_option linter.all false
set_option maxRecDepth 100000
set_option maxHeartbeats 4000000
/-! Dn2: calls, tests, comprehensions, loops, statements. -/
namespace D18
open PySem L2

abbrev nI (n : Nat) : PyData := .int (n : Int)
/-- the heap that knows nothing -/
def Hn : Hp := fun _ => none
theorem hn_none {G : Hp} : ∀ b, G b = none → Hn b = none := fun _ _ => rfl
theorem toHn {δ : De} [m : Mo δ] {G H : Hp} {v : V} (h : δ G H v) : δ Hn H v := m.mo h (Same.refl _) hn_none
theorem all2_hn {G H : Hp} {vs : List V} {δs : List De} [m : MoL δs] (h : All2 G H vs δs) : All2 Hn H vs δs := all2_mono (Same.refl _) hn_none m.all h

/-! ### a def's promise -/
def spOf {R : Type} (args : R → List De) (pre : R → Hp → Prop) (res : R → De) : Sp := fun vs H Q _ => ∃ r, All2 Hn H vs (args r) ∧ pre r H ∧ ∀ v H', Same H H' → res r H H' v → Q v H'
section
variable {K : PySem.W.Frag} {σ : St} {H H' : Hp} {ta tb tc te : TE} {tt tu : TT} {δ δ' : De} {δs : List De}
theorem ev_call {R : Type} {args : R → List De} {pre : R → Hp → Prop} {res : R → De} {t : TA} (r : R) (ha : EvA t σ H (args r)) (hp : ∀ H2, Same H H2 → pre r H2) [m : MoL (args r)] [Mo (res r)] (hδ : res r = δ := by rfl) :
    EvX (tCall (spOf args pre res) [] E0 t) σ H δ := fun H1 e Q q =>
  ha H1 e _ fun vs H2 s2 d2 => by
    subst hδ
    rw [List.append_nil]
    exact ⟨r, all2_hn d2, hp H2 (e.trans s2), fun v H3 s3 d3 => q v H3 (s2.trans s3) (Mo.mo d3 (Same.refl _) fun _ z => s2.free z)⟩
/-! ### more built-in calls -/
def rIntQ : List V → Hp → VK → Prop := fun xs H Q => (∃ i, xs = [.int i] ∧ Q (.int i) H) ∨ ∃ k, xs = [.bl k] ∧ Q (.int (if k then 1 else 0)) H
theorem ed_intI {i : Int} (ha : EvX ta σ H (dD (.int i))) : EvX (tCB rIntQ (tCons ta tNil)) σ H (dD (.int i)) :=
  ev_cb (ea_cons ha ea_nil) fun G H1 vs _ _ h Q q => by
    obtain ⟨v, rfl, d⟩ := all2_1 h
    rw [Dt.int_inv d]
    exact .inl ⟨i, rfl, q _ H1 (Same.refl _) (.int _)⟩
theorem dts_range {H : Hp} : ∀ (f : Nat → Int) (l : List Nat), Dts H (l.map fun i => V.int (f i)) (l.map fun i => .int (f i))
  | _, [] => .nil
  | f, _ :: r => .cons (.int _) (dts_range f r)
theorem em_listRg {n : Nat} (ha : EvX te σ H (dD (.int n))) (hn : n ≤ 16777216) : EvX (tLstRg (tRg1 te)) σ H (dM ((List.range n).map nI)) := fun H1 e Q q =>
  ha H1 e _ fun v H2 s2 d2 => by
    refine ⟨n, Dt.int_inv d2, RgOk.of_le (Int.le_refl _) (by omega) (by omega) (by omega), fun p hp => ?_⟩
    refine q _ _ (s2.trans (same_new hp)) ⟨p, _, rfl, s2.free hp, upd_same, ?_⟩
    unfold rgV
    have e1 : ((n : Int) - 0).toNat = n := by omega
    rw [e1]
    have e2 : (List.range n).map (fun i => V.int (0 + (i : Nat))) = (List.range n).map (fun i => V.int (i : Nat)) := List.map_congr_left fun i _ => by rw [Int.zero_add]
    rw [e2]
    exact dts_range (fun i => (i : Int)) _
def rTupQ (K : PySem.W.Frag) : List V → Hp → VK → Prop := fun xs H Q => ∃ p ys, xs = [.ref p] ∧ ((SqL K H p ys ∧ ∀ l, H l = none → Q (.ref l) (upd H l (.tup ys))) ∨ (SqT K H p ys ∧ Q (.ref p) H))
theorem ed_tupleOf {ds : List PyData} (ha : EvX ta σ H (dL K ds)) : EvX (tCB (rTupQ K) (tCons ta tNil)) σ H (dD (.tuple ds)) :=
  ev_cb (ea_cons ha ea_nil) fun G H1 vs _ _ h Q q => by
    obtain ⟨v, rfl, a, xs, rfl, e, r⟩ := all2_1 h
    exact ⟨a, xs, rfl, .inl ⟨e, fun l hl => q _ _ (same_new hl) (.tup upd_same (r.mono (tk_new hl)))⟩⟩
def rListQ (K : PySem.W.Frag) : List V → Hp → VK → Prop := fun xs H Q => ∃ p ys, xs = [.ref p] ∧ (SqL K H p ys ∨ SqT K H p ys) ∧ ∀ l, H l = none → Q (.ref l) (upd H l (.lst ys))
theorem em_listOf {ds : List PyData} (ha : EvX ta σ H (dL K ds)) : EvX (tCB (rListQ K) (tCons ta tNil)) σ H (dM ds) :=
  ev_cb (ea_cons ha ea_nil) fun G H1 vs _ _ h Q q => by
    obtain ⟨v, rfl, a, xs, rfl, e, r⟩ := all2_1 h
    exact ⟨a, xs, rfl, .inl e, fun l hl => q _ _ (same_new hl) ⟨l, xs, rfl, hl, upd_same, r.mono (tk_new hl)⟩⟩
theorem em_listOfT {ds : List PyData} (ha : EvX ta σ H (dD (.tuple ds))) : EvX (tCB (rListQ K) (tCons ta tNil)) σ H (dM ds) :=
  ev_cb (ea_cons ha ea_nil) fun G H1 vs _ _ h Q q => by
    obtain ⟨v, rfl, d⟩ := all2_1 h
    obtain ⟨a, xs, rfl, e, r⟩ := Dt.tup_inv d
    exact ⟨a, xs, rfl, .inr (SqT.of e), fun l hl => q _ _ (same_new hl) ⟨l, xs, rfl, hl, upd_same, r.mono (tk_new hl)⟩⟩
/-- the ascending arrangement -/
def sortI (ns : List Int) : List Int := ns.mergeSort (fun a b => decide (a ≤ b))
theorem sortI_perm (ns : List Int) : (sortI ns).Perm ns := List.mergeSort_perm _ _
theorem sortI_asc (ns : List Int) : (sortI ns).Pairwise (· ≤ ·) := by
  have h := List.pairwise_mergeSort (le := fun a b : Int => decide (a ≤ b)) (fun a b c h1 h2 => by simp at *; omega) (fun a b => by simp; omega) ns
  exact h.imp fun h => by simpa using h
theorem asc_unique : ∀ {l m : List Int}, l.Perm m → l.Pairwise (· ≤ ·) → m.Pairwise (· ≤ ·) → l = m
  | [], m, p, _, _ => (List.nil_perm.mp p).symm
  | a :: l, m, p, hl, hm => by
    cases m with
    | nil => exact absurd (List.Perm.length_eq p) (by simp)
    | cons b m =>
      have ha : a ∈ b :: m := p.subset (List.mem_cons_self ..)
      have hb : b ∈ a :: l := p.symm.subset (List.mem_cons_self ..)
      have e : a = b := by
        rcases List.mem_cons.mp ha with e | h1
        · exact e
        · rcases List.mem_cons.mp hb with e | h2
          · exact e.symm
          · have q1 := (List.pairwise_cons.mp hm).1 a h1
            have q2 := (List.pairwise_cons.mp hl).1 b h2
            omega
      subst e
      rw [asc_unique (List.Perm.cons_inv p) (List.pairwise_cons.mp hl).2 (List.pairwise_cons.mp hm).2]
theorem sortI_unique {l ns : List Int} (p : l.Perm ns) (h : l.Pairwise (· ≤ ·)) : l = sortI ns := asc_unique (p.trans (sortI_perm ns).symm) h (sortI_asc ns)
theorem em_sorted {ns : List Int} (ha : EvX ta σ H (dL K (ns.map .int))) (hn : ns.length < 64) : EvX (tCB (rSorted K) (tCons ta tNil)) σ H (dM ((sortI ns).map .int)) :=
  ev_cb (ea_cons ha ea_nil) fun G H1 vs _ _ h Q q => by
    obtain ⟨v, rfl, a, xs, rfl, e, r⟩ := all2_1 h
    refine ⟨a, ns, rfl, by rw [← r.ints]; exact e, hn, fun ns' p hp hs np => ?_⟩
    rw [sortI_unique hp hs]
    exact q _ _ (same_new np) ⟨p, _, rfl, np, upd_same, dts_ints _⟩
theorem ed_max {ns : List Int} {m : Int} (ha : EvX ta σ H (dL K (ns.map .int))) (hm : m ∈ ns) (hle : ∀ y ∈ ns, y ≤ m) : EvX (tCB (rMax K) (tCons ta tNil)) σ H (dD (.int m)) :=
  ev_cb (ea_cons ha ea_nil) fun G H1 vs _ _ h Q q => by
    obtain ⟨v, rfl, a, xs, rfl, e, r⟩ := all2_1 h
    refine ⟨a, ns, rfl, by rw [← r.ints]; exact e, List.length_pos_of_mem hm, fun m' h1 h2 => ?_⟩
    have : m' = m := Int.le_antisymm (hle _ h1) (h2 _ hm)
    rw [this]
    exact q _ H1 (Same.refl _) (.int _)
theorem ed_all {bs : List Bool} (ha : EvX ta σ H (dL K (bs.map .bool))) : EvX (tCB (rAll K) (tCons ta tNil)) σ H (dD (.bool (bs.all id))) :=
  ev_cb (ea_cons ha ea_nil) fun G H1 vs _ _ h Q q => by
    obtain ⟨v, rfl, a, xs, rfl, e, r⟩ := all2_1 h
    exact ⟨a, bs, rfl, by rw [← r.bls]; exact e, q _ H1 (Same.refl _) (.bl _)⟩
/-! isinstance -/
def tyN : PyData → String
  | .none => "NoneType"
  | .bool _ => "bool"
  | .int _ => "int"
  | .str _ => "str"
  | .list _ => "list"
  | .tuple _ => "tuple"
  | .dict _ => "dict"
theorem Dt.ty {d : PyData} {v : V} (h : Dt H v d) : TyX K H v (.type (tyN d)) := by
  cases h with
  | non => exact .base .non
  | bl b => exact .base (.bl b)
  | int i => exact .base (.int i)
  | str x => exact .base (.str x)
  | tup e _ => exact .base (.tup e)
theorem ed_isi {d : PyData} {n : String} {b : Bool} (ha : EvX ta σ H (dD d)) (hb : EvX tb σ H (dV (.ty n))) (hk : kitB (tyN d) n = some b) : EvX (tCB (rIsi K) (tCons ta (tCons tb tNil))) σ H (dD (.bool b)) :=
  ev_cb (ea_cons ha (ea_cons hb ea_nil)) fun G H1 vs _ _ h Q q => by
    obtain ⟨v, w, rfl, d1, rfl⟩ := all2_2 h
    exact ⟨v, .ty n, _, .type n, b, rfl, .ty n, Dt.ty d1, kit_ty hk, q _ H1 (Same.refl _) (.bl _)⟩
theorem ed_isiL {a : Addr} {xs : List V} {n : String} {b : Bool} (ha : EvX ta σ H (dV (.ref a))) (hl : H a = some (.lst xs)) (hb : EvX tb σ H (dV (.ty n))) (hk : kitB "list" n = some b) : EvX (tCB (rIsi K) (tCons ta (tCons tb tNil))) σ H (dD (.bool b)) :=
  ev_cb (ea_cons ha (ea_cons hb ea_nil)) fun G H1 vs s1 s2 h Q q => by
    obtain ⟨v, w, rfl, rfl, rfl⟩ := all2_2 h
    exact ⟨_, .ty n, _, .type n, b, rfl, .ty n, .base (.lst (s2 _ _ (s1 _ _ hl))), kit_ty hk, q _ H1 (Same.refl _) (.bl _)⟩
/-! texts -/
def rAddS2 : R2 := fun x y H Q => ∃ i j, x = .str i ∧ y = .str j ∧ i.length + j.length ≤ sizeLine ∧ Q (.str (i ++ j)) H
theorem ed_addS {i j : Str} (ha : EvX ta σ H (dD (.str i))) (hb : EvX tb σ H (dD (.str j))) (hl : i.length + j.length ≤ sizeLine) : EvX (tOp rAddS2 ta tb) σ H (dD (.str (i ++ j))) :=
  ev_op ha hb fun G H1 x y _ _ dx dy Q q => ⟨i, j, Dt.str_inv dx, Dt.str_inv dy, hl, q _ H1 (Same.refl _) (.str _)⟩
/-! slices -/
def EvO (to : TO) (σ : St) (H : Hp) (o : Option Int) : Prop := ∀ H1, Same H H1 → ∀ Q : Option Int → Hp → Prop, (∀ H2, Same H1 H2 → Q o H2) → to σ H1 Q
theorem eo_none : EvO tNoPart σ H none := fun H1 _ Q q => q H1 (Same.refl _)
theorem eo_some {i : Int} (h : EvX te σ H (dD (.int i))) : EvO (tPart te) σ H (some i) := fun H1 e Q q => h H1 e _ fun v H2 s d => ⟨i, Dt.int_inv d, q H2 s⟩
def cutD {α : Type} (xs : List α) (lo hi : Option Int) : List α := (xs.drop (HT.sIx xs.length 0 lo)).take (HT.sIx xs.length xs.length hi - HT.sIx xs.length 0 lo)
theorem Dts.cut {H : Hp} {vs : List V} {ds : List PyData} (r : Dts H vs ds) (lo hi : Option Int) : Dts H (cutV vs lo hi) (cutD ds lo hi) := by
  unfold cutV cutD
  rw [r.length]
  exact (r.drop _).take _
theorem cut_whole {α : Type} (ds : List α) (lo hi : Option Int) (h : HT.sIx ds.length 0 lo = 0 ∧ HT.sIx ds.length ds.length hi = ds.length) : cutD ds lo hi = ds := by
  unfold cutD
  rw [h.1, h.2, List.drop_zero, Nat.sub_zero, List.take_length]
theorem ed_slT {tl th : TO} {ds : List PyData} {lo hi : Option Int} (h : EvX te σ H (dD (.tuple ds))) (h1 : EvO tl σ H lo) (h2 : EvO th σ H hi) : EvX (tSl (rSlA K) te tl th) σ H (dD (.tuple (cutD ds lo hi))) := fun H1 e Q q =>
  h H1 e _ fun v H2 s2 d2 => h1 H2 (e.trans s2) _ fun H3 s3 => h2 H3 ((e.trans s2).trans s3) _ fun H4 s4 => by
    have d4 := Dt.up (s3.trans s4) d2
    have s14 := s2.trans (s3.trans s4)
    obtain ⟨a, xs, rfl, ea, r⟩ := Dt.tup_inv d4
    refine ⟨a, xs, rfl, SqT.of ea, fun w => ?_, fun _ p hp => q _ _ (s14.trans (same_new hp)) (.tup upd_same ((r.cut lo hi).mono (tk_new hp)))⟩
    rw [r.length] at w
    rw [cut_whole _ _ _ w] at q
    exact q _ _ s14 d4
theorem em_slL {tl th : TO} {ds : List PyData} {lo hi : Option Int} (h : EvX te σ H (dL K ds)) (h1 : EvO tl σ H lo) (h2 : EvO th σ H hi) : EvX (tSl (rSlL K) te tl th) σ H (dM (cutD ds lo hi)) := fun H1 e Q q =>
  h H1 e _ fun v H2 s2 d2 => h1 H2 (e.trans s2) _ fun H3 s3 => h2 H3 ((e.trans s2).trans s3) _ fun H4 s4 => by
    have s14 := s2.trans (s3.trans s4)
    obtain ⟨a, xs, rfl, ea, r⟩ := (up d2 (s3.trans s4) : dL K ds _ H4 v)
    exact ⟨a, xs, rfl, ea, fun p hp => q _ _ (s14.trans (same_new hp)) ⟨p, _, rfl, s14.free hp, upd_same, (r.cut lo hi).mono (tk_new hp)⟩⟩
/-! ### tests, truth values -/
theorem et_B {b : Bool} (h : EvX te σ H (dD (.bool b))) : EvT (tB te) σ H b := fun H1 e Q q => h H1 e _ fun v H2 s d => ⟨b, Dt.bl_inv d, q H2 s⟩
theorem et_test {b : Bool} (h : EvX te σ H (dD (.bool b))) : EvT (tTest te) σ H b := fun H1 e Q q => h H1 e _ fun v H2 s d => ⟨b, Dt.bl_inv d, q H2 s⟩
theorem et_yes : EvT tYes σ H true := fun H1 _ Q q => q H1 (Same.refl _)
theorem et_and {a b : Bool} (h1 : EvT tt σ H a) (h2 : a = true → EvT tu σ H b) : EvT (tAnd tt tu) σ H (a && b) := fun H1 e Q q => h1 H1 e _ fun H2 s => by
  cases a with
  | true => exact h2 rfl H2 (e.trans s) Q fun H3 s3 => q H3 (s.trans s3)
  | false => exact q H2 s
theorem et_or {a b : Bool} (h1 : EvT tt σ H a) (h2 : a = false → EvT tu σ H b) : EvT (tOr tt tu) σ H (a || b) := fun H1 e Q q => h1 H1 e _ fun H2 s => by
  cases a with
  | true => exact q H2 s
  | false => exact h2 rfl H2 (e.trans s) Q fun H3 s3 => q H3 (s.trans s3)
theorem et_not {a : Bool} (h1 : EvT tt σ H a) : EvT (tNot tt) σ H (!a) := fun H1 e Q q => h1 H1 e _ fun H2 s => q H2 s
theorem ed_andV {a b : Bool} (h1 : EvX ta σ H (dD (.bool a))) (h2 : a = true → EvX tb σ H (dD (.bool b))) : EvX (tAndV ta tb) σ H (dD (.bool (a && b))) := fun H1 e Q q => h1 H1 e _ fun v H2 s d => by
  refine ⟨a, Dt.bl_inv d, ?_⟩
  cases a with
  | true => exact h2 rfl H2 (e.trans s) Q fun v H3 s3 d3 => q v H3 (s.trans s3) d3
  | false => exact q _ H2 s (.bl _)
theorem ed_orV {a b : Bool} (h1 : EvX ta σ H (dD (.bool a))) (h2 : a = false → EvX tb σ H (dD (.bool b))) : EvX (tOrV ta tb) σ H (dD (.bool (a || b))) := fun H1 e Q q => h1 H1 e _ fun v H2 s d => by
  refine ⟨a, Dt.bl_inv d, ?_⟩
  cases a with
  | true => exact q _ H2 s (.bl _)
  | false => exact h2 rfl H2 (e.trans s) Q fun v H3 s3 d3 => q v H3 (s.trans s3) d3
theorem ed_notV {a : Bool} (h1 : EvX ta σ H (dD (.bool a))) : EvX (tNotV ta) σ H (dD (.bool (!a))) := fun H1 e Q q => h1 H1 e _ fun v H2 s d => ⟨a, Dt.bl_inv d, q _ H2 s (.bl _)⟩
/-- i < j < k and the like -/
theorem ed_chain {i j k : Int} {g g' : Int → Int → Bool} (ha : EvX ta σ H (dD (.int i))) (hb : EvX tb σ H (dD (.int j))) (hc : EvX tc σ H (dD (.int k))) :
    EvX (tChain (rI0 fun i j => .bl (g i j)) (rI0 fun i j => .bl (g' i j)) ta tb tc) σ H (dD (.bool (g i j && g' j k))) := fun H1 e Q q =>
  ha H1 e _ fun x H2 s2 d2 => hb H2 (e.trans s2) _ fun y H3 s3 d3 => by
    refine ⟨i, j, Dt.int_inv d2, Dt.int_inv d3, g i j, rfl, ?_⟩
    cases hg : g i j with
    | true =>
      rw [hg] at q
      exact hc H3 ((e.trans s2).trans s3) _ fun z H4 s4 d4 => ⟨j, k, Dt.int_inv d3, Dt.int_inv d4, q _ H4 (s2.trans (s3.trans s4)) (.bl _)⟩
    | false =>
      rw [hg] at q
      exact q _ H3 (s2.trans s3) (.bl _)
end

/-! ### what is walked -/
/-- H0 is kept, what came between H1 and H2 is kept, the tuples of H2 are kept -/
def Kp (H0 H1 H2 H : Hp) : Prop := Same H0 H ∧ (∀ b o, H1 b = none → H2 b = some o → H b = some o) ∧ TK H2 H
theorem kp_same {H0 H1 H2 H : Hp} (s0 : Same H0 H2) (s : Same H2 H) : Kp H0 H1 H2 H := ⟨s0.trans s, fun b o _ e => s b o e, tk_same s⟩
theorem Kp.up {H0 H1 H2 H H' : Hp} (k : Kp H0 H1 H2 H) (s : Same H H') : Kp H0 H1 H2 H' := ⟨k.1.trans s, fun b o n e => s b o (k.2.1 b o n e), k.2.2.trans (tk_same s)⟩
/-- a list that H0 does not know and that stood at H1 is written -/
theorem Kp.write {H0 H1 H2 H : Hp} {l : Addr} {xs : List V} {o : HO} (k : Kp H0 H1 H2 H) (h0 : H0 l = none) (h1 : H1 l ≠ none) (hl : H l = some (.lst xs)) : Kp H0 H1 H2 (upd H l o) :=
  ⟨same_mut k.1 h0, fun b u n e => by
    have nb : b ≠ l := fun z => by subst z; exact h1 n
    rw [upd_ne nb]; exact k.2.1 b u n e, k.2.2.trans (tk_lst hl)⟩
def EvI {α : Type} (wi : TI) (σ : St) (H : Hp) (as : List α) (δ : α → De) : Prop := ∀ H1, Same H H1 → ∀ R : It → Hp → Prop,
  (∀ J H2, Same H1 H2 → Walk J as.length (Kp H H1 H2) (fun i G x G' => Same G G' ∧ ∀ a, as[i]? = some a → δ a Hn G' x) → R J H2) → wi σ H1 R
section
variable {K : PySem.W.Frag} {σ : St} {H H' : Hp} {ta tb tc te tl : TE} {tt tu : TT} {δ : De} {α : Type} {as : List α}
theorem ei_listV {a : Addr} {vs : List V} {f : α → De} [m : ∀ a, Mo (f a)] (ha : EvX tl σ H (dV (.ref a))) (hl : SqL K H a vs) (hd : Paired (fun v a => f a Hn H v) vs as) : EvI (iList K tl) σ H as f := fun H1 e R r =>
  ha H1 e _ fun v H2 s2 d2 => by
    refine ⟨a, d2, ⟨vs, sql_up (e.trans s2) hl⟩, r _ H2 s2 ?_⟩
    have w := (walk_list (K := K) (a := a) (xs := vs)).mono (G' := Kp H H1 H2) (Y' := fun i G x G' => Same G G' ∧ ∀ a, as[i]? = some a → f a Hn G' x) (fun G k => sql_up k.1 hl) fun i G x G' hi k y => by
      obtain ⟨rfl, hx⟩ := y
      refine ⟨Same.refl _, fun a ea => ?_⟩
      obtain ⟨b, hb, q⟩ := paired_get hd hx
      rw [ea] at hb
      cases hb
      exact up q k.1
    rw [Paired.length hd] at w
    exact w
theorem ei_listL {enc : α → PyData} {i : Nat} {v : V} (h : σ[i]? = some (some v)) (hd : dL K (as.map enc) H H v) : EvI (iList K (tVar i)) σ H as (fun a => dD (enc a)) := by
  obtain ⟨a, vs, rfl, e, r⟩ := hd
  exact ei_listV (ev_var h) e (of_dts r)
theorem ei_listN {f : α → De} [m : ∀ a, Sta (f a)] (ha : EvX tl σ H (dN f as)) : EvI (iList K tl) σ H as f := fun H1 e R r =>
  ha H1 e _ fun v H2 s2 d2 => by
    obtain ⟨p, vs, rfl, hp, hl, q⟩ := d2
    refine ⟨p, rfl, ⟨vs, SqL.of hl⟩, r _ H2 s2 ?_⟩
    have w := (walk_list (K := K) (a := p) (xs := vs)).mono (G' := Kp H H1 H2) (Y' := fun i G x G' => Same G G' ∧ ∀ a, as[i]? = some a → f a Hn G' x) (fun G k => SqL.of (k.2.1 _ _ hp hl)) fun i G x G' hi k y => by
      obtain ⟨rfl, hx⟩ := y
      refine ⟨Same.refl _, fun a ea => ?_⟩
      obtain ⟨b, hb, q'⟩ := paired_get q hx
      rw [ea] at hb
      cases hb
      exact (m a).st q' k.2.2 k.2.1 hn_none
    rw [Paired.length q] at w
    exact w
theorem ei_listM {enc : α → PyData} (ha : EvX tl σ H (dM (as.map enc))) : EvI (iList K tl) σ H as (fun a => dD (enc a)) := ei_listN (ha.imp fun _ _ _ => dN_of_dM)
theorem ei_tup {enc : α → PyData} (ha : EvX tl σ H (dD (.tuple (as.map enc)))) : EvI (iTup K tl) σ H as (fun a => dD (enc a)) := fun H1 e R r =>
  ha H1 e _ fun v H2 s2 d2 => by
    obtain ⟨a, vs, rfl, hl, q⟩ := Dt.tup_inv d2
    refine ⟨a, rfl, ⟨vs, SqT.of hl⟩, r _ H2 s2 ?_⟩
    have w := (walk_tup (K := K) (a := a) (xs := vs)).mono (G' := Kp H H1 H2) (Y' := fun i G x G' => Same G G' ∧ ∀ a, as[i]? = some a → dD (enc a) Hn G' x) (fun G k => SqT.of (k.2.2 _ _ hl)) fun i G x G' hi k y => by
      obtain ⟨rfl, hx⟩ := y
      refine ⟨Same.refl _, fun a ea => ?_⟩
      obtain ⟨b, hb, q'⟩ := q.getV hx
      rw [List.getElem?_map, ea] at hb
      cases hb
      exact Dt.mono k.2.2 q'
    rw [q.length, List.length_map] at w
    exact w
theorem ei_range1 {n : Nat} (ha : EvX te σ H (dD (.int n))) (hn : n < 4000000000) : EvI (iRng1 (tCons te tNil)) σ H (List.range n) (fun i => dD (.int (i : Nat))) := fun H1 e R r =>
  ha H1 e _ fun v H2 s2 d2 => by
    refine ⟨n, by rw [Dt.int_inv d2], by omega, by omega, r _ H2 s2 ?_⟩
    have w := (walk_range (lo := 0) (n := n)).mono (G' := Kp H H1 H2) (Y' := fun i G x G' => Same G G' ∧ ∀ a, (List.range n)[i]? = some a → dD (.int (a : Nat)) Hn G' x) (fun G k => True.intro) fun i G x G' hi k y => by
      obtain ⟨rfl, rfl⟩ := y
      refine ⟨Same.refl _, fun a ea => ?_⟩
      obtain ⟨_, ea⟩ := List.getElem?_eq_some_iff.mp ea
      rw [List.getElem_range] at ea
      subst ea
      show Dt G' (.int (0 + (i : Nat))) (.int (i : Nat))
      rw [Int.zero_add]
      exact .int _
    rw [List.length_range]
    exact w
theorem ei_range2 {lo hi : Int} (ha : EvX ta σ H (dD (.int lo))) (hb : EvX tb σ H (dD (.int hi))) (h0 : -4000000000 < lo ∧ lo < 4000000000) (h1 : -4000000000 < hi ∧ hi < 4000000000) : EvI (iRng2 (tCons ta (tCons tb tNil))) σ H (List.range (hi - lo).toNat) (fun i => dD (.int (lo + (i : Nat)))) := fun H1 e R r =>
  ha H1 e _ fun v H2 s2 d2 => hb H2 (e.trans s2) _ fun u H3 s3 d3 => by
    refine ⟨lo, hi, by rw [Dt.int_inv d2, Dt.int_inv d3], ⟨by omega, by omega, by omega, by omega⟩, r _ H3 (s2.trans s3) ?_⟩
    have w := (walk_range (lo := lo) (n := (hi - lo).toNat)).mono (G' := Kp H H1 H3) (Y' := fun i G x G' => Same G G' ∧ ∀ a, (List.range (hi - lo).toNat)[i]? = some a → dD (.int (lo + (a : Nat))) Hn G' x) (fun G k => True.intro) fun i G x G' hi k y => by
      obtain ⟨rfl, rfl⟩ := y
      refine ⟨Same.refl _, fun a ea => ?_⟩
      obtain ⟨_, ea⟩ := List.getElem?_eq_some_iff.mp ea
      rw [List.getElem_range] at ea
      subst ea
      exact .int _
    rw [List.length_range]
    exact w
/-- range(n - 1, -1, -1): the i-th is n - 1 - i -/
theorem ei_down {n : Nat} (ha : EvX ta σ H (dD (.int ((n : Int) - 1)))) (hb : EvX tb σ H (dD (.int (-1)))) (hc : EvX tc σ H (dD (.int (-1)))) (hn : n < 4000000000) :
    EvI (iRng3 (tCons ta (tCons tb (tCons tc tNil)))) σ H (List.range n) (fun i => dD (.int ((n : Int) - 1 - (i : Nat)))) := fun H1 e R r =>
  ha H1 e _ fun v H2 s2 d2 => hb H2 (e.trans s2) _ fun u H3 s3 d3 => hc H3 ((e.trans s2).trans s3) _ fun z H4 s4 d4 => by
    refine ⟨(n : Int) - 1, -1, -1, ((n : Int) - 1 - -1).toNat, by rw [Dt.int_inv d2, Dt.int_inv d3, Dt.int_inv d4], RgC.neg (by omega) (by omega) (by omega) (by omega), r _ H4 (s2.trans (s3.trans s4)) ?_⟩
    have e1 : ((n : Int) - 1 - -1).toNat = n := by omega
    rw [e1]
    have w := (walk_rangeC (lo := (n : Int) - 1) (c := -1) (n := n)).mono (G' := Kp H H1 H4) (Y' := fun i G x G' => Same G G' ∧ ∀ a, (List.range n)[i]? = some a → dD (.int ((n : Int) - 1 - (a : Nat))) Hn G' x) (fun G k => True.intro) fun i G x G' hi k y => by
      obtain ⟨rfl, rfl⟩ := y
      refine ⟨Same.refl _, fun a ea => ?_⟩
      obtain ⟨_, ea⟩ := List.getElem?_eq_some_iff.mp ea
      rw [List.getElem_range] at ea
      subst ea
      have e2 : ((n : Int) - 1 + (i : Nat) * -1) = (n : Int) - 1 - (i : Nat) := by omega
      show Dt G' (.int ((n : Int) - 1 + (i : Nat) * -1)) _
      rw [e2]
      exact .int _
    rw [List.length_range]
    exact w
end
end D18
set_option Elab.async false
set_option linter.all false
set_option maxRecDepth 100000
set_option maxHeartbeats 4000000
/-! Dn3: comprehensions, statements. -/
namespace D18
open PySem L2

theorem Sta.mo {δ : De} (s : Sta δ) {G H G0 H3 : Hp} {v : V} (h : δ G H v) (e : Same H H3) (g : ∀ b, G b = none → G0 b = none) : δ G0 H3 v := s.st h (tk_same e) (fun b o _ q => e b o q) g
/-- leans on tuples alone -/
class Tks (δ : De) : Prop where
  tk : ∀ {G H G0 H3 : Hp} {v : V}, δ G H v → TK H H3 → δ G0 H3 v
instance {w : V} : Tks (dV w) := ⟨fun h _ => h⟩
instance {x : PyData} : Tks (dD x) := ⟨fun h t => Dt.mono t h⟩
instance (priority := low) {δ : De} [t : Tks δ] : Sta δ := ⟨fun h k _ _ => t.tk h k⟩
/-- the heap without D -/
def del (H : Hp) (D : Addr) : Hp := fun b => if b = D then none else H b
theorem del_ne {H : Hp} {D b : Addr} (h : b ≠ D) : del H D b = H b := by unfold del; rw [if_neg h]
theorem del_self {H : Hp} {D : Addr} : del H D D = none := by unfold del; rw [if_pos rfl]
theorem del_same (H : Hp) (D : Addr) : Same (del H D) H := fun b o e => by
  by_cases h : b = D
  · subst h; rw [del_self] at e; cases e
  · rw [del_ne h] at e; exact e
theorem del_tk {H : Hp} {D : Addr} {xs : List V} (h : H D = some (.lst xs)) : TK H (del H D) := fun b ys e => by
  have n : b ≠ D := fun z => by subst z; rw [h] at e; cases e
  rw [del_ne n]; exact e
theorem same_del {H H' : Hp} {D : Addr} (s : Same H H') (h : H D = none) : Same H (del H' D) := fun b o e => by
  have n : b ≠ D := fun z => by subst z; rw [h] at e; cases e
  rw [del_ne n]; exact s b o e
theorem Paired.app {α β : Type} {F : α → β → Prop} {l₁ : List α} {l₂ : List β} {a : α} {b : β} (h : Paired F l₁ l₂) (r : F a b) : Paired F (l₁ ++ [a]) (l₂ ++ [b]) := Paired.snoc h r
section
variable {K : PySem.W.Frag} {σ : St} {H H' : Hp} {ta tb tc te tl : TE} {tt tu : TT} {α β : Type} {as : List α}
theorem take_succ_get {α : Type} {as : List α} {i : Nat} {a : α} (h : as[i]? = some a) : as.take (i + 1) = as.take i ++ [a] := by
  rw [List.take_add_one, h]; rfl
/-- [elt for x in .. if ..] -/
theorem ev_lc {wi : TI} {j : Nat} {δ : α → De} {p : α → Bool} {f : α → De} [sf : ∀ a, Sta (f a)] (hI : EvI wi σ H as δ) (hl : as.length ≤ sizeLine)
    (body : ∀ a x H', a ∈ as → Same H H' → δ a Hn H' x → EvT tt (σ.set j (some x)) H' (p a) ∧ (p a = true → EvX te (σ.set j (some x)) H' (f a))) :
    EvX (tLc wi (gName j) tt te [j]) σ H (dN f (as.filter p)) := fun H1 e Q q =>
  hI H1 e _ fun J H2 s2 w D hD => by
    have hDk : ∀ {H'}, Same (upd H2 D (.lst [])) H' → True := fun _ => True.intro
    refine lc_it w (fun i H' => Same H2 H' ∧ (∀ b o, (upd H2 D (.lst [])) b = none → False → H' b = some o) ∧ ∃ acc, H' D = some (.lst acc) ∧ acc.length ≤ i ∧ Paired (fun v a => f a (upd H2 D (.lst [])) H' v) acc ((as.take i).filter p)) ?_ ?_ ?_ ?_
    · exact ⟨same_new hD, fun _ _ _ z => z.elim, [], upd_same, Nat.le_refl _, .nil⟩
    · rintro i H' _ ⟨s, _⟩
      exact kp_same (e.trans s2) s
    · rintro i x H' H'' hi ⟨s, _, acc, hacc, hlen, hp⟩ ⟨s', hx⟩
      have hi' : i < as.length := hi
      have ea : as[i]? = some as[i] := List.getElem?_eq_getElem hi'
      have hda := hx _ ea
      have sH : Same H H'' := ((e.trans s2).trans s).trans s'
      have eσ : (wipe σ [j]).set j (some x) = σ.set j (some x) := by
        show (σ.set j none).set j (some x) = _
        rw [List.set_set]
      show wipe ((wipe σ [j]).set j (some x)) [j] = wipe σ [j] ∧ _
      rw [eσ]
      refine ⟨by show (σ.set j (some x)).set j none = σ.set j none; rw [List.set_set], ?_⟩
      obtain ⟨bt, be⟩ := body _ x H'' (List.getElem_mem hi') sH hda
      refine bt H'' (Same.refl _) _ fun H3 s3 => ?_
      have acc3 : ∀ {H4}, Same H'' H4 → H4 D = some (.lst acc) := fun s4 => s4 _ _ (s' _ _ hacc)
      have hsame : Same (upd H2 D (.lst [])) (upd H2 D (.lst [])) := Same.refl _
      have keepP : ∀ {H4 : Hp} {o : HO}, Same H'' H4 → Paired (fun v a => f a (upd H2 D (.lst [])) (upd H4 D o) v) acc ((as.take i).filter p) := fun {H4 o} s4 =>
        paired_map hp fun v a r => (sf a).st r ((tk_same (s'.trans s4)).trans (tk_lst (acc3 s4))) (fun b u n eb => by
          have nb : b ≠ D := fun z => by subst z; rw [upd_same] at n; cases n
          rw [upd_ne nb]; exact s4 _ _ (s' _ _ eb)) fun _ z => z
      cases hpa : p as[i] with
      | false =>
        refine ⟨(s.trans s').trans s3, fun _ _ _ z => z.elim, acc, acc3 s3, by omega, ?_⟩
        rw [take_succ_get ea, List.filter_append, List.filter_cons_of_neg (by rw [hpa]; simp), List.filter_nil, List.append_nil]
        exact paired_map hp fun v a r => (sf a).mo r (s'.trans s3) fun _ z => z
      | true =>
        refine (be hpa).mono s3 H3 (Same.refl _) _ fun v H4 s4 d4 => ⟨acc, acc3 (s3.trans s4), by omega, same_mut (((s.trans s').trans s3).trans s4) hD, fun _ _ _ z => z.elim, acc ++ [v], upd_same, by rw [List.length_append, List.length_singleton]; omega, ?_⟩
        rw [take_succ_get ea, List.filter_append, List.filter_cons_of_pos hpa, List.filter_nil]
        refine Paired.app (keepP (s3.trans s4)) ((sf _).st d4 (tk_lst (acc3 (s3.trans s4))) (fun b u n eb => ?_) fun b n => ?_)
        · have nb : b ≠ D := fun z => by subst z; rw [s3 _ _ (s' _ _ hacc)] at n; cases n
          rw [upd_ne nb]; exact eb
        · have nb : b ≠ D := fun z => by subst z; rw [s3 _ _ (s' _ _ hacc)] at n; cases n
          rw [upd_ne nb]
          exact ((s.trans s').trans s3).free n
    · rintro H' ⟨s, _, acc, hacc, hlen, hp⟩
      have ep : as.take as.length = as := List.take_length
      rw [ep] at hp
      refine q _ H' (s2.trans s) ⟨D, acc, rfl, s2.free hD, hacc, paired_map hp fun v a r => (sf a).mo r (Same.refl _) fun b n => ?_⟩
      exact (s2.trans (same_new hD)).free n
/-- [elt for x in ..] -/
theorem ev_lcm {wi : TI} {j : Nat} {δ : α → De} {f : α → De} [sf : ∀ a, Sta (f a)] (hI : EvI wi σ H as δ) (hl : as.length ≤ sizeLine)
    (body : ∀ a x H', a ∈ as → Same H H' → δ a Hn H' x → EvX te (σ.set j (some x)) H' (f a)) : EvX (tLc wi (gName j) tYes te [j]) σ H (dN f as) := by
  have q := ev_lc (tt := tYes) (te := te) (j := j) (p := fun _ => true) (f := f) hI hl fun a x H' ha s d => ⟨et_yes, fun _ => body a x H' ha s d⟩
  have e : as.filter (fun _ => true) = as := List.filter_eq_self.mpr fun _ _ => rfl
  rwa [e] at q
/-- .. of data -/
theorem em_lcm {wi : TI} {j : Nat} {δ : α → De} {f : α → PyData} (hI : EvI wi σ H as δ) (hl : as.length ≤ sizeLine)
    (body : ∀ a x H', a ∈ as → Same H H' → δ a Hn H' x → EvX te (σ.set j (some x)) H' (dD (f a))) : EvX (tLc wi (gName j) tYes te [j]) σ H (dM (as.map f)) := ev_m (ev_lcm hI hl body)
theorem em_lc {wi : TI} {j : Nat} {δ : α → De} {p : α → Bool} {f : α → PyData} (hI : EvI wi σ H as δ) (hl : as.length ≤ sizeLine)
    (body : ∀ a x H', a ∈ as → Same H H' → δ a Hn H' x → EvT tt (σ.set j (some x)) H' (p a) ∧ (p a = true → EvX te (σ.set j (some x)) H' (dD (f a)))) :
    EvX (tLc wi (gName j) tt te [j]) σ H (dM ((as.filter p).map f)) := ev_m (ev_lc (f := fun a => dD (f a)) hI hl body)
/-- .. typed -/
theorem em_lcmE {wi : TI} {j : Nat} {δ : α → De} {enc : β → PyData} {f : α → β} (hI : EvI wi σ H as δ) (hl : as.length ≤ sizeLine)
    (body : ∀ a x H', a ∈ as → Same H H' → δ a Hn H' x → EvX te (σ.set j (some x)) H' (dD (enc (f a)))) : EvX (tLc wi (gName j) tYes te [j]) σ H (dM ((as.map f).map enc)) := by
  rw [List.map_map]; exact em_lcm hI hl body
theorem em_lcE {wi : TI} {j : Nat} {δ : α → De} {p : α → Bool} {enc : β → PyData} {f : α → β} (hI : EvI wi σ H as δ) (hl : as.length ≤ sizeLine)
    (body : ∀ a x H', a ∈ as → Same H H' → δ a Hn H' x → EvT tt (σ.set j (some x)) H' (p a) ∧ (p a = true → EvX te (σ.set j (some x)) H' (dD (enc (f a))))) :
    EvX (tLc wi (gName j) tt te [j]) σ H (dM (((as.filter p).map f).map enc)) := by
  rw [List.map_map]; exact em_lc hI hl body
/-- .. the items themselves -/
theorem em_lcS {wi : TI} {j : Nat} {enc : α → PyData} {p : α → Bool} (hI : EvI wi σ H as (fun a => dD (enc a))) (hl : as.length ≤ sizeLine)
    (body : ∀ a x H', a ∈ as → Same H H' → dD (enc a) Hn H' x → EvT tt (σ.set j (some x)) H' (p a) ∧ (p a = true → EvX te (σ.set j (some x)) H' (dD (enc a)))) :
    EvX (tLc wi (gName j) tt te [j]) σ H (dM ((as.filter p).map enc)) := em_lc hI hl body
/-- [elt for x in .. for y in .. if ..] -/
theorem ev_lc2 {wi wi1 : TI} {j j1 : Nat} {δ : α → De} {bs : α → List β} {δ1 : α → β → De} {p : α → β → Bool} {f : α → β → De} [sf : ∀ a b, Sta (f a b)] (hj : j ≠ j1) (hI : EvI wi σ H as δ)
    (hl : (as.flatMap fun a => ((bs a).filter (p a)).map fun b => (a, b)).length ≤ sizeLine)
    (inner : ∀ a x H', a ∈ as → Same H H' → δ a Hn H' x → EvI wi1 ((σ.set j1 none).set j (some x)) H' (bs a) (δ1 a))
    (body : ∀ a x b y H', a ∈ as → b ∈ bs a → Same H H' → δ a Hn H' x → δ1 a b Hn H' y → EvT tt ((σ.set j (some x)).set j1 (some y)) H' (p a b) ∧ (p a b = true → EvX te ((σ.set j (some x)).set j1 (some y)) H' (f a b)))
    [md : ∀ a, Tks (δ a)] :
    EvX (tLc2 wi (gName j) tYes wi1 (gName j1) tt te [j, j1] [j1]) σ H (dN (fun ab : α × β => f ab.1 ab.2) (as.flatMap fun a => ((bs a).filter (p a)).map fun b => (a, b))) := fun H1 e Q q =>
  hI H1 e _ fun J H2 s2 w D hD => by
    have mono1 : ∀ i, (((as.take i).flatMap fun a => ((bs a).filter (p a)).map fun b => (a, b)).length ≤ (as.flatMap fun a => ((bs a).filter (p a)).map fun b => (a, b)).length) := fun i => by
      conv => rhs; rw [← List.take_append_drop i as, List.flatMap_append, List.length_append]
      exact Nat.le_add_right _ _
    refine ⟨fun i m H' => m = as.length - i ∧ i ≤ as.length ∧ Same H2 H' ∧ ∃ acc, H' D = some (.lst acc) ∧ Paired (fun v ab => f ab.1 ab.2 (upd H2 D (.lst [])) H' v) acc ((as.take i).flatMap fun a => ((bs a).filter (p a)).map fun b => (a, b)),
      ⟨as.length, by simp, Nat.zero_le _, same_new hD, [], upd_same, .nil⟩, ?_⟩
    rintro i m H' ⟨rfl, hi, s, acc, hacc, hp⟩
    have kk : Kp H H1 H2 H' := kp_same (e.trans s2) s
    by_cases hlt : i < as.length
    case neg =>
      have ei : i = as.length := by omega
      subst ei
      rw [List.take_length] at hp
      refine .inl ⟨w.stops H' kk, q _ H' (s2.trans s) ⟨D, acc, rfl, s2.free hD, hacc, paired_map hp fun v a r => (sf a.1 a.2).mo r (Same.refl _) fun b n => ?_⟩⟩
      exact (s2.trans (same_new hD)).free n
    case pos =>
    refine .inr ⟨w.goes i H' hlt kk, fun H'' => Same H2 H'' ∧ ∃ acc, H'' D = some (.lst acc) ∧ Paired (fun v ab => f ab.1 ab.2 (upd H2 D (.lst [])) H'' v) acc ((as.take (i + 1)).flatMap fun a => ((bs a).filter (p a)).map fun b => (a, b)),
      fun H'' ⟨s, r⟩ => ⟨as.length - (i + 1), by omega, rfl, hlt, s, r⟩, fun x H'' y => ?_⟩
    obtain ⟨s', hx⟩ := w.yields i H' x H'' hlt kk y
    have ea : as[i]? = some as[i] := List.getElem?_eq_getElem hlt
    have hda := hx _ ea
    generalize hA : as[i] = a at ea hda
    have hmem : a ∈ as := by rw [← hA]; exact List.getElem_mem hlt
    have sH : Same H H'' := ((e.trans s2).trans s).trans s'
    have eσ : (wipe σ [j, j1]).set j (some x) = (σ.set j1 none).set j (some x) := by
      show ((σ.set j1 none).set j none).set j (some x) = _
      rw [List.set_set]
    show wipe ((wipe σ [j, j1]).set j (some x)) [j, j1] = wipe σ [j, j1] ∧ _
    rw [eσ]
    refine ⟨by
      show ((((σ.set j1 none).set j (some x)).set j1 none).set j none) = (σ.set j1 none).set j none
      rw [List.set_comm _ _ hj, List.set_set, List.set_set], ?_⟩
    show wi1 ((List.set σ j1 none).set j (some x)) H'' _
    have hnx : ∀ {H4}, Same H'' H4 → H4 D = some (.lst acc) := fun s4 => s4 _ _ (s' _ _ hacc)
    have hHD : H D = none := (e.trans s2).free hD
    have sHb : Same H (del H'' D) := same_del sH hHD
    refine inner a x (del H'' D) hmem sHb ((md a).tk hda (del_tk (hnx (Same.refl _)))) H'' (del_same _ _) _ fun J1 H4 s4 w1 => ?_
    have s24 : Same H2 H4 := (s.trans s').trans s4
    have base : Paired (fun v ab => f ab.1 ab.2 (upd H2 D (.lst [])) H4 v) acc ((as.take i).flatMap fun a => ((bs a).filter (p a)).map fun b => (a, b)) := paired_map hp fun v a r => (sf a.1 a.2).mo r (s'.trans s4) fun _ z => z
    have DH'' : H'' D ≠ none := by rw [hnx (Same.refl _)]; intro z; cases z
    refine ⟨fun k m G => m = (bs a).length - k ∧ k ≤ (bs a).length ∧ Same H2 G ∧ (∀ b o, b ≠ D → H4 b = some o → G b = some o) ∧ ∃ acc', G D = some (.lst acc') ∧
        Paired (fun v ab => f ab.1 ab.2 (upd H2 D (.lst [])) G v) acc' (((as.take i).flatMap fun a => ((bs a).filter (p a)).map fun b => (a, b)) ++ (((bs a).take k).filter (p a)).map fun b => (a, b)),
      ⟨(bs a).length, by simp, Nat.zero_le _, s24, fun b o _ z => z, acc, hnx s4, by simpa using base⟩, ?_⟩
    rintro k m G ⟨rfl, hk, s2G, kG, acc', hacc', hp'⟩
    have tkG : TK H4 G := fun b xs eb => kG b _ (fun z => by subst z; rw [hnx s4] at eb; cases eb) eb
    have sbG : Same (del H'' D) G := fun b o eb => by
      have nb : b ≠ D := fun z => by subst z; rw [del_self] at eb; cases eb
      rw [del_ne nb] at eb
      exact kG b o nb (s4 _ _ eb)
    have kkG : Kp (del H'' D) H'' H4 G := ⟨sbG, fun b o n eb => kG b o (fun z => by subst z; exact DH'' n) eb, tkG⟩
    by_cases hlt1 : k < (bs a).length
    case neg =>
      have ek : k = (bs a).length := by omega
      subst ek
      rw [List.take_length] at hp'
      refine .inl ⟨w1.stops G kkG, s2G, acc', hacc', ?_⟩
      rw [take_succ_get ea, List.flatMap_append, List.flatMap_singleton]
      exact hp'
    case pos =>
    refine .inr ⟨w1.goes k G hlt1 kkG, fun G' => Same H2 G' ∧ (∀ b o, b ≠ D → H4 b = some o → G' b = some o) ∧ ∃ acc', G' D = some (.lst acc') ∧
        Paired (fun v ab => f ab.1 ab.2 (upd H2 D (.lst [])) G' v) acc' (((as.take i).flatMap fun a => ((bs a).filter (p a)).map fun b => (a, b)) ++ (((bs a).take (k + 1)).filter (p a)).map fun b => (a, b)),
      fun G' h => ⟨(bs a).length - (k + 1), by omega, rfl, hlt1, h⟩, fun y G' yy => ?_⟩
    obtain ⟨sG', hy⟩ := w1.yields k G y G' hlt1 kkG yy
    have eb : (bs a)[k]? = some (bs a)[k] := List.getElem?_eq_getElem hlt1
    have hdb := hy _ eb
    generalize hB : (bs a)[k] = b at eb hdb
    have hmb : b ∈ bs a := by rw [← hB]; exact List.getElem_mem hlt1
    show wipe ((wipe ((σ.set j1 none).set j (some x)) [j1]).set j1 (some y)) [j1] = wipe ((σ.set j1 none).set j (some x)) [j1] ∧ _
    have eσ2 : (wipe ((σ.set j1 none).set j (some x)) [j1]).set j1 (some y) = (σ.set j (some x)).set j1 (some y) := by
      show (((σ.set j1 none).set j (some x)).set j1 none).set j1 (some y) = _
      rw [List.set_set, List.set_comm _ _ hj.symm, List.set_set]
    refine ⟨by
      show ((((σ.set j1 none).set j (some x)).set j1 none).set j1 (some y)).set j1 none = ((σ.set j1 none).set j (some x)).set j1 none
      rw [List.set_set, List.set_set], ?_⟩
    rw [eσ2]
    have sHG' : Same H G' := (sHb.trans sbG).trans sG'
    have hxG : δ a Hn G' x := (md a).tk hda fun b xs eb => sG' _ _ (kkG.2.2 b xs (s4 _ _ eb))
    obtain ⟨bt, be⟩ := body a x b y G' hmem hmb sHG' hxG hdb
    refine bt G' (Same.refl _) _ fun H5 s5 => ?_
    have accG : ∀ {H6}, Same G' H6 → H6 D = some (.lst acc') := fun s6 => s6 _ _ (sG' _ _ hacc')
    have hlen : acc'.length = (((as.take i).flatMap fun a => ((bs a).filter (p a)).map fun b => (a, b)) ++ (((bs a).take k).filter (p a)).map fun b => (a, b)).length := Paired.length hp'
    have tot : (((as.take i).flatMap fun a => ((bs a).filter (p a)).map fun b => (a, b)) ++ (((bs a).take (k + 1)).filter (p a)).map fun b => (a, b)).length ≤ sizeLine := by
      refine Nat.le_trans ?_ (Nat.le_trans (mono1 (i + 1)) hl)
      rw [take_succ_get ea, List.flatMap_append, List.flatMap_singleton, List.length_append, List.length_append]
      refine Nat.add_le_add_left ?_ _
      rw [List.length_map, List.length_map]
      conv => rhs; rw [← List.take_append_drop (k + 1) (bs a), List.filter_append, List.length_append]
      exact Nat.le_add_right _ _
    cases hpb : p a b with
    | false =>
      refine ⟨(s2G.trans sG').trans s5, fun b o nb z => s5 _ _ (sG' _ _ (kG b o nb z)), acc', accG s5, ?_⟩
      rw [take_succ_get eb, List.filter_append, List.filter_cons_of_neg (by rw [hpb]; simp), List.filter_nil, List.append_nil]
      exact paired_map hp' fun v a r => (sf a.1 a.2).mo r (sG'.trans s5) fun _ z => z
    | true =>
      rw [take_succ_get eb, List.filter_append, List.filter_cons_of_pos hpb, List.filter_nil, List.map_append] at tot
      refine (be hpb).mono s5 H5 (Same.refl _) _ fun v H6 s6 d6 => ⟨acc', accG (s5.trans s6), ?_, same_mut (((s2G.trans sG').trans s5).trans s6) hD, fun b o nb z => ?_, acc' ++ [v], upd_same, ?_⟩
      · rw [hlen]
        rw [← List.append_assoc, List.length_append, List.map_singleton, List.length_singleton] at tot
        omega
      · rw [upd_ne nb]
        exact s6 _ _ (s5 _ _ (sG' _ _ (kG b o nb z)))
      · rw [take_succ_get eb, List.filter_append, List.filter_cons_of_pos hpb, List.filter_nil, List.map_append, ← List.append_assoc]
        refine Paired.app (paired_map hp' fun v a r => (sf a.1 a.2).st r ((tk_same ((sG'.trans s5).trans s6)).trans (tk_lst (accG (s5.trans s6)))) (fun b u n ebb => ?_) fun _ z => z) ((sf _ _).st d6 (tk_lst (accG (s5.trans s6))) (fun b u n ebb => ?_) fun b n => ?_)
        · have nb : b ≠ D := fun z => by subst z; rw [upd_same] at n; cases n
          rw [upd_ne nb]; exact s6 _ _ (s5 _ _ (sG' _ _ ebb))
        · have nb : b ≠ D := fun z => by subst z; rw [accG s5] at n; cases n
          rw [upd_ne nb]; exact ebb
        · have nb : b ≠ D := fun z => by subst z; rw [accG s5] at n; cases n
          rw [upd_ne nb]
          exact ((s2G.trans sG').trans s5).free n
end
end D18
set_option Elab.async false
set_option linter.all false
set_option maxRecDepth 100000
set_option maxHeartbeats 4000000
/-! Dn4: statements; defs and their promises. -/
namespace D18
open PySem L2

theorem mL {K : PySem.W.Frag} {xs : List PyData} {G H H' : Hp} {v : V} (h : dM xs G H v) (s : Same H H') : dL K xs H' H' v := dL_of_dM (G := G) (up h s)
theorem lL {K : PySem.W.Frag} {xs : List PyData} {G H H' : Hp} {v : V} (h : dL K xs G H v) (s : Same H H') : dL K xs H' H' v := up h s
section
variable {K : PySem.W.Frag} {σ : St} {H0 H H' : Hp} {ta tb tc te tl : TE} {tt : TT} {t u tu tw : TS} {D : Ends} {δ : De}
theorem s_seq (h : t { D with nx := u D } σ H) : tSeq t u D σ H := h
theorem s_asg {i : Nat} (h : EvX te σ H0 δ) (s : Same H0 H) (k : ∀ v H2, Same H H2 → δ H H2 v → D.nx (σ.set i (some v)) H2) : tAsg te (gName i) D σ H := h H s _ k
theorem s_ret (h : EvX te σ H0 δ) (s : Same H0 H) (k : ∀ v H2, Same H H2 → δ H H2 v → D.rt v H2) : tRet te D σ H := h H s _ k
theorem s_drop (h : EvX te σ H0 δ) (s : Same H0 H) (k : ∀ v H2, Same H H2 → δ H H2 v → D.nx σ H2) : tDrop te D σ H := h H s _ k
theorem s_if {b : Bool} (h : EvT tt σ H0 b) (s : Same H0 H) (h1 : b = true → ∀ H2, Same H H2 → tu D σ H2) (h2 : b = false → ∀ H2, Same H H2 → tw D σ H2) : tIfS tt tu tw D σ H := h H s _ fun H2 s2 => by
  cases b with
  | true => exact iteT (h1 rfl H2 s2)
  | false => exact iteF (h2 rfl H2 s2)
theorem s_yes (h : EvT tt σ H0 true) (s : Same H0 H) (k : ∀ H2, Same H H2 → tu D σ H2) : tIfS tt tu tw D σ H := s_if h s (fun _ => k) fun z => by cases z
theorem s_no (h : EvT tt σ H0 false) (s : Same H0 H) (k : ∀ H2, Same H H2 → tw D σ H2) : tIfS tt tu tw D σ H := s_if h s (fun z => by cases z) fun _ => k
theorem s_next (k : D.nx σ H) : tNext D σ H := k
theorem s_aug {i : Nat} {C : Int → Int → Prop} {g : Int → Int → Int} {a b : Int} (hx : σ[i]? = some (some (.int a))) (h : EvX te σ H0 (dD (.int b))) (s : Same H0 H) (hc : C a b) (k : ∀ H2, Same H H2 → D.nx (σ.set i (some (.int (g a b)))) H2) : tAug i te (rI C fun i j => .int (g i j)) D σ H :=
  ⟨_, hx, h H s _ fun v H2 s2 d2 => ⟨a, b, rfl, Dt.int_inv d2, hc, k H2 s2⟩⟩
/-- name = name + .., by the plain sum -/
theorem s_augI {i : Nat} {g : Int → Int → Int} {a b : Int} (hx : σ[i]? = some (some (.int a))) (h : EvX te σ H0 (dD (.int b))) (s : Same H0 H) (k : ∀ H2, Same H H2 → D.nx (σ.set i (some (.int (g a b)))) H2) : tAug i te (ipI g) D σ H :=
  ⟨_, hx, h H s _ fun v H2 s2 d2 => ⟨a, b, rfl, Dt.int_inv d2, k H2 s2⟩⟩
/-- xs.append(e) -/
theorem s_append {j : Nat} {l : Addr} {xs : List V} (hv : σ[j]? = some (some (.ref l))) (hl : H l = some (.lst xs)) (he : EvX te σ H0 δ) (s : Same H0 H) (hz : xs.length < sizeLine) (k : ∀ v H2, Same H H2 → δ H H2 v → D.nx σ (upd H2 l (.lst (xs ++ [v])))) :
    tDrop (tBM K "list" rAppend (tVar j) (tCons te tNil)) D σ H :=
  ⟨_, hv, .inl ⟨rfl, _, SqL.of hl⟩, he H s _ fun v H2 s2 d2 => ⟨l, xs, v, rfl, rfl, s2 _ _ hl, hz, k v H2 s2 d2⟩⟩
/-- xs.extend(e), e a new list -/
theorem s_extend {j : Nat} {l : Addr} {xs : List V} {ds : List PyData} (hv : σ[j]? = some (some (.ref l))) (hl : H l = some (.lst xs)) (he : EvX te σ H0 (dM ds)) (s : Same H0 H) (hz : xs.length + ds.length ≤ sizeLine)
    (k : ∀ zs H2, Same H H2 → Dts H2 zs ds → D.nx σ (upd H2 l (.lst (xs ++ zs)))) :
    tDrop (tBM K "list" rExtend (tVar j) (tCons te tNil)) D σ H :=
  ⟨_, hv, .inl ⟨rfl, _, SqL.of hl⟩, he H s _ fun v H2 s2 d2 => by
    obtain ⟨p, zs, rfl, _, hp, r⟩ := d2
    exact ⟨l, p, xs, zs, rfl, rfl, s2 _ _ hl, hp, by rw [r.length]; exact hz, k zs H2 s2 r⟩⟩
/-! .. with what follows -/
theorem q_asg {i : Nat} (h : EvX te σ H0 δ) (s : Same H0 H) (k : ∀ v H2, Same H H2 → δ H H2 v → u D (σ.set i (some v)) H2) : tSeq (tAsg te (gName i)) u D σ H := h H s _ k
theorem q_drop (h : EvX te σ H0 δ) (s : Same H0 H) (k : ∀ v H2, Same H H2 → δ H H2 v → u D σ H2) : tSeq (tDrop te) u D σ H := h H s _ k
theorem q_if {b : Bool} (h : EvT tt σ H0 b) (s : Same H0 H) (h1 : b = true → ∀ H2, Same H H2 → tu ⟨u D, D.rt, D.bk, D.ct⟩ σ H2) (h2 : b = false → ∀ H2, Same H H2 → tw ⟨u D, D.rt, D.bk, D.ct⟩ σ H2) : tSeq (tIfS tt tu tw) u D σ H :=
  s_if (D := ⟨u D, D.rt, D.bk, D.ct⟩) h s h1 h2
/-- the test is false, there is no else -/
theorem q_no (h : EvT tt σ H0 false) (s : Same H0 H) (k : ∀ H2, Same H H2 → u D σ H2) : tSeq (tIfS tt tu tNext) u D σ H := q_if h s (fun z => by cases z) fun _ => k
/-- the test is true -/
theorem q_yes (h : EvT tt σ H0 true) (s : Same H0 H) (k : ∀ H2, Same H H2 → tu ⟨u D, D.rt, D.bk, D.ct⟩ σ H2) : tSeq (tIfS tt tu tw) u D σ H := q_if h s (fun _ => k) fun z => by cases z
theorem q_aug {i : Nat} {C : Int → Int → Prop} {g : Int → Int → Int} {a b : Int} (hx : σ[i]? = some (some (.int a))) (h : EvX te σ H0 (dD (.int b))) (s : Same H0 H) (hc : C a b) (k : ∀ H2, Same H H2 → u D (σ.set i (some (.int (g a b)))) H2) : tSeq (tAug i te (rI C fun i j => .int (g i j))) u D σ H := s_aug (D := { D with nx := u D }) hx h s hc k
theorem q_augI {i : Nat} {g : Int → Int → Int} {a b : Int} (hx : σ[i]? = some (some (.int a))) (h : EvX te σ H0 (dD (.int b))) (s : Same H0 H) (k : ∀ H2, Same H H2 → u D (σ.set i (some (.int (g a b)))) H2) : tSeq (tAug i te (ipI g)) u D σ H := s_augI (D := { D with nx := u D }) hx h s k
theorem q_append {j : Nat} {l : Addr} {xs : List V} (hv : σ[j]? = some (some (.ref l))) (hl : H l = some (.lst xs)) (he : EvX te σ H0 δ) (s : Same H0 H) (hz : xs.length < sizeLine) (k : ∀ v H2, Same H H2 → δ H H2 v → u D σ (upd H2 l (.lst (xs ++ [v])))) :
    tSeq (tDrop (tBM K "list" rAppend (tVar j) (tCons te tNil))) u D σ H := s_append (D := { D with nx := u D }) hv hl he s hz k
theorem q_extend {j : Nat} {l : Addr} {xs : List V} {ds : List PyData} (hv : σ[j]? = some (some (.ref l))) (hl : H l = some (.lst xs)) (he : EvX te σ H0 (dM ds)) (s : Same H0 H) (hz : xs.length + ds.length ≤ sizeLine)
    (k : ∀ zs H2, Same H H2 → Dts H2 zs ds → u D σ (upd H2 l (.lst (xs ++ zs)))) :
    tSeq (tDrop (tBM K "list" rExtend (tVar j) (tCons te tNil))) u D σ H := s_extend (D := { D with nx := u D }) hv hl he s hz k
/-! targets -/
theorem g_nil {Q : St → Hp → Prop} (h : Q σ H) : gNil [] σ H Q := ⟨rfl, h⟩
theorem g_cons {tg : TG} {tgs : TGs} {v : V} {r : List V} {Q : St → Hp → Prop} (h : tg v σ H fun σ' H' => tgs r σ' H' Q) : gCons tg tgs (v :: r) σ H Q := ⟨v, r, rfl, h⟩
theorem g_tup {n : Nat} {tgs : TGs} {a : Addr} {xs : List V} {Q : St → Hp → Prop} (h : H a = some (.tup xs)) (hn : xs.length = n) (k : tgs xs σ H Q) : gTup K n tgs (.ref a) σ H Q := ⟨a, xs, rfl, SqT.of h, hn, k⟩
theorem g_tup2 {i j : Nat} {a : Addr} {v w : V} {Q : St → Hp → Prop} (h : H a = some (.tup [v, w])) (k : Q ((σ.set i (some v)).set j (some w)) H) : gTup K 2 (gCons (gName i) (gCons (gName j) gNil)) (.ref a) σ H Q :=
  g_tup h rfl (g_cons (g_cons (g_nil k)))
theorem g_tup3 {i j m : Nat} {a : Addr} {v w z : V} {Q : St → Hp → Prop} (h : H a = some (.tup [v, w, z])) (k : Q (((σ.set i (some v)).set j (some w)).set m (some z)) H) : gTup K 3 (gCons (gName i) (gCons (gName j) (gCons (gName m) gNil))) (.ref a) σ H Q :=
  g_tup h rfl (g_cons (g_cons (g_cons (g_nil k))))
theorem g_tup4 {i j m n : Nat} {a : Addr} {v w z y : V} {Q : St → Hp → Prop} (h : H a = some (.tup [v, w, z, y])) (k : Q ((((σ.set i (some v)).set j (some w)).set m (some z)).set n (some y)) H) : gTup K 4 (gCons (gName i) (gCons (gName j) (gCons (gName m) (gCons (gName n) gNil)))) (.ref a) σ H Q :=
  g_tup h rfl (g_cons (g_cons (g_cons (g_cons (g_nil k)))))
theorem dt2 {v : V} {d e : PyData} (h : Dt H v (.tuple [d, e])) : ∃ a x y, v = .ref a ∧ H a = some (.tup [x, y]) ∧ Dt H x d ∧ Dt H y e := by
  obtain ⟨a, xs, rfl, e, r⟩ := Dt.tup_inv h
  match xs, r with
  | _, .cons h1 (.cons h2 .nil) => exact ⟨a, _, _, rfl, e, h1, h2⟩
theorem dt4 {v : V} {d e f g : PyData} (h : Dt H v (.tuple [d, e, f, g])) : ∃ a x y z w, v = .ref a ∧ H a = some (.tup [x, y, z, w]) ∧ Dt H x d ∧ Dt H y e ∧ Dt H z f ∧ Dt H w g := by
  obtain ⟨a, xs, rfl, e, r⟩ := Dt.tup_inv h
  match xs, r with
  | _, .cons h1 (.cons h2 (.cons h3 (.cons h4 .nil))) => exact ⟨a, _, _, _, _, rfl, e, h1, h2, h3, h4⟩
/-- a, b = e -/
theorem s_asg2 {i j : Nat} {d e : PyData} (h : EvX te σ H0 (dD (.tuple [d, e]))) (s : Same H0 H) (k : ∀ v w H2, Same H H2 → Dt H2 v d → Dt H2 w e → D.nx ((σ.set i (some v)).set j (some w)) H2) :
    tAsg te (gTup K 2 (gCons (gName i) (gCons (gName j) gNil))) D σ H := h H s _ fun v H2 s2 d2 => by
  obtain ⟨a, x, y, rfl, ea, hx, hy⟩ := dt2 d2
  exact g_tup2 ea (k x y H2 s2 hx hy)
theorem q_asg2 {i j : Nat} {d e : PyData} (h : EvX te σ H0 (dD (.tuple [d, e]))) (s : Same H0 H) (k : ∀ v w H2, Same H H2 → Dt H2 v d → Dt H2 w e → u D ((σ.set i (some v)).set j (some w)) H2) :
    tSeq (tAsg te (gTup K 2 (gCons (gName i) (gCons (gName j) gNil)))) u D σ H := s_asg2 (D := { D with nx := u D }) h s k
/-- for x in ..: -/
theorem s_for {α : Type} {as : List α} {dl : α → De} {wi : TI} {g : TG} (hI : EvI wi σ H0 as dl) (s : Same H0 H)
    (k : ∀ H2, Same H H2 → ∃ Pv : Nat → St → Hp → Prop, Pv 0 σ H2 ∧ (∀ i σ' H', i ≤ as.length → Pv i σ' H' → Kp H0 H H2 H') ∧
      (∀ i a x σ' H' H'', as[i]? = some a → Pv i σ' H' → Same H' H'' → dl a Hn H'' x → g x σ' H'' fun σ2 H3 => tu { D with nx := Pv (i + 1), ct := Pv (i + 1), bk := D.nx } σ2 H3) ∧
      ∀ σ' H', Pv as.length σ' H' → D.nx σ' H') : tFor wi g tu D σ H := hI H s _ fun J H2 s2 w => by
  obtain ⟨Pv, h0, hG, hs, hd⟩ := k H2 s2
  exact for_it w Pv h0 hG (fun i x σ' H' H'' hi p y => hs i _ x σ' H' H'' (List.getElem?_eq_getElem hi) p y.1 (y.2 _ (List.getElem?_eq_getElem hi))) hd
theorem q_for {α : Type} {as : List α} {dl : α → De} {wi : TI} {g : TG} (hI : EvI wi σ H0 as dl) (s : Same H0 H)
    (k : ∀ H2, Same H H2 → ∃ Pv : Nat → St → Hp → Prop, Pv 0 σ H2 ∧ (∀ i σ' H', i ≤ as.length → Pv i σ' H' → Kp H0 H H2 H') ∧
      (∀ i a x σ' H' H'', as[i]? = some a → Pv i σ' H' → Same H' H'' → dl a Hn H'' x → g x σ' H'' fun σ2 H3 => tu ⟨Pv (i + 1), D.rt, u D, Pv (i + 1)⟩ σ2 H3) ∧
      ∀ σ' H', Pv as.length σ' H' → u D σ' H') : tSeq (tFor wi g tu) u D σ H := s_for (D := { D with nx := u D }) hI s k
end

/-! ### defs -/
section
variable {P : Program} {w : World} {K : PySem.W.Frag} {mg : Str → Option Value} {base : Heap}
/-- a def by its body -/
theorem okD {R : Type} {args : R → List De} {pre : R → Hp → Prop} {res : R → De} {x qual : Str} {st : Stmt} {f : Addr} {fd : FuncData} {N ps : List Str} {k : Nat} (F : Fun K x qual st f fd) (S : FnScope N ps (defScope st)) (hlen : ∀ r, (args r).length = ps.length)
    (body : ∀ (cdv : Value) (A : Around) (outer : List Env) (s : Shared) (H : Hp) (E : XK), Room k (A.deeper (PyProof.Rows.envOfC qual (defScope st) s.heap.objs.size f cdv)) →
      ∃ t, PSs (cxOf CX0 P w K mg base N qual (defScope st) f cdv A outer s H E).nox (defBody st) t ∧
        ∀ r vs (D : Ends), All2 Hn H vs (args r) → pre r H → (∀ v H', Same H H' → res r H H' v → D.rt v H') → (∀ σ H', Same H H' → res r H H' .non → D.nx σ H') → t D (start N vs) H) :
    FnOk P w K mg base CX0 (k + 1) f fd ps (spOf args pre res) := by
  refine F.ok S (fun vs H Q E h => ?_) (fun cdv A outer s H vs Q E hr h => ?_)
  · obtain ⟨r, h, _⟩ := h
    rw [h.length, hlen]
  · obtain ⟨r, ha, hp, q⟩ := h
    obtain ⟨t, ht, hb⟩ := body cdv A outer s H E hr
    exact ⟨t, ht, hb r vs _ ha hp q fun σ H' s' h' => q .non H' s' h'⟩
/-- the def of that name is there and keeps that promise -/
def Dl (P : Program) (w : World) (K : PySem.W.Frag) (mg : Str → Option Value) (base : Heap) (x : Str) (k : Nat) (ps : List Str) (sp : Sp) : Prop :=
  ∃ f fd, FnOk P w K mg base CX0 k f fd ps sp ∧ mg x = some (.ref f) ∧ PySem.W.keepIn K (.ref f) = true ∧ Binds K fd ps []
theorem Dl.mono {x : Str} {j k : Nat} {ps : List Str} {sp : Sp} (h : Dl P w K mg base x j ps sp) (hj : j ≤ k) : Dl P w K mg base x k ps sp := by
  obtain ⟨f, fd, G, m, kp, b⟩ := h
  exact ⟨f, fd, G.mono hj, m, kp, b⟩
end
theorem pe_dl {X : Cx} {x : Str} {k : Nat} {ps : List Str} {sp : Sp} {p pos : Pos} {e : Expr} {es : List Expr} {t : TA} (h : Dl X.prog X.w X.K X.mg X.base x k ps sp) (hr : Room k X.A) (hg : Gl X x) (ha : PA X (e :: es) t)
    (hdb : (x == ("__debug__" : Str)) = false := by decide) (he : starEach (e :: es) X.env = (false, eval e X.env) :: starEach es X.env := by rfl) (hpl : (backTo pos (starEach es X.env)).any (·.1) = false := by rfl) :
    PE X (.Call (.Name x p) (e :: es) [] pos) (tCall sp [] E0 t) := by
  obtain ⟨f, fd, G, m, kp, b⟩ := h
  exact pe_call G hr hg m kp b .nil pass0 ha hdb he hpl
/-- a def of the text that stands there -/
def Df (K : PySem.W.Frag) (mg : Str → Option Value) (x : Str) (st : Stmt) : Prop := ∃ f fd, Fun K x x st f fd ∧ mg x = some (.ref f)
theorem hu65 {A : Around} {k : Nat} (hr : Room k A) : A.units + 65 < cLine := by have := hr.un; omega
end D18
set_option Elab.async false
set_option linter.all false
set_option maxRecDepth 100000
set_option maxHeartbeats 4000000
/-! Rk: the rules with the written part K named. -/
namespace D18
open PySem L2
section
variable {X : Cx} {K : PySem.W.Frag}
theorem op_catK (hK : X.K = K := by rfl) : OpR X (binaryOp .Add) (rCatA K) := hK ▸ op_catA
theorem op_inK (hK : X.K = K := by rfl) : OpR X (compareOp .In) (rIn K false) := hK ▸ op_in_seq
theorem op_notInK (hK : X.K = K := by rfl) : OpR X (compareOp .NotIn) (rIn K true) := hK ▸ op_notIn_seq
theorem op_eqDK (hu : X.A.units + 64 < cLine) (hK : X.K = K := by rfl) : OpR X (compareOp .Eq) (rEqD K) := hK ▸ op_eqD hu
theorem op_neDK (hu : X.A.units + 64 < cLine) (hK : X.K = K := by rfl) : OpR X (compareOp .NotEq) (rNeD K) := hK ▸ op_neD hu
theorem op_inDK (hu : X.A.units + 65 < cLine) (hK : X.K = K := by rfl) : OpR X (compareOp .In) (rInD K) := hK ▸ op_inD hu
theorem ix_listK (hK : X.K = K := by rfl) : IxR X (rIxL K) := hK ▸ ix_list
theorem ix_tupK (hK : X.K = K := by rfl) : IxR X (rIxT K) := hK ▸ ix_tup
theorem call_lenK (hK : X.K = K := by rfl) : CallR X (.builtin "len") (rLenQ K) := hK ▸ call_len_seq
theorem call_listK (hK : X.K = K := by rfl) : CallR X (.type "list") (rListQ K) := hK ▸ call_list_of
theorem call_tupleK (hK : X.K = K := by rfl) : CallR X (.type "tuple") (rTupQ K) := hK ▸ call_tuple_of
theorem cr_sortedK (hK : X.K = K := by rfl) : CallR X (.builtin "sorted") (rSorted K) := hK ▸ cr_sorted
theorem cr_maxK (hc : X.calm = true) (hK : X.K = K := by rfl) : CallR X (.builtin "max") (rMax K) := hK ▸ cr_max hc
theorem cr_allK (hc : X.calm = true) (hK : X.K = K := by rfl) : CallR X (.builtin "all") (rAll K) := hK ▸ cr_all hc
theorem call_isiKk (hK : X.K = K := by rfl) : CallR X (.builtin "isinstance") (rIsi K) := hK ▸ call_isi
theorem sl_tupK (hK : X.K = K := by rfl) : SlR X (rSlA K) := hK ▸ sl_tupA
theorem sl_listK (hK : X.K = K := by rfl) : SlR X (rSlL K) := hK ▸ sl_list
theorem mt_indexK (hK : X.K = K := by rfl) : MtR X "list.index" (rIndex K) := hK ▸ mt_index
theorem call_int1K : CallR X (.type "int") rIntQ := call_int1
theorem op_addSK : OpR X (binaryOp .Add) rAddS2 := op_add_str
variable {tg l e : Expr} {tl ta : TE} {f : Str} {pos : Pos}
theorem pi_listK (hl : PE X l tl) (hK : X.K = K := by rfl) : PI X tg l (iList K tl) := hK ▸ pi_list hl
theorem pi_tupK (hl : PE X l tl) (hK : X.K = K := by rfl) : PI X tg l (iTup K tl) := hK ▸ pi_tup hl
theorem pe_fldK (he : PE X e ta) (hb : attributeBase e f X.env (eval e X.env) = eval e X.env) (hK : X.K = K := by rfl) : PE X (.Attribute e f pos) (tFld K ta f) := hK ▸ pe_fld he hb
theorem pg_tupK {es : List Expr} {k : Nat} {t : TGs} {n : Nat} (hc : X.calm = true) (h : PGs X es t)
    (hn : (assignEach es X.env).length = n := by rfl) (hst : (assignEach es X.env).findIdx? (·.1) = none := by rfl) (hK : X.K = K := by rfl) : PG X (.Tuple es k pos) (gTup K n t) := hK ▸ pg_tup hc h hn hst
theorem ps_fldK {o value : Expr} {tv : TE} {pos' : Pos} (ha : PE X o ta) (hv : PE X value tv) (hs : swapsWith value (some (.Attribute o f pos')) pos.line X.env = pure false) (hK : X.K = K := by rfl) : PS X (.Assign [.Attribute o f pos'] value pos) (sFld K ta tv f) := hK ▸ ps_fld ha hv hs
variable {o : Expr} {es : List Expr} {to : TE} {t : TA} {name : Str} {apos cpos : Pos} {T id : String} {r : V → List V → Hp → VK → Prop}
theorem pe_bm0K (pa : PlainAttrs T) (slot : Slot T name id) (hty : typeOf (.builtin id) = pure (.type "method_descriptor")) (hm : MtR X id r) (ho : PE X o to)
    (hbase : attributeBase o name X.env (eval o X.env) = eval o X.env := by rfl) (hline : (apos.endLine == cpos.line) = true := by rfl) (hK : X.K = K := by rfl) : PE X (.Call (.Attribute o name apos) [] [] cpos) (tBM0 K T r to) := hK ▸ pe_bm0 pa slot hty hm ho hbase hline
theorem pe_bmK (pa : PlainAttrs T) (slot : Slot T name id) (hty : typeOf (.builtin id) = pure (.type "method_descriptor")) (hm : MtR X id r) (ho : PE X o to) (ha : PA X (e :: es) t)
    (hbase : attributeBase o name X.env (eval o X.env) = eval o X.env := by rfl)
    (hfew : ((backTo cpos (starEach (e :: es) X.env)).all (fun x => !x.1) && (backToKw cpos (keywordEach [] X.env)).all (fun x => x.1.isSome)
      && decide ((e :: es).length + ([] : List Keyword).length + (if ([] : List Keyword).isEmpty then 0 else 1) < 30)) = true := by rfl)
    (hline : (apos.endLine == cpos.line) = true := by rfl) (hs : starEach (e :: es) X.env = (false, eval e X.env) :: starEach es X.env := by rfl) (hplain : (backTo cpos (starEach es X.env)).any (·.1) = false := by rfl) (hK : X.K = K := by rfl) :
    PE X (.Call (.Attribute o name apos) (e :: es) [] cpos) (tBM K T r to t) := hK ▸ pe_bm pa slot hty hm ho ha hbase hfew hline hs hplain
end
end D18
set_option Elab.async false
set_option linter.all false
set_option maxRecDepth 100000
set_option maxHeartbeats 4000000
/-! Ri: zip of a list, a tuple and a list; enumerate of a tuple. -/
namespace D18
open PySem L2 PyProof.Rows

theorem sub5 {N : Nat} (b : Addr) (h : b ∈ [N + 5, N + 4, N, N + 1, N + 2]) : b ∈ [N + 5, N + 3, N + 4, N, N + 1, N + 2] := by
  simp only [List.mem_cons, List.not_mem_nil, or_false] at h ⊢
  rcases h with h | h | h | h | h
  · exact .inl h
  · exact .inr (.inr (.inl h))
  · exact .inr (.inr (.inr (.inl h)))
  · exact .inr (.inr (.inr (.inr (.inl h))))
  · exact .inr (.inr (.inr (.inr (.inr h))))
theorem lt6 {N n : Nat} (h5 : N + 5 < n) (b : Addr) (h : b ∈ [N + 5, N + 3, N + 4, N, N + 1, N + 2]) : b < n := by
  simp only [List.mem_cons, List.not_mem_nil, or_false] at h
  rcases h with h | h | h | h | h | h <;> rw [h]
  · exact h5
  · exact Nat.lt_trans (by omega) h5
  · exact Nat.lt_trans (by omega) h5
  · exact Nat.lt_trans (by omega) h5
  · exact Nat.lt_trans (by omega) h5
  · exact Nat.lt_trans (by omega) h5
theorem le6 {N : Nat} (b : Addr) (h : b ∈ [N + 5, N + 3, N + 4, N, N + 1, N + 2]) : N ≤ b := by
  simp only [List.mem_cons, List.not_mem_nil, or_false] at h
  rcases h with h | h | h | h | h | h <;> rw [h]
  · exact Nat.le_add_right _ _
  · exact Nat.le_add_right _ _
  · exact Nat.le_add_right _ _
  · exact Nat.le_refl _
  · exact Nat.le_add_right _ _
  · exact Nat.le_add_right _ _
/-- the list at a, the tuple at b, the list at c, their items in new triples -/
def Itz3 (K : PySem.W.Frag) (a b c : Addr) : It :=
  ⟨fun i H => ∃ (xs ys zs : List V), SqL K H a xs ∧ SqT K H b ys ∧ SqL K H c zs ∧ ys.length = xs.length ∧ zs.length = xs.length ∧ i < xs.length,
    fun i H v H' => ∃ T x y z, v = .ref T ∧ H T = none ∧ H' = upd H T (.tup [x, y, z]) ∧ (∀ xs, SqL K H a xs → xs[i]? = some x) ∧ (∀ ys, SqT K H b ys → ys[i]? = some y) ∧ ∀ zs, SqL K H c zs → zs[i]? = some z,
    fun i H => ∃ (xs ys zs : List V), SqL K H a xs ∧ SqT K H b ys ∧ SqL K H c zs ∧ ys.length = xs.length ∧ zs.length = xs.length ∧ i = xs.length⟩
theorem turn_zip3 {P : Program} {w : World} {K : PySem.W.Frag} {elts : List Expr} {kk : Nat} {tpos : Pos} {a b c N : Nat} (ha : a < N) (hb : b < N) (hcN : c < N) :
    Turn P w K (.Tuple elts kk tpos) (Itz3 K a b c) [N + 5, N + 3, N + 4, N, N + 1, N + 2] (N + 5)
      (fun i h => IsZip h (N + 5) (N + 3) (N + 4) .none ∧ IsTupOf3 h (N + 3) (.ref N) (.ref (N + 1)) (.ref (N + 2)) ∧ (∃ a1 a2 a3, IsTupOf3 h (N + 4) a1 a2 a3) ∧ h.IsListIter N a i ∧ h.IsTupleIter (N + 1) b i ∧ h.IsListIter (N + 2) c i) where
  mem := by simp
  obj := fun i h st d hd => by
    obtain ⟨hz, hTI, ⟨x, y, z, hTO⟩, ⟨o1, e1, _, d1⟩, ⟨o2, e2, _, d2⟩, ⟨o3, e3, _, d3⟩⟩ := st
    have e' : d = N + 5 ∨ d = N + 3 ∨ d = N + 4 ∨ d = N ∨ d = N + 1 ∨ d = N + 2 := by simpa using hd
    rcases e' with q | q | q | q | q | q
    · rw [q]; exact ⟨_, hz, fun v q => nomatch q⟩
    · rw [q]; exact ⟨_, hTI, fun v q => nomatch q⟩
    · rw [q]; exact ⟨_, hTO, fun v q => nomatch q⟩
    · rw [q]; exact ⟨o1, e1, fun v q => by rw [d1] at q; cases q⟩
    · rw [q]; exact ⟨o2, e2, fun v q => by rw [d2] at q; cases q⟩
    · rw [q]; exact ⟨o3, e3, fun v q => by rw [d3] at q; cases q⟩
  keep := fun i h h' st k => by
    obtain ⟨hz, hTI, ⟨x, y, z, hTO⟩, h1, h2, h3⟩ := st
    exact ⟨k _ (by simp) _ hz, k _ (by simp) _ hTI, ⟨x, y, z, k _ (by simp) _ hTO⟩, h1.at fun o q => k _ (by simp) o q, h2.at fun o q => k _ (by simp) o q, h3.at fun o q => k _ (by simp) o q⟩
  item := by
    intro X hP hw hK hc i pins s σ H E I hf st hg
    subst hP hw hK
    obtain ⟨xs, ys, zs, hqx, hqy, hqz, hl2, hl3, hi⟩ := hg
    obtain ⟨its, rv, p, _⟩ := I.list hqx
    obtain ⟨its2, rv2, p2, _⟩ := I.tuple hqy
    obtain ⟨its3, rv3, p3, _⟩ := I.list hqz
    have hh := I.ok.hd hc
    have W := GoesN.zip3 (prog := X.prog) (w := X.w) (A := X.A) (elts := elts) (x1 := kk) (pos := tpos) (zip_sep3 (N := N) (fp1 := [a]) (fp2 := [b]) (fp3 := [c]) (by simpa using ha) (by simpa using hb) (by simpa using hcN))
      (Draws.list (A := X.A.in1) hh N a (Nat.ne_of_lt ha) its.toArray) (Draws.tuple (A := X.A.in1) hh (N + 1) b (Nat.ne_of_lt (by omega)) its2.toArray) (Draws.list (A := X.A.in1) hh (N + 2) c (Nat.ne_of_lt (by omega)) its3.toArray)
    obtain ⟨hz, hTI, hTO, h1, h2, h3⟩ := st
    have l1 := rv.length
    have l2 := rv2.length
    have l3 := rv3.length
    have hn : i < min (min its.toArray.size its2.toArray.size) its3.toArray.size := by
      simp only [List.size_toArray]
      omega
    refine W.goes i s _ E hn ⟨hz, hTI, hTO, ⟨h1, p.isList⟩, ⟨h2, p2⟩, ⟨h3, p3.isList⟩⟩ fun v h' tk hY hSt hk _ => ?_
    obtain ⟨T, u1, u2, u3, rfl, hT, q1, q2, q3, hTup⟩ := hY
    obtain ⟨z', TI', TO', ⟨h1', _⟩, ⟨h2', _⟩, ⟨h3', _⟩⟩ := hSt
    have g1 : its[i]? = some u1 := by simpa using q1
    have g2 : its2[i]? = some u2 := by simpa using q2
    have g3 : its3[i]? = some u3 := by simpa using q3
    have getV : ∀ {xs : List V} {us : List Value} {u : Value}, Vals xs us → us[i]? = some u → ∃ x, xs[i]? = some x ∧ RelV x u := fun {xs us u} r e => by
      have hlt : i < xs.length := by rw [r.length]; exact (List.getElem?_eq_some_iff.mp e).1
      obtain ⟨u', e', r'⟩ := r.get (List.getElem?_eq_getElem hlt)
      rw [e] at e'
      cases e'
      exact ⟨_, List.getElem?_eq_getElem hlt, r'⟩
    obtain ⟨x, hx, rx⟩ := getV rv g1
    obtain ⟨y, hy, ry⟩ := getV rv2 g2
    obtain ⟨z, hz2, rz⟩ := getV rv3 g3
    have hTn : H T = none := I.hok.fresh hT
    have new : ObjOk X.prog X.w (upd H T (.tup [x, y, z])) h' T (.tup [x, y, z]) := ⟨by show 3 ≤ sizeLine; decide, [u1, u2, u3], .cons rx (.cons ry (.cons rz .nil)), hTup⟩
    have hsz := lt6 (N := N) (show N + 5 < s.heap.objs.size from Heap.lt_size hz)
    refine ⟨.ref T, upd H T (.tup [x, y, z]), I.turnedNew (ch := [N + 5, N + 4, N, N + 1, N + 2]) hk (fun b hb => hf b (sub5 b hb)) hT new, rfl,
      ⟨T, x, y, z, rfl, hTn, rfl, fun l hl => by rw [I.list_inj hl hqx]; exact hx, fun l hl => by rw [I.tuple_inj hl hqy]; exact hy, fun l hl => by rw [I.list_inj hl hqz]; exact hz2⟩, ⟨z', TI', TO', h1', h2', h3'⟩, fun b hb => ?_⟩
    rw [upd_ne (Nat.ne_of_lt (Nat.lt_of_lt_of_le (hsz b hb) hT))]
    exact (hf b hb).1
  done := by
    intro X hP hw hK hc i pins s σ H E I hf st hg
    subst hP hw hK
    obtain ⟨xs, ys, zs, hqx, hqy, hqz, hl2, hl3, rfl⟩ := hg
    obtain ⟨its, rv, p, _⟩ := I.list hqx
    obtain ⟨its2, rv2, p2, _⟩ := I.tuple hqy
    obtain ⟨its3, rv3, p3, _⟩ := I.list hqz
    have hh := I.ok.hd hc
    have W := GoesN.zip3 (prog := X.prog) (w := X.w) (A := X.A) (elts := elts) (x1 := kk) (pos := tpos) (zip_sep3 (N := N) (fp1 := [a]) (fp2 := [b]) (fp3 := [c]) (by simpa using ha) (by simpa using hb) (by simpa using hcN))
      (Draws.list (A := X.A.in1) hh N a (Nat.ne_of_lt ha) its.toArray) (Draws.tuple (A := X.A.in1) hh (N + 1) b (Nat.ne_of_lt (by omega)) its2.toArray) (Draws.list (A := X.A.in1) hh (N + 2) c (Nat.ne_of_lt (by omega)) its3.toArray)
    obtain ⟨hz, hTI, hTO, h1, h2, h3⟩ := st
    have l1 := rv.length
    have l2 := rv2.length
    have l3 := rv3.length
    have hn : min (min its.toArray.size its2.toArray.size) its3.toArray.size = xs.length := by
      simp only [List.size_toArray]
      omega
    refine W.stops s _ E ?_ fun h' tk hk _ => I.turnedL (ch := [N + 5, N + 4, N, N + 1, N + 2]) hk (fun b hb => hf b (sub5 b hb))
    rw [hn]
    exact ⟨hz, hTI, hTO, ⟨h1, p.isList⟩, ⟨h2, p2⟩, ⟨h3, p3.isList⟩⟩
  self := fun A i s Q E st h => wpAny_pyIter_zip st.1 h
def iZip3 (K : PySem.W.Frag) (ta : TA) : TI := fun σ H R => ta σ H fun vs H1 => ∃ a b c xs ys zs, vs = [.ref a, .ref b, .ref c] ∧ SqL K H1 a xs ∧ SqT K H1 b ys ∧ SqL K H1 c zs ∧ R (Itz3 K a b c) H1
theorem pi_zip3 {X : Cx} {K : PySem.W.Frag} {e e2 e3 : Expr} {ta : TA} {p pos tpos : Pos} {elts : List Expr} {kk : Nat} (hg : Gl X "zip") (hm : X.mg "zip" = none) (ha : PA X [e, e2, e3] ta)
    (hs : starEach [e, e2, e3] X.env = (false, eval e X.env) :: starEach [e2, e3] X.env := by rfl) (hpl : (backTo pos (starEach [e2, e3] X.env)).any (·.1) = false := by rfl) (hK : X.K = K := by rfl) :
    PI X (.Tuple elts kk tpos) (.Call (.Name "zip" p) [e, e2, e3] [] pos) (iZip3 K ta) := by
  subst hK
  refine ⟨fun pins s σ H R I h => ?_⟩
  refine Call_ (ld_blt I hg hm PyProof.Rows.boot_zip (PyProof.Rows.callWith_type1 (thn (ha.run pos pins s σ H _ I h) fun us s1 ⟨vs, H1, I1, r1, q1⟩ => ?_) hs hpl))
  obtain ⟨a, b, c, xs, ys, zs, rfl, hqx, hqy, hqz, q⟩ := q1
  cases r1 with
  | cons r rr =>
    cases rr with
    | cons r' rr =>
      cases rr with
      | cons r'' rr =>
        cases rr
        cases r
        cases r'
        cases r''
        obtain ⟨its, rv, p, _⟩ := I1.list hqx
        obtain ⟨its2, rv2, p2, _⟩ := I1.tuple hqy
        obtain ⟨its3, rv3, p3, _⟩ := I1.list hqz
        have la : a < s1.heap.objs.size := by obtain ⟨_, e, _⟩ := p.isList; exact Heap.lt_size e
        have lb : b < s1.heap.objs.size := by obtain ⟨_, e, _⟩ := p2; exact Heap.lt_size e
        have lc : c < s1.heap.objs.size := by obtain ⟨_, e, _⟩ := p3.isList; exact Heap.lt_size e
        refine zip_begins3 (begins_list a its.toArray) (begins_tuple b its2.toArray) (begins_list c its3.toArray) p.isList p2 p3.isList fun h' hz hTI hTO g1 g2 g3 hsz hk => ?_
        refine wpAny_pyIter_zip hz ?_
        have I2 : Inv X pins σ H1 { s1 with heap := h' } := I1.kept (t' := s1.toks) hk
        refine ⟨s1.heap.objs.size + 5, [s1.heap.objs.size + 5, s1.heap.objs.size + 3, s1.heap.objs.size + 4, s1.heap.objs.size, s1.heap.objs.size + 1, s1.heap.objs.size + 2], _, _, H1, rfl, I2, turn_zip3 la lb lc, ?_, fun d hd => ?_, q⟩
        · exact ⟨hz, hTI, ⟨_, _, _, hTO⟩, ⟨_, g1, rfl, rfl⟩, ⟨_, g2, rfl, rfl⟩, ⟨_, g3, rfl, rfl⟩⟩
        · have hle : s1.heap.objs.size ≤ d := le6 d hd
          exact I1.fpOk hle (I1.hok.fresh hle)
end D18
set_option Elab.async false
set_option linter.all false
set_option maxRecDepth 100000
set_option maxHeartbeats 4000000
/-! Ri2: enumerate of a tuple. -/
namespace D18
open PySem L2 PyProof.Rows
open Sem (wp)
open AutoSeq1 (wpAny_loadPart')

theorem meets_enumerate_newT (l : Addr) (items : Array Value) (n : Nat) (dct : Option Addr) (sl : Array (Option Value)) :
    Meets (Builtin.«enumerate.__new__» ⟨[.type "enumerate", .ref l], []⟩) (fun _ R s => s.heap.get? l = some { cls := .type "tuple", dict := dct, data := .seq items n, slots := sl } ∧
      R (.ok (.ret (.ref (s.heap.push { cls := .type "tuple_iterator", data := .fields #[.ref l, .int 0 0] }).objs.size)))
        { s with heap := (s.heap.push { cls := .type "tuple_iterator", data := .fields #[.ref l, .int 0 0] }).push { cls := .type "enumerate", data := .fields #[.none, .bool false, .ref s.heap.objs.size, rawInt 0, .none, .none] } }) :=
  .of_wp fun prog w A R s h => by
    obtain ⟨hp, g, d, tk, os⟩ := s; obtain ⟨hl, h⟩ := h
    have hsub := sub_enumerate
    have hL : Heap.IsTuple (Shared.heap ⟨hp, g, d, tk, os⟩) l items := ⟨_, hl, rfl, n, rfl⟩
    wp_walk using wpAny_loadPart' hl
    refine wpAny_stack_any fun st => wpAny_pure ?_
    split
    · rename_i c _ _ _ _ _
      cases (c == Value.type "enumerate")
      · wp_walk using wpAny_loadPart' hl, wpAny_pyIter_tuple hL
        exact ⟨_, rfl, h⟩
      · wp_walk using wpAny_loadPart' hl, wpAny_pyIter_tuple hL
        exact ⟨_, rfl, h⟩
    · wp_walk using wpAny_loadPart' hl, wpAny_pyIter_tuple hL
      exact ⟨_, rfl, h⟩
section
variable {prog : Program} {w : World} {A : Around} {E : Value → Shared → Prop} {s : Shared}
theorem call_enumerate_tuple {l : Addr} {items : Array Value} {Q : Value → Shared → Prop} (hL : s.heap.IsTuple l items)
    (h : ∀ h', IsEnum h' (s.heap.objs.size + 1) s.heap.objs.size 0 .none → h'.IsTupleIter s.heap.objs.size l 0 → h'.objs.size = s.heap.objs.size + 2 →
      (∀ b o, s.heap.get? b = some o → h'.get? b = some o) → Q (.ref (s.heap.objs.size + 1)) { s with heap := h' }) :
    wpAny (model prog w) A (call (.type "enumerate") [.ref l]) Q E s := by
  obtain ⟨⟨c, dct, dt, sl⟩, hl, hc, n, hd⟩ := hL
  replace hc : c = .type "tuple" := hc
  replace hd : dt = .seq items n := hd
  subst hc hd
  refine callType_new F.called_enumerate (by decide) (F.typeCall_enumerate_1 _) (F.newCall_enumerate_1 _) (fun obj => F.args_object_init_2 obj _) F.entry_enumerate_new
    (meets_enumerate_newT l items n dct sl) ⟨hl, ?_⟩
  have hz : (s.heap.push { cls := .type "tuple_iterator", data := .fields #[.ref l, .int 0 0] }).objs.size = s.heap.objs.size + 1 := Heap.size_push ..
  show _ ∧ _
  rw [hz]
  have he : IsEnum ((s.heap.push { cls := .type "tuple_iterator", data := .fields #[.ref l, .int 0 0] }).push
      { cls := .type "enumerate", data := .fields #[.none, .bool false, .ref s.heap.objs.size, rawInt 0, .none, .none] }) (s.heap.objs.size + 1) s.heap.objs.size 0 .none := by
    have := Heap.get?_push_size (s.heap.push { cls := .type "tuple_iterator", data := .fields #[.ref l, .int 0 0] })
      (o := { cls := .type "enumerate", data := .fields #[.none, .bool false, .ref s.heap.objs.size, rawInt 0, .none, .none] }) rfl
    rw [hz] at this; exact this
  refine ⟨⟨_, he, rfl⟩, h _ he ⟨_, Heap.get?_push_of_some _ (Heap.get?_push_size _ rfl), rfl, rfl⟩ (by rw [Heap.size_push, hz]) fun b o x => Heap.get?_push_of_some _ (Heap.get?_push_of_some _ x)⟩
end
/-- the tuple at a, each item in a new pair with its place -/
def ItEt (K : PySem.W.Frag) (a : Addr) : It :=
  ⟨fun i H => ∃ (xs : List V), SqT K H a xs ∧ i < xs.length, fun i H v H' => ∃ T x, v = .ref T ∧ H T = none ∧ H' = upd H T (.tup [.int (i : Nat), x]) ∧ ∀ xs, SqT K H a xs → xs[i]? = some x, fun i H => ∃ xs : List V, SqT K H a xs ∧ i = xs.length⟩
theorem turn_enumT {P : Program} {w : World} {K : PySem.W.Frag} {elts : List Expr} {kk : Nat} {tpos : Pos} {a N : Nat} (ha : a < N) :
    Turn P w K (.Tuple elts kk tpos) (ItEt K a) [N + 1, N] (N + 1) (fun i h => (∃ old, IsEnum h (N + 1) N (0 + ((i : Nat) : Int)) old) ∧ h.IsTupleIter N a i) where
  mem := by simp
  obj := fun i h st b hb => by
    obtain ⟨⟨old, he⟩, ⟨o, ho, hc, hd⟩⟩ := st
    have e' : b = N + 1 ∨ b = N := by simpa using hb
    rcases e' with z | z
    · rw [z]; exact ⟨_, he, fun v q => nomatch q⟩
    · rw [z]; exact ⟨o, ho, fun v q => by rw [hd] at q; cases q⟩
  keep := fun i h h' st k => let ⟨⟨old, he⟩, hi⟩ := st; ⟨⟨old, k _ (by simp) _ he⟩, hi.at fun o q => k _ (by simp) o q⟩
  item := by
    intro X hP hw hK hc i pins s σ H E I hf st hg
    subst hP hw hK
    obtain ⟨⟨old, he⟩, hit⟩ := st
    obtain ⟨xs, hq, hi⟩ := hg
    obtain ⟨its, rv, p, hz⟩ := I.tuple hq
    have hh := I.ok.hd hc
    have W := GoesN.enumFrom (prog := X.prog) (w := X.w) (A := X.A) (elts := elts) (x1 := kk) (pos := tpos) 0 (Draws.tuple (A := X.A.in1) hh N a (Nat.ne_of_lt ha) its.toArray) (N + 1) (Nat.succ_ne_self N)
      (by simp only [List.mem_cons, List.not_mem_nil, or_false]; rintro (z | z); exact Nat.succ_ne_self N z; exact Nat.ne_of_gt (Nat.lt_succ_of_lt ha) z) (by simp)
    have l1 := rv.length
    have hel : N + 1 < s.heap.objs.size := Heap.lt_size he
    refine W.goes i s _ E (by simp only [List.size_toArray]; omega) ⟨⟨old, he⟩, hit, p⟩ fun v h' tk hY hSt hk _ => ?_
    obtain ⟨T, t, u, rfl, hT, q1, hTup⟩ := hY
    obtain ⟨he', hit', _⟩ := hSt
    have g1 : its[i]? = some u := by simpa using q1
    obtain ⟨u', e', ru⟩ := rv.get (List.getElem?_eq_getElem hi)
    rw [g1] at e'
    cases e'
    have hTn : H T = none := I.hok.fresh hT
    have e0 : (0 + ((i : Nat) : Int)) = ((i : Nat) : Int) := by omega
    have new : ObjOk X.prog X.w (upd H T (.tup [.int (i : Nat), xs[i]])) h' T (.tup [.int (i : Nat), xs[i]]) := ⟨by show 2 ≤ sizeLine; decide, [.int (0 + (i : Int)) t, u], .cons ⟨t, by rw [e0]⟩ (.cons ru .nil), hTup⟩
    refine ⟨.ref T, upd H T (.tup [.int (i : Nat), xs[i]]), I.turnedNew (ch := [N + 1, N]) hk (fun b hb => hf b hb) hT new, rfl,
      ⟨T, xs[i], rfl, hTn, rfl, fun l hl => by rw [I.tuple_inj hl hq]; exact List.getElem?_eq_getElem hi⟩, ⟨he', hit'⟩, fun b hb => ?_⟩
    have hb' : b < s.heap.objs.size := by
      simp only [List.mem_cons, List.not_mem_nil, or_false] at hb
      rcases hb with z | z <;> rw [z]
      · exact hel
      · exact Nat.lt_of_succ_lt hel
    rw [upd_ne (Nat.ne_of_lt (Nat.lt_of_lt_of_le hb' hT))]
    exact (hf b hb).1
  done := by
    intro X hP hw hK hc i pins s σ H E I hf st hg
    subst hP hw hK
    obtain ⟨⟨old, he⟩, hit⟩ := st
    obtain ⟨xs, hq, rfl⟩ := hg
    obtain ⟨its, rv, p, hz⟩ := I.tuple hq
    have hh := I.ok.hd hc
    have W := GoesN.enumFrom (prog := X.prog) (w := X.w) (A := X.A) (elts := elts) (x1 := kk) (pos := tpos) 0 (Draws.tuple (A := X.A.in1) hh N a (Nat.ne_of_lt ha) its.toArray) (N + 1) (Nat.succ_ne_self N)
      (by simp only [List.mem_cons, List.not_mem_nil, or_false]; rintro (z | z); exact Nat.succ_ne_self N z; exact Nat.ne_of_gt (Nat.lt_succ_of_lt ha) z) (by simp)
    have l1 := rv.length
    have hn : its.toArray.size = xs.length := by simp only [List.size_toArray]; omega
    refine W.stops s _ E ?_ fun h' tk hk _ => I.turnedL (ch := [N + 1, N]) hk (fun b hb => hf b hb)
    rw [hn]
    exact ⟨⟨old, he⟩, hit, p⟩
  self := fun A i s Q E st h => let ⟨⟨_, he⟩, _⟩ := st; wpAny_pyIter_enum he h
def iEnumT (K : PySem.W.Frag) (ta : TA) : TI := fun σ H R => ta σ H fun vs H1 => ∃ a xs, vs = [.ref a] ∧ SqT K H1 a xs ∧ R (ItEt K a) H1
theorem pi_enumT {X : Cx} {K : PySem.W.Frag} {e : Expr} {ta : TA} {p pos tpos : Pos} {elts : List Expr} {kk : Nat} (hg : Gl X "enumerate") (hm : X.mg "enumerate" = none) (ha : PA X [e] ta) (hs : starEach [e] X.env = [(false, eval e X.env)] := by rfl) (hK : X.K = K := by rfl) :
    PI X (.Tuple elts kk tpos) (.Call (.Name "enumerate" p) [e] [] pos) (iEnumT K ta) := by
  subst hK
  refine ⟨fun pins s σ H R I h => ?_⟩
  refine Call_ (ld_blt I hg hm boot_enumerate (PyProof.Rows.callWith_type1 (thn (ha.run pos pins s σ H _ I h) fun us s1 ⟨vs, H1, I1, r1, q1⟩ => ?_) hs rfl))
  obtain ⟨a, xs, ex, hq, q⟩ := q1
  subst ex
  cases r1 with
  | cons r rr =>
    cases rr
    cases r
    obtain ⟨its, rv, p', hz⟩ := I1.tuple hq
    have la : a < s1.heap.objs.size := by obtain ⟨_, e, _⟩ := p'; exact Heap.lt_size e
    refine call_enumerate_tuple p' fun h' he hit hsz hk => wpAny_pyIter_enum he ?_
    have I2 : Inv X pins σ H1 { s1 with heap := h' } := I1.kept (t' := s1.toks) hk
    refine ⟨s1.heap.objs.size + 1, [s1.heap.objs.size + 1, s1.heap.objs.size], _, _, H1, rfl, I2, turn_enumT la, ⟨⟨.none, he⟩, hit⟩, fun b hb => ?_, q⟩
    have hle : s1.heap.objs.size ≤ b := by
      simp only [List.mem_cons, List.not_mem_nil, or_false] at hb
      rcases hb with z | z <;> rw [z]
      · exact Nat.le_add_right _ _
      · exact Nat.le_refl _
    exact I1.fpOk hle (I1.hok.fresh hle)
/-- enumerate of a list, K named -/
theorem pi_enumK {X : Cx} {K : PySem.W.Frag} {e : Expr} {ta : TA} {p pos tpos : Pos} {elts : List Expr} {kk : Nat} (hg : Gl X "enumerate") (hm : X.mg "enumerate" = none) (ha : PA X [e] ta) (hs : starEach [e] X.env = [(false, eval e X.env)] := by rfl) (hK : X.K = K := by rfl) :
    PI X (.Tuple elts kk tpos) (.Call (.Name "enumerate" p) [e] [] pos) (iEnum K ta) := hK ▸ pi_enum hg hm ha hs
theorem pi_zipK {X : Cx} {K : PySem.W.Frag} {e e2 : Expr} {ta : TA} {p pos tpos : Pos} {elts : List Expr} {kk : Nat} (hg : Gl X "zip") (hm : X.mg "zip" = none) (ha : PA X [e, e2] ta)
    (hs : starEach [e, e2] X.env = (false, eval e X.env) :: starEach [e2] X.env := by rfl) (hpl : (backTo pos (starEach [e2] X.env)).any (·.1) = false := by rfl) (hK : X.K = K := by rfl) :
    PI X (.Tuple elts kk tpos) (.Call (.Name "zip" p) [e, e2] [] pos) (iZip K ta) := hK ▸ pi_zip hg hm ha hs hpl

/-! ### what they walk, by descriptors -/
section
variable {K : PySem.W.Frag} {σ : L2.St} {H : Hp} {ta tb tc : TE}
/-- a new tuple of so described values -/
def dTp (δs : List De) : De := fun G H v => ∃ T vs, v = .ref T ∧ H T = some (.tup vs) ∧ All2 G H vs δs
theorem walk_enumT {a : Addr} {xs : List V} : Walk (ItEt K a) xs.length (fun H => SqT K H a xs) (fun i H v H' => ∃ T x, v = .ref T ∧ H T = none ∧ H' = upd H T (.tup [.int (i : Nat), x]) ∧ xs[i]? = some x) :=
  ⟨fun i _ hi q => ⟨xs, q, hi⟩, fun _ q => ⟨xs, q, rfl⟩, fun _ _ _ _ _ q ⟨T, x, e, n, eH, hx⟩ => ⟨T, x, e, n, eH, hx xs q⟩⟩
theorem ei_enumT {α : Type} {enc : α → PyData} {as : List α} (ha : EvX ta σ H (dD (.tuple (as.map enc)))) : EvI (iEnumT K (tCons ta tNil)) σ H as.zipIdx (fun ai => dD (.tuple [nI ai.2, enc ai.1])) := fun H1 e R r =>
  ha H1 e _ fun v H2 s2 d2 => by
    obtain ⟨a, vs, rfl, hl, q⟩ := Dt.tup_inv d2
    refine ⟨a, vs, rfl, SqT.of hl, r _ H2 s2 ?_⟩
    have w := (walk_enumT (K := K) (a := a) (xs := vs)).mono (G' := Kp H H1 H2) (Y' := fun i G x G' => Same G G' ∧ ∀ ai, as.zipIdx[i]? = some ai → dD (.tuple [nI ai.2, enc ai.1]) Hn G' x) (fun G k => SqT.of (k.2.2 _ _ hl)) fun i G x G' hi k y => by
      obtain ⟨T, y, rfl, hn, rfl, hy⟩ := y
      refine ⟨same_new hn, fun ai ea => ?_⟩
      rw [List.getElem?_zipIdx] at ea
      obtain ⟨z, hz, rfl⟩ := Option.map_eq_some_iff.mp ea
      obtain ⟨d, hd, qd⟩ := q.getV hy
      rw [List.getElem?_map, hz] at hd
      cases hd
      simp only [Nat.zero_add]
      exact .tup upd_same (.cons (.int _) (.cons (Dt.mono (k.2.2.trans (tk_new hn)) qd) .nil))
    rw [q.length, List.length_map] at w
    rw [List.length_zipIdx]
    exact w
theorem ei_enumL {α : Type} {enc : α → PyData} {as : List α} {i : Nat} {v : V} (h : σ[i]? = some (some v)) (hd : dL K (as.map enc) H H v) : EvI (iEnum K (tCons (tVar i) tNil)) σ H as.zipIdx (fun ai => dD (.tuple [nI ai.2, enc ai.1])) := fun H1 e R r => by
  obtain ⟨a, vs, rfl, hl, q⟩ := hd
  refine ⟨_, h, a, vs, rfl, sql_up e hl, r _ H1 (Same.refl _) ?_⟩
  have w := (walk_enum (K := K) (a := a) (xs := vs)).mono (G' := Kp H H1 H1) (Y' := fun i G x G' => Same G G' ∧ ∀ ai, as.zipIdx[i]? = some ai → dD (.tuple [nI ai.2, enc ai.1]) Hn G' x) (fun G k => sql_up k.1 hl) fun i G x G' hi k y => by
    obtain ⟨T, y0, y, rfl, hn, rfl, h0, hy⟩ := y
    cases h0
    refine ⟨same_new hn, fun ai ea => ?_⟩
    rw [List.getElem?_zipIdx] at ea
    obtain ⟨z, hz, rfl⟩ := Option.map_eq_some_iff.mp ea
    obtain ⟨d, hd, qd⟩ := q.getV hy
    rw [List.getElem?_map, hz] at hd
    cases hd
    simp only [Nat.zero_add]
    exact .tup upd_same (.cons (.int _) (.cons (Dt.mono ((tk_same k.1).trans (tk_new hn)) qd) .nil))
  rw [q.length, List.length_map] at w
  rw [List.length_zipIdx]
  exact w
end
end D18
set_option Elab.async false
set_option linter.all false
set_option maxRecDepth 100000
set_option maxHeartbeats 4000000
/-! Rd: a dict comprehension whose keys are tuples of ints; zips by descriptors; sorted of a tuple. -/
namespace D18
open PySem L2 PySem.Spec PyProof.Rows
section
variable {X : Cx}
/-- one entry of a comprehension, the key a tuple -/
theorem dictSet_tup {pins : List (Addr × Obj)} {σ : L2.St} {H : Hp} {s : Shared} {E : Value → Shared → Prop} {D b : Addr} {kvs : List (List Key × V)} {k : List Key} {v : V} {r : Value} {Q : Unit → Shared → Prop} (hu : X.A.units + 1 < cLine) (I : Inv X pins σ H s)
    (hD : H D = some (.dT kvs)) (hb : H b = some (.tup (k.map kV))) (hz : kvs.length < sizeLine) (rv : RelV v r) (h : ∀ s', Inv X pins σ (upd H D (.dT (putK kvs k v))) s' → Q () s') : wpAny (model X.prog X.w) X.A (dictSet D (.ref b) r) Q E s := by
  obtain ⟨z, hd, xs, rel, dd⟩ := dt_of I.hok hD
  have z1 : xs.length ≤ sizeLine := by rw [← Paired.length rel]; exact z
  have z2 : (putK kvs k v).length ≤ sizeLine := by have := length_putK kvs k v; omega
  refine wpAny_dictSet_heap (hsz := z1) (show X.A.units < cLine by omega) (key_of I.hok hb) dd fun h' dd' hs => h _ ?_
  obtain ⟨q, es, ep, hq, h2, h3, h4, _, h5⟩ := dd'
  refine d_write I (by rw [hD]; exact True.intro) hs ⟨q, hq⟩ ⟨z2, hd, _, (rel.put k hb rv).keeps fun c ys ec => ?_, q, es, ep, hq, h2, h3, h4, h5⟩
  have nc : c ≠ D := ne_of ec hD fun z => nomatch z
  rw [upd_ne nc]
  exact ec
/-- {k: v for target in iter}, the keys tuples of ints and texts: D the new dict -/
def tDcT (wi : TI) (g : TG) (tt : TT) (tk tv : TE) (vs : List Nat) : TE := fun σ H Q => wi σ H fun J H1 => ∀ D, H1 D = none → ∃ W : Nat → Nat → Hp → Prop, (∃ m, W 0 m (upd H1 D (.dT []))) ∧ ∀ i m H, W i m H →
  (J.stop i H ∧ Q (.ref D) H) ∨ (J.go i H ∧ ∃ Nx : Hp → Prop, (∀ H', Nx H' → ∃ m', m' < m ∧ W (i + 1) m' H') ∧ ∀ x H', J.yld i H x H' → g x (wipe σ vs) H' fun σ2 H2 => wipe σ2 vs = wipe σ vs ∧ tt σ2 H2 fun c H3 =>
    if c = true then tk σ2 H3 fun y H4 => tv σ2 H4 fun z H5 => ∃ kvs k b, y = .ref b ∧ H5 b = some (.tup (k.map kV)) ∧ H5 D = some (.dT kvs) ∧ kvs.length < sizeLine ∧ Nx (upd H5 D (.dT (putK kvs k z))) else Nx H3)
theorem dcT_core {pins : List (Addr × Obj)} {s : Shared} {σ : L2.St} {H : Hp} {Q : VK} {kx vx tg iter : Expr} {ifs : List Expr} {scope : Scope} {own : List (Str × Nat)} {pos pos' : Pos} {wi : TI} {g : TG} {tt : TT} {tk tv : TE} {use : Option (Value → Sem Unit)} {Qf : Value → Shared → Prop}
    (hu : X.A.units + 1 < cLine) (hc : X.calm = true) (hN : X.N.Nodup) (I : Inv X pins σ H s) (hi : PI X tg iter wi) (ok : BlkOk X.N X.env.scope scope own)
    (hg : ∀ (s : Shared) (H : Hp) (C : Addr) (cl : List (Str × Addr)) (fp : List Addr), PG (X.blk s H scope (compEnvC scope cl C X.env) fp) tg g)
    (ht : ∀ (s : Shared) (H : Hp) (C : Addr) (cl : List (Str × Addr)) (fp : List Addr), PTs (X.blk s H scope (compEnvC scope cl C X.env) fp) ifs tt)
    (hk : ∀ (s : Shared) (H : Hp) (C : Addr) (cl : List (Str × Addr)) (fp : List Addr), PE (X.blk s H scope (compEnvC scope cl C X.env) fp) kx tk)
    (he : ∀ (s : Shared) (H : Hp) (C : Addr) (cl : List (Str × Addr)) (fp : List Addr), PE (X.blk s H scope (compEnvC scope cl C X.env) fp) vx tv) (hs : ∀ x, foldedSetIterable iter X.env x = pure x)
    (h : tDcT wi g tt tk tv (own.map (·.2)) σ H Q)
    (hRR : ∀ D C s' m H', Inv X pins σ H' s' → Q (.ref D) H' → s'.heap.Ns C m → FpOk X pins H' C → compPost (model X.prog X.w) X.A X.xe use Qf (.ref D) C (.ok .next) s') :
    wpAny (model X.prog X.w) X.A (comprehension (.DictComp kx vx [⟨tg, iter, ifs, 0⟩] scope pos) scope X.env pos' newDict false (eval iter X.env) use) Qf X.xe s := by
  have cellsThere : ∀ y ∈ scope.names, y.2 = .free → ∃ c, X.env.cells.lookup y.1 = some c := fun y hy e =>
    (ok.free y hy e).elim (fun k => I.ok.has _ (.inl k)) fun k => I.ok.has _ (.inr k)
  refine wpAny_comprehension_free (use := use) rfl hs (closure_ok cellsThere) ok.kind (fun y hy e => by rw [ok.uniq y hy, e])
    (thn (hi.run pins s σ H _ I h) fun xv s1 hx => thn hx fun itv s2 h2 => ?_)
  obtain ⟨it, fp, tn, J, H2, rfl, I2, T, st2, f2, q⟩ := h2
  refine wpAny_newObj_type (newEnv_comp ?_)
  generalize hD : s2.heap.objs.size = D
  have hDn : H2 D = none := I2.hok.fresh (Nat.le_of_eq hD)
  obtain ⟨W, ⟨m0, w0⟩, turn⟩ := q D hDn
  -- the new dict
  generalize hs3 : ({ s2 with heap := s2.heap.push { cls := .type "dict", data := .dict #[] } } : Shared) = s3
  have h3 : s3.heap = s2.heap.push { cls := .type "dict", data := .dict #[] } := by rw [← hs3]
  have keep23 : ∀ b o, s2.heap.get? b = some o → s3.heap.get? b = some o := fun b o e => by rw [h3]; exact Heap.get?_push_of_some _ e
  have I3 : Inv X pins σ (upd H2 D (.dT [])) s3 := by
    rw [← hs3]
    refine I2.laid (t' := s2.toks) (fun b o e => Heap.get?_push_of_some _ e) (Nat.le_of_eq hD) ?_
    rw [← hD]
    exact dt_empty s2.heap I2.big
  have below : ∀ b ∈ fp, b < s2.heap.objs.size := fun b hb => by
    obtain ⟨o, e, _⟩ := T.obj _ _ st2 b hb
    exact Heap.lt_size e
  have f3 : ∀ b ∈ fp, FpOk X pins (upd H2 D (.dT [])) b ∧ b < s3.heap.objs.size := fun b hb => by
    refine ⟨⟨?_, (f2 b hb).2⟩, by rw [h3, Heap.size_push]; exact Nat.lt_succ_of_lt (below b hb)⟩
    have nb : b ≠ D := by rw [← hD]; exact Nat.ne_of_lt (below b hb)
    rw [upd_ne nb]
    exact (f2 b hb).1
  have st3 : tn 0 s3.heap := T.keep _ _ _ st2 fun b _ o e => keep23 b o e
  have I4 := block_start I3 ok hN f3
  have pg := hg s3 (upd H2 D (.dT [])) s3.heap.objs.size (cellsFrom (s3.heap.objs.size + 1) scope.names (cloFrom X.env.cells scope.names [])) fp
  have pt := ht s3 (upd H2 D (.dT [])) s3.heap.objs.size (cellsFrom (s3.heap.objs.size + 1) scope.names (cloFrom X.env.cells scope.names [])) fp
  have pk := hk s3 (upd H2 D (.dT [])) s3.heap.objs.size (cellsFrom (s3.heap.objs.size + 1) scope.names (cloFrom X.env.cells scope.names [])) fp
  have pe := he s3 (upd H2 D (.dT [])) s3.heap.objs.size (cellsFrom (s3.heap.objs.size + 1) scope.names (cloFrom X.env.cells scope.names [])) fp
  show codeAny _ _ (.compStart (.DictComp kx vx [⟨tg, iter, ifs, 0⟩] scope pos) 0 (.ref it) (.ref D) (compEnvC scope (cellsFrom (s3.heap.objs.size + 1) scope.names (cloFrom X.env.cells scope.names [])) s3.heap.objs.size X.env))
    (compPost (model X.prog X.w) X.A X.xe use Qf (.ref D) s3.heap.objs.size) { s3 with heap := pushCells (s3.heap.push { cls := .type "dict", data := .dict #[] }) scope.names }
  generalize hce : compEnvC scope (cellsFrom (s3.heap.objs.size + 1) scope.names (cloFrom X.env.cells scope.names [])) s3.heap.objs.size X.env = ce at I4 pg pt pk pe ⊢
  have cL : ce.locals = s3.heap.objs.size := by subst hce; rfl
  generalize hH3 : upd H2 D (.dT []) = H3 at I3 I4 pg pt pk pe w0 f3
  generalize hs4 : ({ s3 with heap := pushCells (s3.heap.push { cls := .type "dict", data := .dict #[] }) scope.names } : Shared) = s4 at I4 ⊢
  have st4 : tn 0 s4.heap := T.keep _ _ _ st3 fun b _ o e => by rw [← hs4]; exact pushCells_keeps _ _ _ _ (Heap.get?_push_of_some _ e)
  have stat : ∀ {σ' : L2.St} {H' : Hp} {s' : Shared}, Inv (X.blk s3 H3 scope ce fp) [] σ' H' s' → (∀ b ∈ fp, H' b = none) → ∀ b ∈ fp, FpOk (X.blk s3 H3 scope ce fp) [] H' b := fun {σ' H' s'} I' hn b hb =>
    ⟨hn b hb, (I'.ok.exf b hb).1, I'.ok.exfs b hb, .inl hb, fun x c e => (I'.ok.exf b hb).2 x c e, fun p hp => absurd (show p ∈ ([] : List (Addr × Obj)) ++ [] from hp) (by simp)⟩
  have loop : codeAny (model X.prog X.w) X.A (.compLoop (.DictComp kx vx [⟨tg, iter, ifs, 0⟩] scope pos) 0 (.ref it) (.ref D) ce) (compPost (model X.prog X.w) X.A X.xe use Qf (.ref D) s3.heap.objs.size) s4 := by
    refine compLoop_anyD (fun n s' => ∃ i H', Inv (X.blk s3 H3 scope ce fp) [] (wipe σ (own.map (·.2))) H' s' ∧ tn i s'.heap ∧ (∀ b ∈ fp, H' b = none) ∧ W i n H') ?_ m0 ⟨0, H3, I4, st4, fun b hb => (f3 b hb).1.1, w0⟩
    rintro n s5 ⟨i, H5, I5, st5, n5, w5⟩
    rcases turn i n H5 w5 with ⟨stop, qq⟩ | ⟨go, Nx, hNx, step⟩
    · refine thnF (T.done (X.blk s3 H3 scope ce fp) rfl rfl rfl hc i [] s5 _ H5 (fun _ _ => False) I5 (stat I5 n5) st5 stop) fun r s6 ⟨hr, I6⟩ => ?_
      subst hr
      have I7 : Inv X pins σ H5 s6 := I3.call' (ch := fp) I6.os I6.base I6.hok I6.bare fun b hb => ⟨(f3 b hb).1.2.2.2.1, (f3 b hb).1.2.1, (f3 b hb).1.2.2.2.2.1, (f3 b hb).1.2.2.2.2.2⟩
      have nC : H5 s3.heap.objs.size = none := cL ▸ (show H5 ce.locals = none from I6.free)
      obtain ⟨m, hn, _⟩ := I6.loc
      have hn : s6.heap.Ns s3.heap.objs.size m := cL ▸ (show s6.heap.Ns ce.locals m from hn)
      exact hRR D s3.heap.objs.size s6 m H5 I7 qq hn (I3.fpOk (Nat.le_refl _) nC)
    · refine thnF (T.item (X.blk s3 H3 scope ce fp) rfl rfl rfl hc i [] s5 _ H5 (fun _ _ => False) I5 (stat I5 n5) st5 go) fun r s6 ⟨u, hr, h6⟩ => ?_
      subst hr
      refine thnF h6 fun _ s7 ⟨x, H7, I7, r7, y7, st7, n7⟩ => ?_
      refine thnF (pg.run _ s7 _ H7 x u _ (I7.pinned (stat I7 n7) (T.obj _ _ st7)) r7 (step x H7 y7)) fun _ s8 ⟨σ8, H8, I8, hw8, q8⟩ => ?_
      refine thnF (pt.run _ s8 σ8 H8 _ I8 q8) fun c s9 ⟨H9, I9, q9⟩ => ?_
      have turnEnd : ∀ {s' : Shared} {H' : Hp}, Inv (X.blk s3 H3 scope ce fp) ([] ++ pinsAt fp s7.heap) σ8 H' s' → Nx H' → ∃ m, m < n ∧ ∃ i H', Inv (X.blk s3 H3 scope ce fp) [] (wipe σ (own.map (·.2))) H' s' ∧ tn i s'.heap ∧ (∀ b ∈ fp, H' b = none) ∧ W i m H' := fun {s' H'} I' nx => by
        obtain ⟨m', hm, w'⟩ := hNx H' nx
        have held : ∀ b ∈ fp, ∀ o, s7.heap.get? b = some o → s'.heap.get? b = some o ∧ H' b = none := fun b hb o e => by
          have z := I'.pin (b, o) (List.mem_append_right _ (List.mem_append_right _ (mem_pinsAt hb e)))
          exact ⟨z.1, z.2.1⟩
        refine ⟨m', hm, i + 1, H', (I'.unpinned (pins := [])).weak (by rw [← hw8, wipe_length]) (fun j v e => ?_), T.keep _ _ _ st7 fun b hb o e => (held b hb o e).1, fun b hb => ?_, w'⟩
        · rw [← hw8] at e
          exact (wipe_some e).1
        · obtain ⟨o, e, _⟩ := T.obj _ _ st7 b hb
          exact (held b hb o e).2
      cases c with
      | false =>
        simp only [Bool.false_eq_true, if_false] at q9 ⊢
        exact turnEnd I9 q9
      | true =>
        simp only [if_true] at q9 ⊢
        refine thnF (pk.run _ s9 σ8 H9 _ I9 q9) fun z s10 ⟨yk, H10, I10, r10, q10⟩ => ?_
        refine thnF (pe.run _ s10 σ8 H10 _ I10 q10) fun z2 s11 ⟨yv, H11, I11, r11, kvs, k, b, ek, hb11, hD11, hz11, nx⟩ => ?_
        subst ek
        cases (show z = Value.ref b from r10)
        exact dictSet_tup (X := X.blk s3 H3 scope ce fp) hu I11 hD11 hb11 hz11 r11 fun s12 I12 => turnEnd I12 nx
  exact codeAny_compStart_dict loop (T.self X.A 0 _ _ _ st4 loop)
theorem pe_dcT {kx vx tg iter : Expr} {ifs : List Expr} {scope : Scope} {own : List (Str × Nat)} {pos : Pos} {wi : TI} {g : TG} {tt : TT} {tk tv : TE} (hu : X.A.units + 1 < cLine) (hc : X.calm = true) (hN : X.N.Nodup) (hi : PI X tg iter wi) (ok : BlkOk X.N X.env.scope scope own)
    (hg : ∀ (s : Shared) (H : Hp) (C : Addr) (cl : List (Str × Addr)) (fp : List Addr), PG (X.blk s H scope (compEnvC scope cl C X.env) fp) tg g)
    (ht : ∀ (s : Shared) (H : Hp) (C : Addr) (cl : List (Str × Addr)) (fp : List Addr), PTs (X.blk s H scope (compEnvC scope cl C X.env) fp) ifs tt)
    (hk : ∀ (s : Shared) (H : Hp) (C : Addr) (cl : List (Str × Addr)) (fp : List Addr), PE (X.blk s H scope (compEnvC scope cl C X.env) fp) kx tk)
    (he : ∀ (s : Shared) (H : Hp) (C : Addr) (cl : List (Str × Addr)) (fp : List Addr), PE (X.blk s H scope (compEnvC scope cl C X.env) fp) vx tv) (hs : ∀ x, foldedSetIterable iter X.env x = pure x := by intro _; rfl) :
    PE X (.DictComp kx vx [⟨tg, iter, ifs, 0⟩] scope pos) (tDcT wi g tt tk tv (own.map (·.2))) := by
  refine ⟨fun pins s σ H Q I h => ?_⟩
  rw [arm_eval_DictComp]
  refine dcT_core hu hc hN I hi ok hg ht hk he hs h fun D C s' m H' I' q hn f => ⟨m, hn, fun h'' sb => ?_⟩
  obtain ⟨f0, f1, f2, f3, f4, f5⟩ := f
  exact ⟨.ref D, H', I'.turned (t' := s'.toks) (fun b o hb e => (sb.2 b hb).trans e) f0 f1 f3 f4 f5, rfl, q⟩
end
end D18
set_option Elab.async false
set_option linter.all false
set_option maxRecDepth 100000
set_option maxHeartbeats 4000000
/-! Rs: sorted of a tuple of ints; zips by descriptors. -/
namespace D18
open PySem L2 PySem.Spec PyProof.Rows
section
variable {prog : Program} {w : World} {A : Around} {E : Value → Shared → Prop} {s : Shared}
theorem sorted_intsT {l : Addr} {vs : List Value} {ns : List Int} {Q : Value → Shared → Prop} (hl : IsTup s.heap l vs.toArray) (hI : IntsAre vs ns) (h64 : vs.length < 64)
    (h : ∀ (h1 h2 : Heap) (out : Array Value) (e : Nat) (ns' : List Int), IntsAre out.toList ns' → ns'.Perm ns → ns'.Pairwise (· ≤ ·) → (∀ b o, s.heap.get? b = some o → h1.get? b = some o) → (∀ b o, h1.get? b = some o → h2.get? b = some o) →
      h2.get? h1.objs.size = some (seqObj "list" out e) → Q (.ref h1.objs.size) { s with heap := h2 }) :
    wpAny (model prog w) A (call (.builtin "sorted") [.ref l]) Q E s := by
  obtain ⟨o, ho, hc, n, hd⟩ := hl
  refine Calls.call_function_entry kind_sorted plain_sorted entry_sorted (args_sorted1 _) ?_
  unfold Builtin.«sorted»
  refine wpAny_bind (m := checkCount "sorted" 1 1 _) (wpAny_pure ?_)
  refine wpAny_bind (wpAny_collect_seq l (.inr rfl) ho hc hd (fun h1 hk1 => ?_) (by simp only [List.size_toArray]; rw [sizeLine_eq]; omega))
  refine wpAny_bind (wpAny_newList ?_)
  have e0 : vs.toArray.toList = vs := by simp
  rw [e0]
  have hoL : (h1.push (seqObj "list" vs.toArray 0)).get? h1.objs.size = some (seqObj "list" vs.toArray 0) := Heap.get?_push_size _ rfl
  show wpAny _ _ _ _ _ { s with heap := h1.push (seqObj "list" vs.toArray 0) }
  refine wpAny_bind (wpAny_holding (wpAny_call_entry slot_list_sort ⟨_, hoL, rfl⟩ entry_list_sort (list_sort_tree hoL hI h64 fun out ns' a1 a2 a3 => ⟨_, rfl, ?_⟩) (args_list_sort _)))
  obtain ⟨e, he⟩ := sortedHeap_at (out := out) hoL
  refine wpAny_pure ⟨_, rfl, h h1 _ out e ns' a1 a2 a3 hk1 (fun b o' hb => ?_) he⟩
  have hb1 := Heap.lt_size hb
  rw [sortedHeap_old (Nat.ne_of_lt hb1) (by rw [Heap.size_push]; exact Nat.lt_succ_of_lt hb1)]
  exact Heap.get?_push_of_some _ hb
end
def rSortedTup (K : PySem.W.Frag) : List V → Hp → VK → Prop := fun vs H Q => ∃ (a : Addr) (ns : List Int), vs = [V.ref a] ∧ SqT K H a (ns.map V.int) ∧ ns.length < 64 ∧
  ∀ (ns' : List Int) (p : Addr), ns'.Perm ns → ns'.Pairwise (· ≤ ·) → H p = none → Q (.ref p) (upd H p (.lst (ns'.map V.int)))
theorem cr_sortedTupK {X : Cx} {K : PySem.W.Frag} (hK : X.K = K := by rfl) : CallR X (.builtin "sorted") (rSortedTup K) := by
  subst hK
  intro pins s σ H vs us Q I r h
  obtain ⟨a, ns, rfl, hs, h64, q⟩ := h
  obtain ⟨its, rv, hl, _⟩ := I.tuple hs
  have hi := rv.ints
  rw [Vals.ref1 r]
  refine sorted_intsT hl hi (by rw [hi.length]; exact h64) fun h1 h2 out e ns' i1 i2 i3 k1 k2 hp => ?_
  have I1 : Inv X pins σ H { s with heap := h1 } := I.kept (t' := s.toks) k1
  have fr : H h1.objs.size = none := I1.hok.fresh (Nat.le_refl _)
  have len : (ns'.map V.int).length ≤ sizeLine := by rw [List.length_map, i2.length_eq]; exact small64 h64
  exact ⟨.ref h1.objs.size, upd H h1.objs.size (.lst (ns'.map V.int)), I1.laid (t' := s.toks) k2 (Nat.le_refl _) ⟨len, out.toList, e, vals_of_ints i1, hp⟩, rfl, q ns' _ i2 i3 fr⟩
section
variable {K : PySem.W.Frag} {σ : L2.St} {H : Hp} {ta tb tc : TE}
theorem em_sortedT {ns : List Int} (ha : EvX ta σ H (dD (.tuple (ns.map .int)))) (hn : ns.length < 64) : EvX (tCB (rSortedTup K) (tCons ta tNil)) σ H (dM ((sortI ns).map .int)) :=
  ev_cb (ea_cons ha ea_nil) fun G H1 vs _ _ h Q q => by
    obtain ⟨v, rfl, d⟩ := all2_1 h
    obtain ⟨a, xs, rfl, e, r⟩ := Dt.tup_inv d
    refine ⟨a, ns, rfl, by rw [← r.ints]; exact SqT.of e, hn, fun ns' p hp hs np => ?_⟩
    rw [sortI_unique hp hs]
    exact q _ _ (same_new np) ⟨p, _, rfl, np, upd_same, dts_ints _⟩
/-- a tuple of two, of three so described values -/
def dT2 (δ δ' : De) : De := fun G H v => ∃ T x y, v = .ref T ∧ H T = some (.tup [x, y]) ∧ δ G H x ∧ δ' G H y
def dT3 (δ δ' δ'' : De) : De := fun G H v => ∃ T x y z, v = .ref T ∧ H T = some (.tup [x, y, z]) ∧ δ G H x ∧ δ' G H y ∧ δ'' G H z
/-- two lists of one length that stand there -/
theorem ei_zipV {α : Type} {as : List α} {a b : Addr} {vs ws : List V} {f g : α → De} [mf : ∀ a, Mo (f a)] [mg : ∀ a, Mo (g a)] (ha : EvX ta σ H (dV (.ref a))) (hb : EvX tb σ H (dV (.ref b))) (hl : SqL K H a vs) (hl' : SqL K H b ws)
    (hd : Paired (fun v a => f a Hn H v) vs as) (hd' : Paired (fun v a => g a Hn H v) ws as) : EvI (iZip K (tCons ta (tCons tb tNil))) σ H as (fun a => dT2 (f a) (g a)) := fun H1 e R r =>
  ha H1 e _ fun v H2 s2 d2 => hb H2 (e.trans s2) _ fun u H3 s3 d3 => by
    cases d2; cases d3
    have s13 := s2.trans s3
    refine ⟨a, b, vs, ws, rfl, sql_up (e.trans s13) hl, sql_up (e.trans s13) hl', r _ H3 s13 ?_⟩
    have l1 := Paired.length hd
    have l2 := Paired.length hd'
    have w := (walk_zip (K := K) (a := a) (b := b) (xs := vs) (ys := ws) (n := as.length) (by omega)).mono (G' := Kp H H1 H3) (Y' := fun i G x G' => Same G G' ∧ ∀ a, as[i]? = some a → dT2 (f a) (g a) Hn G' x) (fun G k => ⟨sql_up k.1 hl, sql_up k.1 hl'⟩) fun i G x G' hi k y => by
      obtain ⟨T, x, y, rfl, hn, rfl, hx, hy⟩ := y
      refine ⟨same_new hn, fun a ea => ?_⟩
      obtain ⟨a1, h1, q1⟩ := paired_get hd hx
      obtain ⟨a2, h2, q2⟩ := paired_get hd' hy
      rw [ea] at h1 h2
      cases h1; cases h2
      exact ⟨T, x, y, rfl, upd_same, up q1 (k.1.trans (same_new hn)), up q2 (k.1.trans (same_new hn))⟩
    exact w
theorem walk_zip3 {a b c : Addr} {xs ys zs : List V} (h2 : ys.length = xs.length) (h3 : zs.length = xs.length) : Walk (Itz3 K a b c) xs.length (fun H => SqL K H a xs ∧ SqT K H b ys ∧ SqL K H c zs)
    (fun i H v H' => ∃ T x y z, v = .ref T ∧ H T = none ∧ H' = upd H T (.tup [x, y, z]) ∧ xs[i]? = some x ∧ ys[i]? = some y ∧ zs[i]? = some z) :=
  ⟨fun i _ hi q => ⟨xs, ys, zs, q.1, q.2.1, q.2.2, h2, h3, hi⟩, fun _ q => ⟨xs, ys, zs, q.1, q.2.1, q.2.2, h2, h3, rfl⟩, fun _ _ _ _ _ q ⟨T, x, y, z, e, n, eH, hx, hy, hz⟩ => ⟨T, x, y, z, e, n, eH, hx xs q.1, hy ys q.2.1, hz zs q.2.2⟩⟩
theorem ei_zip3V {α : Type} {as : List α} {a b c : Addr} {vs us ws : List V} {f g h : α → De} [mf : ∀ a, Mo (f a)] [mg : ∀ a, Mo (g a)] [mh : ∀ a, Mo (h a)] (ha : EvX ta σ H (dV (.ref a))) (hb : EvX tb σ H (dV (.ref b))) (hc : EvX tc σ H (dV (.ref c)))
    (hl : SqL K H a vs) (hl' : H b = some (.tup us)) (hl'' : SqL K H c ws)
    (hd : Paired (fun v a => f a Hn H v) vs as) (hd' : Paired (fun v a => g a Hn H v) us as) (hd'' : Paired (fun v a => h a Hn H v) ws as) : EvI (iZip3 K (tCons ta (tCons tb (tCons tc tNil)))) σ H as (fun a => dT3 (f a) (g a) (h a)) := fun H1 e R r =>
  ha H1 e _ fun v H2 s2 d2 => hb H2 (e.trans s2) _ fun u H3 s3 d3 => hc H3 ((e.trans s2).trans s3) _ fun z H4 s4 d4 => by
    cases d2; cases d3; cases d4
    have s14 := s2.trans (s3.trans s4)
    refine ⟨a, b, c, vs, us, ws, rfl, sql_up (e.trans s14) hl, SqT.of ((e.trans s14) _ _ hl'), sql_up (e.trans s14) hl'', r _ H4 s14 ?_⟩
    have l1 := Paired.length hd
    have l2 := Paired.length hd'
    have l3 := Paired.length hd''
    have w := (walk_zip3 (K := K) (a := a) (b := b) (c := c) (xs := vs) (ys := us) (zs := ws) (by omega) (by omega)).mono (G' := Kp H H1 H4) (Y' := fun i G x G' => Same G G' ∧ ∀ a, as[i]? = some a → dT3 (f a) (g a) (h a) Hn G' x)
      (fun G k => ⟨sql_up k.1 hl, SqT.of (k.1 _ _ hl'), sql_up k.1 hl''⟩) fun i G x G' hi k y => by
      obtain ⟨T, x, y, z, rfl, hn, rfl, hx, hy, hz⟩ := y
      refine ⟨same_new hn, fun a ea => ?_⟩
      obtain ⟨a1, h1, q1⟩ := paired_get hd hx
      obtain ⟨a2, h2, q2⟩ := paired_get hd' hy
      obtain ⟨a3, h3, q3⟩ := paired_get hd'' hz
      rw [ea] at h1 h2 h3
      cases h1; cases h2; cases h3
      exact ⟨T, x, y, z, rfl, upd_same, up q1 (k.1.trans (same_new hn)), up q2 (k.1.trans (same_new hn)), up q3 (k.1.trans (same_new hn))⟩
    rw [l1] at w
    exact w
end
end D18
set_option Elab.async false
set_option linter.all false
set_option maxRecDepth 100000
set_option maxHeartbeats 4000000
/-! Rf: a dict whose keys are (int, tuple of ints), its values ints; by HO.ext. -/
namespace D18
open PySem L2 PySem.Spec PyProof.Rows
abbrev FKey := Nat × List Nat
def keyN (k : FKey) : NestedKey := .tup [.num k.1, .tup (k.2.map fun n : Nat => .num (n : Int))]
theorem depth_nums : ∀ c : List Nat, NestedKey.depthAll (c.map fun n : Nat => .num (n : Int)) = 0
  | [] => rfl
  | _ :: r => by rw [List.map_cons, NestedKey.depthAll, depth_nums r]; rfl
theorem keyN_depth (k : FKey) : (keyN k).depth ≤ 8 := by
  unfold keyN
  simp only [NestedKey.depth, NestedKey.depthAll, depth_nums]
  decide
theorem nums_inj : ∀ {c d : List Nat}, (c.map fun n : Nat => NestedKey.num (n : Int)) = (d.map fun n : Nat => NestedKey.num (n : Int)) → c = d
  | [], [], _ => rfl
  | [], _ :: _, h => by simp at h
  | _ :: _, [], h => by simp at h
  | a :: c, b :: d, h => by
    rw [List.map_cons, List.map_cons] at h
    injection h with h1 h2
    injection h1 with h1
    have e : a = b := by omega
    rw [e, nums_inj h2]
theorem keyN_inj {k l : FKey} (h : keyN k = keyN l) : k = l := by
  obtain ⟨a, c⟩ := k
  obtain ⟨b, d⟩ := l
  unfold keyN at h
  injection h with h
  injection h with h1 h2
  injection h1 with h1
  injection h2 with h2 _
  injection h2 with h2
  have e : a = b := by simp only at h1; omega
  have e2 : c = d := nums_inj h2
  rw [e, e2]
/-- the object of such a dict: its entries by key, the key's own tuple, the value -/
def FRaw (P : Program) (w : World) (a : Addr) (xs : List (NestedKey × Addr × Value)) (h : Heap) : Prop :=
  (a == sysModules) = false ∧ xs.length ≤ sizeLine ∧ ∃ o es ep, h.get? a = some o ∧ o.ExactDict ∧ o.data = .dict es ep ∧ es.toList = xs.map (entryOfKey (nestedKind P w)) ∧ (xs.map (·.1)).Nodup
/-- the key's tuples stand there -/
def KeyAt (H : Hp) (k : FKey) (t : Addr) : Prop := ∃ p, H t = some (.tup [.int k.1, .ref p]) ∧ H p = some (.tup (k.2.map fun n : Nat => V.int n))
def FactsAt (P : Program) (w : World) (H : Hp) (a : Addr) (kvs : List (FKey × Nat)) : Prop :=
  ∃ xs : List (NestedKey × Addr × Value), H a = some (.ext (FRaw P w a xs)) ∧ Paired (fun kv x => x.1 = keyN kv.1 ∧ KeyAt H kv.1 x.2.1 ∧ RelV (.int (kv.2 : Nat)) x.2.2) kvs xs
theorem KeyAt.up {H H' : Hp} {k : FKey} {t : Addr} (h : KeyAt H k t) (s : TK H H') : KeyAt H' k t := by
  obtain ⟨p, h1, h2⟩ := h
  exact ⟨p, s _ _ h1, s _ _ h2⟩
theorem FactsAt.up {P : Program} {w : World} {H H' : Hp} {a : Addr} {kvs : List (FKey × Nat)} (h : FactsAt P w H a kvs) (s : Same H H') : FactsAt P w H' a kvs := by
  obtain ⟨xs, h1, h2⟩ := h
  exact ⟨xs, s _ _ h1, paired_map h2 fun _ _ q => ⟨q.1, q.2.1.up (tk_same s), q.2.2⟩⟩
theorem fraw_ok {P : Program} {w : World} {H : Hp} {h : Heap} {a : Addr} {xs : List (NestedKey × Addr × Value)} (x : FRaw P w a xs h) : ObjOk P w H h a (.ext (FRaw P w a xs)) := by
  refine ⟨x, ?_, fun h1 h2 y k => ?_⟩
  · obtain ⟨_, _, o, _, _, e, _⟩ := x
    exact ⟨o, e⟩
  · obtain ⟨s, l, o, es, ep, e, r⟩ := y
    exact ⟨s, l, o, es, ep, k _ e, r⟩
theorem keyAt_of {P : Program} {w : World} {H : Hp} {h : Heap} {k : FKey} {t : Addr} (ok : HOk P w H h) (x : KeyAt H k t) : (nestedKind P w).is h (keyN k) t := by
  obtain ⟨p, h1, h2⟩ := x
  obtain ⟨_, its, r, o, e1, e2, n, e3⟩ := (show ObjOk P w H h t _ from ok _ _ h1)
  obtain ⟨_, its2, r2, o2, f1, f2, n2, f3⟩ := (show ObjOk P w H h p _ from ok _ _ h2)
  have all : ∀ {c : List Nat} {us : List Value}, Vals (c.map fun n : Nat => V.int n) us → NestedAll h (c.map fun n : Nat => .num (n : Int)) us := by
    intro c
    induction c with
    | nil => intro us q; cases q; exact .nil
    | cons a c ih =>
      intro us q
      cases q with
      | cons q1 q2 =>
        obtain ⟨t, rfl⟩ := q1
        exact .cons (.int _ _) (ih q2)
  refine ⟨?_, keyN_depth k⟩
  cases r with
  | cons q1 q2 =>
    cases q2 with
    | cons q2 q3 =>
      cases q3
      obtain ⟨t1, rfl⟩ := q1
      cases (show _ = Value.ref p from q2)
      exact .tup e1 e2 e3 (.cons (.int _ _) (.cons (.tup f1 f2 f3 (all r2)) .nil))
theorem FactsAt.dict {P : Program} {w : World} {H : Hp} {h : Heap} {a : Addr} {kvs : List (FKey × Nat)} (ok : HOk P w H h) (x : FactsAt P w H a kvs) :
    ∃ xs, H a = some (.ext (FRaw P w a xs)) ∧ (a == sysModules) = false ∧ xs.length ≤ sizeLine ∧ h.DictOfH (nestedKind P w) a xs ∧ Paired (fun kv x => x.1 = keyN kv.1 ∧ KeyAt H kv.1 x.2.1 ∧ RelV (.int (kv.2 : Nat)) x.2.2) kvs xs := by
  obtain ⟨xs, e, r⟩ := x
  obtain ⟨⟨s, l, o, es, ep, e1, e2, e3, e4, e5⟩, _, _⟩ := ok _ _ e
  refine ⟨xs, e, s, l, ⟨o, es, ep, e1, e2, e3, e4, ?_, e5⟩, r⟩
  have all : ∀ {l : List (FKey × Nat)} {m : List (NestedKey × Addr × Value)}, Paired (fun kv x => x.1 = keyN kv.1 ∧ KeyAt H kv.1 x.2.1 ∧ RelV (.int (kv.2 : Nat)) x.2.2) l m → ∀ x ∈ m, (nestedKind P w).is h x.1 x.2.1 := by
    intro l m q
    induction q with
    | nil => intro x hx; cases hx
    | cons hq t ih =>
      intro x hx
      rcases List.mem_cons.mp hx with rfl | hx
      · rw [hq.1]; exact keyAt_of ok hq.2.1
      · exact ih x hx
  exact all r
theorem atKey_of {H : Hp} {k : FKey} {n : Nat} : ∀ {kvs : List (FKey × Nat)} {xs : List (NestedKey × Addr × Value)}, Paired (fun kv x => x.1 = keyN kv.1 ∧ KeyAt H kv.1 x.2.1 ∧ RelV (.int (kv.2 : Nat)) x.2.2) kvs xs → kvs.lookup k = some n → ∃ p, atKey xs (keyN k) = some p ∧ RelV (.int (n : Nat)) p.2
  | _, _, .nil, e => by cases e
  | (l, m) :: r, x :: xs, .cons q t, e => by
    by_cases hk : k = l
    · subst hk
      rw [List.lookup_cons_self] at e
      cases e
      exact ⟨(x.2.1, x.2.2), by simp [atKey, q.1], q.2.2⟩
    · rw [List.lookup_cons, beq_eq_false_iff_ne.mpr hk] at e
      obtain ⟨p, h1, h2⟩ := atKey_of t e
      have ne : ¬ x.1 = keyN k := fun z => hk (keyN_inj (z.symm.trans q.1))
      exact ⟨p, by simpa [atKey, ne] using h1, h2⟩
theorem atKey_none {H : Hp} {k : FKey} : ∀ {kvs : List (FKey × Nat)} {xs : List (NestedKey × Addr × Value)}, Paired (fun kv x => x.1 = keyN kv.1 ∧ KeyAt H kv.1 x.2.1 ∧ RelV (.int (kv.2 : Nat)) x.2.2) kvs xs → k ∉ kvs.map (·.1) → atKey xs (keyN k) = none
  | _, _, .nil, _ => by simp [atKey]
  | (l, m) :: r, x :: xs, .cons q t, e => by
    simp only [List.map_cons, List.mem_cons, not_or] at e
    have ne : ¬ x.1 = keyN k := fun z => e.1 (keyN_inj (z.symm.trans q.1))
    simpa [atKey, ne] using atKey_none t e.2
section
variable {X : Cx} {P : Program} {w : World}
/-- {} -/
def tFNew (P : Program) (w : World) : TE := fun _ H Q => ∀ p, H p = none → Q (.ref p) (upd H p (.ext (FRaw P w p [])))
theorem pe_fnew {pos : Pos} (hP : X.prog = P := by rfl) (hw : X.w = w := by rfl) : PE X (.Dict [] [] pos) (tFNew P w) := by
  subst hP hw
  refine ⟨fun pins s σ H Q I h => wpAny_Dict_empty ⟨.ref s.heap.objs.size, _, I.laid (a := s.heap.objs.size) (o := .ext (FRaw X.prog X.w s.heap.objs.size [])) (t' := s.toks) (fun _ _ q => Heap.get?_push_of_some _ q) (Nat.le_refl _) (fraw_ok ?_), rfl, h _ (I.hok.fresh (Nat.le_refl _))⟩⟩
  exact ⟨beq_eq_false_iff_ne.mpr (Ne.symm (Nat.ne_of_lt I.big)), Nat.zero_le _, _, #[], 0, Heap.get?_push_size _ rfl, ⟨rfl, rfl, rfl⟩, rfl, rfl, List.nodup_nil⟩
/-- d[k] = v, a new key -/
def rSetF (P : Program) (w : World) : TSet := fun o i v H Q => ∃ a t kvs k n, o = .ref a ∧ i = .ref t ∧ v = .int (n : Nat) ∧ FactsAt P w H a kvs ∧ KeyAt H k t ∧ kvs.length < sizeLine ∧ k ∉ kvs.map (·.1) ∧
  ∀ φ, H a ≠ none → (∀ xs, H a ≠ some (.tup xs)) → FactsAt P w (upd H a φ) a (kvs ++ [(k, n)]) → Q (upd H a φ)
theorem set_facts (hu : X.A.units + 12 < cLine) (hP : X.prog = P := by rfl) (hw : X.w = w := by rfl) : PSet X (rSetF P w) := by
  subst hP hw
  intro pins s σ H o i v ov iv u Q I ro ri rv h
  obtain ⟨a, t, kvs, k, n, rfl, rfl, rfl, hf, hk, hz, hn, q⟩ := h
  cases ro
  cases ri
  obtain ⟨xs, eH, hsys, hlen, hd, hr⟩ := hf.dict I.hok
  have hx : xs.length < sizeLine := by rw [← Paired.length hr]; exact hz
  have hroom : (nestedKind X.prog X.w).room X.A.in1 := show X.A.in1.units + 8 < cLine by
    show X.A.units + 1 + 8 < cLine
    omega
  refine wpAny_setItem_heap (hsz := hlen) hroom (keyAt_of I.hok hk) hd fun h' hd' hs => ?_
  have e1 : storedH xs (keyN k) t u = xs ++ [(keyN k, t, u)] := storedH_new (atKey_none hr hn) _ _
  rw [e1] at hd'
  obtain ⟨o', es, ep, g1, g2, g3, g4, _, g5⟩ := hd'
  have nt : ∀ ys, H a ≠ some (.tup ys) := fun ys z => by rw [eH] at z; cases z
  have new : FRaw X.prog X.w a (xs ++ [(keyN k, t, u)]) h' := ⟨hsys, by rw [List.length_append, List.length_singleton]; omega, o', es, ep, g1, g2, g3, g4, g5⟩
  have I' : Inv X pins σ (upd H a (.ext (FRaw X.prog X.w a (xs ++ [(keyN k, t, u)])))) { s with heap := h', toks := s.toks + (nestedKind X.prog X.w).draws (keyN k) } :=
    d_write I (by rw [eH]; exact True.intro) hs ⟨o', g1⟩ (fraw_ok new)
  refine ⟨_, I', q _ (by rw [eH]; intro z; cases z) nt ⟨_, upd_same, ?_⟩⟩
  have tk : TK H (upd H a (.ext (FRaw X.prog X.w a (xs ++ [(keyN k, t, u)])))) := tk_upd nt
  exact Paired.app (paired_map hr fun _ _ z => ⟨z.1, z.2.1.up tk, z.2.2⟩) ⟨rfl, hk.up tk, rv⟩
/-- d[k], it is there -/
def rIxF (P : Program) (w : World) : R2 := fun x y H Q => ∃ a t kvs k n, x = .ref a ∧ y = .ref t ∧ FactsAt P w H a kvs ∧ KeyAt H k t ∧ kvs.lookup k = some n ∧ Q (.int (n : Nat)) H
theorem ix_facts (hu : X.A.units + 12 < cLine) (hP : X.prog = P := by rfl) (hw : X.w = w := by rfl) {o i : Expr} {ta tb : TE} {pos : Pos} (ho : PE X o ta) (hi : PE X i tb) (hs : NoSl i) : PE X (.Subscript o i pos) (tOp (rIxF P w) ta tb) := by
  subst hP hw
  refine ⟨fun pins s σ H Q I h => ?_⟩
  refine subD_of PySem.F.slot_dict_getitem.lookup hs (thn (ho.run pins s σ H _ I h) fun u s1 ⟨x, H1, I1, rx, q1⟩ => thn (hi.run pins s1 σ H1 _ I1 q1) fun iv s2 ⟨y, H2, I2, ry, hq⟩ => ?_)
  obtain ⟨a, t, kvs, k, n, rfl, rfl, hf, hk, hl, q⟩ := hq
  cases (show u = Value.ref a from rx)
  cases (show iv = Value.ref t from ry)
  obtain ⟨xs, eH, hsys, hlen, hd, hr⟩ := hf.dict I2.hok
  obtain ⟨p, hp, rp⟩ := atKey_of hr hl
  refine ⟨hd.typeIs, wpAny_getItem_heap (show X.A.in1.units + 8 < cLine by show X.A.units + 1 + 8 < cLine; omega) (keyAt_of I2.hok hk) hd hp ⟨.int (n : Nat), H2, I2.tok _, rp, q⟩⟩
end
theorem hu12 {A : Around} {k : Nat} (hr : Room k A) : A.units + 12 < cLine := by have := hr.un; omega
section
variable {P : Program} {w : World} {K : PySem.W.Frag} {σ : L2.St} {H H0 : Hp} {ta tb tc te : TE} {D : Ends}
end
end D18
set_option Elab.async false
set_option linter.all false
set_option maxRecDepth 100000
set_option maxHeartbeats 4000000
/-! Ma0: the plain functions, their encodings. -/
namespace D18
open PySem L2

def encC (c : List Nat) : PyData := .tuple (c.map nI)
structure Rel where
  name : Str
  ar : Nat
  vals : Nat
  sym : Bool
def encR (r : Rel) : PyData := .tuple [.str r.name, nI r.ar, nI r.vals, .bool r.sym]
def chStep (ps : List Nat) (found : List (List Nat)) : List (List Nat) := found.flatMap fun c => (ps.filter fun p => !decide (p ∈ c)).map fun p => c ++ [p]
def choicesF (ps : List Nat) : Nat → List (List Nat)
  | 0 => [[]]
  | n + 1 => chStep ps (choicesF ps n)
def isAscF (c : List Nat) : Bool := ((List.range (c.length - 1)).map fun i => decide (c.getD i 0 < c.getD (i + 1) 0)).all id
def placesF (r : Rel) (p : Nat) : List (List Nat) :=
  let f := (choicesF (List.range (p + 1)) r.ar).filter fun c => decide (p ∈ c)
  if r.sym then f.filter isAscF else f
/-- relations, as the law makes them -/
structure GoodR (r : Rel) : Prop where
  ar1 : 1 ≤ r.ar
  ar3 : r.ar ≤ 3
  v1 : 1 ≤ r.vals
  v3 : r.vals ≤ 3
theorem chStep_len (ps : List Nat) (found : List (List Nat)) : (chStep ps found).length ≤ found.length * ps.length := by
  unfold chStep
  induction found with
  | nil => simp
  | cons c r ih =>
    rw [List.flatMap_cons, List.length_append, List.length_map, List.length_cons, Nat.add_mul, Nat.one_mul, Nat.add_comm]
    have := List.length_filter_le (fun p => !decide (p ∈ c)) ps
    omega
theorem choices_len (ps : List Nat) : ∀ n, (choicesF ps n).length ≤ ps.length ^ n
  | 0 => by simp [choicesF]
  | n + 1 => by
    have h1 := chStep_len ps (choicesF ps n)
    have h2 := choices_len ps n
    rw [Nat.pow_succ]
    exact Nat.le_trans h1 (Nat.mul_le_mul_right _ h2)
theorem choices_small {ps : List Nat} {n : Nat} (h : ps.length ≤ 7) (hn : n ≤ 4) : (choicesF ps n).length ≤ 2401 := by
  have h1 := choices_len ps n
  have h2 : ps.length ^ n ≤ 7 ^ 4 := Nat.le_trans (Nat.pow_le_pow_left h n) (Nat.pow_le_pow_right (by decide) hn)
  exact Nat.le_trans h1 h2
theorem choices_mem_len {ps : List Nat} : ∀ {n : Nat} {c : List Nat}, c ∈ choicesF ps n → c.length = n
  | 0, c, h => by simp [choicesF] at h; rw [h]; rfl
  | n + 1, c, h => by
    obtain ⟨c', h1, h2⟩ := List.mem_flatMap.mp (show c ∈ chStep ps (choicesF ps n) from h)
    obtain ⟨p, _, rfl⟩ := List.mem_map.mp h2
    rw [List.length_append, choices_mem_len h1]; rfl
theorem small_line {n : Nat} (h : n ≤ 16000000) : n ≤ sizeLine := by rw [sizeLine_eq]; omega
theorem small_lt {n : Nat} (h : n ≤ 16000000) : n < sizeLine := by rw [sizeLine_eq]; omega
theorem map_nI (c : List Nat) : c.map nI = (c.map fun n : Nat => (n : Int)).map PyData.int := by rw [List.map_map]; rfl
section
variable {K : PySem.W.Frag} {σ : St} {H H' : Hp} {ta tb : TE}
theorem cast_mem (i : Nat) (c : List Nat) : ((i : Int) ∈ c.map fun n : Nat => (n : Int)) ↔ i ∈ c := by
  rw [List.mem_map]
  constructor
  · rintro ⟨a, ha, e⟩
    have : a = i := by omega
    rw [← this]; exact ha
  · exact fun h => ⟨i, h, rfl⟩
theorem ed_inN {i : Nat} {c : List Nat} (ha : EvX ta σ H (dD (nI i))) (hb : EvX tb σ H (dD (encC c))) : EvX (tOp (rIn K false) ta tb) σ H (dD (.bool (decide (i ∈ c)))) := by
  have hb' : EvX tb σ H (dD (.tuple ((c.map fun n : Nat => (n : Int)).map PyData.int))) := by rw [← map_nI]; exact hb
  refine (ed_inT (K := K) ha hb').to ?_
  rw [decide_eq_decide.mpr (cast_mem i c)]
theorem ed_notinN {i : Nat} {c : List Nat} (ha : EvX ta σ H (dD (nI i))) (hb : EvX tb σ H (dD (encC c))) : EvX (tOp (rIn K true) ta tb) σ H (dD (.bool (!decide (i ∈ c)))) := by
  have hb' : EvX tb σ H (dD (.tuple ((c.map fun n : Nat => (n : Int)).map PyData.int))) := by rw [← map_nI]; exact hb
  refine (ed_notinT (K := K) ha hb').to ?_
  rw [decide_eq_decide.mpr (cast_mem i c)]
theorem atI_natE {α : Type} {xs : List α} {i : Int} {j : Nat} {v : α} (e : i = (j : Int)) (h : xs[j]? = some v) : atI xs i = some v := by rw [e]; exact atI_nat h
theorem getD_get {c : List Nat} {i : Nat} (h : i < c.length) : c[i]? = some (c.getD i 0) := by
  rw [List.getD_eq_getElem?_getD, List.getElem?_eq_getElem h]; rfl
theorem ed_lenC {c : List Nat} (ha : EvX ta σ H (dD (encC c))) : EvX (tCB (rLenQ K) (tCons ta tNil)) σ H (dD (nI c.length)) := (ed_lenT (K := K) ha).to (by rw [List.length_map])
theorem ed_lenLm {α : Type} {enc : α → PyData} {as : List α} (ha : EvX ta σ H (dL K (as.map enc))) : EvX (tCB (rLenQ K) (tCons ta tNil)) σ H (dD (nI as.length)) := (ed_lenL (K := K) ha).to (by rw [List.length_map])
theorem ed_lenTm {α : Type} {enc : α → PyData} {as : List α} (ha : EvX ta σ H (dD (.tuple (as.map enc)))) : EvX (tCB (rLenQ K) (tCons ta tNil)) σ H (dD (nI as.length)) := (ed_lenT (K := K) ha).to (by rw [List.length_map])
theorem dI_to {i j : Int} {te : TE} (h : EvX te σ H (dD (.int i))) (e : i = j) : EvX te σ H (dD (.int j)) := e ▸ h
theorem dB_to {i j : Bool} {te : TE} (h : EvX te σ H (dD (.bool i))) (e : i = j) : EvX te σ H (dD (.bool j)) := e ▸ h
theorem dec_nat_lt (a b : Nat) : decide ((a : Int) < (b : Int)) = decide (a < b) := decide_eq_decide.mpr (by omega)
theorem dec_nat_eq (a b : Nat) : decide ((a : Int) = (b : Int)) = decide (a = b) := decide_eq_decide.mpr (by omega)
/-- choice[k] -/
theorem ed_ixC {c : List Nat} {i : Int} {k : Nat} (ha : EvX ta σ H (dD (encC c))) (hb : EvX tb σ H (dD (.int i))) (e : i = (k : Int)) (h : k < c.length) : EvX (tOp (rIxT K) ta tb) σ H (dD (nI (c.getD k 0))) :=
  ed_ixT ha hb (atI_natE e (by rw [List.getElem?_map, getD_get h]; rfl))
end
end D18
set_option Elab.async false
set_option linter.all false
set_option maxRecDepth 100000
set_option maxHeartbeats 4000000
/-! Ma1: formulas, kinds, structures; their encodings; what a Kind object is. -/
namespace D18
open PySem L2

theorem kTT : kitB "tuple" "tuple" = some true := by decide +kernel
theorem kTL : kitB "tuple" "list" = some false := by decide +kernel
theorem kLL : kitB "list" "list" = some true := by decide +kernel
theorem kLT : kitB "list" "tuple" = some false := by decide +kernel
theorem kII : kitB "int" "int" = some true := by decide +kernel
theorem kIB : kitB "int" "bool" = some false := by decide +kernel
theorem kIL : kitB "int" "list" = some false := by decide +kernel
theorem kIT : kitB "int" "tuple" = some false := by decide +kernel
theorem kBB : kitB "bool" "bool" = some true := by decide +kernel
theorem kBL : kitB "bool" "list" = some false := by decide +kernel
theorem kBT : kitB "bool" "tuple" = some false := by decide +kernel
inductive Op4 where
  | and | or | imp | same
inductive Fm where
  | tt
  | ff
  | is (name : Str) (vs : List Nat) (val : Nat)
  | not (f : Fm)
  | bin (o : Op4) (f g : Fm)
def opS : Op4 → Str
  | .and => "and"
  | .or => "or"
  | .imp => "implies"
  | .same => "same"
def opF : Op4 → Bool → Bool → Bool
  | .and, a, b => a && b
  | .or, a, b => a || b
  | .imp, a, b => !a || b
  | .same, a, b => a == b
def encF : Fm → PyData
  | .tt => .tuple [.str "true"]
  | .ff => .tuple [.str "false"]
  | .is n vs v => .tuple [.str "is", .str n, encC vs, nI v]
  | .not f => .tuple [.str "not", encF f]
  | .bin o f g => .tuple [.str (opS o), encF f, encF g]
abbrev Sent := Nat × Fm
def encSe (s : Sent) : PyData := .tuple [nI s.1, encF s.2]
def depthF : Fm → Nat
  | .tt => 1
  | .ff => 1
  | .is _ _ _ => 1
  | .not f => depthF f + 1
  | .bin _ f g => max (depthF f) (depthF g) + 1
theorem depthF_pos (f : Fm) : 1 ≤ depthF f := by cases f <;> simp [depthF]
/-- a formula's truth: val what an atom's relation gives to points -/
def evalF (val : Str → List Nat → Nat) (ch : List Nat) : Fm → Bool
  | .tt => true
  | .ff => false
  | .is n vs v => decide (val n (vs.map fun k => ch.getD k 0) = v)
  | .not f => !evalF val ch f
  | .bin o f g => opF o (evalF val ch f) (evalF val ch g)
/-- the atoms fit the relations and the variables -/
def GoodF (rels : List Rel) (cnt : Nat) : Fm → Prop
  | .tt => True
  | .ff => True
  | .is n vs _ => (∃ r ∈ rels, r.name = n ∧ vs.length = r.ar) ∧ vs.Nodup ∧ ∀ k ∈ vs, k < cnt
  | .not f => GoodF rels cnt f
  | .bin _ f g => GoodF rels cnt f ∧ GoodF rels cnt g
structure GoodRs (rels : List Rel) : Prop where
  few : rels.length ≤ 3
  good : ∀ r ∈ rels, GoodR r
  nd : (rels.map (·.name)).Nodup
structure GoodS (rels : List Rel) (s : Sent) : Prop where
  c1 : 1 ≤ s.1
  c4 : s.1 ≤ 4
  f : GoodF rels s.1 s.2
  d : depthF s.2 ≤ 12
structure Kd where
  rels : List Rel
  sents : List Sent
structure GoodK (κ : Kd) : Prop where
  rs : GoodRs κ.rels
  few : κ.sents.length ≤ 2
  ss : ∀ s ∈ κ.sents, GoodS κ.rels s
/-- the ascending arrangement -/
def sortN (c : List Nat) : List Nat := (sortI (c.map fun n : Nat => (n : Int))).map Int.toNat
theorem sortN_cast (c : List Nat) : (sortN c).map (fun n : Nat => (n : Int)) = sortI (c.map fun n : Nat => (n : Int)) := by
  unfold sortN
  rw [List.map_map]
  have h : ∀ x ∈ sortI (c.map fun n : Nat => (n : Int)), ((fun n : Nat => (n : Int)) ∘ Int.toNat) x = x := by
    intro x hx
    obtain ⟨n, _, rfl⟩ := List.mem_map.mp ((sortI_perm _).subset hx)
    simp
  rw [List.map_congr_left h, List.map_id']
theorem nat_of_cast {c d : List Nat} (h : (c.map fun n : Nat => (n : Int)) = d.map fun n : Nat => (n : Int)) : c = d := by
  have := congrArg (List.map Int.toNat) h
  rw [List.map_map, List.map_map] at this
  simpa [Function.comp_def] using this
theorem sortN_perm (c : List Nat) : (sortN c).Perm c := by
  have h : ((sortN c).map fun n : Nat => (n : Int)).Perm (c.map fun n : Nat => (n : Int)) := by rw [sortN_cast]; exact sortI_perm _
  have h2 := h.map Int.toNat
  rw [List.map_map, List.map_map] at h2
  simpa [Function.comp_def] using h2
theorem sortN_asc (c : List Nat) : (sortN c).Pairwise (· ≤ ·) := by
  have h := sortI_asc (c.map fun n : Nat => (n : Int))
  rw [← sortN_cast] at h
  exact (List.pairwise_map.mp h).imp fun h => by omega
/-- the key of points: in order, or ascending where the relation is symmetric -/
def keyOf (r : Rel) (pts : List Nat) : List Nat := if r.sym then sortN pts else pts
/-- values by relation's number and key -/
abbrev Fa := Nat → List Nat → Nat
def layerOf (rels : List Rel) (Φ : Fa) (p : Nat) : List (List Nat) := rels.zipIdx.map fun ri => (placesF ri.1 p).map fun c => Φ ri.2 c
def structOf (rels : List Rel) (Φ : Fa) (n : Nat) : List (List (List Nat)) := (List.range n).map (layerOf rels Φ)
def encL (l : List (List Nat)) : PyData := .tuple (l.map encC)
def encS (s : List (List (List Nat))) : PyData := .tuple (s.map encL)
def valN (rels : List Rel) (Φ : Fa) (name : Str) (pts : List Nat) : Nat :=
  let i := (rels.map (·.name)).idxOf name
  match rels[i]? with
  | some r => Φ i (keyOf r pts)
  | none => 0
def maxN (pts : List Nat) : Nat := pts.foldr max 0
theorem le_maxN : ∀ {pts : List Nat} {x : Nat}, x ∈ pts → x ≤ maxN pts
  | a :: r, x, h => by
    unfold maxN
    rw [List.foldr_cons]
    rcases List.mem_cons.mp h with rfl | h
    · exact Nat.le_max_left _ _
    · exact Nat.le_trans (le_maxN h) (Nat.le_max_right _ _)
theorem maxN_mem : ∀ {pts : List Nat}, pts ≠ [] → maxN pts ∈ pts
  | [a], _ => by simp [maxN]
  | a :: b :: r, _ => by
    have ih := maxN_mem (pts := b :: r) (by simp)
    have e : maxN (a :: b :: r) = max a (maxN (b :: r)) := rfl
    rw [e]
    rcases Nat.le_total a (maxN (b :: r)) with h | h
    · rw [Nat.max_eq_right h]; exact List.mem_cons_of_mem _ ih
    · rw [Nat.max_eq_left h]; exact List.mem_cons_self ..

/-! ### descriptors of the Kind object -/
/-- the index of a row: each of its items with its place -/
def idxKvs (row : List (List Nat)) : List (List Key × V) := row.zipIdx.map fun ci => (ci.1.map fun n : Nat => (Sum.inl (n : Int) : Key), V.int (ci.2 : Nat))
def dX (row : List (List Nat)) : De := fun G H v => ∃ p, v = .ref p ∧ G p = none ∧ H p = some (.dT (idxKvs row))
instance {row : List (List Nat)} : Sta (dX row) := ⟨fun ⟨p, e, g, h⟩ _ k g0 => ⟨p, e, g0 p g, k p _ g h⟩⟩
def dRow (row : List (List Nat)) : De := dM (row.map encC)
instance {row : List (List Nat)} : Sta (dRow row) := inferInstanceAs (Sta (dM _))
def dPlaces (rels : List Rel) : De := dN (fun p => dN (fun r => dRow (placesF r p)) rels) (List.range 7)
def dIdx (rels : List Rel) : De := dN (fun p => dN (fun r => dX (placesF r p)) rels) (List.range 7)
instance {rels : List Rel} : Sta (dPlaces rels) := inferInstanceAs (Sta (dN _ _))
instance {rels : List Rel} : Sta (dIdx rels) := inferInstanceAs (Sta (dN _ _))
structure KindF (H : Hp) (fs : List (Str × V)) (κ : Kd) : Prop where
  rel : ∃ v, fs.lookup ("relations" : Str) = some v ∧ dM (κ.rels.map encR) Hn H v
  sen : ∃ v, fs.lookup ("sentences" : Str) = some v ∧ dM (κ.sents.map encSe) Hn H v
  nam : ∃ v, fs.lookup ("names" : Str) = some v ∧ dM (κ.rels.map fun r => PyData.str r.name) Hn H v
  pla : ∃ v, fs.lookup ("places" : Str) = some v ∧ dPlaces κ.rels Hn H v
  idx : ∃ v, fs.lookup ("indexes" : Str) = some v ∧ dIdx κ.rels Hn H v
/-- a Kind object of the class at C -/
def dK (C : Addr) (κ : Kd) : De := fun G H v => ∃ a dx fs, v = .ref a ∧ H a = some (.ins C dx fs) ∧ KindF H fs κ
theorem KindF.up {H H' : Hp} {fs : List (Str × V)} {κ : Kd} (k : KindF H fs κ) (s : Same H H') : KindF H' fs κ := by
  obtain ⟨⟨v1, l1, d1⟩, ⟨v2, l2, d2⟩, ⟨v3, l3, d3⟩, ⟨v4, l4, d4⟩, ⟨v5, l5, d5⟩⟩ := k
  exact ⟨⟨v1, l1, D18.up d1 s⟩, ⟨v2, l2, D18.up d2 s⟩, ⟨v3, l3, D18.up d3 s⟩, ⟨v4, l4, D18.up d4 s⟩, ⟨v5, l5, D18.up d5 s⟩⟩
instance {C : Addr} {κ : Kd} : Mo (dK C κ) := ⟨fun ⟨a, dx, fs, e, h, k⟩ s _ => ⟨a, dx, fs, e, s _ _ h, k.up s⟩⟩
/-- what of the text the class must have -/
structure KC (K : PySem.W.Frag) (C : Addr) : Prop where
  cl : Cls K C
  rel : NoAttr K C "relations"
  sen : NoAttr K C "sentences"
  ari : NoAttr K C "arities"
  nam : NoAttr K C "names"
  pla : NoAttr K C "places"
  idx : NoAttr K C "indexes"
section
variable {K : PySem.W.Frag} {σ : L2.St} {H : Hp} {ta tb tc : TE}
theorem ev_fld {a C dx : Addr} {fs : List (Str × V)} {f : Str} {v : V} (ha : EvX ta σ H (dV (.ref a))) (hH : H a = some (.ins C dx fs)) (cl : Cls K C) (n : NoAttr K C f) (hl : fs.lookup f = some v) : EvX (tFld K ta f) σ H (dV v) := fun H1 e Q q =>
  ha H1 e _ fun x H2 s2 d2 => ⟨a, C, dx, fs, v, d2, s2 _ _ (e _ _ hH), cl, n, hl, q v H2 s2 rfl⟩
/-- the value that a descriptor tells, in a name -/
theorem ev_at {δ : De} {te : TE} {v : V} [m : Mo δ] (h : EvX te σ H (dV v)) (d : δ Hn H v) : EvX te σ H (fun _ H2 w => w = v ∧ δ Hn H2 v) := fun H1 e Q q => h H1 e _ fun w H2 s2 d2 => q w H2 s2 ⟨d2, up d (e.trans s2)⟩
/-- a list that stands there, read -/
theorem el_at {te : TE} {v : V} {xs : List PyData} (h : EvX te σ H (dV v)) (d : dM xs Hn H v) : EvX te σ H (dL K xs) := fun H1 e Q q => h H1 e _ fun w H2 s2 d2 => by
  cases d2
  exact q _ H2 s2 (mL d (e.trans s2))
theorem ei_at {α : Type} {enc : α → PyData} {as : List α} {te : TE} {v : V} (h : EvX te σ H (dV v)) (d : dM (as.map enc) Hn H v) : EvI (iList K te) σ H as (fun a => dD (enc a)) := by
  obtain ⟨p, vs, rfl, _, hl, r⟩ := d
  exact ei_listV h (SqL.of hl) (of_dts r)
end
end D18
set_option Elab.async false
set_option linter.all false
set_option maxRecDepth 100000
set_option maxHeartbeats 4000000
/-! Ma2: layers, their number. -/
namespace D18
open PySem L2
def ptStep (c : Nat) (found : List (List Nat)) : List (List Nat) := found.flatMap fun s => (List.range c).map fun x => s ++ [x]
def partsF (c : Nat) : Nat → List (List Nat)
  | 0 => [[]]
  | n + 1 => ptStep c (partsF c n)
theorem flatMap_len {α β : Type} (g : α → List β) (k : Nat) : ∀ l : List α, (∀ a ∈ l, (g a).length = k) → (l.flatMap g).length = l.length * k
  | [], _ => by simp
  | a :: r, h => by
    rw [List.flatMap_cons, List.length_append, h a (List.mem_cons_self ..), flatMap_len g k r fun b hb => h b (List.mem_cons_of_mem _ hb), List.length_cons, Nat.add_mul, Nat.one_mul, Nat.add_comm]
theorem partsF_len (c : Nat) : ∀ n, (partsF c n).length = c ^ n
  | 0 => by simp [partsF]
  | n + 1 => by
    show (ptStep c (partsF c n)).length = _
    unfold ptStep
    rw [flatMap_len _ c _ fun a _ => by simp, partsF_len c n, Nat.pow_succ]
def layStep (p : Nat) (found : List (List (List Nat))) (r : Rel) : List (List (List Nat)) := found.flatMap fun s => (partsF r.vals (placesF r p).length).map fun v => s ++ [v]
def layersF (rels : List Rel) (p : Nat) : List (List (List Nat)) := rels.foldl (layStep p) [[]]
def cntStep (p : Nat) (c : Nat) (r : Rel) : Nat := c * r.vals ^ (placesF r p).length
def countF (rels : List Rel) (p : Nat) : Nat := rels.foldl (cntStep p) 1
theorem layStep_len (p : Nat) (found : List (List (List Nat))) (r : Rel) : (layStep p found r).length = cntStep p found.length r := by
  unfold layStep cntStep
  rw [flatMap_len _ (r.vals ^ (placesF r p).length) _ fun a _ => by rw [List.length_map, partsF_len]]
theorem layers_len (p : Nat) : ∀ (rels : List Rel) (f : List (List (List Nat))), (rels.foldl (layStep p) f).length = rels.foldl (cntStep p) f.length
  | [], _ => rfl
  | r :: rs, f => by rw [List.foldl_cons, List.foldl_cons, layers_len p rs, layStep_len]
theorem cnt_grow (p : Nat) : ∀ (rels : List Rel) (c : Nat), (∀ r ∈ rels, 1 ≤ r.vals) → c ≤ rels.foldl (cntStep p) c
  | [], c, _ => Nat.le_refl c
  | r :: rs, c, h => by
    rw [List.foldl_cons]
    refine Nat.le_trans ?_ (cnt_grow p rs _ fun q hq => h q (List.mem_cons_of_mem _ hq))
    unfold cntStep
    exact Nat.le_mul_of_pos_right _ (Nat.pow_pos (h r (List.mem_cons_self ..)))
theorem cnt_take (p : Nat) {rels : List Rel} (h : ∀ r ∈ rels, 1 ≤ r.vals) (i : Nat) : (rels.take i).foldl (cntStep p) 1 ≤ countF rels p := by
  unfold countF
  conv => rhs; rw [← List.take_append_drop i rels, List.foldl_append]
  exact cnt_grow p _ _ fun r hr => h r (List.mem_of_mem_drop hr)
theorem foldl_take_succ {α β : Type} (f : β → α → β) (b : β) {l : List α} {i : Nat} {a : α} (h : l[i]? = some a) : (l.take (i + 1)).foldl f b = f ((l.take i).foldl f b) a := by
  rw [take_succ_get h, List.foldl_append]; rfl
theorem ptStep_map (c : Nat) (found : List (List Nat)) : (found.flatMap fun s => ((List.range c).filter fun _ => true).map fun x => (s, x)).map (fun ab => encC (ab.1 ++ [ab.2])) = (ptStep c found).map encC := by
  unfold ptStep
  rw [List.map_flatMap, List.map_flatMap]
  congr 1
  funext s
  rw [List.filter_eq_self.mpr fun _ _ => rfl, List.map_map, List.map_map]
  rfl
theorem layStep_map (p : Nat) (r : Rel) (found : List (List (List Nat))) : (found.flatMap fun s => ((partsF r.vals (placesF r p).length).filter fun _ => true).map fun x => (s, x)).map (fun ab => encL (ab.1 ++ [ab.2])) = (layStep p found r).map encL := by
  unfold layStep
  rw [List.map_flatMap, List.map_flatMap]
  congr 1
  funext s
  rw [List.filter_eq_self.mpr fun _ _ => rfl, List.map_map, List.map_map]
  rfl
theorem encL_app (l : List (List Nat)) (c : List Nat) : encL (l ++ [c]) = .tuple (l.map encC ++ [encC c]) := by unfold encL; rw [List.map_append]; rfl
theorem encC_app (c : List Nat) (p : Nat) : encC (c ++ [p]) = .tuple (c.map nI ++ [nI p]) := by unfold encC; rw [List.map_append]; rfl
end D18
set_option Elab.async false
set_option linter.all false
set_option maxRecDepth 100000
set_option maxHeartbeats 4000000
/-! Ma3: choices and places: what they hold, that nothing comes twice. -/
namespace D18
open PySem L2
theorem choices_mem {ps : List Nat} : ∀ {n : Nat} {c : List Nat}, c ∈ choicesF ps n ↔ c.length = n ∧ c.Nodup ∧ ∀ x ∈ c, x ∈ ps
  | 0, c => by
    simp only [choicesF, List.mem_singleton]
    constructor
    · rintro rfl; simp
    · rintro ⟨h, _⟩; exact List.length_eq_zero_iff.mp h
  | n + 1, c => by
    show c ∈ chStep ps (choicesF ps n) ↔ _
    unfold chStep
    rw [List.mem_flatMap]
    constructor
    · rintro ⟨d, hd, hc⟩
      obtain ⟨p, hp, rfl⟩ := List.mem_map.mp hc
      obtain ⟨h1, h2, h3⟩ := choices_mem.mp hd
      obtain ⟨hp1, hp2⟩ := List.mem_filter.mp hp
      have hp3 : p ∉ d := by simpa using hp2
      refine ⟨by rw [List.length_append, h1]; rfl, ?_, fun x hx => ?_⟩
      · rw [List.nodup_append]
        refine ⟨h2, by simp, fun a ha b hb => ?_⟩
        rw [List.mem_singleton] at hb
        subst hb
        intro e
        subst e
        exact hp3 ha
      · rcases List.mem_append.mp hx with h | h
        · exact h3 x h
        · rw [List.mem_singleton] at h; rw [h]; exact hp1
    · rintro ⟨h1, h2, h3⟩
      have ne : c ≠ [] := by intro e; rw [e] at h1; simp at h1
      have e := List.dropLast_concat_getLast ne
      have h2' := h2
      rw [← e, List.nodup_append] at h2'
      refine ⟨c.dropLast, choices_mem.mpr ⟨by rw [List.length_dropLast]; omega, h2'.1, fun x hx => h3 x (List.dropLast_subset _ hx)⟩, List.mem_map.mpr ⟨c.getLast ne, List.mem_filter.mpr ⟨h3 _ (List.getLast_mem ne), ?_⟩, e⟩⟩
      simp only [Bool.not_eq_true', decide_eq_false_iff_not]
      intro hx
      exact h2'.2.2 _ hx _ (List.mem_singleton.mpr rfl) rfl
theorem choices_nodup {ps : List Nat} (h : ps.Nodup) : ∀ n, (choicesF ps n).Nodup
  | 0 => by simp [choicesF]
  | n + 1 => by
    show (chStep ps (choicesF ps n)).Nodup
    unfold chStep
    have ih := choices_nodup h n
    unfold List.Nodup
    rw [List.pairwise_flatMap]
    refine ⟨fun c _ => ?_, ih.imp fun {c d} hne x hx y hy => ?_⟩
    · rw [List.pairwise_map]
      refine (h.filter _).imp fun {p q} hpq e => hpq ?_
      have := List.append_cancel_left e
      simpa using this
    · obtain ⟨p, _, rfl⟩ := List.mem_map.mp hx
      obtain ⟨q, _, rfl⟩ := List.mem_map.mp hy
      intro e
      exact hne (List.append_inj_left' e rfl)
theorem range_nodup (n : Nat) : (List.range n).Nodup := List.nodup_range
theorem places_mem {r : Rel} {p : Nat} {c : List Nat} : c ∈ placesF r p ↔ (c.length = r.ar ∧ c.Nodup ∧ (∀ x ∈ c, x ≤ p) ∧ p ∈ c) ∧ (r.sym = true → isAscF c = true) := by
  have base : c ∈ (choicesF (List.range (p + 1)) r.ar).filter (fun c => decide (p ∈ c)) ↔ (c.length = r.ar ∧ c.Nodup ∧ (∀ x ∈ c, x ≤ p) ∧ p ∈ c) := by
    rw [List.mem_filter, choices_mem]
    simp only [List.mem_range, decide_eq_true_eq, Nat.lt_succ_iff]
    constructor
    · rintro ⟨⟨h1, h2, h3⟩, h4⟩; exact ⟨h1, h2, h3, h4⟩
    · rintro ⟨h1, h2, h3, h4⟩; exact ⟨⟨h1, h2, h3⟩, h4⟩
  unfold placesF
  cases hs : r.sym with
  | false =>
    simp only [Bool.false_eq_true, if_false, false_implies, and_true]
    exact base
  | true =>
    simp only [if_true, true_implies]
    rw [List.mem_filter]
    exact and_congr_left fun _ => base
theorem places_eq (r : Rel) (p : Nat) : placesF r p = if r.sym = true then ((choicesF (List.range (p + 1)) r.ar).filter fun c => decide (p ∈ c)).filter isAscF else (choicesF (List.range (p + 1)) r.ar).filter fun c => decide (p ∈ c) := rfl
theorem places_nodup (r : Rel) (p : Nat) : (placesF r p).Nodup := by
  have h := (choices_nodup (range_nodup (p + 1)) r.ar).filter fun c => decide (p ∈ c)
  rw [places_eq]
  cases hs : r.sym with
  | false => rw [if_neg (by simp)]; exact h
  | true => rw [if_pos rfl]; exact h.filter _
theorem places_len {r : Rel} (g : GoodR r) {p : Nat} (hp : p ≤ 6) : (placesF r p).length ≤ 2401 := by
  have h := choices_small (ps := List.range (p + 1)) (n := r.ar) (by rw [List.length_range]; omega) (by have := g.ar3; omega)
  have h2 : ((choicesF (List.range (p + 1)) r.ar).filter fun c => decide (p ∈ c)).length ≤ 2401 := Nat.le_trans (List.length_filter_le _ _) h
  rw [places_eq]
  cases hs : r.sym with
  | false => rw [if_neg (by simp)]; exact h2
  | true => rw [if_pos rfl]; exact Nat.le_trans (List.length_filter_le _ _) h2
/-- is_ascending: strictly ascending -/
theorem isAsc_iff (c : List Nat) : isAscF c = true ↔ c.Pairwise (· < ·) := by
  unfold isAscF
  rw [List.all_map, List.all_eq_true]
  simp only [List.mem_range, Function.comp_apply, id_eq, decide_eq_true_eq]
  constructor
  · intro h
    rw [List.pairwise_iff_getElem]
    intro i j hi hj hij
    have step : ∀ k, i + k < c.length → 0 < k → c.getD i 0 < c.getD (i + k) 0 := by
      intro k
      induction k with
      | zero => intro _ h0; omega
      | succ k ih =>
        intro hk _
        have h1 := h (i + k) (by omega)
        rcases Nat.eq_zero_or_pos k with rfl | hk0
        · exact h1
        · exact Nat.lt_trans (ih (by omega) hk0) h1
    have := step (j - i) (by omega) (by omega)
    have e : i + (j - i) = j := by omega
    rw [e] at this
    simpa [List.getD_eq_getElem?_getD, hi, hj] using this
  · intro h i hi
    rw [List.pairwise_iff_getElem] at h
    have := h i (i + 1) (by omega) (by omega) (by omega)
    have h1 : i < c.length := by omega
    have h2 : i + 1 < c.length := by omega
    simpa [List.getD_eq_getElem?_getD, h1, h2] using this
theorem sortN_id {c : List Nat} (h : c.Pairwise (· ≤ ·)) : sortN c = c := by
  have h1 : (c.map fun n : Nat => (n : Int)).Pairwise (· ≤ ·) := List.pairwise_map.mpr (h.imp fun h => by omega)
  have h2 := sortI_unique (List.Perm.refl _) h1
  unfold sortN
  rw [← h2, List.map_map]
  simp [Function.comp_def]
theorem asc_of_sort {c : List Nat} (nd : c.Nodup) : sortN c = c ↔ isAscF c = true := by
  rw [isAsc_iff]
  constructor
  · intro e
    have h := sortN_asc c
    rw [e] at h
    exact (List.pairwise_and_iff.mpr ⟨h, nd⟩).imp fun {a b} h => by have h1 := h.1; have h2 := h.2; omega
  · intro h
    exact sortN_id (h.imp fun h => by omega)
/-- the key of points is a place at their greatest -/
theorem key_place {r : Rel} {pts : List Nat} (h1 : pts.length = r.ar) (h2 : pts.Nodup) (h3 : pts ≠ []) : keyOf r pts ∈ placesF r (maxN pts) := by
  rw [places_mem]
  unfold keyOf
  cases hs : r.sym with
  | false =>
    simp only [Bool.false_eq_true, if_false, false_implies, and_true]
    exact ⟨h1, h2, fun x hx => le_maxN hx, maxN_mem h3⟩
  | true =>
    simp only [if_true, true_implies]
    have p := sortN_perm pts
    have nd : (sortN pts).Nodup := p.nodup_iff.mpr h2
    refine ⟨⟨by rw [p.length_eq, h1], nd, fun x hx => le_maxN (p.subset hx), p.symm.subset (maxN_mem h3)⟩, ?_⟩
    rw [← asc_of_sort nd]
    exact sortN_id (sortN_asc pts)
end D18
set_option Elab.async false
set_option linter.all false
set_option maxRecDepth 100000
set_option maxHeartbeats 4000000
/-! Ma4: structures by their values; one layer more. -/
namespace D18
open PySem L2
/-- the values are below the relations' numbers -/
def GoodV (rels : List Rel) (Φ : Fa) (n : Nat) : Prop := ∀ p, p < n → ∀ i r c, rels[i]? = some r → c ∈ placesF r p → Φ i c < r.vals
theorem GoodV.le {rels : List Rel} {Φ : Fa} {m n : Nat} (h : GoodV rels Φ n) (hm : m ≤ n) : GoodV rels Φ m := fun p hp => h p (by omega)
def extF (rels : List Rel) (Φ : Fa) (n : Nat) (l : List (List Nat)) : Fa := fun i c =>
  if n ∈ c then (match rels[i]? with
    | some r => (l.getD i []).getD ((placesF r n).idxOf c) 0
    | none => 0) else Φ i c
/-- of the shape of a layer at n -/
def LayShape (rels : List Rel) (n : Nat) (l : List (List Nat)) : Prop := l.length = rels.length ∧ ∀ i r, rels[i]? = some r → (l.getD i []).length = (placesF r n).length
theorem map_congr_mem {α β : Type} {f g : α → β} {l : List α} (h : ∀ a ∈ l, f a = g a) : l.map f = l.map g := List.map_congr_left h
theorem layerOf_ext_lt {rels : List Rel} {Φ : Fa} {n p : Nat} {l : List (List Nat)} (h : p < n) : layerOf rels (extF rels Φ n l) p = layerOf rels Φ p := by
  unfold layerOf
  refine map_congr_mem fun ri _ => map_congr_mem fun c hc => ?_
  have hle := (places_mem.mp hc).1.2.2.1
  have hn : n ∉ c := fun hx => by have := hle n hx; omega
  unfold extF
  rw [if_neg hn]
theorem map_getD_idx {row : List Nat} : ∀ {pl : List (List Nat)}, pl.Nodup → row.length = pl.length → (pl.map fun c => row.getD (pl.idxOf c) 0) = row := by
  intro pl nd hl
  apply List.ext_getElem?
  intro i
  rw [List.getElem?_map]
  by_cases h : i < pl.length
  · rw [List.getElem?_eq_getElem h, Option.map_some]
    have e : pl.idxOf pl[i] = i := nd.idxOf_getElem i h
    rw [e]
    have h' : i < row.length := by omega
    rw [List.getElem?_eq_getElem h', List.getD_eq_getElem?_getD, List.getElem?_eq_getElem h']
    rfl
  · rw [List.getElem?_eq_none (by omega), List.getElem?_eq_none (by omega)]
    rfl
theorem layerOf_ext_at {rels : List Rel} {Φ : Fa} {n : Nat} {l : List (List Nat)} (h : LayShape rels n l) : layerOf rels (extF rels Φ n l) n = l := by
  unfold layerOf
  apply List.ext_getElem?
  intro i
  rw [List.getElem?_map, List.getElem?_zipIdx]
  by_cases hi : i < rels.length
  · have e := List.getElem?_eq_getElem hi
    rw [e]
    simp only [Option.map_some, Nat.zero_add]
    have h1 : i < l.length := by rw [h.1]; exact hi
    have h2 := h.2 i _ e
    have e2 : ((placesF rels[i] n).map fun c => extF rels Φ n l i c) = (placesF rels[i] n).map fun c => (l.getD i []).getD ((placesF rels[i] n).idxOf c) 0 := map_congr_mem fun c hc => by
      have hn : n ∈ c := (places_mem.mp hc).1.2.2.2
      unfold extF
      rw [if_pos hn, e]
    rw [e2, map_getD_idx (places_nodup _ _) h2, List.getElem?_eq_getElem h1, List.getD_eq_getElem?_getD, List.getElem?_eq_getElem h1]
    rfl
  · rw [List.getElem?_eq_none (by omega), List.getElem?_eq_none (by rw [h.1]; omega)]
    rfl
theorem structOf_ext {rels : List Rel} {Φ : Fa} {n : Nat} {l : List (List Nat)} (h : LayShape rels n l) : structOf rels (extF rels Φ n l) (n + 1) = structOf rels Φ n ++ [l] := by
  unfold structOf
  rw [List.range_succ, List.map_append, List.map_singleton, layerOf_ext_at h]
  congr 1
  refine map_congr_mem fun p hp => layerOf_ext_lt (List.mem_range.mp hp)
/-- the layers are of the shape, their values below the numbers -/
theorem parts_mem {c : Nat} : ∀ {n : Nat} {x : List Nat}, x ∈ partsF c n ↔ x.length = n ∧ ∀ v ∈ x, v < c
  | 0, x => by
    simp only [partsF, List.mem_singleton]
    constructor
    · rintro rfl; simp
    · rintro ⟨h, _⟩; exact List.length_eq_zero_iff.mp h
  | n + 1, x => by
    show x ∈ ptStep c (partsF c n) ↔ _
    unfold ptStep
    rw [List.mem_flatMap]
    constructor
    · rintro ⟨d, hd, hx⟩
      obtain ⟨p, hp, rfl⟩ := List.mem_map.mp hx
      obtain ⟨h1, h2⟩ := parts_mem.mp hd
      refine ⟨by rw [List.length_append, h1]; rfl, fun v hv => ?_⟩
      rcases List.mem_append.mp hv with h | h
      · exact h2 v h
      · rw [List.mem_singleton] at h; rw [h]; exact List.mem_range.mp hp
    · rintro ⟨h1, h2⟩
      have ne : x ≠ [] := by intro e; rw [e] at h1; simp at h1
      refine ⟨x.dropLast, parts_mem.mpr ⟨by rw [List.length_dropLast]; omega, fun v hv => h2 v (List.dropLast_subset _ hv)⟩, List.mem_map.mpr ⟨x.getLast ne, List.mem_range.mpr (h2 _ (List.getLast_mem ne)), List.dropLast_concat_getLast ne⟩⟩
theorem layers_mem_aux (p : Nat) : ∀ (rels : List Rel) (pre : List Rel) (f : List (List (List Nat))),
    (∀ x ∈ f, x.length = pre.length ∧ ∀ i r, pre[i]? = some r → (x.getD i []).length = (placesF r p).length ∧ ∀ v ∈ x.getD i [], v < r.vals) →
    ∀ x ∈ rels.foldl (layStep p) f, x.length = (pre ++ rels).length ∧ ∀ i r, (pre ++ rels)[i]? = some r → (x.getD i []).length = (placesF r p).length ∧ ∀ v ∈ x.getD i [], v < r.vals
  | [], pre, f, h, x, hx => by rw [List.append_nil]; exact h x hx
  | r :: rs, pre, f, h, x, hx => by
    have e : pre ++ r :: rs = (pre ++ [r]) ++ rs := by simp
    rw [e]
    rw [List.foldl_cons] at hx
    refine layers_mem_aux p rs (pre ++ [r]) (layStep p f r) (fun y hy => ?_) x hx
    obtain ⟨z, h1, h2⟩ := List.mem_flatMap.mp hy
    obtain ⟨v, hv, rfl⟩ := List.mem_map.mp h2
    obtain ⟨g1, g2⟩ := h z h1
    obtain ⟨v1, v2⟩ := parts_mem.mp hv
    refine ⟨by rw [List.length_append, List.length_append, g1]; rfl, fun i q hq => ?_⟩
    by_cases hi : i < pre.length
    · rw [List.getElem?_append_left hi] at hq
      have := g2 i q hq
      rw [List.getD_eq_getElem?_getD] at this ⊢
      rw [List.getElem?_append_left (by omega)]
      exact this
    · have hi2 : i < (pre ++ [r]).length := (List.getElem?_eq_some_iff.mp hq).1
      rw [List.length_append, List.length_singleton] at hi2
      have ei : i = pre.length := by omega
      subst ei
      rw [List.getElem?_append_right (Nat.le_refl _), Nat.sub_self] at hq
      cases hq
      rw [List.getD_eq_getElem?_getD, List.getElem?_append_right (by omega), g1, Nat.sub_self]
      exact ⟨v1, v2⟩
theorem layers_mem {rels : List Rel} {p : Nat} {l : List (List Nat)} (h : l ∈ layersF rels p) : LayShape rels p l ∧ ∀ i r, rels[i]? = some r → ∀ v ∈ l.getD i [], v < r.vals := by
  have q := layers_mem_aux p rels [] [[]] (fun x hx => by rw [List.mem_singleton] at hx; rw [hx]; exact ⟨rfl, fun i r e => by simp at e⟩) l h
  rw [List.nil_append] at q
  exact ⟨⟨q.1, fun i r e => (q.2 i r e).1⟩, fun i r e => (q.2 i r e).2⟩
theorem GoodV.ext {rels : List Rel} {Φ : Fa} {n : Nat} {l : List (List Nat)} (h : GoodV rels Φ n) (hl : l ∈ layersF rels n) : GoodV rels (extF rels Φ n l) (n + 1) := by
  intro p hp i r c hr hc
  obtain ⟨sh, sv⟩ := layers_mem hl
  by_cases hpn : p < n
  · have hle := (places_mem.mp hc).1.2.2.1
    have hn : n ∉ c := fun hx => by have := hle n hx; omega
    unfold extF
    rw [if_neg hn]
    exact h p hpn i r c hr hc
  · have ep : p = n := by omega
    subst ep
    have hn : p ∈ c := (places_mem.mp hc).1.2.2.2
    unfold extF
    rw [if_pos hn, hr]
    have hlt : (placesF r p).idxOf c < (l.getD i []).length := by rw [sh.2 i r hr]; exact List.idxOf_lt_length_of_mem hc
    refine sv i r hr _ ?_
    show (l.getD i []).getD ((placesF r p).idxOf c) 0 ∈ _
    generalize l.getD i [] = row at hlt ⊢
    rw [List.getD_eq_getElem?_getD, List.getElem?_eq_getElem hlt]
    exact List.getElem_mem hlt
/-- all sentences' truths -/
def holdsF (rels : List Rel) (Φ : Fa) (n : Nat) (s : Sent) : Bool := (choicesF (List.range n) s.1).all fun ch => evalF (valN rels Φ) ch s.2
def holdsLast (rels : List Rel) (Φ : Fa) (n : Nat) (s : Sent) : Bool := (choicesF (List.range n) s.1).all fun ch => !(decide (n - 1 ∈ ch) && !evalF (valN rels Φ) ch s.2)
def extsF (κ : Kd) (Φ : Fa) (n : Nat) : List (List (List Nat)) := (layersF κ.rels n).filter fun l => κ.sents.all fun s => holdsLast κ.rels (extF κ.rels Φ n l) (n + 1) s
end D18
set_option Elab.async false
set_option linter.all false
set_option maxRecDepth 100000
set_option maxHeartbeats 4000000
/-! Ma5: nested tuples of ints: == is equality. -/
namespace D18
open PySem L2
/-- ints in tuples, n deep -/
def PS : Nat → PyData → Prop
  | 0, x => ∃ i, x = .int i
  | n + 1, x => ∃ ds, x = .tuple ds ∧ ∀ d ∈ ds, PS n d
theorem ps_all {n : Nat} (h : ∀ d e, PS n d → PS n e → (PyData.eqv d e = true ↔ d = e)) : ∀ {as bs : List PyData}, (∀ d ∈ as, PS n d) → (∀ d ∈ bs, PS n d) → (PyData.eqvAll as bs = true ↔ as = bs)
  | [], [], _, _ => by simp [PyData.eqvAll]
  | [], _ :: _, _, _ => by simp [PyData.eqvAll]
  | _ :: _, [], _, _ => by simp [PyData.eqvAll]
  | a :: as, b :: bs, ha, hb => by
    have ih := ps_all h (fun d hd => ha d (List.mem_cons_of_mem _ hd)) fun d hd => hb d (List.mem_cons_of_mem _ hd)
    have h0 := h a b (ha a (List.mem_cons_self ..)) (hb b (List.mem_cons_self ..))
    rw [PyData.eqvAll, Bool.and_eq_true, h0, ih, List.cons.injEq]
theorem ps_eqv : ∀ {n : Nat} {d e : PyData}, PS n d → PS n e → (PyData.eqv d e = true ↔ d = e)
  | 0, d, e, ⟨i, hi⟩, ⟨j, hj⟩ => by subst hi hj; simp [PyData.eqv]
  | n + 1, d, e, ⟨as, ha, pa⟩, ⟨bs, hb, pb⟩ => by
    subst ha hb
    have := ps_all (n := n) (fun d e => ps_eqv) pa pb
    simp only [PyData.eqv]
    rw [this]
    simp
theorem ps_lay_all {p : PyData → Prop} (h : ∀ d, p d → d.canLay0 = true) : ∀ {as : List PyData}, (∀ d ∈ as, p d) → PyData.canLayAll0 as = true
  | [], _ => by simp [PyData.canLayAll0]
  | a :: as, ha => by
    rw [PyData.canLayAll0, h a (ha a (List.mem_cons_self ..)), ps_lay_all h fun d hd => ha d (List.mem_cons_of_mem _ hd)]
    rfl
theorem ps_lay : ∀ {n : Nat} {d : PyData}, PS n d → d.canLay0 = true
  | 0, d, ⟨i, hi⟩ => by subst hi; simp [PyData.canLay0]
  | n + 1, d, ⟨as, ha, pa⟩ => by
    subst ha
    rw [PyData.canLay0]
    exact ps_lay_all (fun d => ps_lay) pa
theorem ps_depth_all {p : PyData → Prop} {n : Nat} (h : ∀ d, p d → d.depth ≤ n) : ∀ {as : List PyData}, (∀ d ∈ as, p d) → PyData.depthAll as ≤ n
  | [], _ => by simp [PyData.depthAll]
  | a :: as, ha => by
    rw [PyData.depthAll]
    exact Nat.max_le.mpr ⟨h a (ha a (List.mem_cons_self ..)), ps_depth_all h fun d hd => ha d (List.mem_cons_of_mem _ hd)⟩
theorem ps_depth : ∀ {n : Nat} {d : PyData}, PS n d → d.depth ≤ n
  | 0, d, ⟨i, hi⟩ => by subst hi; simp [PyData.depth]
  | n + 1, d, ⟨as, ha, pa⟩ => by
    subst ha
    rw [PyData.depth]
    have := ps_depth_all (n := n) (fun d => ps_depth) pa
    omega
theorem ps_shaped {n : Nat} {d : PyData} (hn : n ≤ 60) (h : PS n d) : SeqAt.shaped d = true := by
  unfold SeqAt.shaped
  rw [ps_lay h, Bool.true_and]
  exact decide_eq_true (Nat.le_trans (ps_depth h) (by omega))
theorem ps_shapedL {n : Nat} {ds : List PyData} (hn : n ≤ 60) (h : ∀ d ∈ ds, PS n d) : SeqAt.shaped (.list ds) = true := by
  unfold SeqAt.shaped
  rw [PyData.canLay0, ps_lay_all (fun d => ps_lay) h, Bool.true_and]
  refine decide_eq_true ?_
  rw [PyData.depth]
  have := ps_depth_all (n := n) (fun d => ps_depth) h
  omega
theorem ps_int (n : Nat) : PS 0 (nI n) := ⟨_, rfl⟩
theorem ps_encC (c : List Nat) : PS 1 (encC c) := ⟨_, rfl, fun d hd => by obtain ⟨n, _, rfl⟩ := List.mem_map.mp hd; exact ps_int n⟩
theorem ps_encL (l : List (List Nat)) : PS 2 (encL l) := ⟨_, rfl, fun d hd => by obtain ⟨n, _, rfl⟩ := List.mem_map.mp hd; exact ps_encC n⟩
theorem ps_encS (s : List (List (List Nat))) : PS 3 (encS s) := ⟨_, rfl, fun d hd => by obtain ⟨n, _, rfl⟩ := List.mem_map.mp hd; exact ps_encL n⟩
theorem map_inj {α β : Type} {f : α → β} (h : ∀ a b, f a = f b → a = b) : ∀ {l m : List α}, l.map f = m.map f → l = m
  | [], [], _ => rfl
  | [], _ :: _, e => by simp at e
  | _ :: _, [], e => by simp at e
  | a :: l, b :: m, e => by
    rw [List.map_cons, List.map_cons, List.cons.injEq] at e
    rw [h a b e.1, map_inj h e.2]
theorem nI_inj {a b : Nat} (h : nI a = nI b) : a = b := by injection h with h; omega
theorem encC_inj {a b : List Nat} (h : encC a = encC b) : a = b := by injection h with h; exact map_inj (fun _ _ => nI_inj) h
theorem encL_inj {a b : List (List Nat)} (h : encL a = encL b) : a = b := by injection h with h; exact map_inj (fun _ _ => encC_inj) h
theorem encS_inj {a b : List (List (List Nat))} (h : encS a = encS b) : a = b := by injection h with h; exact map_inj (fun _ _ => encL_inj) h
theorem eqv_encS (a b : List (List (List Nat))) : PyData.eqv (encS a) (encS b) = decide (a = b) := by
  rw [Bool.eq_iff_iff, ps_eqv (ps_encS a) (ps_encS b), decide_eq_true_iff]
  exact ⟨encS_inj, fun e => e ▸ rfl⟩
end D18
set_option Elab.async false
set_option linter.all false
set_option maxRecDepth 100000
/-! Tx0: the text by places; what the defs need of the top. -/
namespace D18
open PySem L2
def topS (i : Nat) : Stmt := PySem.Challenge.pw_oneofeach_k18_whole_structures_layer_by.main.body.getD i (.Pass ⟨0, 0, 0, 0⟩)
/-- the built-in names are free, the constants stand -/
structure Txt (K : PySem.W.Frag) (mg : Str → Option Value) : Prop where
  len : mg "len" = none
  range : mg "range" = none
  list : mg "list" = none
  tuple : mg "tuple" = none
  sorted : mg "sorted" = none
  max : mg "max" = none
  all : mg "all" = none
  int : mg "int" = none
  bool : mg "bool" = none
  str : mg "str" = none
  isinstance : mg "isinstance" = none
  zip : mg "zip" = none
  enumerate : mg "enumerate" = none
  MP : ∃ t, mg "MOST_POINTS" = some (.int 7 t)
  ML : ∃ t, mg "MOST_LAYERS" = some (.int 4096 t)
end D18
set_option Elab.async false
set_option linter.all false
set_option maxRecDepth 100000
set_option maxHeartbeats 8000000
/-! Pg1: choices, is_ascending, places. -/
namespace D18
open PySem L2
section
variable {P : Program} {w : World} {K : PySem.W.Frag} {mg : Str → Option Value} {base : Heap}

abbrev sChoices : Stmt := topS 8
def spChoices (K : PySem.W.Frag) : Sp := spOf (R := List Nat × Nat) (fun r => [dL K (r.1.map nI), dD (nI r.2)]) (fun r _ => r.1.length ≤ 7 ∧ r.2 ≤ 4) (fun r => dM ((choicesF r.1 r.2).map encC))
theorem scChoices : FnScope ["points", "count", "found", "_", "choice", "point"] ["points", "count"] (defScope sChoices) := ⟨rfl, rfl, rfl, by decide +kernel, rfl, by decide +kernel, by decide +kernel⟩
theorem chStep_map (ps : List Nat) (found : List (List Nat)) : (found.flatMap fun c => (ps.filter fun p => !decide (p ∈ c)).map fun p => (c, p)).map (fun ab => encC (ab.1 ++ [ab.2])) = (chStep ps found).map encC := by
  unfold chStep
  rw [List.map_flatMap, List.map_flatMap]
  congr 1
  funext c
  rw [List.map_map, List.map_map]
  rfl
theorem ok_choices {f : Addr} {fd : FuncData} (Fn : Fun K "choices" "choices" sChoices f fd) (T : Txt K mg) : FnOk P w K mg base CX0 1 f fd ["points", "count"] (spChoices K) := by
  have nd := scChoices.nd
  refine okD Fn scChoices (fun _ => rfl) fun cdv A outer s H E hr => ⟨_, (pss_cons (ps_set (i := 2) nd rfl (by first | exact Or.inl rfl | exact Or.inr rfl) (pe_lst (pa_cons (pe_tup pa_nil) pa_nil)))
    (pss_cons (ps_for PassesOwn.never rfl (pi_range1 rfl T.range (pa_cons (pv 1) pa_nil)) (pg_name (i := 3) nd rfl (by first | exact Or.inl rfl | exact Or.inr rfl))
      (pss_one (ps_setLc2 (i := 2) (own := [("choice", 4), ("point", 5)]) (vs1 := [5]) rfl nd rfl rfl (sw_true rfl rfl rfl (by decide +kernel)) (pi_listK (K := K) (pv 2)) (blkOk_by (by kernel_rfl)) (by decide) (fun _ _ _ _ _ => (pg_name (i := 4) nd rfl (by first | exact Or.inl rfl | exact Or.inr rfl))) (fun _ _ _ _ _ => pts_nil) (fun _ _ _ _ _ => (pi_listK (K := K) (pv 0))) (fun _ _ _ _ _ => (pg_name (i := 5) nd rfl (by first | exact Or.inl rfl | exact Or.inr rfl))) (fun _ _ _ _ _ => (pts_one (pt_cmpR (op_notInK (K := K)) (pv 5) (pv 4) (by rfl)))) (fun _ _ _ _ _ => (pe_op (op_catK (K := K)) (pv 4) (pe_tup (pa_cons (pv 5) pa_nil)))))))
    (pss_one (ps_ret (pv 2))))), ?_⟩
  rintro ⟨ps, n⟩ vs D ha ⟨h7, h4⟩ hq -
  obtain ⟨v0, v1, rfl, d0, d1⟩ := all2_2 ha
  have d1' := Dt.int_inv d1
  subst d1'
  show tSeq _ _ D [some v0, some (.int n), none, none, none, none] H
  have e0 : EvX (tLst (tCons (tTup tNil) tNil)) [some v0, some (.int n), none, none, none, none] H (dM [.tuple []]) :=
    em_lst (ds := [.tuple []]) (ea_cons (ed_tup (ds := []) ea_nil (Nat.zero_le _)) ea_nil) (by decide)
  refine q_asg e0 (Same.refl _) fun v2 H1 s1 d2 => ?_
  refine q_for (ei_range1 (n := n) (ed_var (i := 1) rfl (.int _)) (by omega)) (Same.refl _) fun H2 s2 => ?_
  refine ⟨fun i σ' H' => ∃ v2 v3, σ' = [some v0, some (.int n), some v2, v3, none, none] ∧ Same H2 H' ∧ dM ((choicesF ps i).map encC) H H' v2, ?_, ?_, ?_, ?_⟩
  · exact ⟨v2, none, rfl, Same.refl _, Mo.mo d2 s2 fun _ z => z⟩
  · rintro i σ' H' _ ⟨_, _, _, s', _⟩
    exact kp_same s2 s'
  · rintro i a x σ' H' H'' hi ⟨v2, v3, rfl, s', d⟩ sy dx
    have hi' : i < n := by simpa using (List.getElem?_eq_some_iff.mp hi).1
    have sH : Same H H'' := ((s1.trans s2).trans s').trans sy
    have dl : dL K ((choicesF ps i).map encC) H'' H'' v2 := mL d sy
    have small := choices_small (ps := ps) (n := i + 1) h7 (by omega)
    show tAsg _ (gName 2) _ [some v0, some (.int n), some v2, some x, none, none] H''
    have ec : EvX (tLc2 (iList K (tVar 2)) (gName 4) tYes (iList K (tVar 0)) (gName 5) (tTest (tOp (rIn K true) (tVar 5) (tVar 4))) (tOp (rCatA K) (tVar 4) (tTup (tCons (tVar 5) tNil))) [4, 5] [5])
        [some v0, some (.int n), some v2, some x, none, none] H'' (dM ((choicesF ps (i + 1)).map encC)) := by
      have q := ev_lc2 (σ := [some v0, some (.int n), some v2, some x, none, none]) (H := H'') (j := 4) (j1 := 5) (as := choicesF ps i) (bs := fun _ => ps) (δ := fun c => dD (encC c)) (δ1 := fun _ p => dD (nI p))
        (p := fun c p => !decide (p ∈ c)) (f := fun c p => dD (encC (c ++ [p]))) (wi := iList K (tVar 2)) (wi1 := iList K (tVar 0)) (tt := tTest (tOp (rIn K true) (tVar 5) (tVar 4))) (te := tOp (rCatA K) (tVar 4) (tTup (tCons (tVar 5) tNil))) (by decide)
        (ei_listL (i := 2) rfl dl) ?_ ?_ ?_
      · have q' := ev_m q
        rw [chStep_map] at q'
        exact q'
      · have e := congrArg List.length (chStep_map ps (choicesF ps i))
        rw [List.length_map, List.length_map] at e
        rw [e]
        exact small_line (by have := small; simp only [choicesF] at this; omega)
      · intro c x' G hc sG dc
        exact ei_listL (i := 0) rfl (lL d0 (sH.trans sG))
      · intro c x' p y G hc hp sG dc dp
        refine ⟨et_test (ed_notinN (ed_var (i := 5) rfl dp) (ed_var (i := 4) rfl dc)), fun _ => ?_⟩
        rw [encC_app]
        refine ed_cat (ed_var (i := 4) rfl dc) (ed_tup (ds := [nI p]) (ea_cons (ed_var (i := 5) rfl dp) ea_nil) (small_line (by simp))) (small_line ?_)
        have := choices_mem_len hc
        rw [List.length_map]
        simp
        omega
    refine s_asg ec (Same.refl _) fun v2' H3 s3 d3 => ⟨v2', some x, rfl, (s'.trans sy).trans s3, Mo.mo d3 (Same.refl _) fun _ z => sH.free z⟩
  · rintro σ' H' ⟨v2, v3, rfl, s', d⟩
    rw [List.length_range] at d
    refine s_ret (ev_var (i := 2) rfl) (Same.refl _) fun v H3 s3 d3 => ?_
    cases d3
    exact hq _ _ (((s1.trans s2).trans s').trans s3) (Mo.mo d s3 fun _ z => z)
abbrev sIsAsc : Stmt := topS 9
def spIsAsc : Sp := spOf (R := List Nat) (fun c => [dD (encC c)]) (fun c _ => c.length ≤ 1000) (fun c => dD (.bool (isAscF c)))
theorem scIsAsc : FnScope ["choice", "k"] ["choice"] (defScope sIsAsc) := ⟨rfl, rfl, rfl, by decide +kernel, rfl, by decide +kernel, by decide +kernel⟩
theorem ok_isAsc {f : Addr} {fd : FuncData} (Fn : Fun K "is_ascending" "is_ascending" sIsAsc f fd) (T : Txt K mg) : FnOk P w K mg base CX0 1 f fd ["choice"] spIsAsc := by
  have nd := scIsAsc.nd
  refine okD Fn scIsAsc (fun _ => rfl) fun cdv A outer s H E hr => ⟨_, (pss_one (ps_ret (pe_callB (cr_allK (K := K) rfl) (by rfl) T.all (by decide +kernel) (pa_cons (pe_lc (own := [("k", 1)]) rfl nd (pi_range2 rfl T.range (pa_cons pe_int (pa_cons (pe_callB (call_lenK (K := K)) (by rfl) T.len PySem.boot_len (pa_cons (pv 0) pa_nil)) pa_nil))) (blkOk_by (by kernel_rfl)) (fun _ _ _ _ _ => (pg_name (i := 1) nd rfl (by first | exact Or.inl rfl | exact Or.inr rfl))) (fun _ _ _ _ _ => pts_nil) (fun _ _ _ _ _ => (pe_cmpR op_lt (pe_ix (ix_tupK (K := K)) (pv 0) (pe_op op_sub (pv 1) pe_int) (fun _ _ => rfl)) (pe_ix (ix_tupK (K := K)) (pv 0) (pv 1) (fun _ _ => rfl)) (nomark _)))) pa_nil)))), ?_⟩
  rintro c vs D ha hlen hq -
  obtain ⟨v0, rfl, d0⟩ := all2_1 ha
  refine s_ret (δ := dD (.bool (isAscF c))) ((ed_all (ev_l (em_lcmE (enc := .bool) (as := List.range ((c.length : Int) - 1).toNat) (f := fun i => decide (c.getD i 0 < c.getD (i + 1) 0)) (ei_range2 ed_int (ed_lenC (ed_var (i := 0) rfl d0)) (by omega) ?_) ?_ ?_))).to ?_) (Same.refl _) hq
  · omega
  · rw [List.length_range]; exact small_line (by omega)
  · intro i x H' hi sH dx
    have hi' : i < c.length - 1 := by have := List.mem_range.mp hi; omega
    have d0' := d0.up sH
    refine (ed_cmp (ed_ixC (K := K) (k := i) (ed_var (i := 0) rfl d0') (ed_op0 (ed_var (i := 1) rfl dx) ed_int) (by omega) (by omega)) (ed_ixC (K := K) (k := i + 1) (ed_var (i := 0) rfl d0') (ed_var (i := 1) rfl dx) (by omega) (by omega))).to ?_
    exact congrArg (fun b => dD (.bool b)) (dec_nat_lt _ _)
  · unfold isAscF
    have e : ((c.length : Int) - 1).toNat = c.length - 1 := by omega
    rw [e]
abbrev sPlaces : Stmt := topS 10
def spPlaces : Sp := spOf (R := Rel × Nat) (fun r => [dD (encR r.1), dD (nI r.2)]) (fun r _ => GoodR r.1 ∧ r.2 ≤ 6) (fun r => dM ((placesF r.1 r.2).map encC))
theorem scPlaces : FnScope ["relation", "point", "arity", "choice", "found"] ["relation", "point"] (defScope sPlaces) := ⟨rfl, rfl, rfl, by decide +kernel, rfl, by decide +kernel, by decide +kernel⟩
theorem ok_places {f : Addr} {fd : FuncData} (Fn : Fun K "places" "places" sPlaces f fd) (T : Txt K mg) (h_choices : Dl P w K mg base "choices" 1 ["points", "count"] (spChoices K)) (h_is_ascending : Dl P w K mg base "is_ascending" 1 ["choice"] spIsAsc) :
    FnOk P w K mg base CX0 2 f fd ["relation", "point"] spPlaces := by
  have nd := scPlaces.nd
  refine okD Fn scPlaces (fun _ => rfl) fun cdv A outer s H E hr => ⟨_, (pss_cons (ps_set (i := 2) nd rfl (by first | exact Or.inl rfl | exact Or.inr rfl) (pe_ix (ix_tupK (K := K)) (pv 0) pe_int (fun _ _ => rfl)))
    (pss_cons (ps_setLc (i := 4) (own := [("choice", 3)]) rfl nd rfl rfl (sw_true rfl rfl rfl (by decide +kernel)) (pi_listK (K := K) (pe_dl h_choices (hr.mono (by omega)) rfl (pa_cons (pe_listRg rfl rfl T.list (prg_1 rfl T.range (pe_op op_add (pv 1) pe_int))) (pa_cons (pv 2) pa_nil)))) (blkOk_by (by kernel_rfl)) (fun _ _ _ _ _ => (pg_name (i := 3) nd rfl (by first | exact Or.inl rfl | exact Or.inr rfl))) (fun _ _ _ _ _ => (pts_one (pt_cmpR (op_inK (K := K)) (pv 1) (pv 3) (by rfl)))) (fun _ _ _ _ _ => (pv 3)))
    (pss_cons (ps_if (pt_val (pe_ix (ix_tupK (K := K)) (pv 0) pe_int (fun _ _ => rfl))) (pss_one (ps_setLc (i := 4) (own := [("choice", 3)]) rfl nd rfl rfl (sw_true rfl rfl rfl (by decide +kernel)) (pi_listK (K := K) (pv 4)) (blkOk_by (by kernel_rfl)) (fun _ _ _ _ _ => (pg_name (i := 3) nd rfl (by first | exact Or.inl rfl | exact Or.inr rfl))) (fun _ _ _ _ _ => (pts_one (pt_val (pe_dl h_is_ascending (hr.mono (by omega)) rfl (pa_cons (pv 3) pa_nil))))) (fun _ _ _ _ _ => (pv 3)))) pss_nil)
    (pss_one (ps_ret (pv 4)))))), ?_⟩
  rintro ⟨r, p⟩ vs D ha ⟨gr, hp⟩ hq -
  have gr : GoodR r := gr
  have hp : p ≤ 6 := hp
  have ha3 := gr.ar3
  obtain ⟨v0, v1, rfl, d0, d1⟩ := all2_2 ha
  have small := choices_small (ps := List.range (p + 1)) (n := r.ar) (by rw [List.length_range]; omega) (by omega)
  refine q_asg (ed_ixT (d := nI r.ar) (ed_var (i := 0) rfl d0) ed_int rfl) (Same.refl _) fun v2 H1 s1 d2 => ?_
  refine q_asg (δ := dM (((choicesF (List.range (p + 1)) r.ar).filter fun c => decide (p ∈ c)).map encC)) ?_ (Same.refl _) fun v4 H2 s2 d4 => ?_
  · refine em_lcS (ei_listM (as := choicesF (List.range (p + 1)) r.ar) (enc := encC) (ev_call (List.range (p + 1), r.ar) (ea_cons (ev_l (em_listRg (n := p + 1) (ed_op0 (ed_var (i := 1) rfl (d1.up s1)) ed_int) (by omega))) (ea_cons (ed_var (i := 2) rfl d2) ea_nil)) fun _ _ => ⟨by rw [List.length_range]; omega, by show r.ar ≤ 4; omega⟩)) (small_line (by omega)) ?_
    intro c x H' hc sH dx
    exact ⟨et_test (ed_inN (ed_var (i := 1) rfl (d1.up (s1.trans sH))) (ed_var (i := 3) rfl dx)), fun _ => ed_var (i := 3) rfl dx⟩
  have s02 := s1.trans s2
  have lens : ((choicesF (List.range (p + 1)) r.ar).filter fun c => decide (p ∈ c)).length ≤ 2401 := Nat.le_trans (List.length_filter_le _ _) small
  refine q_if (b := r.sym) (et_B (ed_ixT (d := .bool r.sym) (ed_var (i := 0) rfl (d0.up s02)) ed_int rfl)) (Same.refl _) (fun hb H3 s3 => ?_) fun hb H3 s3 => ?_
  · refine s_asg (δ := dM ((((choicesF (List.range (p + 1)) r.ar).filter fun c => decide (p ∈ c)).filter isAscF).map encC)) ?_ (Same.refl _) fun v4' H4 s4 d4' => ?_
    · refine em_lcS (ei_listL (i := 4) rfl (mL d4 s3)) (small_line (by omega)) ?_
      intro c x H' hc sH dx
      have hc' := choices_mem_len (List.mem_filter.mp hc).1
      exact ⟨et_B (ev_call c (ea_cons (ed_var (i := 3) rfl dx) ea_nil) fun _ _ => by show c.length ≤ 1000; omega), fun _ => ed_var (i := 3) rfl dx⟩
    · refine s_ret (ev_var (i := 4) rfl) (Same.refl _) fun v H5 s5 d5 => ?_
      cases d5
      refine hq _ _ ((s02.trans s3).trans (s4.trans s5)) ?_
      have e : placesF r p = ((choicesF (List.range (p + 1)) r.ar).filter fun c => decide (p ∈ c)).filter isAscF := by unfold placesF; rw [hb]; rfl
      show dM ((placesF r p).map encC) _ _ _
      rw [e]
      exact Mo.mo d4' s5 fun _ z => (s02.trans s3).free z
  · refine s_next ?_
    refine s_ret (ev_var (i := 4) rfl) (Same.refl _) fun v H5 s5 d5 => ?_
    cases d5
    refine hq _ _ ((s02.trans s3).trans s5) ?_
    have e : placesF r p = (choicesF (List.range (p + 1)) r.ar).filter fun c => decide (p ∈ c) := by unfold placesF; rw [hb]; rfl
    show dM ((placesF r p).map encC) _ _ _
    rw [e]
    exact Mo.mo d4 (s3.trans s5) fun _ z => s1.free z
end
end D18
set_option Elab.async false
set_option linter.all false
set_option maxRecDepth 100000
set_option maxHeartbeats 8000000
/-! Pg2: is_part, index_of, all_parts, count_layers, ask_layers, layers. -/
namespace D18
open PySem L2
section
variable {P : Program} {w : World} {K : PySem.W.Frag} {mg : Str → Option Value} {base : Heap}

abbrev sIsPart : Stmt := topS 13
def spIsPart : Sp := spOf (R := List Nat × Nat) (fun r => [dD (encC r.1), dD (nI r.2), dD (nI r.1.length)]) (fun r _ => ∀ x ∈ r.1, x < r.2) (fun _ => dD (.bool true))
theorem scIsPart : FnScope ["values", "count", "length", "number"] ["values", "count", "length"] (defScope sIsPart) := ⟨rfl, rfl, rfl, by decide +kernel, rfl, by decide +kernel, by decide +kernel⟩
theorem ok_isPart {f : Addr} {fd : FuncData} (Fn : Fun K "is_part" "is_part" sIsPart f fd) (T : Txt K mg) : FnOk P w K mg base CX0 1 f fd ["values", "count", "length"] spIsPart := by
  have nd := scIsPart.nd
  refine okD Fn scIsPart (fun _ => rfl) fun cdv A outer s H E hr => ⟨_, (pss_cons (ps_if (PW.pt (pw_or (pt_not (pt_val (pe_callB (call_isiKk (K := K)) (by rfl) T.isinstance (by decide +kernel) (pa_cons (pv 0) (pa_cons (pe_bltn (v := .ty "tuple") (by rfl) T.tuple (by decide +kernel) rfl) pa_nil))))) (pw_or1 (pt_cmpR op_ne (pe_callB (call_lenK (K := K)) (by rfl) T.len PySem.boot_len (pa_cons (pv 0) pa_nil)) (pv 2) (nomark _))))) (pss_one (ps_ret pe_bl)) pss_nil)
    (pss_cons (ps_for PassesOwn.never rfl (pi_tupK (K := K) (pv 0)) (pg_name (i := 3) nd rfl (by first | exact Or.inl rfl | exact Or.inr rfl))
      (pss_one (ps_if (PW.pt (pw_or (pt_not (pt_val (pe_callB (call_isiKk (K := K)) (by rfl) T.isinstance (by decide +kernel) (pa_cons (pv 3) (pa_cons (pe_bltn (v := .ty "int") (by rfl) T.int (by decide +kernel) rfl) pa_nil))))) (pw_or1 (pt_not (pt_chain op_le op_lt pe_int (pv 3) (pv 1)))))) (pss_one (ps_ret pe_bl)) pss_nil)))
    (pss_one (ps_ret pe_bl)))), ?_⟩
  rintro ⟨c, m⟩ vs D ha hm hq -
  obtain ⟨v0, v1, v2, rfl, d0, d1, d2⟩ := all2_3 ha
  refine q_no (et_or (a := false) (b := false) (et_not (a := true) (et_B (ed_isi (ed_var (i := 0) rfl d0) ev_c kTT))) fun _ => et_test (dB_to (ed_neI (ed_lenC (ed_var (i := 0) rfl d0)) (ed_var (i := 2) rfl d2)) (by simp))) (Same.refl _) fun H1 s1 => ?_
  refine q_for (ei_tup (as := c) (enc := nI) (ed_var (i := 0) rfl (d0.up s1))) (Same.refl _) fun H2 s2 => ?_
  refine ⟨fun i σ' H' => (∃ v3, σ' = [some v0, some v1, some v2, v3]) ∧ Same H2 H', ⟨⟨none, rfl⟩, Same.refl _⟩, fun i σ' H' _ h => kp_same s2 h.2, ?_, ?_⟩
  · rintro i x v σ' H' H'' hx ⟨⟨v3, rfl⟩, s'⟩ sy dx
    have lt := hm x (List.mem_of_getElem? hx)
    have d1' := d1.up ((s1.trans s2).trans (s'.trans sy))
    refine s_no (et_or (a := false) (b := false) (et_not (a := true) (et_B (ed_isi (ed_var (i := 3) rfl dx) ev_c kII))) fun _ => et_not (a := true) (et_test (dB_to (ed_chain ed_int (ed_var (i := 3) rfl dx) (ed_var (i := 1) rfl d1')) (by simp; omega)))) (Same.refl _) fun H3 s3 => ?_
    exact ⟨⟨some v, rfl⟩, (s'.trans sy).trans s3⟩
  · rintro σ' H' ⟨⟨v3, rfl⟩, s'⟩
    refine s_ret ed_bl (Same.refl _) fun v H3 s3 d3 => hq v H3 (((s1.trans s2).trans s').trans s3) d3
theorem valV_out {κ : Type} [DecidableEq κ] {kvs : List (κ × V)} {k : κ} (h : k ∉ kvs.map (·.1)) : valV kvs k = none := by
  induction kvs with
  | nil => rfl
  | cons p r ih =>
    rw [List.map_cons, List.mem_cons, not_or] at h
    rw [valV_neg fun e => h.1 e.symm]
    exact ih h.2
theorem keys_inj {c d : List Nat} (h : (c.map fun n : Nat => (Sum.inl (n : Int) : Key)) = d.map fun n : Nat => (Sum.inl (n : Int) : Key)) : c = d := by
  apply nat_of_cast
  have h2 := congrArg (List.map fun k : Key => match k with | .inl i => i | .inr _ => 0) h
  rw [List.map_map, List.map_map] at h2
  exact h2
theorem key_vals (c : List Nat) : (c.map fun n : Nat => (Sum.inl (n : Int) : Key)).map kV = (c.map fun n : Nat => (n : Int)).map V.int := by rw [List.map_map, List.map_map]; rfl
/-- the data of a tuple of numbers -/
theorem encC_inv {H : Hp} {v : V} {c : List Nat} (h : Dt H v (encC c)) : ∃ a, v = .ref a ∧ H a = some (.tup ((c.map fun n : Nat => (n : Int)).map V.int)) := by
  obtain ⟨a, xs, rfl, e, r⟩ := Dt.tup_inv h
  rw [map_nI] at r
  rw [r.ints] at e
  exact ⟨a, rfl, e⟩
theorem idx_take (row : List (List Nat)) (i : Nat) : ∀ {ci : List Nat × Nat}, row.zipIdx[i]? = some ci → ((row.zipIdx.take i).map fun ci : List Nat × Nat => ((ci.1.map fun n : Nat => (Sum.inl (n : Int) : Key)), V.int (ci.2 : Nat))) ++ [((ci.1.map fun n : Nat => (Sum.inl (n : Int) : Key)), V.int (ci.2 : Nat))] =
    (row.zipIdx.take (i + 1)).map fun ci : List Nat × Nat => ((ci.1.map fun n : Nat => (Sum.inl (n : Int) : Key)), V.int (ci.2 : Nat)) := by
  intro ci h
  rw [take_succ_get h, List.map_append]; rfl
abbrev sIndexOf : Stmt := topS 31
def spIndexOf (K : PySem.W.Frag) : Sp := spOf (R := List (List Nat)) (fun r => [dL K (r.map encC)]) (fun r _ => r.Nodup ∧ r.length ≤ 3000) (fun r => dX r)
theorem scIndexOf : FnScope ["row", "position", "item"] ["row"] (defScope sIndexOf) := ⟨rfl, rfl, rfl, by decide +kernel, rfl, by decide +kernel, by decide +kernel⟩
theorem ok_indexOf {f : Addr} {fd : FuncData} (Fn : Fun K "index_of" "index_of" sIndexOf f fd) (T : Txt K mg) : FnOk P w K mg base CX0 1 f fd ["row"] (spIndexOf K) := by
  have nd := scIndexOf.nd
  refine okD Fn scIndexOf (fun _ => rfl) fun cdv A outer s H E hr => ⟨_, (pss_one (ps_ret (pe_dcT (own := [("position", 1), ("item", 2)]) (hu_of hr) rfl nd (pi_enumK (K := K) (by rfl) T.enumerate (pa_cons (pv 0) pa_nil)) (blkOk_by (by kernel_rfl)) (fun _ _ _ _ _ => (pg_tupK (K := K) (n := 2) rfl (pgs_cons (pg_name (i := 1) nd rfl (by first | exact Or.inl rfl | exact Or.inr rfl)) (pgs_cons (pg_name (i := 2) nd rfl (by first | exact Or.inl rfl | exact Or.inr rfl)) pgs_nil)))) (fun _ _ _ _ _ => pts_nil) (fun _ _ _ _ _ => (pv 2)) (fun _ _ _ _ _ => (pv 1))))), ?_⟩
  rintro row vs D ha ⟨hnd, hlen⟩ hq -
  obtain ⟨v0, rfl, d0⟩ := all2_1 ha
  have d0' : dL K (row.map encC) H H v0 := d0
  show tRet _ D [some v0, none, none] H
  unfold tRet tDcT
  refine ei_enumL (K := K) (i := 0) rfl d0' H (Same.refl _) _ fun J H2 s2 wk => ?_
  intro D' hD
  refine ⟨fun i m H' => m = row.zipIdx.length - i ∧ i ≤ row.zipIdx.length ∧ Same H2 H' ∧ H' D' = some (.dT ((row.zipIdx.take i).map fun ci : List Nat × Nat => ((ci.1.map fun n : Nat => (Sum.inl (n : Int) : Key)), V.int (ci.2 : Nat)))),
    ⟨_, rfl, Nat.zero_le _, same_new hD, upd_same⟩, ?_⟩
  rintro i m H' ⟨rfl, hi, s', hdict⟩
  have kk : Kp H H H2 H' := kp_same s2 s'
  by_cases hlt : i < row.zipIdx.length
  case neg =>
    have ei : i = row.zipIdx.length := by omega
    subst ei
    rw [List.take_length] at hdict
    exact .inl ⟨wk.stops H' kk, hq _ _ (s2.trans s') ⟨D', rfl, s2.free hD, hdict⟩⟩
  case pos =>
    refine .inr ⟨wk.goes i H' hlt kk, fun H'' => Same H2 H'' ∧ H'' D' = some (.dT ((row.zipIdx.take (i + 1)).map fun ci : List Nat × Nat => ((ci.1.map fun n : Nat => (Sum.inl (n : Int) : Key)), V.int (ci.2 : Nat)))),
      fun H'' h => ⟨row.zipIdx.length - (i + 1), by omega, rfl, hlt, h⟩, fun x H'' y => ?_⟩
    obtain ⟨sy, hx⟩ := wk.yields i H' x H'' hlt kk y
    have eg : row.zipIdx[i]? = some (row.zipIdx[i]) := List.getElem?_eq_getElem hlt
    have dd := hx _ eg
    generalize hci : row.zipIdx[i] = ci at eg dd
    obtain ⟨c, k⟩ := ci
    obtain ⟨a, y1, y2, rfl, ea, e1, e2⟩ := dt2 dd
    obtain ⟨b, rfl, eb⟩ := encC_inv e2
    cases Dt.int_inv e1
    refine g_tup2 ea ⟨rfl, ?_⟩
    refine ⟨_, rfl, _, rfl, _, c.map (fun n : Nat => (Sum.inl (n : Int) : Key)), b, rfl, by rw [key_vals]; exact eb, sy _ _ hdict, small_lt ?_, ?_⟩
    · rw [List.length_map]
      have := List.length_take_le i row.zipIdx
      rw [List.length_zipIdx] at hi
      omega
    · have new : valV ((row.zipIdx.take i).map fun ci : List Nat × Nat => ((ci.1.map fun n : Nat => (Sum.inl (n : Int) : Key)), V.int (ci.2 : Nat))) (c.map fun n : Nat => (Sum.inl (n : Int) : Key)) = none := by
        apply valV_out
        intro hmem
        rw [List.map_map] at hmem
        obtain ⟨cj, hcj, ecj⟩ := List.mem_map.mp hmem
        have ecj' : cj.1 = c := keys_inj ecj
        obtain ⟨j, hj, ej⟩ := List.mem_iff_getElem.mp hcj
        rw [List.getElem_take] at ej
        rw [List.length_take] at hj
        have hj' : j < row.zipIdx.length := by omega
        have gj : row.zipIdx[j]? = some cj := by rw [List.getElem?_eq_getElem hj', ej]
        rw [List.getElem?_zipIdx] at gj eg
        obtain ⟨x1, r1, q1⟩ := Option.map_eq_some_iff.mp gj
        obtain ⟨x2, r2, q2⟩ := Option.map_eq_some_iff.mp eg
        have ec1 : x1 = c := by rw [← ecj', ← q1]
        have ec2 : x2 = c := by injection q2
        have : j = i := (List.getElem?_inj (by rw [List.length_zipIdx] at hj'; exact hj') hnd).mp (r1.trans (by rw [ec1, ← ec2]; exact r2.symm))
        omega
      refine ⟨same_mut (s'.trans sy) hD, ?_⟩
      rw [upd_same, putK_new _ new, idx_take row i eg]
end
end D18
set_option Elab.async false
set_option linter.all false
set_option maxRecDepth 100000
set_option maxHeartbeats 8000000
/-! Pg3: all_parts, count_layers, ask_layers, layers. -/
namespace D18
open PySem L2
section
variable {P : Program} {w : World} {K : PySem.W.Frag} {mg : Str → Option Value} {base : Heap}

abbrev sAllParts : Stmt := topS 22
def spAllParts : Sp := spOf (R := Nat × Nat) (fun r => [dD (nI r.1), dD (nI r.2)]) (fun r _ => 1 ≤ r.1 ∧ r.1 ≤ 1000 ∧ r.2 ≤ 100000 ∧ r.1 ^ r.2 ≤ 16000000) (fun r => dM ((partsF r.1 r.2).map encC))
theorem scAllParts : FnScope ["count", "length", "found", "_", "start", "number"] ["count", "length"] (defScope sAllParts) := ⟨rfl, rfl, rfl, by decide +kernel, rfl, by decide +kernel, by decide +kernel⟩
theorem parts_mem_len {c : Nat} : ∀ {n : Nat} {x : List Nat}, x ∈ partsF c n → x.length = n
  | 0, x, h => by simp [partsF] at h; rw [h]; rfl
  | n + 1, x, h => by
    obtain ⟨y, h1, h2⟩ := List.mem_flatMap.mp (show x ∈ ptStep c (partsF c n) from h)
    obtain ⟨p, _, rfl⟩ := List.mem_map.mp h2
    rw [List.length_append, parts_mem_len h1]; rfl
theorem ok_allParts {f : Addr} {fd : FuncData} (Fn : Fun K "all_parts" "all_parts" sAllParts f fd) (T : Txt K mg) : FnOk P w K mg base CX0 1 f fd ["count", "length"] spAllParts := by
  have nd := scAllParts.nd
  refine okD Fn scAllParts (fun _ => rfl) fun cdv A outer s H E hr => ⟨_, (pss_cons (ps_set (i := 2) nd rfl (by first | exact Or.inl rfl | exact Or.inr rfl) (pe_lst (pa_cons (pe_tup pa_nil) pa_nil)))
    (pss_cons (ps_for PassesOwn.never rfl (pi_range1 rfl T.range (pa_cons (pv 1) pa_nil)) (pg_name (i := 3) nd rfl (by first | exact Or.inl rfl | exact Or.inr rfl))
      (pss_one (ps_setLc2 (i := 2) (own := [("start", 4), ("number", 5)]) (vs1 := [5]) rfl nd rfl rfl (sw_true rfl rfl rfl (by decide +kernel)) (pi_listK (K := K) (pv 2)) (blkOk_by (by kernel_rfl)) (by decide) (fun _ _ _ _ _ => (pg_name (i := 4) nd rfl (by first | exact Or.inl rfl | exact Or.inr rfl))) (fun _ _ _ _ _ => pts_nil) (fun _ _ _ _ _ => (pi_range1 rfl T.range (pa_cons (pv 0) pa_nil))) (fun _ _ _ _ _ => (pg_name (i := 5) nd rfl (by first | exact Or.inl rfl | exact Or.inr rfl))) (fun _ _ _ _ _ => pts_nil) (fun _ _ _ _ _ => (pe_op (op_catK (K := K)) (pv 4) (pe_tup (pa_cons (pv 5) pa_nil)))))))
    (pss_one (ps_ret (pv 2))))), ?_⟩
  rintro ⟨c, n⟩ vs D ha ⟨hc1, hc2, hn, hsz⟩ hq -
  have hc1 : 1 ≤ c := hc1
  have hc2 : c ≤ 1000 := hc2
  have hn : n ≤ 100000 := hn
  have hsz : c ^ n ≤ 16000000 := hsz
  obtain ⟨v0, v1, rfl, d0, d1⟩ := all2_2 ha
  cases Dt.int_inv d0
  cases Dt.int_inv d1
  refine q_asg (δ := dM [.tuple []]) (em_lst (ds := [.tuple []]) (ea_cons (ed_tup (ds := []) ea_nil (Nat.zero_le _)) ea_nil) (by decide)) (Same.refl _) fun v2 H1 s1 d2 => ?_
  refine q_for (ei_range1 (n := n) (ed_var (i := 1) rfl (.int _)) (by omega)) (Same.refl _) fun H2 s2 => ?_
  refine ⟨fun i σ' H' => ∃ v2 v3, σ' = [some (.int c), some (.int n), some v2, v3, none, none] ∧ Same H2 H' ∧ dM ((partsF c i).map encC) H H' v2, ⟨v2, none, rfl, Same.refl _, Mo.mo d2 s2 fun _ z => z⟩, ?_, ?_, ?_⟩
  · rintro i σ' H' _ ⟨_, _, _, s', _⟩
    exact kp_same s2 s'
  · rintro i a x σ' H' H'' hi ⟨v2, v3, rfl, s', d⟩ sy dx
    have hi' : i < n := by simpa using (List.getElem?_eq_some_iff.mp hi).1
    have sH : Same H H'' := ((s1.trans s2).trans s').trans sy
    have small : (partsF c (i + 1)).length ≤ 16000000 := by
      rw [partsF_len]
      exact Nat.le_trans (Nat.pow_le_pow_right hc1 hi') hsz
    show tAsg _ (gName 2) _ [some (.int c), some (.int n), some v2, some x, none, none] H''
    refine s_asg (δ := dM ((partsF c (i + 1)).map encC)) ?_ (Same.refl _) fun v2' H3 s3 d3 => ⟨v2', some x, rfl, (s'.trans sy).trans s3, Mo.mo d3 (Same.refl _) fun _ z => sH.free z⟩
    have q := ev_lc2 (σ := [some (.int c), some (.int n), some v2, some x, none, none]) (H := H'') (j := 4) (j1 := 5) (as := partsF c i) (bs := fun _ => List.range c) (δ := fun c => dD (encC c)) (δ1 := fun _ p => dD (nI p))
      (p := fun c p => true) (f := fun c p => dD (encC (c ++ [p]))) (wi := iList K (tVar 2)) (wi1 := iRng1 (tCons (tVar 0) tNil)) (tt := tYes) (te := tOp (rCatA K) (tVar 4) (tTup (tCons (tVar 5) tNil))) (by decide)
      (ei_listL (i := 2) rfl (mL d sy)) ?_ ?_ ?_
    · have q' := ev_m q
      rw [ptStep_map] at q'
      exact q'
    · have e := congrArg List.length (ptStep_map c (partsF c i))
      rw [List.length_map, List.length_map] at e
      rw [e]
      exact small_line small
    · intro c' x' G hc sG dc
      exact ei_range1 (n := c) (ed_var (i := 0) rfl (.int _)) (by omega)
    · intro c' x' p y G hc hp sG dc dp
      refine ⟨et_yes, fun _ => ?_⟩
      rw [encC_app]
      refine ed_cat (ed_var (i := 4) rfl dc) (ed_tup (ds := [nI p]) (ea_cons (ed_var (i := 5) rfl dp) ea_nil) (small_line (by simp))) (small_line ?_)
      have := parts_mem_len hc
      rw [List.length_map]
      simp
      omega
  · rintro σ' H' ⟨v2, v3, rfl, s', d⟩
    rw [List.length_range] at d
    refine s_ret (ev_var (i := 2) rfl) (Same.refl _) fun v H3 s3 d3 => ?_
    cases d3
    exact hq _ _ (((s1.trans s2).trans s').trans s3) (Mo.mo d s3 fun _ z => z)

abbrev sCount : Stmt := topS 21
def spCount (C : Addr) : Sp := spOf (R := Kd × Nat) (fun r => [dK C r.1, dD (nI r.2)]) (fun r _ => GoodRs r.1.rels ∧ r.2 ≤ 6) (fun r => dD (nI (countF r.1.rels r.2)))
theorem scCount : FnScope ["kind", "point", "count", "relation", "_"] ["kind", "point"] (defScope sCount) := ⟨rfl, rfl, rfl, by decide +kernel, rfl, by decide +kernel, by decide +kernel⟩
theorem pow_step (c v k : Nat) : c * v ^ k * v = c * v ^ (k + 1) := by rw [Nat.pow_succ, Nat.mul_assoc]
theorem ok_count {C : Addr} {f : Addr} {fd : FuncData} (Fn : Fun K "count_layers" "count_layers" sCount f fd) (T : Txt K mg) (KK : KC K C) (h_places : Dl P w K mg base "places" 2 ["relation", "point"] spPlaces) : FnOk P w K mg base CX0 3 f fd ["kind", "point"] (spCount C) := by
  have nd := scCount.nd
  refine okD Fn scCount (fun _ => rfl) fun cdv A outer s H E hr => ⟨_, (pss_cons (ps_set (i := 2) nd rfl (by first | exact Or.inl rfl | exact Or.inr rfl) pe_int)
    (pss_cons (ps_for PassesOwn.never rfl (pi_listK (K := K) (pe_fldK (K := K) (pv 0) rfl)) (pg_name (i := 3) nd rfl (by first | exact Or.inl rfl | exact Or.inr rfl))
      (pss_one (ps_for PassesOwn.never rfl (pi_listK (K := K) (pe_dl h_places (hr.mono (by omega)) rfl (pa_cons (pv 3) (pa_cons (pv 1) pa_nil)))) (pg_name (i := 4) nd rfl (by first | exact Or.inl rfl | exact Or.inr rfl))
      (pss_one (ps_aug (i := 2) nd rfl (by first | exact Or.inl rfl | exact Or.inr rfl) (pe_ix (ix_tupK (K := K)) (pv 3) pe_int (fun _ _ => rfl)) iop_mul)))))
    (pss_one (ps_ret (pv 2))))), ?_⟩
  rintro ⟨κ, p⟩ vs D ha ⟨hg, hp⟩ hq -
  have hg : GoodRs κ.rels := hg
  have hp : p ≤ 6 := hp
  obtain ⟨v0, v1, rfl, d0, d1⟩ := all2_2 ha
  obtain ⟨a, dx, fs, rfl, hk, kf⟩ := d0
  obtain ⟨vr, lr, dr⟩ := kf.rel
  refine q_asg (δ := dD (nI 1)) ed_int (Same.refl _) fun v2 H1 s1 d2 => ?_
  refine q_for (as := κ.rels) (ei_at (enc := encR) (ev_fld (ev_var (i := 0) rfl) (s1 _ _ hk) KK.cl KK.rel lr) (up dr s1)) (Same.refl _) fun H2 s2 => ?_
  refine ⟨fun i σ' H' => ∃ v3 v4, σ' = [some (.ref a), some v1, some (.int ((κ.rels.take i).foldl (cntStep p) 1 : Nat)), v3, v4] ∧ Same H2 H', ⟨none, none, by rw [Dt.int_inv d2]; rfl, Same.refl _⟩, fun i σ' H' _ ⟨_, _, _, s'⟩ => kp_same s2 s', ?_, ?_⟩
  · rintro i r v σ' H' H'' hr' ⟨v3, v4, rfl, s'⟩ sy dr'
    have gr := hg.good r (List.mem_of_getElem? hr')
    have sH : Same H H'' := ((s1.trans s2).trans s').trans sy
    generalize hc : (κ.rels.take i).foldl (cntStep p) 1 = c
    show tFor _ _ _ _ [some (.ref a), some v1, some (.int (c : Nat)), some v, v4] H''
    refine s_for (as := placesF r p) (ei_listM (enc := encC) (ev_call (r, p) (ea_cons (ed_var (i := 3) rfl dr') (ea_cons (ed_var (i := 1) rfl (d1.up sH)) ea_nil)) fun _ _ => ⟨gr, hp⟩)) (Same.refl _) fun H3 s3 => ?_
    refine ⟨fun k σ' H' => ∃ v4, σ' = [some (.ref a), some v1, some (.int ((c * r.vals ^ k : Nat) : Int)), some v, v4] ∧ Same H3 H', ⟨v4, by simp, Same.refl _⟩, fun k σ' H' _ ⟨_, _, s'⟩ => kp_same s3 s', ?_, ?_⟩
    · rintro k x y σ' H4 H5 hx ⟨v4, rfl, s4⟩ s5 dy
      refine s_aug (i := 2) (b := (r.vals : Int)) rfl (ed_ixT (d := nI r.vals) (ed_var (i := 3) rfl (dr'.up ((s3.trans s4).trans s5))) ed_int rfl) (Same.refl _) (.inr ⟨by have := gr.v3; omega, by have := gr.v3; omega⟩) fun H6 s6 => ?_
      refine ⟨some y, ?_, (s4.trans s5).trans s6⟩
      have e : ((c * r.vals ^ k : Nat) : Int) * (r.vals : Int) = ((c * r.vals ^ (k + 1) : Nat) : Int) := by rw [← pow_step]; exact (Int.natCast_mul _ _).symm
      rw [← e]
      rfl
    · rintro σ' H4 ⟨v4, rfl, s4⟩
      exact ⟨some v, v4, by rw [foldl_take_succ _ _ hr', hc]; rfl, (s'.trans sy).trans (s3.trans s4)⟩
  · rintro σ' H' ⟨v3, v4, rfl, s'⟩
    rw [List.take_length]
    refine s_ret (ev_var (i := 2) rfl) (Same.refl _) fun v H3 s3 d3 => ?_
    cases d3
    exact hq _ _ (((s1.trans s2).trans s').trans s3) (.int _)

abbrev sAsk : Stmt := topS 23
def spAsk (C : Addr) : Sp := spOf (R := Kd × Nat) (fun r => [dK C r.1, dD (nI r.2)]) (fun r _ => GoodRs r.1.rels ∧ r.2 ≤ 6 ∧ countF r.1.rels r.2 ≤ 4096) (fun r => dV .non)
theorem scAsk : FnScope ["kind", "point", "count"] ["kind", "point"] (defScope sAsk) := ⟨rfl, rfl, rfl, by decide +kernel, rfl, by decide +kernel, by decide +kernel⟩
theorem ok_ask {C : Addr} {f : Addr} {fd : FuncData} (Fn : Fun K "ask_layers" "ask_layers" sAsk f fd) (T : Txt K mg) (h_count_layers : Dl P w K mg base "count_layers" 3 ["kind", "point"] (spCount C)) : FnOk P w K mg base CX0 4 f fd ["kind", "point"] (spAsk C) := by
  have nd := scAsk.nd
  obtain ⟨tml, hML⟩ := T.ML
  refine okD Fn scAsk (fun _ => rfl) fun cdv A outer s H E hr => ⟨_, (pss_cons (ps_set (i := 2) nd rfl (by first | exact Or.inl rfl | exact Or.inr rfl) (pe_dl h_count_layers (hr.mono (by omega)) rfl (pa_cons (pv 0) (pa_cons (pv 1) pa_nil))))
    (pss_one (ps_if (pt_cmpR op_gt (pv 2) (pe_glob (v := .int 4096) rfl hML ⟨_, rfl⟩) (nomark _)) (pss_one ps_never) pss_nil))), ?_⟩
  rintro ⟨κ, p⟩ vs D ha ⟨hg, hp, hc⟩ - hq
  have hc : countF κ.rels p ≤ 4096 := hc
  obtain ⟨v0, v1, rfl, d0, d1⟩ := all2_2 ha
  refine q_asg (δ := dD (nI (countF κ.rels p))) (ev_call (κ, p) (ea_cons (δ := dK C κ) (fun H1 e Q q => ⟨v0, rfl, q v0 H1 (Same.refl _) (up d0 e)⟩) (ea_cons (ed_var (i := 1) rfl d1) ea_nil)) fun _ _ => ⟨hg, hp⟩) (Same.refl _) fun v2 H1 s1 d2 => ?_
  refine s_no (et_test (dB_to (ed_cmp (ed_var (i := 2) rfl d2) ed_int) (by simp; omega))) (Same.refl _) fun H2 s2 => ?_
  exact hq _ _ (s1.trans s2) rfl
theorem dN_at {α : Type} {f : α → De} {as : List α} {G H : Hp} {v : V} {i : Nat} {a : α} (h : dN f as G H v) (ha : as[i]? = some a) : ∃ q vs u, v = .ref q ∧ H q = some (.lst vs) ∧ vs[i]? = some u ∧ f a G H u := by
  obtain ⟨q, vs, rfl, _, hq, r⟩ := h
  have hlt : i < vs.length := by rw [Paired.length r]; exact (List.getElem?_eq_some_iff.mp ha).1
  obtain ⟨b, hb, fb⟩ := paired_get r (List.getElem?_eq_getElem hlt)
  rw [ha] at hb
  cases hb
  exact ⟨q, vs, _, rfl, hq, List.getElem?_eq_getElem hlt, fb⟩
theorem dK_var {C : Addr} {κ : Kd} {σ : L2.St} {H : Hp} {i : Nat} {v : V} (h : σ[i]? = some (some v)) (d : dK C κ Hn H v) : EvX (tVar i) σ H (dK C κ) := fun H1 e Q q => ⟨v, h, q v H1 (Same.refl _) (up (δ := dK C κ) (G := Hn) d e)⟩
abbrev sLayers : Stmt := topS 24
def spLayers (C : Addr) : Sp := spOf (R := Kd × Nat) (fun r => [dK C r.1, dD (nI r.2)]) (fun r _ => GoodRs r.1.rels ∧ r.2 ≤ 6 ∧ countF r.1.rels r.2 ≤ 4096) (fun r => dM ((layersF r.1.rels r.2).map encL))
theorem scLayers : FnScope ["kind", "point", "found", "relation", "row", "parts", "start", "values"] ["kind", "point"] (defScope sLayers) := ⟨rfl, rfl, rfl, by decide +kernel, rfl, by decide +kernel, by decide +kernel⟩
theorem layer_mem_len (p : Nat) : ∀ (rels : List Rel) (f : List (List (List Nat))) (k : Nat), (∀ x ∈ f, x.length = k) → ∀ x ∈ rels.foldl (layStep p) f, x.length = k + rels.length
  | [], f, k, h, x, hx => h x hx
  | r :: rs, f, k, h, x, hx => by
    rw [List.foldl_cons] at hx
    have := layer_mem_len p rs (layStep p f r) (k + 1) (fun y hy => by
      obtain ⟨z, h1, h2⟩ := List.mem_flatMap.mp hy
      obtain ⟨v, _, rfl⟩ := List.mem_map.mp h2
      rw [List.length_append, h z h1]; rfl) x hx
    rw [this, List.length_cons]; omega
theorem ok_layers {C : Addr} {f : Addr} {fd : FuncData} (Fn : Fun K "layers" "layers" sLayers f fd) (T : Txt K mg) (KK : KC K C) (h_ask_layers : Dl P w K mg base "ask_layers" 4 ["kind", "point"] (spAsk C)) (h_all_parts : Dl P w K mg base "all_parts" 1 ["count", "length"] spAllParts) :
    FnOk P w K mg base CX0 5 f fd ["kind", "point"] (spLayers C) := by
  have nd := scLayers.nd
  refine okD Fn scLayers (fun _ => rfl) fun cdv A outer s H E hr => ⟨_, (pss_cons (ps_expr (pe_dl h_ask_layers (hr.mono (by omega)) rfl (pa_cons (pv 0) (pa_cons (pv 1) pa_nil))))
    (pss_cons (ps_set (i := 2) nd rfl (by first | exact Or.inl rfl | exact Or.inr rfl) (pe_lst (pa_cons (pe_tup pa_nil) pa_nil)))
    (pss_cons (ps_for PassesOwn.never rfl (pi_zipK (K := K) (by rfl) T.zip (pa_cons (pe_fldK (K := K) (pv 0) rfl) (pa_cons (pe_ix (ix_listK (K := K)) (pe_fldK (K := K) (pv 0) rfl) (pv 1) (fun _ _ => rfl)) pa_nil))) (pg_tupK (K := K) (n := 2) rfl (pgs_cons (pg_name (i := 3) nd rfl (by first | exact Or.inl rfl | exact Or.inr rfl)) (pgs_cons (pg_name (i := 4) nd rfl (by first | exact Or.inl rfl | exact Or.inr rfl)) pgs_nil)))
      (pss_cons (ps_set (i := 5) nd rfl (by first | exact Or.inl rfl | exact Or.inr rfl) (pe_dl h_all_parts (hr.mono (by omega)) rfl (pa_cons (pe_ix (ix_tupK (K := K)) (pv 3) pe_int (fun _ _ => rfl)) (pa_cons (pe_callB (call_lenK (K := K)) (by rfl) T.len PySem.boot_len (pa_cons (pv 4) pa_nil)) pa_nil))))
    (pss_one (ps_setLc2 (i := 2) (own := [("start", 6), ("values", 7)]) (vs1 := [7]) rfl nd rfl rfl (sw_true rfl rfl rfl (by decide +kernel)) (pi_listK (K := K) (pv 2)) (blkOk_by (by kernel_rfl)) (by decide) (fun _ _ _ _ _ => (pg_name (i := 6) nd rfl (by first | exact Or.inl rfl | exact Or.inr rfl))) (fun _ _ _ _ _ => pts_nil) (fun _ _ _ _ _ => (pi_listK (K := K) (pv 5))) (fun _ _ _ _ _ => (pg_name (i := 7) nd rfl (by first | exact Or.inl rfl | exact Or.inr rfl))) (fun _ _ _ _ _ => pts_nil) (fun _ _ _ _ _ => (pe_op (op_catK (K := K)) (pv 6) (pe_tup (pa_cons (pv 7) pa_nil))))))))
    (pss_one (ps_ret (pv 2)))))), ?_⟩
  rintro ⟨κ, p⟩ vs D ha ⟨hg, hp, hc⟩ hq -
  have hg : GoodRs κ.rels := hg
  have hp : p ≤ 6 := hp
  have hc : countF κ.rels p ≤ 4096 := hc
  have hv1 : ∀ r ∈ κ.rels, 1 ≤ r.vals := fun r hr => (hg.good r hr).v1
  obtain ⟨v0, v1, rfl, d0, d1⟩ := all2_2 ha
  have d0' := d0
  obtain ⟨a, dx, fs, rfl, hk, kf⟩ := d0'
  obtain ⟨vr, lr, dr⟩ := kf.rel
  obtain ⟨vp, lp, dp⟩ := kf.pla
  obtain ⟨qr, vrs, rfl, _, hqr, rr⟩ := dr
  obtain ⟨qp, vps, up', rfl, hqp, gp, dup⟩ := dN_at (i := p) (a := p) dp (by rw [List.getElem?_range (by omega)])
  obtain ⟨qw, vws, rfl, _, hqw, rw'⟩ := dup
  refine q_drop (δ := dV .non) (ev_call (κ, p) (ea_cons (dK_var (i := 0) rfl d0) (ea_cons (ed_var (i := 1) rfl d1) ea_nil)) fun _ _ => ⟨hg, hp, hc⟩) (Same.refl _) fun _ H1 s1 _ => ?_
  refine q_asg (δ := dM [.tuple []]) (em_lst (ds := [.tuple []]) (ea_cons (ed_tup (ds := []) ea_nil (Nat.zero_le _)) ea_nil) (by decide)) (Same.refl _) fun v2 H2 s2 d2 => ?_
  have s02 := s1.trans s2
  refine q_for (as := κ.rels) (ei_zipV (f := fun r => dD (encR r)) (g := fun r => dRow (placesF r p)) (ev_fld (ev_var (i := 0) rfl) (s02 _ _ hk) KK.cl KK.rel lr)
    (ev_ixL (ev_fld (ev_var (i := 0) rfl) (s02 _ _ hk) KK.cl KK.pla lp) (ed_var (i := 1) rfl (d1.up s02)) (SqL.of (s02 _ _ hqp)) (atI_nat gp)) (SqL.of (s02 _ _ hqr)) (SqL.of (s02 _ _ hqw)) (of_dts (rr.up s02)) (paired_map rw' fun _ r d => up d s02)) (Same.refl _) fun H3 s3 => ?_
  refine ⟨fun i σ' H' => ∃ v2 v3 v4 v5, σ' = [some (.ref a), some v1, some v2, v3, v4, v5, none, none] ∧ Same H3 H' ∧ dM (((κ.rels.take i).foldl (layStep p) [[]]).map encL) H H' v2, ⟨v2, none, none, none, rfl, Same.refl _, Mo.mo d2 s3 fun _ z => s1.free z⟩, fun i σ' H' _ ⟨_, _, _, _, _, s', _⟩ => kp_same s3 s', ?_, ?_⟩
  · rintro i r x σ' H' H'' hr' ⟨v2, v3, v4, v5, rfl, s', d⟩ sy ⟨Tt, x1, x2, rfl, hT, dx1, dx2⟩
    have gr := hg.good r (List.mem_of_getElem? hr')
    have sH : Same H H'' := ((s02.trans s3).trans s').trans sy
    have lens := layers_len p (κ.rels.take i) [[]]
    have lens2 := layers_len p (κ.rels.take (i + 1)) [[]]
    have le1 := cnt_take p hv1 i
    have le2 := cnt_take p hv1 (i + 1)
    have e1 : ([[]] : List (List (List Nat))).length = 1 := rfl
    rw [e1] at lens lens2
    have small : r.vals ^ (placesF r p).length ≤ 4096 := by
      have := le2
      rw [foldl_take_succ _ _ hr'] at this
      have pos : 1 ≤ (κ.rels.take i).foldl (cntStep p) 1 := cnt_grow p _ 1 fun r hr => hv1 r (List.mem_of_mem_take hr)
      have h2 : r.vals ^ (placesF r p).length ≤ cntStep p ((κ.rels.take i).foldl (cntStep p) 1) r := Nat.le_mul_of_pos_left _ pos
      omega
    have pl := places_len gr hp
    refine g_tup2 hT ?_
    show tSeq _ _ _ [some (.ref a), some v1, some v2, some x1, some x2, v5, none, none] H''
    refine q_asg (δ := dM ((partsF r.vals (placesF r p).length).map encC)) (ev_call (r.vals, (placesF r p).length) (ea_cons (ed_ixT (d := nI r.vals) (ed_var (i := 3) rfl dx1) ed_int rfl) (ea_cons (ed_lenLm (K := K) (el_at (ev_var (i := 4) rfl) dx2)) ea_nil)) fun _ _ => ⟨gr.v1, by have := gr.v3; show r.vals ≤ 1000; omega, by show (placesF r p).length ≤ 100000; omega, by show r.vals ^ (placesF r p).length ≤ 16000000; omega⟩) (Same.refl _) fun v5' H4 s4 d5 => ?_
    refine s_asg (δ := dM (((κ.rels.take (i + 1)).foldl (layStep p) [[]]).map encL)) ?_ (Same.refl _) fun v2' H5 s5 d5' => ⟨v2', some x1, some x2, some v5', rfl, (s'.trans sy).trans (s4.trans s5), Mo.mo d5' (Same.refl _) fun _ z => (sH.trans s4).free z⟩
    rw [foldl_take_succ _ _ hr']
    generalize hF : (κ.rels.take i).foldl (layStep p) [[]] = F at d lens
    have flen : ∀ y ∈ F, y.length ≤ 3 := fun y hy => by
      have := layer_mem_len p (κ.rels.take i) [[]] 0 (fun z hz => by rw [List.mem_singleton] at hz; rw [hz]; rfl) y (by rw [hF]; exact hy)
      have : (κ.rels.take i).length ≤ κ.rels.length := by rw [List.length_take]; exact Nat.min_le_right _ _
      have := hg.few
      omega
    have q := ev_lc2 (σ := [some (.ref a), some v1, some v2, some x1, some x2, some v5', none, none]) (H := H4) (j := 6) (j1 := 7) (as := F) (bs := fun _ => partsF r.vals (placesF r p).length) (δ := fun c => dD (encL c)) (δ1 := fun _ p => dD (encC p))
      (p := fun c p => true) (f := fun c p => dD (encL (c ++ [p]))) (wi := iList K (tVar 2)) (wi1 := iList K (tVar 5)) (tt := tYes) (te := tOp (rCatA K) (tVar 6) (tTup (tCons (tVar 7) tNil))) (by decide)
      (ei_listL (i := 2) rfl (mL d (sy.trans s4))) ?_ ?_ ?_
    · have q' := ev_m q
      rw [layStep_map] at q'
      exact q'
    · have e := congrArg List.length (layStep_map p r F)
      rw [List.length_map, List.length_map, layStep_len, lens] at e
      rw [foldl_take_succ (cntStep p) 1 hr'] at le2
      rw [e]
      exact small_line (by omega)
    · intro c x' G hc sG dc
      exact ei_listL (i := 5) rfl (mL d5 sG)
    · intro c x' y z G hc' hy sG dc dy
      refine ⟨et_yes, fun _ => ?_⟩
      rw [encL_app]
      refine ed_cat (ed_var (i := 6) rfl dc) (ed_tup (ds := [encC y]) (ea_cons (ed_var (i := 7) rfl dy) ea_nil) (small_line (by simp))) (small_line ?_)
      have := flen c hc'
      rw [List.length_map]
      simp
      omega
  · rintro σ' H' ⟨v2, v3, v4, v5, rfl, s', d⟩
    rw [List.take_length] at d
    refine s_ret (ev_var (i := 2) rfl) (Same.refl _) fun v H5 s5 d5 => ?_
    cases d5
    exact hq _ _ (((s02.trans s3).trans s').trans s5) (Mo.mo d s5 fun _ z => z)
end
end D18
set_option Elab.async false
set_option linter.all false
set_option maxRecDepth 100000
set_option maxHeartbeats 8000000
/-! Pg4: is_layer, has_shape, value_at, value. -/
namespace D18
open PySem L2
section
variable {P : Program} {w : World} {K : PySem.W.Frag} {mg : Str → Option Value} {base : Heap}

theorem dts_paired {H : Hp} : ∀ {vs : List V} {ds : List PyData}, Dts H vs ds → Paired (Dt H) vs ds
  | _, _, .nil => .nil
  | _, _, .cons h r => .cons h (dts_paired r)
theorem paired_of_get {α β : Type} {F : α → β → Prop} : ∀ {l : List α} {m : List β}, l.length = m.length → (∀ (i : Nat) (a : α) (b : β), l[i]? = some a → m[i]? = some b → F a b) → Paired F l m
  | [], [], _, _ => .nil
  | [], _ :: _, h, _ => by simp at h
  | _ :: _, [], h, _ => by simp at h
  | a :: l, b :: m, h, f => .cons (f 0 a b rfl rfl) (paired_of_get (by simpa using h) fun i x y h1 h2 => f (i + 1) x y (by simpa using h1) (by simpa using h2))
theorem paired_zipIdx {β γ : Type} {F : β → γ → Prop} {vs : List β} {as : List γ} (h : Paired F vs as) : Paired (fun v ai => F v ai.1) vs as.zipIdx := by
  refine paired_of_get (by rw [List.length_zipIdx, Paired.length h]) fun i v ai h1 h2 => ?_
  rw [List.getElem?_zipIdx] at h2
  obtain ⟨a, ha, rfl⟩ := Option.map_eq_some_iff.mp h2
  obtain ⟨b, hb, q⟩ := paired_get h h1
  rw [ha] at hb
  cases hb
  exact q
abbrev sIsLayer : Stmt := topS 14
def spIsLayer (C : Addr) : Sp := spOf (R := Kd × Fa × Nat) (fun r => [dK C r.1, dD (encL (layerOf r.1.rels r.2.1 r.2.2)), dD (nI r.2.2)]) (fun r _ => GoodRs r.1.rels ∧ r.2.2 ≤ 6 ∧ GoodV r.1.rels r.2.1 (r.2.2 + 1)) (fun _ => dD (.bool true))
theorem scIsLayer : FnScope ["kind", "layer", "point", "relation", "values", "row"] ["kind", "layer", "point"] (defScope sIsLayer) := ⟨rfl, rfl, rfl, by decide +kernel, rfl, by decide +kernel, by decide +kernel⟩
theorem ok_isLayer {C : Addr} {f : Addr} {fd : FuncData} (Fn : Fun K "is_layer" "is_layer" sIsLayer f fd) (T : Txt K mg) (KK : KC K C) (h_is_part : Dl P w K mg base "is_part" 1 ["values", "count", "length"] spIsPart) : FnOk P w K mg base CX0 2 f fd ["kind", "layer", "point"] (spIsLayer C) := by
  have nd := scIsLayer.nd
  refine okD Fn scIsLayer (fun _ => rfl) fun cdv A outer s H E hr => ⟨_, (pss_cons (ps_if (PW.pt (pw_or (pt_not (pt_val (pe_callB (call_isiKk (K := K)) (by rfl) T.isinstance (by decide +kernel) (pa_cons (pv 1) (pa_cons (pe_bltn (v := .ty "tuple") (by rfl) T.tuple (by decide +kernel) rfl) pa_nil))))) (pw_or1 (pt_cmpR op_ne (pe_callB (call_lenK (K := K)) (by rfl) T.len PySem.boot_len (pa_cons (pv 1) pa_nil)) (pe_callB (call_lenK (K := K)) (by rfl) T.len PySem.boot_len (pa_cons (pe_fldK (K := K) (pv 0) rfl) pa_nil)) (nomark _))))) (pss_one (ps_ret pe_bl)) pss_nil)
    (pss_cons (ps_for PassesOwn.never rfl (pi_zip3 (K := K) (by rfl) T.zip (pa_cons (pe_fldK (K := K) (pv 0) rfl) (pa_cons (pv 1) (pa_cons (pe_ix (ix_listK (K := K)) (pe_fldK (K := K) (pv 0) rfl) (pv 2) (fun _ _ => rfl)) pa_nil)))) (pg_tupK (K := K) (n := 3) rfl (pgs_cons (pg_name (i := 3) nd rfl (by first | exact Or.inl rfl | exact Or.inr rfl)) (pgs_cons (pg_name (i := 4) nd rfl (by first | exact Or.inl rfl | exact Or.inr rfl)) (pgs_cons (pg_name (i := 5) nd rfl (by first | exact Or.inl rfl | exact Or.inr rfl)) pgs_nil))))
      (pss_one (ps_if (pt_not (pt_val (pe_dl h_is_part (hr.mono (by omega)) rfl (pa_cons (pv 4) (pa_cons (pe_ix (ix_tupK (K := K)) (pv 3) pe_int (fun _ _ => rfl)) (pa_cons (pe_callB (call_lenK (K := K)) (by rfl) T.len PySem.boot_len (pa_cons (pv 5) pa_nil)) pa_nil)))))) (pss_one (ps_ret pe_bl)) pss_nil)))
    (pss_one (ps_ret pe_bl)))), ?_⟩
  rintro ⟨κ, Φ, p⟩ vs D ha ⟨hg, hp, hv⟩ hq -
  have hg : GoodRs κ.rels := hg
  have hp : p ≤ 6 := hp
  have hv : GoodV κ.rels Φ (p + 1) := hv
  obtain ⟨v0, v1, v2, rfl, d0, d1, d2⟩ := all2_3 ha
  have d1 : Dt H v1 (encL (layerOf κ.rels Φ p)) := d1
  obtain ⟨a, dx, fs, rfl, hk, kf⟩ := d0
  obtain ⟨vr, lr, dr⟩ := kf.rel
  obtain ⟨vp, lp, dp⟩ := kf.pla
  have dr' := dr
  obtain ⟨qr, vrs, rfl, _, hqr, rr⟩ := dr
  obtain ⟨qp, vps, up', rfl, hqp, gp, dup⟩ := dN_at (i := p) (a := p) dp (by rw [List.getElem?_range (by omega)])
  obtain ⟨qw, vws, rfl, _, hqw, rw'⟩ := dup
  obtain ⟨b, us, rfl, hb, ru⟩ := Dt.tup_inv d1
  have ll : (layerOf κ.rels Φ p).length = κ.rels.length := by unfold layerOf; rw [List.length_map, List.length_zipIdx]
  have lll : (κ.rels.map encR).length = κ.rels.length := List.length_map _
  refine q_no (et_or (a := false) (b := false) (et_not (a := true) (et_B (ed_isi (ed_var (i := 1) rfl d1) ev_c kTT))) fun _ => et_test (dB_to (ed_neI (ed_lenTm (K := K) (ed_var (i := 1) rfl d1)) (ed_lenLm (K := K) (enc := encR) (as := κ.rels) (el_at (ev_fld (ev_var (i := 0) rfl) hk KK.cl KK.rel lr) dr'))) (by simp [ll]))) (Same.refl _) fun H1 s1 => ?_
  refine q_for (as := κ.rels.zipIdx) (ei_zip3V (f := fun ri : Rel × Nat => dD (encR ri.1)) (g := fun ri : Rel × Nat => dD (encC ((placesF ri.1 p).map fun c => Φ ri.2 c))) (h := fun ri : Rel × Nat => dRow (placesF ri.1 p)) (ev_fld (ev_var (i := 0) rfl) (s1 _ _ hk) KK.cl KK.rel lr) (ev_var (i := 1) rfl)
    (ev_ixL (ev_fld (ev_var (i := 0) rfl) (s1 _ _ hk) KK.cl KK.pla lp) (ed_var (i := 2) rfl (d2.up s1)) (SqL.of (s1 _ _ hqp)) (atI_nat gp)) (SqL.of (s1 _ _ hqr)) (s1 _ _ hb) (SqL.of (s1 _ _ hqw))
    (paired_zipIdx (of_dts (rr.up s1))) ?_ (paired_zipIdx (paired_map rw' fun _ r d => up d s1))) (Same.refl _) fun H2 s2 => ?_
  · have q := dts_paired (ru.up s1)
    unfold layerOf at q
    rw [List.map_map] at q
    exact of_dts (enc := fun ri : Rel × Nat => encC ((placesF ri.1 p).map fun c => Φ ri.2 c)) (ru.up s1 |> fun z => by unfold layerOf at z; rw [List.map_map] at z; exact z)
  refine ⟨fun i σ' H' => (∃ v3 v4 v5, σ' = [some (.ref a), some (.ref b), some v2, v3, v4, v5]) ∧ Same H2 H', ⟨⟨none, none, none, rfl⟩, Same.refl _⟩, fun i σ' H' _ h => kp_same s2 h.2, ?_, ?_⟩
  · rintro i ⟨r, j⟩ x σ' H' H'' hx ⟨⟨v3, v4, v5, rfl⟩, s'⟩ sy ⟨Tt, x1, x2, x3, rfl, hT, dx1, dx2, dx3⟩
    have hrj : κ.rels[j]? = some r := by
      rw [List.getElem?_zipIdx] at hx
      obtain ⟨r', hr', e⟩ := Option.map_eq_some_iff.mp hx
      cases e
      simpa using hr'
    refine g_tup3 hT ?_
    refine s_no (et_not (a := true) (et_B (ev_call (((placesF r p).map fun c => Φ j c), r.vals) (ea_cons (ed_var (i := 4) rfl dx2) (ea_cons (ed_ixT (d := nI r.vals) (ed_var (i := 3) rfl dx1) ed_int rfl) (ea_cons (dI_to (ed_lenLm (K := K) (el_at (ev_var (i := 5) rfl) dx3)) (by simp)) ea_nil))) fun _ _ => ?_))) (Same.refl _) fun H3 s3 => ?_
    · intro y hy
      obtain ⟨c, hc, rfl⟩ := List.mem_map.mp hy
      exact hv p (by omega) j r c hrj hc
    · exact ⟨⟨_, _, _, rfl⟩, (s'.trans sy).trans s3⟩
  · rintro σ' H' ⟨⟨v3, v4, v5, rfl⟩, s'⟩
    exact s_ret ed_bl (Same.refl _) fun v H3 s3 d3 => hq v H3 (((s1.trans s2).trans s').trans s3) d3

abbrev sHasShape : Stmt := topS 15
def spHasShape (C : Addr) : Sp := spOf (R := Kd × Fa × Nat) (fun r => [dK C r.1, dD (encS (structOf r.1.rels r.2.1 r.2.2))]) (fun r _ => GoodRs r.1.rels ∧ r.2.2 ≤ 7 ∧ GoodV r.1.rels r.2.1 r.2.2) (fun _ => dD (.bool true))
theorem scHasShape : FnScope ["kind", "structure", "point", "layer"] ["kind", "structure"] (defScope sHasShape) := ⟨rfl, rfl, rfl, by decide +kernel, rfl, by decide +kernel, by decide +kernel⟩
theorem ok_hasShape {C : Addr} {f : Addr} {fd : FuncData} (Fn : Fun K "has_shape" "has_shape" sHasShape f fd) (T : Txt K mg) (h_is_layer : Dl P w K mg base "is_layer" 2 ["kind", "layer", "point"] (spIsLayer C)) : FnOk P w K mg base CX0 3 f fd ["kind", "structure"] (spHasShape C) := by
  have nd := scHasShape.nd
  obtain ⟨tmp, hMP⟩ := T.MP
  refine okD Fn scHasShape (fun _ => rfl) fun cdv A outer s H E hr => ⟨_, (pss_cons (ps_if (PW.pt (pw_or (pt_not (pt_val (pe_callB (call_isiKk (K := K)) (by rfl) T.isinstance (by decide +kernel) (pa_cons (pv 1) (pa_cons (pe_bltn (v := .ty "tuple") (by rfl) T.tuple (by decide +kernel) rfl) pa_nil))))) (pw_or1 (pt_cmpR op_gt (pe_callB (call_lenK (K := K)) (by rfl) T.len PySem.boot_len (pa_cons (pv 1) pa_nil)) (pe_glob (v := .int 7) rfl hMP ⟨_, rfl⟩) (nomark _))))) (pss_one (ps_ret pe_bl)) pss_nil)
    (pss_cons (ps_for PassesOwn.never rfl (pi_enumT (K := K) (by rfl) T.enumerate (pa_cons (pv 1) pa_nil)) (pg_tupK (K := K) (n := 2) rfl (pgs_cons (pg_name (i := 2) nd rfl (by first | exact Or.inl rfl | exact Or.inr rfl)) (pgs_cons (pg_name (i := 3) nd rfl (by first | exact Or.inl rfl | exact Or.inr rfl)) pgs_nil)))
      (pss_one (ps_if (pt_not (pt_val (pe_dl h_is_layer (hr.mono (by omega)) rfl (pa_cons (pv 0) (pa_cons (pv 3) (pa_cons (pv 2) pa_nil)))))) (pss_one (ps_ret pe_bl)) pss_nil)))
    (pss_one (ps_ret pe_bl)))), ?_⟩
  rintro ⟨κ, Φ, n⟩ vs D ha ⟨hg, hn, hv⟩ hq -
  have hg : GoodRs κ.rels := hg
  have hn : n ≤ 7 := hn
  have hv : GoodV κ.rels Φ n := hv
  obtain ⟨v0, v1, rfl, d0, d1⟩ := all2_2 ha
  have d1 : Dt H v1 (.tuple ((structOf κ.rels Φ n).map encL)) := d1
  have ls : (structOf κ.rels Φ n).length = n := by unfold structOf; rw [List.length_map, List.length_range]
  refine q_no (et_or (a := false) (b := false) (et_not (a := true) (et_B (ed_isi (ed_var (i := 1) rfl d1) ev_c kTT))) fun _ => et_test (dB_to (ed_cmp (ed_lenTm (K := K) (ed_var (i := 1) rfl d1)) ed_int) (by simp [ls]; omega))) (Same.refl _) fun H1 s1 => ?_
  refine q_for (as := (structOf κ.rels Φ n).zipIdx) (ei_enumT (enc := encL) (ed_var (i := 1) rfl (d1.up s1))) (Same.refl _) fun H2 s2 => ?_
  refine ⟨fun i σ' H' => (∃ v2 v3, σ' = [some v0, some v1, v2, v3]) ∧ Same H2 H', ⟨⟨none, none, rfl⟩, Same.refl _⟩, fun i σ' H' _ h => kp_same s2 h.2, ?_, ?_⟩
  · rintro i ⟨l, j⟩ x σ' H' H'' hx ⟨⟨v2, v3, rfl⟩, s'⟩ sy dx
    obtain ⟨Tt, x1, x2, rfl, hT, dx1, dx2⟩ := dt2 dx
    have hl : l = layerOf κ.rels Φ j ∧ j < n := by
      rw [List.getElem?_zipIdx] at hx
      obtain ⟨l', hl', e⟩ := Option.map_eq_some_iff.mp hx
      cases e
      unfold structOf at hl'
      rw [List.getElem?_map] at hl'
      obtain ⟨k, hk, rfl⟩ := Option.map_eq_some_iff.mp hl'
      obtain ⟨hk1, hk2⟩ := List.getElem?_eq_some_iff.mp hk
      rw [List.getElem_range] at hk2
      rw [List.length_range] at hk1
      simp only [Nat.zero_add]
      exact ⟨by rw [hk2], hk1⟩
    obtain ⟨rfl, hj⟩ := hl
    have sH := ((s1.trans s2).trans s').trans sy
    refine g_tup2 hT ?_
    refine s_no (et_not (a := true) (et_B (ev_call (κ, Φ, j) (ea_cons (dK_var (i := 0) rfl (up d0 sH)) (ea_cons (ed_var (i := 3) rfl dx2) (ea_cons (ed_var (i := 2) rfl dx1) ea_nil))) fun _ _ => ⟨hg, by show j ≤ 6; omega, hv.le (by show j + 1 ≤ n; omega)⟩))) (Same.refl _) fun H3 s3 => ?_
    exact ⟨⟨_, _, rfl⟩, (s'.trans sy).trans s3⟩
  · rintro σ' H' ⟨⟨v2, v3, rfl⟩, s'⟩
    exact s_ret ed_bl (Same.refl _) fun v H3 s3 d3 => hq v H3 (((s1.trans s2).trans s').trans s3) d3
end
end D18
set_option Elab.async false
set_option linter.all false
set_option maxRecDepth 100000
set_option maxHeartbeats 8000000
/-! Pg5: value_at, value, is_true. -/
namespace D18
open PySem L2
section
variable {P : Program} {w : World} {K : PySem.W.Frag} {mg : Str → Option Value} {base : Heap}

theorem valV_idx {row : List (List Nat)} (nd : row.Nodup) {i : Nat} {c : List Nat} (h : row[i]? = some c) : valV (idxKvs row) (c.map fun n : Nat => (Sum.inl (n : Int) : Key)) = some (.int (i : Nat)) := by
  unfold idxKvs
  have aux : ∀ (l : List (List Nat)) (k : Nat), l.Nodup → ∀ i c, l[i]? = some c → valV ((l.zipIdx k).map fun ci : List Nat × Nat => ((ci.1.map fun n : Nat => (Sum.inl (n : Int) : Key)), V.int (ci.2 : Nat))) (c.map fun n : Nat => (Sum.inl (n : Int) : Key)) = some (.int ((k + i : Nat) : Int)) := by
    intro l
    induction l with
    | nil => intro k _ i c h; simp at h
    | cons a r ih =>
      intro k nd i c h
      rw [List.zipIdx_cons, List.map_cons]
      cases i with
      | zero =>
        rw [List.getElem?_cons_zero] at h
        cases h
        rw [valV_pos rfl]
        rfl
      | succ j =>
        rw [List.getElem?_cons_succ] at h
        have hm := List.mem_of_getElem? h
        have ne : ¬ (a.map fun n : Nat => (Sum.inl (n : Int) : Key)) = c.map fun n : Nat => (Sum.inl (n : Int) : Key) := fun e => by
          have := keys_inj e
          subst this
          exact (List.nodup_cons.mp nd).1 hm
        rw [valV_neg ne, ih (k + 1) (List.nodup_cons.mp nd).2 j c h]
        congr 2
        omega
  have := aux row 0 nd i c h
  rw [Nat.zero_add] at this
  exact this
section
variable {σ : L2.St} {H : Hp} {ta tb : TE}
theorem ed_dget {a : Addr} {row : List (List Nat)} {c : List Nat} {i : Nat} (ha : EvX ta σ H (dV (.ref a))) (hb : EvX tb σ H (dD (encC c))) (hd : H a = some (.dT (idxKvs row))) (nd : row.Nodup) (h : row[i]? = some c) : EvX (tDGet ta tb) σ H (dD (nI i)) := fun H1 e Q q =>
  ha H1 e _ fun x H2 s2 d2 => hb H2 (e.trans s2) _ fun y H3 s3 d3 => by
    cases d2
    obtain ⟨b, rfl, eb⟩ := encC_inv d3
    exact ⟨a, _, rfl, DGet.t (k := c.map fun n : Nat => (Sum.inl (n : Int) : Key)) ((s2.trans s3) _ _ (e _ _ hd)) (by rw [key_vals]; exact eb) |> fun z => (valV_idx nd h) ▸ z, q _ H3 (s2.trans s3) (.int _)⟩
theorem ed_sortN {pts : List Nat} (ha : EvX ta σ H (dL K (pts.map nI))) (hl : pts.length < 64) : EvX (tCB (rTupQ K) (tCons (tCB (rSorted K) (tCons ta tNil)) tNil)) σ H (dD (encC (sortN pts))) := by
  have ha' : EvX ta σ H (dL K ((pts.map fun n : Nat => (n : Int)).map .int)) := by rw [← map_nI]; exact ha
  have q := ed_tupleOf (ev_l (K := K) (em_sorted ha' (by rw [List.length_map]; exact hl)))
  unfold encC
  rw [map_nI, sortN_cast]
  exact q
theorem ed_maxN {pts : List Nat} (ha : EvX ta σ H (dL K (pts.map nI))) (hl : pts ≠ []) : EvX (tCB (rMax K) (tCons ta tNil)) σ H (dD (nI (maxN pts))) := by
  have ha' : EvX ta σ H (dL K ((pts.map fun n : Nat => (n : Int)).map .int)) := by rw [← map_nI]; exact ha
  refine ed_max ha' (List.mem_map.mpr ⟨_, maxN_mem hl, rfl⟩) fun y hy => ?_
  obtain ⟨n, hn, rfl⟩ := List.mem_map.mp hy
  have := le_maxN hn
  omega
end
abbrev sValueAt : Stmt := topS 16
structure VA where
  κ : Kd
  Φ : Fa
  n : Nat
  i : Nat
  r : Rel
  pts : List Nat
structure VA.Ok (x : VA) : Prop where
  rs : GoodRs x.κ.rels
  at_ : x.κ.rels[x.i]? = some x.r
  len : x.pts.length = x.r.ar
  nd : x.pts.Nodup
  lt : ∀ k ∈ x.pts, k < x.n
  n7 : x.n ≤ 7
def spValueAt (K : PySem.W.Frag) (C : Addr) : Sp := spOf (R := VA) (fun x => [dK C x.κ, dD (encS (structOf x.κ.rels x.Φ x.n)), dD (nI x.i), dL K (x.pts.map nI)]) (fun x _ => x.Ok) (fun x => dD (nI (x.Φ x.i (keyOf x.r x.pts))))
theorem scValueAt : FnScope ["kind", "structure", "number", "points", "key", "point"] ["kind", "structure", "number", "points"] (defScope sValueAt) := ⟨rfl, rfl, rfl, by decide +kernel, rfl, by decide +kernel, by decide +kernel⟩
theorem ok_valueAt {C : Addr} {f : Addr} {fd : FuncData} (Fn : Fun K "value_at" "value_at" sValueAt f fd) (T : Txt K mg) (KK : KC K C) : FnOk P w K mg base CX0 1 f fd ["kind", "structure", "number", "points"] (spValueAt K C) := by
  have nd := scValueAt.nd
  refine okD Fn scValueAt (fun _ => rfl) fun cdv A outer s H E hr => ⟨_, (pss_cons (ps_set (i := 4) nd rfl (by first | exact Or.inl rfl | exact Or.inr rfl) (pe_callTy (call_tupleK (K := K)) (by rfl) T.tuple (by decide +kernel) (pa_cons (pv 3) pa_nil)))
    (pss_cons (ps_if (pt_val (pe_ix (ix_tupK (K := K)) (pe_ix (ix_listK (K := K)) (pe_fldK (K := K) (pv 0) rfl) (pv 2) (fun _ _ => rfl)) pe_int (fun _ _ => rfl))) (pss_one (ps_set (i := 4) nd rfl (by first | exact Or.inl rfl | exact Or.inr rfl) (pe_callTy (call_tupleK (K := K)) (by rfl) T.tuple (by decide +kernel) (pa_cons (pe_callB (cr_sortedK (K := K)) (by rfl) T.sorted (by decide +kernel) (pa_cons (pv 3) pa_nil)) pa_nil)))) pss_nil)
    (pss_cons (ps_set (i := 5) nd rfl (by first | exact Or.inl rfl | exact Or.inr rfl) (pe_callB (cr_maxK (K := K) rfl) (by rfl) T.max (by decide +kernel) (pa_cons (pv 3) pa_nil)))
    (pss_one (ps_ret (pe_ix (ix_tupK (K := K)) (pe_ix (ix_tupK (K := K)) (pe_ix (ix_tupK (K := K)) (pv 1) (pv 5) (fun _ _ => rfl)) (pv 2) (fun _ _ => rfl)) (pe_dget (hu_of hr) (pe_ix (ix_listK (K := K)) (pe_ix (ix_listK (K := K)) (pe_fldK (K := K) (pv 0) rfl) (pv 5) (fun _ _ => rfl)) (pv 2) (fun _ _ => rfl)) (pv 4) (fun _ _ => rfl)) (fun _ _ => rfl))))))), ?_⟩
  rintro ⟨κ, Φ, n, i, r, pts⟩ vs D ha ⟨hg, hat, hlen, hnd, hlt, hn7⟩ hq -
  have hat : κ.rels[i]? = some r := hat
  have hlen : pts.length = r.ar := hlen
  have hnd : pts.Nodup := hnd
  have hlt : ∀ k ∈ pts, k < n := hlt
  have hn7 : n ≤ 7 := hn7
  have gr : GoodR r := hg.good r (List.mem_of_getElem? hat)
  have hne : pts ≠ [] := fun e => by rw [e] at hlen; have := gr.ar1; simp at hlen; omega
  have h3 : pts.length ≤ 3 := by rw [hlen]; exact gr.ar3
  have hmx : maxN pts < n := hlt _ (maxN_mem hne)
  have hkey := key_place hlen hnd hne
  obtain ⟨v0, v1, v2, v3, rfl, d0, d1, d2, d3⟩ := all2_4 ha
  have d1 : Dt H v1 (encS (structOf κ.rels Φ n)) := d1
  have d3 : dL K (pts.map nI) H H v3 := d3
  obtain ⟨a, dx, fs, rfl, hk, kf⟩ := d0
  obtain ⟨vr, lr, dr⟩ := kf.rel
  obtain ⟨vi, li, di⟩ := kf.idx
  obtain ⟨qp, vps, up', rfl, hqp, gp, dup⟩ := dN_at (i := maxN pts) (a := maxN pts) di (by rw [List.getElem?_range (by omega)])
  obtain ⟨qw, vws, uw, rfl, hqw, gw, dw⟩ := dN_at (i := i) (a := r) dup hat
  obtain ⟨pd, rfl, _, hpd⟩ := dw
  refine q_asg (δ := dD (encC pts)) (ed_tupleOf (el_var (i := 3) rfl d3)) (Same.refl _) fun v4 H1 s1 d4 => ?_
  have fin : ∀ (v4 : V) (H2 : Hp), Same H H2 → Dt H2 v4 (encC (keyOf r pts)) → tSeq (tAsg (tCB (rMax K) (tCons (tVar 3) tNil)) (gName 5)) (tRet (tOp (rIxT K) (tOp (rIxT K) (tOp (rIxT K) (tVar 1) (tVar 5)) (tVar 2)) (tDGet (tOp (rIxL K) (tOp (rIxL K) (tFld K (tVar 0) "indexes") (tVar 5)) (tVar 2)) (tVar 4)))) D [some (.ref a), some v1, some v2, some v3, some v4, none] H2 := by
    intro v4 H2 s2 d4
    refine q_asg (δ := dD (nI (maxN pts))) (ed_maxN (el_var (i := 3) rfl (lL d3 s2)) hne) (Same.refl _) fun v5 H3 s3 d5 => ?_
    have s := s2.trans s3
    have d2' : Dt H3 v2 (nI i) := Dt.up s d2
    have hidx : (placesF r (maxN pts)).idxOf (keyOf r pts) < (placesF r (maxN pts)).length := List.idxOf_lt_length_of_mem hkey
    have gidx : (placesF r (maxN pts))[(placesF r (maxN pts)).idxOf (keyOf r pts)]? = some (keyOf r pts) := by rw [List.getElem?_eq_getElem hidx, List.getElem_idxOf]
    have e1 : atI ((structOf κ.rels Φ n).map encL) ((maxN pts : Nat) : Int) = some (encL (layerOf κ.rels Φ (maxN pts))) := atI_nat (by
      unfold structOf
      rw [List.getElem?_map, List.getElem?_map, List.getElem?_range hmx]; rfl)
    have e2 : atI ((layerOf κ.rels Φ (maxN pts)).map encC) ((i : Nat) : Int) = some (encC ((placesF r (maxN pts)).map fun c => Φ i c)) := atI_nat (by
      unfold layerOf
      rw [List.getElem?_map, List.getElem?_map, List.getElem?_zipIdx, hat]
      simp)
    have e3 : atI (((placesF r (maxN pts)).map fun c => Φ i c).map nI) (((placesF r (maxN pts)).idxOf (keyOf r pts) : Nat) : Int) = some (nI (Φ i (keyOf r pts))) := atI_nat (by
      rw [List.getElem?_map, List.getElem?_map, gidx]; rfl)
    refine s_ret (δ := dD (nI (Φ i (keyOf r pts)))) (ed_ixT (ed_ixT (ed_ixT (ed_var (i := 1) rfl (d1.up s)) (ed_var (i := 5) rfl d5) e1) (ed_var (i := 2) rfl d2') e2)
      (ed_dget (ev_ixL (ev_ixL (ev_fld (ev_var (i := 0) rfl) (s _ _ hk) KK.cl KK.idx li) (ed_var (i := 5) rfl d5) (SqL.of (s _ _ hqp)) (atI_nat gp)) (ed_var (i := 2) rfl d2') (SqL.of (s _ _ hqw)) (atI_nat gw)) (ed_var (i := 4) rfl (d4.up s3)) (s _ _ hpd) (places_nodup _ _) gidx) e3) (Same.refl _) fun v H4 s4 d4 => hq v H4 (s.trans s4) d4
  refine q_if (b := r.sym) (et_B (ed_ixT (d := .bool r.sym) (ed_ixL (ds := κ.rels.map encR) (d := encR r) (el_at (ev_fld (ev_var (i := 0) rfl) (s1 _ _ hk) KK.cl KK.rel lr) (up dr s1)) (ed_var (i := 2) rfl (Dt.up s1 d2)) (atI_nat (by rw [List.getElem?_map, hat]; rfl))) ed_int rfl)) (Same.refl _) (fun hs H2 s2 => ?_) fun hs H2 s2 => ?_
  · refine s_asg (δ := dD (encC (sortN pts))) (ed_sortN (el_var (i := 3) rfl (lL d3 (s1.trans s2))) (by omega)) (Same.refl _) fun v4' H3 s3 d4' => ?_
    refine fin v4' H3 ((s1.trans s2).trans s3) ?_
    have e : keyOf r pts = sortN pts := by unfold keyOf; rw [if_pos hs]
    rw [e]; exact d4'
  · refine fin v4 H2 (s1.trans s2) ?_
    have e : keyOf r pts = pts := by unfold keyOf; rw [if_neg (by rw [hs]; simp)]
    rw [e]; exact Dt.up s2 d4
end
end D18
set_option Elab.async false
set_option linter.all false
set_option maxRecDepth 100000
set_option maxHeartbeats 8000000
/-! Pg6: value, is_true. -/
namespace D18
open PySem L2
section
variable {P : Program} {w : World} {K : PySem.W.Frag} {mg : Str → Option Value} {base : Heap}
section
variable {σ : L2.St} {H : Hp} {ta tb : TE}
theorem ed_index {ss : List Str} {z : Str} (ha : EvX ta σ H (dL K (ss.map .str))) (hb : EvX tb σ H (dD (.str z))) (hm : z ∈ ss) : EvX (tBM K "list" (rIndex K) ta (tCons tb tNil)) σ H (dD (nI (ss.idxOf z))) := fun H1 e Q q =>
  ha H1 e _ fun v H2 s2 ⟨a, xs, ev, hl, r⟩ => by
    subst ev
    have rs := r.strs
    subst rs
    refine ⟨.inl ⟨rfl, _, hl⟩, hb H2 (e.trans s2) _ fun y H3 s3 d3 => ?_⟩
    cases Dt.str_inv d3
    have hi : ss.idxOf z < ss.length := List.idxOf_lt_length_of_mem hm
    refine ⟨a, ss.map V.str, .str z, ss.idxOf z, .str z, rfl, rfl, sql_up s3 hl, rfl, flat_strs ss, by rw [List.getElem?_map, List.getElem?_eq_getElem hi, List.getElem_idxOf]; rfl, by simp [eqV], fun m z' hm' hz' => ?_, q _ H3 (s2.trans s3) (.int _)⟩
    rw [List.getElem?_map] at hz'
    obtain ⟨y', hy', rfl⟩ := Option.map_eq_some_iff.mp hz'
    have ne : ¬ y' = z := fun e => by
      subst e
      obtain ⟨h1, h2⟩ := List.getElem?_eq_some_iff.mp hy'
      have hh := List.not_of_lt_findIdx (show m < ss.findIdx (· == y') from hm')
      rw [h2] at hh
      simp at hh
    simp [eqV, ne]
end
theorem name_idx {rels : List Rel} (nd : (rels.map (·.name)).Nodup) {name : Str} {Pr : Rel → Prop} (h : ∃ r ∈ rels, r.name = name ∧ Pr r) : ∃ r, rels[(rels.map (·.name)).idxOf name]? = some r ∧ r.name = name ∧ Pr r := by
  obtain ⟨r, hr, hn, hp⟩ := h
  obtain ⟨j, hj, ej⟩ := List.mem_iff_getElem.mp hr
  have hm : name ∈ rels.map (·.name) := List.mem_map.mpr ⟨r, hr, hn⟩
  have hi := List.idxOf_lt_length_of_mem hm
  have e1 : (rels.map (·.name))[(rels.map (·.name)).idxOf name]? = some name := by rw [List.getElem?_eq_getElem hi, List.getElem_idxOf]
  have e2 : (rels.map (·.name))[j]? = some name := by rw [List.getElem?_map, List.getElem?_eq_getElem hj, ej, Option.map_some, hn]
  have e3 := (List.getElem?_inj hi nd).mp (e1.trans e2.symm)
  refine ⟨r, ?_, hn, hp⟩
  rw [e3, List.getElem?_eq_getElem hj, ej]
structure VN where
  κ : Kd
  Φ : Fa
  n : Nat
  name : Str
  pts : List Nat
structure VN.Ok (x : VN) : Prop where
  rs : GoodRs x.κ.rels
  at_ : ∃ r ∈ x.κ.rels, r.name = x.name ∧ x.pts.length = r.ar
  nd : x.pts.Nodup
  lt : ∀ k ∈ x.pts, k < x.n
  n7 : x.n ≤ 7
abbrev sValue : Stmt := topS 17
def spValue (K : PySem.W.Frag) (C : Addr) : Sp := spOf (R := VN) (fun x => [dK C x.κ, dD (encS (structOf x.κ.rels x.Φ x.n)), dD (.str x.name), dL K (x.pts.map nI)]) (fun x _ => x.Ok) (fun x => dD (nI (valN x.κ.rels x.Φ x.name x.pts)))
theorem scValue : FnScope ["kind", "structure", "name", "points"] ["kind", "structure", "name", "points"] (defScope sValue) := ⟨rfl, rfl, rfl, by decide +kernel, rfl, by decide +kernel, by decide +kernel⟩
theorem ok_value {C : Addr} {f : Addr} {fd : FuncData} (Fn : Fun K "value" "value" sValue f fd) (T : Txt K mg) (KK : KC K C) (h_value_at : Dl P w K mg base "value_at" 1 ["kind", "structure", "number", "points"] (spValueAt K C)) : FnOk P w K mg base CX0 2 f fd ["kind", "structure", "name", "points"] (spValue K C) := by
  have nd := scValue.nd
  refine okD Fn scValue (fun _ => rfl) fun cdv A outer s H E hr => ⟨_, (pss_one (ps_ret (pe_dl h_value_at (hr.mono (by omega)) rfl (pa_cons (pv 0) (pa_cons (pv 1) (pa_cons (pe_bmK (K := K) PySem.F.plainAttrs_list PySem.F.slot_list_index PySem.F.type_list_index (mt_indexK (K := K)) (pe_fldK (K := K) (pv 0) rfl) (pa_cons (pv 2) pa_nil)) (pa_cons (pv 3) pa_nil))))))), ?_⟩
  rintro ⟨κ, Φ, n, name, pts⟩ vs D ha ⟨hg, hat, hnd, hlt, hn7⟩ hq -
  obtain ⟨v0, v1, v2, v3, rfl, d0, d1, d2, d3⟩ := all2_4 ha
  have d0' := d0
  obtain ⟨a, dx, fs, rfl, hk, kf⟩ := d0'
  obtain ⟨vn, ln, dn⟩ := kf.nam
  have hat : ∃ r ∈ κ.rels, r.name = name ∧ pts.length = r.ar := hat
  obtain ⟨r, hr1, hr2, hr3⟩ := name_idx hg.nd hat
  have hm : name ∈ κ.rels.map (·.name) := by obtain ⟨r', h1, h2, _⟩ := hat; exact List.mem_map.mpr ⟨r', h1, h2⟩
  have e : valN κ.rels Φ name pts = Φ ((κ.rels.map (·.name)).idxOf name) (keyOf r pts) := by
    unfold valN
    have hr1' : κ.rels[(κ.rels.map (·.name)).idxOf name]? = some r := hr1
    simp only [hr1']
  have dn' : dM ((κ.rels.map (·.name)).map .str) Hn H vn := by rw [List.map_map]; exact dn
  refine s_ret (δ := dD (nI (valN κ.rels Φ name pts))) ?_ (Same.refl _) hq
  rw [e]
  exact ev_call (⟨κ, Φ, n, (κ.rels.map (·.name)).idxOf name, r, pts⟩ : VA) (ea_cons (dK_var (i := 0) rfl d0) (ea_cons (ed_var (i := 1) rfl d1) (ea_cons (ed_index (el_at (ev_fld (ev_var (i := 0) rfl) hk KK.cl KK.nam ln) dn') (ed_var (i := 2) rfl d2) hm) (ea_cons (el_var (i := 3) rfl d3) ea_nil))))
    fun _ _ => ⟨hg, hr1, hr3, hnd, hlt, hn7⟩

structure TI4 where
  κ : Kd
  Φ : Fa
  n : Nat
  f : Fm
  ch : List Nat
structure TI4.Ok (x : TI4) (d : Nat) : Prop where
  rs : GoodRs x.κ.rels
  gf : GoodF x.κ.rels x.ch.length x.f
  nd : x.ch.Nodup
  lt : ∀ k ∈ x.ch, k < x.n
  n7 : x.n ≤ 7
  d : depthF x.f ≤ d
abbrev sIsTrue : Stmt := topS 18
def spIsTrue (C : Addr) (d : Nat) : Sp := spOf (R := TI4) (fun x => [dK C x.κ, dD (encS (structOf x.κ.rels x.Φ x.n)), dD (encF x.f), dD (encC x.ch)]) (fun x _ => x.Ok d) (fun x => dD (.bool (evalF (valN x.κ.rels x.Φ) x.ch x.f)))
theorem scIsTrue : FnScope ["kind", "structure", "formula", "chosen", "word", "k", "first", "second"] ["kind", "structure", "formula", "chosen"] (defScope sIsTrue) := ⟨rfl, rfl, rfl, by decide +kernel, rfl, by decide +kernel, by decide +kernel⟩
theorem vars_map {vs ch : List Nat} : (vs.map fun k => ch.getD k 0).map nI = vs.map fun k => nI (ch.getD k 0) := by rw [List.map_map]; rfl
theorem ok_isTrue {C : Addr} {d : Nat} {f : Addr} {fd : FuncData} (Fn : Fun K "is_true" "is_true" sIsTrue f fd) (T : Txt K mg) (h_value : Dl P w K mg base "value" 2 ["kind", "structure", "name", "points"] (spValue K C)) (h_is_true : Dl P w K mg base "is_true" (d + 2) ["kind", "structure", "formula", "chosen"] (spIsTrue C d)) :
    FnOk P w K mg base CX0 (d + 1 + 2) f fd ["kind", "structure", "formula", "chosen"] (spIsTrue C (d + 1)) := by
  have nd := scIsTrue.nd
  refine okD Fn scIsTrue (fun _ => rfl) fun cdv A outer s H E hr => ⟨_, (pss_cons (ps_set (i := 4) nd rfl (by first | exact Or.inl rfl | exact Or.inr rfl) (pe_ix (ix_tupK (K := K)) (pv 2) pe_int (fun _ _ => rfl)))
    (pss_cons (ps_if (PW.pt (pw_or (pt_cmpR op_eq (pv 4) pe_str (nomark _)) (pw_or1 (pt_cmpR op_eq (pv 4) pe_str (nomark _))))) (pss_one (ps_ret (pe_cmpR op_eq (pv 4) pe_str (nomark _)))) pss_nil)
    (pss_cons (ps_if (pt_cmpR op_eq (pv 4) pe_str (nomark _)) (pss_one (ps_ret (pe_cmpR op_eq (pe_dl h_value (hr.mono (by omega)) rfl (pa_cons (pv 0) (pa_cons (pv 1) (pa_cons (pe_ix (ix_tupK (K := K)) (pv 2) pe_int (fun _ _ => rfl)) (pa_cons (pe_lc (own := [("k", 5)]) rfl nd (pi_tupK (K := K) (pe_ix (ix_tupK (K := K)) (pv 2) pe_int (fun _ _ => rfl))) (blkOk_by (by kernel_rfl)) (fun _ _ _ _ _ => (pg_name (i := 5) nd rfl (by first | exact Or.inl rfl | exact Or.inr rfl))) (fun _ _ _ _ _ => pts_nil) (fun _ _ _ _ _ => (pe_ix (ix_tupK (K := K)) (pv 3) (pv 5) (fun _ _ => rfl)))) pa_nil))))) (pe_ix (ix_tupK (K := K)) (pv 2) pe_int (fun _ _ => rfl)) (nomark _)))) pss_nil)
    (pss_cons (ps_set (i := 6) nd rfl (by first | exact Or.inl rfl | exact Or.inr rfl) (pe_dl h_is_true (hr.mono (by omega)) rfl (pa_cons (pv 0) (pa_cons (pv 1) (pa_cons (pe_ix (ix_tupK (K := K)) (pv 2) pe_int (fun _ _ => rfl)) (pa_cons (pv 3) pa_nil))))))
    (pss_cons (ps_if (pt_cmpR op_eq (pv 4) pe_str (nomark _)) (pss_one (ps_ret (pe_not (pv 6)))) pss_nil)
    (pss_cons (ps_set (i := 7) nd rfl (by first | exact Or.inl rfl | exact Or.inr rfl) (pe_dl h_is_true (hr.mono (by omega)) rfl (pa_cons (pv 0) (pa_cons (pv 1) (pa_cons (pe_ix (ix_tupK (K := K)) (pv 2) pe_int (fun _ _ => rfl)) (pa_cons (pv 3) pa_nil))))))
    (pss_cons (ps_if (pt_cmpR op_eq (pv 4) pe_str (nomark _)) (pss_one (ps_ret (pe_and (pv 6) (pe_one (pv 7))))) pss_nil)
    (pss_cons (ps_if (pt_cmpR op_eq (pv 4) pe_str (nomark _)) (pss_one (ps_ret (pe_or (pv 6) (pe_one (pv 7))))) pss_nil)
    (pss_cons (ps_if (pt_cmpR op_eq (pv 4) pe_str (nomark _)) (pss_one (ps_ret (pe_or (pe_not (pv 6)) (pe_one (pv 7))))) pss_nil)
    (pss_one (ps_ret (pe_cmpR op_eq (pv 6) (pv 7) (nomark _))))))))))))), ?_⟩
  rintro ⟨κ, Φ, n, fm, ch⟩ vs D ha ⟨hg, gf, hnd, hlt, hn7, hd⟩ hq -
  obtain ⟨v0, v1, v2, v3, rfl, d0, d1, d2, d3⟩ := all2_4 ha
  have gf : GoodF κ.rels ch.length fm := gf
  have hd : depthF fm ≤ d + 1 := hd
  have d1 : Dt H v1 (encS (structOf κ.rels Φ n)) := d1
  have d2 : Dt H v2 (encF fm) := d2
  have d3 : Dt H v3 (encC ch) := d3
  have nofalse : ∀ {σ : L2.St} {H : Hp} {i : Nat} {v : V} {x y z : Str}, σ[i]? = some (some v) → Dt H v (.str x) → decide (x = y) = false → decide (x = z) = false → EvT (tOr (tTest (tOp rEq (tVar i) (tC (.str y)))) (tTest (tOp rEq (tVar i) (tC (.str z))))) σ H false := fun h dv h1 h2 =>
    et_or (a := false) (b := false) (et_test (dB_to (ed_eqS (ed_var h dv) ed_str) h1)) fun _ => et_test (dB_to (ed_eqS (ed_var h dv) ed_str) h2)
  have no : ∀ {σ : L2.St} {H : Hp} {i : Nat} {v : V} {x y : Str} {b : Bool}, σ[i]? = some (some v) → Dt H v (.str x) → decide (x = y) = b → EvT (tTest (tOp rEq (tVar i) (tC (.str y)))) σ H b := fun h dv h1 => et_test (dB_to (ed_eqS (ed_var h dv) ed_str) h1)
  have rec_ : ∀ {σ : L2.St} {H2 : Hp} {te : TE} {g : Fm}, σ[0]? = some (some v0) → σ[1]? = some (some v1) → σ[3]? = some (some v3) → Same H H2 → EvX te σ H2 (dD (encF g)) → GoodF κ.rels ch.length g → depthF g ≤ d →
      EvX (tCall (spIsTrue C d) [] E0 (tCons (tVar 0) (tCons (tVar 1) (tCons te (tCons (tVar 3) tNil))))) σ H2 (dD (.bool (evalF (valN κ.rels Φ) ch g))) := fun {σ H2 te g} h0 h1 h3 s2 he gg dg =>
    ev_call (⟨κ, Φ, n, g, ch⟩ : TI4) (ea_cons (dK_var h0 (up (δ := dK C κ) (G := Hn) d0 s2)) (ea_cons (ed_var h1 (d1.up s2)) (ea_cons he (ea_cons (ed_var h3 (d3.up s2)) ea_nil)))) fun _ _ => ⟨hg, gg, hnd, hlt, hn7, dg⟩
  cases fm with
  | tt =>
    refine q_asg (δ := dD (.str "true")) (ed_ixT (ds := [.str "true"]) (ed_var (i := 2) rfl d2) ed_int rfl) (Same.refl _) fun v4 H1 s1 d4 => ?_
    refine q_yes (et_or (a := true) (b := true) (no (i := 4) rfl d4 (by decide +kernel)) fun z => by cases z) (Same.refl _) fun H2 s2 => ?_
    exact s_ret (δ := dD (.bool true)) (dB_to (ed_eqS (ed_var (i := 4) rfl (Dt.up s2 d4)) ed_str) (by decide +kernel)) (Same.refl _) fun v H3 s3 d5 => hq v H3 ((s1.trans s2).trans s3) d5
  | ff =>
    refine q_asg (δ := dD (.str "false")) (ed_ixT (ds := [.str "false"]) (ed_var (i := 2) rfl d2) ed_int rfl) (Same.refl _) fun v4 H1 s1 d4 => ?_
    refine q_yes (et_or (a := false) (b := true) (no (i := 4) rfl d4 (by decide +kernel)) fun _ => no (i := 4) rfl d4 (by decide +kernel)) (Same.refl _) fun H2 s2 => ?_
    exact s_ret (δ := dD (.bool false)) (dB_to (ed_eqS (ed_var (i := 4) rfl (Dt.up s2 d4)) ed_str) (by decide +kernel)) (Same.refl _) fun v H3 s3 d5 => hq v H3 ((s1.trans s2).trans s3) d5
  | is name xs val =>
    obtain ⟨hat, hxn, hxl⟩ := gf
    refine q_asg (δ := dD (.str "is")) (ed_ixT (ds := [.str "is", .str name, encC xs, nI val]) (ed_var (i := 2) rfl d2) ed_int rfl) (Same.refl _) fun v4 H1 s1 d4 => ?_
    refine q_no (nofalse (i := 4) rfl d4 (by decide +kernel) (by decide +kernel)) (Same.refl _) fun H2 s2 => ?_
    refine q_yes (no (i := 4) rfl (Dt.up s2 d4) (by decide +kernel)) (Same.refl _) fun H3 s3 => ?_
    have s03 := (s1.trans s2).trans s3
    have pnd : (xs.map fun k => ch.getD k 0).Nodup := by
      unfold List.Nodup
      rw [List.pairwise_map]
      refine List.Pairwise.imp_of_mem ?_ hxn
      intro p q hp hq' hpq e
      have l1 := hxl p hp
      have l2 := hxl q hq'
      rw [List.getD_eq_getElem?_getD, List.getD_eq_getElem?_getD, List.getElem?_eq_getElem l1, List.getElem?_eq_getElem l2] at e
      exact hpq ((List.getElem?_inj l1 hnd).mp (by rw [List.getElem?_eq_getElem l1, List.getElem?_eq_getElem l2]; exact congrArg some e))
    have plt : ∀ k ∈ (xs.map fun k => ch.getD k 0), k < n := fun k hk => by
      obtain ⟨j, hj, rfl⟩ := List.mem_map.mp hk
      have l1 := hxl j hj
      rw [List.getD_eq_getElem?_getD, List.getElem?_eq_getElem l1]
      exact hlt _ (List.getElem_mem l1)
    have evs : EvX (tOp (rIxT K) (tVar 2) (tC (.int 2))) [some v0, some v1, some v2, some v3, some v4, none, none, none] H3 (dD (.tuple (xs.map nI))) := ed_ixT (ds := [.str "is", .str name, encC xs, nI val]) (ed_var (i := 2) rfl (d2.up s03)) ed_int rfl
    have xsmall : xs.length ≤ sizeLine := by
      obtain ⟨r, hr, _, hl⟩ := hat
      have := (hg.good r hr).ar3
      exact small_line (by omega)
    refine s_ret (δ := dD (.bool (evalF (valN κ.rels Φ) ch (.is name xs val)))) (dB_to (ed_eqI (i := ((valN κ.rels Φ name (xs.map fun k => ch.getD k 0) : Nat) : Int)) (j := (val : Int)) (ev_call (⟨κ, Φ, n, name, xs.map fun k => ch.getD k 0⟩ : VN) (ea_cons (dK_var (i := 0) rfl (up (δ := dK C κ) (G := Hn) d0 s03)) (ea_cons (ed_var (i := 1) rfl (d1.up s03)) (ea_cons (ed_ixT (ds := [.str "is", .str name, encC xs, nI val]) (ed_var (i := 2) rfl (d2.up s03)) ed_int rfl)
      (ea_cons (δ := dL K ((xs.map fun k => ch.getD k 0).map nI)) (by
        rw [vars_map]
        refine ev_l (em_lcm (ei_tup (as := xs) (enc := nI) evs) xsmall fun k x H' hk sk dk => ?_)
        exact ed_ixC (ed_var (i := 3) rfl (d3.up (s03.trans sk))) (ed_var (i := 5) rfl dk) rfl (hxl k hk)) ea_nil)))) fun _ _ => ⟨hg, ?_, pnd, plt, hn7⟩)
      (ed_ixT (ds := [.str "is", .str name, encC xs, nI val]) (d := nI val) (ed_var (i := 2) rfl (d2.up s03)) ed_int rfl)) (dec_nat_eq _ _)) (Same.refl _) fun v H4 s4 d5 => hq v H4 (s03.trans s4) d5
    obtain ⟨r, h1, h2, h3⟩ := hat
    exact ⟨r, h1, h2, by rw [List.length_map]; exact h3⟩
  | not g =>
    have hdg : depthF g ≤ d := by have : depthF g + 1 ≤ d + 1 := hd; omega
    refine q_asg (δ := dD (.str "not")) (ed_ixT (ds := [.str "not", encF g]) (ed_var (i := 2) rfl d2) ed_int rfl) (Same.refl _) fun v4 H1 s1 d4 => ?_
    refine q_no (nofalse (i := 4) rfl d4 (by decide +kernel) (by decide +kernel)) (Same.refl _) fun H2 s2 => ?_
    refine q_no (no (i := 4) rfl (Dt.up s2 d4) (by decide +kernel)) (Same.refl _) fun H3 s3 => ?_
    have s03 := (s1.trans s2).trans s3
    refine q_asg (δ := dD (.bool (evalF (valN κ.rels Φ) ch g))) (rec_ rfl rfl rfl s03 (ed_ixT (ds := [.str "not", encF g]) (d := encF g) (ed_var (i := 2) rfl (d2.up s03)) ed_int rfl) gf hdg) (Same.refl _) fun v6 H4 s4 d6 => ?_
    refine q_yes (no (i := 4) rfl (Dt.up ((s2.trans s3).trans s4) d4) (by decide +kernel)) (Same.refl _) fun H5 s5 => ?_
    exact s_ret (δ := dD (.bool (evalF (valN κ.rels Φ) ch (.not g)))) (ed_notV (ed_var (i := 6) rfl (Dt.up s5 d6))) (Same.refl _) fun v H6 s6 d7 => hq v H6 ((s03.trans s4).trans (s5.trans s6)) d7
  | bin o g h =>
    have hm : max (depthF g) (depthF h) + 1 ≤ d + 1 := hd
    have hdg : depthF g ≤ d := by have := Nat.le_max_left (depthF g) (depthF h); omega
    have hdh : depthF h ≤ d := by have := Nat.le_max_right (depthF g) (depthF h); omega
    obtain ⟨gg, gh⟩ := gf
    have f1 : decide (opS o = "true") = false ∧ decide (opS o = "false") = false ∧ decide (opS o = "is") = false ∧ decide (opS o = "not") = false := by cases o <;> decide +kernel
    refine q_asg (δ := dD (.str (opS o))) (ed_ixT (ds := [.str (opS o), encF g, encF h]) (ed_var (i := 2) rfl d2) ed_int rfl) (Same.refl _) fun v4 H1 s1 d4 => ?_
    refine q_no (nofalse (i := 4) rfl d4 f1.1 f1.2.1) (Same.refl _) fun H2 s2 => ?_
    refine q_no (no (i := 4) rfl (Dt.up s2 d4) f1.2.2.1) (Same.refl _) fun H3 s3 => ?_
    have s03 := (s1.trans s2).trans s3
    refine q_asg (δ := dD (.bool (evalF (valN κ.rels Φ) ch g))) (rec_ rfl rfl rfl s03 (ed_ixT (ds := [.str (opS o), encF g, encF h]) (d := encF g) (ed_var (i := 2) rfl (d2.up s03)) ed_int rfl) gg hdg) (Same.refl _) fun v6 H4 s4 d6 => ?_
    refine q_no (no (i := 4) rfl (Dt.up ((s2.trans s3).trans s4) d4) f1.2.2.2) (Same.refl _) fun H5 s5 => ?_
    have s05 := (s03.trans s4).trans s5
    refine q_asg (δ := dD (.bool (evalF (valN κ.rels Φ) ch h))) (rec_ rfl rfl rfl s05 (ed_ixT (ds := [.str (opS o), encF g, encF h]) (d := encF h) (ed_var (i := 2) rfl (d2.up s05)) ed_int rfl) gh hdh) (Same.refl _) fun v7 H6 s6 d7 => ?_
    have s06 := s05.trans s6
    have d4' : Dt H6 v4 (.str (opS o)) := Dt.up (((s2.trans s3).trans s4).trans (s5.trans s6)) d4
    have d6' : Dt H6 v6 (.bool (evalF (valN κ.rels Φ) ch g)) := Dt.up (s5.trans s6) d6
    have d7' : Dt H6 v7 (.bool (evalF (valN κ.rels Φ) ch h)) := d7
    clear d2 d4 d6 d7 nofalse rec_
    cases o with
    | and =>
      refine q_yes (no (i := 4) rfl d4' (by decide +kernel)) (Same.refl _) fun H7 s7 => ?_
      exact s_ret (δ := dD (.bool (evalF (valN κ.rels Φ) ch g && evalF (valN κ.rels Φ) ch h))) (ed_andV (ed_var (i := 6) rfl (d6'.up s7)) fun _ => ed_var (i := 7) rfl (d7'.up s7)) (Same.refl _) fun v H8 s8 d9 => hq v H8 (s06.trans (s7.trans s8)) d9
    | or =>
      refine q_no (no (i := 4) rfl d4' (by decide +kernel)) (Same.refl _) fun H7 s7 => ?_
      refine q_yes (no (i := 4) rfl (d4'.up s7) (by decide +kernel)) (Same.refl _) fun H8 s8 => ?_
      have s68 := s7.trans s8
      exact s_ret (δ := dD (.bool (evalF (valN κ.rels Φ) ch g || evalF (valN κ.rels Φ) ch h))) (ed_orV (ed_var (i := 6) rfl (d6'.up s68)) fun _ => ed_var (i := 7) rfl (d7'.up s68)) (Same.refl _) fun v H9 s9 d9 => hq v H9 (s06.trans (s68.trans s9)) d9
    | imp =>
      refine q_no (no (i := 4) rfl d4' (by decide +kernel)) (Same.refl _) fun H7 s7 => ?_
      refine q_no (no (i := 4) rfl (d4'.up s7) (by decide +kernel)) (Same.refl _) fun H8 s8 => ?_
      refine q_yes (no (i := 4) rfl (d4'.up (s7.trans s8)) (by decide +kernel)) (Same.refl _) fun H9 s9 => ?_
      have s69 := (s7.trans s8).trans s9
      exact s_ret (δ := dD (.bool (!evalF (valN κ.rels Φ) ch g || evalF (valN κ.rels Φ) ch h))) (ed_orV (ed_notV (ed_var (i := 6) rfl (d6'.up s69))) fun _ => ed_var (i := 7) rfl (d7'.up s69)) (Same.refl _) fun v H10 s10 d9 => hq v H10 (s06.trans (s69.trans s10)) d9
    | same =>
      refine q_no (no (i := 4) rfl d4' (by decide +kernel)) (Same.refl _) fun H7 s7 => ?_
      refine q_no (no (i := 4) rfl (d4'.up s7) (by decide +kernel)) (Same.refl _) fun H8 s8 => ?_
      refine q_no (no (i := 4) rfl (d4'.up (s7.trans s8)) (by decide +kernel)) (Same.refl _) fun H9 s9 => ?_
      have s69 := (s7.trans s8).trans s9
      exact s_ret (δ := dD (.bool (evalF (valN κ.rels Φ) ch g == evalF (valN κ.rels Φ) ch h))) (ed_eqB (ed_var (i := 6) rfl (d6'.up s69)) (ed_var (i := 7) rfl (d7'.up s69))) (Same.refl _) fun v H10 s10 d9 => hq v H10 (s06.trans (s69.trans s10)) d9
end
end D18
set_option Elab.async false
set_option linter.all false
set_option maxRecDepth 100000
set_option maxHeartbeats 8000000
/-! Pg7: holds, holds_at_last, is_of_kind, extensions. -/
namespace D18
open PySem L2
section
variable {P : Program} {w : World} {K : PySem.W.Frag} {mg : Str → Option Value} {base : Heap}
structure HS where
  κ : Kd
  Φ : Fa
  n : Nat
  s : Sent
structure HS.Ok (x : HS) : Prop where
  rs : GoodRs x.κ.rels
  gs : GoodS x.κ.rels x.s
  n7 : x.n ≤ 7
theorem chosen_ok {n c : Nat} {ch : List Nat} (h : ch ∈ choicesF (List.range n) c) : ch.length = c ∧ ch.Nodup ∧ ∀ k ∈ ch, k < n := by
  obtain ⟨h1, h2, h3⟩ := choices_mem.mp h
  exact ⟨h1, h2, fun k hk => List.mem_range.mp (h3 k hk)⟩
theorem all_take_succ {α : Type} {p : α → Bool} {as : List α} {i : Nat} {a : α} (h : as[i]? = some a) : (as.take (i + 1)).all p = ((as.take i).all p && p a) := by
  rw [take_succ_get h, List.all_append]; simp
theorem all_false_of {α : Type} {p : α → Bool} {as : List α} {i : Nat} {a : α} (h : as[i]? = some a) (hp : p a = false) : as.all p = false := by
  rw [List.all_eq_false]
  exact ⟨a, List.mem_of_getElem? h, by rw [hp]; simp⟩
theorem struct_len (rels : List Rel) (Φ : Fa) (n : Nat) : (structOf rels Φ n).length = n := by unfold structOf; rw [List.length_map, List.length_range]
theorem ed_lenS {σ : L2.St} {H : Hp} {ta : TE} {rels : List Rel} {Φ : Fa} {n : Nat} (ha : EvX ta σ H (dD (encS (structOf rels Φ n)))) : EvX (tCB (rLenQ K) (tCons ta tNil)) σ H (dD (nI n)) := by
  have q := ed_lenTm (K := K) ha
  rwa [struct_len] at q
abbrev sHolds : Stmt := topS 19
def spHolds (C : Addr) : Sp := spOf (R := HS) (fun x => [dK C x.κ, dD (encS (structOf x.κ.rels x.Φ x.n)), dD (encSe x.s)]) (fun x _ => x.Ok) (fun x => dD (.bool (holdsF x.κ.rels x.Φ x.n x.s)))
theorem scHolds : FnScope ["kind", "structure", "sentence", "count", "formula", "chosen"] ["kind", "structure", "sentence"] (defScope sHolds) := ⟨rfl, rfl, rfl, by decide +kernel, rfl, by decide +kernel, by decide +kernel⟩
theorem ok_holds {C : Addr} {f : Addr} {fd : FuncData} (Fn : Fun K "holds" "holds" sHolds f fd) (T : Txt K mg) (h_choices : Dl P w K mg base "choices" 1 ["points", "count"] (spChoices K)) (h_is_true : Dl P w K mg base "is_true" 14 ["kind", "structure", "formula", "chosen"] (spIsTrue C 12)) :
    FnOk P w K mg base CX0 15 f fd ["kind", "structure", "sentence"] (spHolds C) := by
  have nd := scHolds.nd
  refine okD Fn scHolds (fun _ => rfl) fun cdv A outer s H E hr => ⟨_, (pss_cons (ps_asg (pv 2) (pg_tupK (K := K) (n := 2) rfl (pgs_cons (pg_name (i := 3) nd rfl (by first | exact Or.inl rfl | exact Or.inr rfl)) (pgs_cons (pg_name (i := 4) nd rfl (by first | exact Or.inl rfl | exact Or.inr rfl)) pgs_nil))))
    (pss_cons (ps_for PassesOwn.never rfl (pi_listK (K := K) (pe_dl h_choices (hr.mono (by omega)) rfl (pa_cons (pe_listRg rfl rfl T.list (prg_1 rfl T.range (pe_callB (call_lenK (K := K)) (by rfl) T.len PySem.boot_len (pa_cons (pv 1) pa_nil)))) (pa_cons (pv 3) pa_nil)))) (pg_name (i := 5) nd rfl (by first | exact Or.inl rfl | exact Or.inr rfl))
      (pss_one (ps_if (pt_not (pt_val (pe_dl h_is_true (hr.mono (by omega)) rfl (pa_cons (pv 0) (pa_cons (pv 1) (pa_cons (pv 4) (pa_cons (pv 5) pa_nil))))))) (pss_one (ps_ret pe_bl)) pss_nil)))
    (pss_one (ps_ret pe_bl)))), ?_⟩
  rintro ⟨κ, Φ, n, c, fm⟩ vs D ha ⟨hg, ⟨hc1, hc4, gf, hd⟩, hn7⟩ hq -
  obtain ⟨v0, v1, v2, rfl, d0, d1, d2⟩ := all2_3 ha
  have hc4 : c ≤ 4 := hc4
  have hn7 : n ≤ 7 := hn7
  have d1 : Dt H v1 (encS (structOf κ.rels Φ n)) := d1
  refine q_asg2 (d := nI c) (e := encF fm) (ed_var (i := 2) rfl d2) (Same.refl _) fun v3 v4 H1 s1 d3 d4 => ?_
  refine q_for (as := choicesF (List.range n) c) (ei_listM (enc := encC) (ev_call (List.range n, c) (ea_cons (ev_l (em_listRg (n := n) (ed_lenS (ed_var (i := 1) rfl (d1.up s1))) (by omega))) (ea_cons (ed_var (i := 3) rfl d3) ea_nil)) fun _ _ => ⟨by show (List.range n).length ≤ 7; rw [List.length_range]; exact hn7, hc4⟩)) (Same.refl _) fun H2 s2 => ?_
  refine ⟨fun i σ' H' => (∃ v5, σ' = [some v0, some v1, some v2, some v3, some v4, v5]) ∧ Same H2 H' ∧ (((choicesF (List.range n) c).take i).all fun ch => evalF (valN κ.rels Φ) ch fm) = true, ⟨⟨none, rfl⟩, Same.refl _, by simp⟩, fun i σ' H' _ h => kp_same s2 h.2.1, ?_, ?_⟩
  · rintro i ch x σ' H' H'' hch ⟨⟨v5, rfl⟩, s', hall⟩ sy dx
    obtain ⟨l1, l2, l3⟩ := chosen_ok (List.mem_of_getElem? hch)
    have sH := ((s1.trans s2).trans s').trans sy
    have gf' : GoodF κ.rels ch.length fm := by rw [l1]; exact gf
    refine s_if (b := !evalF (valN κ.rels Φ) ch fm) (et_not (et_B (ev_call (⟨κ, Φ, n, fm, ch⟩ : TI4) (ea_cons (dK_var (i := 0) rfl (up (δ := dK C κ) (G := Hn) d0 sH)) (ea_cons (ed_var (i := 1) rfl (d1.up sH)) (ea_cons (ed_var (i := 4) rfl (d4.up ((s2.trans s').trans sy))) (ea_cons (ed_var (i := 5) rfl dx) ea_nil)))) fun _ _ => ⟨hg, gf', l2, l3, hn7, hd⟩))) (Same.refl _) (fun hb H3 s3 => ?_) fun hb H3 s3 => ?_
    · refine s_ret ed_bl (Same.refl _) fun v H4 s4 dv => hq v H4 (sH.trans (s3.trans s4)) ?_
      have e : holdsF κ.rels Φ n (c, fm) = false := all_false_of hch (by simpa using hb)
      show Dt H4 v (.bool (holdsF κ.rels Φ n (c, fm)))
      rw [e]; exact dv
    · refine ⟨⟨some x, rfl⟩, (s'.trans sy).trans s3, ?_⟩
      rw [all_take_succ hch, hall]
      simpa using hb
  · rintro σ' H' ⟨⟨v5, rfl⟩, s', hall⟩
    rw [List.take_length] at hall
    refine s_ret ed_bl (Same.refl _) fun v H4 s4 dv => hq v H4 (((s1.trans s2).trans s').trans s4) ?_
    have e : holdsF κ.rels Φ n (c, fm) = true := hall
    show Dt H4 v (.bool (holdsF κ.rels Φ n (c, fm)))
    rw [e]; exact dv
abbrev sHoldsLast : Stmt := topS 25
/-- n is the last point: n + 1 points -/
def spHoldsLast (C : Addr) : Sp := spOf (R := HS) (fun x => [dK C x.κ, dD (encS (structOf x.κ.rels x.Φ (x.n + 1))), dD (encSe x.s)]) (fun x _ => x.Ok ∧ x.n ≤ 6) (fun x => dD (.bool (holdsLast x.κ.rels x.Φ (x.n + 1) x.s)))
theorem scHoldsLast : FnScope ["kind", "structure", "sentence", "count", "formula", "last", "chosen"] ["kind", "structure", "sentence"] (defScope sHoldsLast) := ⟨rfl, rfl, rfl, by decide +kernel, rfl, by decide +kernel, by decide +kernel⟩
theorem ok_holdsLast {C : Addr} {f : Addr} {fd : FuncData} (Fn : Fun K "holds_at_last" "holds_at_last" sHoldsLast f fd) (T : Txt K mg) (h_choices : Dl P w K mg base "choices" 1 ["points", "count"] (spChoices K)) (h_is_true : Dl P w K mg base "is_true" 14 ["kind", "structure", "formula", "chosen"] (spIsTrue C 12)) :
    FnOk P w K mg base CX0 15 f fd ["kind", "structure", "sentence"] (spHoldsLast C) := by
  have nd := scHoldsLast.nd
  refine okD Fn scHoldsLast (fun _ => rfl) fun cdv A outer s H E hr => ⟨_, (pss_cons (ps_asg (pv 2) (pg_tupK (K := K) (n := 2) rfl (pgs_cons (pg_name (i := 3) nd rfl (by first | exact Or.inl rfl | exact Or.inr rfl)) (pgs_cons (pg_name (i := 4) nd rfl (by first | exact Or.inl rfl | exact Or.inr rfl)) pgs_nil))))
    (pss_cons (ps_set (i := 5) nd rfl (by first | exact Or.inl rfl | exact Or.inr rfl) (pe_op op_sub (pe_callB (call_lenK (K := K)) (by rfl) T.len PySem.boot_len (pa_cons (pv 1) pa_nil)) pe_int))
    (pss_cons (ps_for PassesOwn.never rfl (pi_listK (K := K) (pe_dl h_choices (hr.mono (by omega)) rfl (pa_cons (pe_listRg rfl rfl T.list (prg_1 rfl T.range (pe_callB (call_lenK (K := K)) (by rfl) T.len PySem.boot_len (pa_cons (pv 1) pa_nil)))) (pa_cons (pv 3) pa_nil)))) (pg_name (i := 6) nd rfl (by first | exact Or.inl rfl | exact Or.inr rfl))
      (pss_one (ps_if (PW.pt (pw_and (pt_cmpR (op_inK (K := K)) (pv 5) (pv 6) (by rfl)) (pw_and1 (pt_not (pt_val (pe_dl h_is_true (hr.mono (by omega)) rfl (pa_cons (pv 0) (pa_cons (pv 1) (pa_cons (pv 4) (pa_cons (pv 6) pa_nil)))))))))) (pss_one (ps_ret pe_bl)) pss_nil)))
    (pss_one (ps_ret pe_bl))))), ?_⟩
  rintro ⟨κ, Φ, n, c, fm⟩ vs D ha ⟨⟨hg, ⟨hc1, hc4, gf, hd⟩, _⟩, hn6⟩ hq -
  obtain ⟨v0, v1, v2, rfl, d0, d1, d2⟩ := all2_3 ha
  have hc4 : c ≤ 4 := hc4
  have hn6 : n ≤ 6 := hn6
  have d1 : Dt H v1 (encS (structOf κ.rels Φ (n + 1))) := d1
  refine q_asg2 (d := nI c) (e := encF fm) (ed_var (i := 2) rfl d2) (Same.refl _) fun v3 v4 H1 s1 d3 d4 => ?_
  refine q_asg (δ := dD (nI n)) (dI_to (ed_op0 (ed_lenS (ed_var (i := 1) rfl (d1.up s1))) ed_int) (by omega)) (Same.refl _) fun v5 H1' s1' d5 => ?_
  have s01 := s1.trans s1'
  refine q_for (as := choicesF (List.range (n + 1)) c) (ei_listM (enc := encC) (ev_call (List.range (n + 1), c) (ea_cons (ev_l (em_listRg (n := n + 1) (ed_lenS (ed_var (i := 1) rfl (d1.up s01))) (by omega))) (ea_cons (ed_var (i := 3) rfl (d3.up s1')) ea_nil)) fun _ _ => ⟨by show (List.range (n + 1)).length ≤ 7; rw [List.length_range]; omega, hc4⟩)) (Same.refl _) fun H2 s2 => ?_
  refine ⟨fun i σ' H' => (∃ v6, σ' = [some v0, some v1, some v2, some v3, some v4, some v5, v6]) ∧ Same H2 H' ∧ (((choicesF (List.range (n + 1)) c).take i).all fun ch => !(decide (n ∈ ch) && !evalF (valN κ.rels Φ) ch fm)) = true, ⟨⟨none, rfl⟩, Same.refl _, by simp⟩, fun i σ' H' _ h => kp_same s2 h.2.1, ?_, ?_⟩
  · rintro i ch x σ' H' H'' hch ⟨⟨v6, rfl⟩, s', hall⟩ sy dx
    obtain ⟨l1, l2, l3⟩ := chosen_ok (List.mem_of_getElem? hch)
    have s2y := (s2.trans s').trans sy
    have sH := s01.trans s2y
    have gf' : GoodF κ.rels ch.length fm := by rw [l1]; exact gf
    refine s_if (b := decide (n ∈ ch) && !evalF (valN κ.rels Φ) ch fm) (et_and (et_test (ed_inN (ed_var (i := 5) rfl (Dt.up s2y d5)) (ed_var (i := 6) rfl dx))) fun _ => et_not (et_B (ev_call (⟨κ, Φ, n + 1, fm, ch⟩ : TI4) (ea_cons (dK_var (i := 0) rfl (up (δ := dK C κ) (G := Hn) d0 sH)) (ea_cons (ed_var (i := 1) rfl (d1.up sH)) (ea_cons (ed_var (i := 4) rfl (d4.up (s1'.trans s2y))) (ea_cons (ed_var (i := 6) rfl dx) ea_nil)))) fun _ _ => ⟨hg, gf', l2, l3, by show n + 1 ≤ 7; omega, hd⟩))) (Same.refl _) (fun hb H3 s3 => ?_) fun hb H3 s3 => ?_
    · refine s_ret ed_bl (Same.refl _) fun v H4 s4 dv => hq v H4 (sH.trans (s3.trans s4)) ?_
      have e : holdsLast κ.rels Φ (n + 1) (c, fm) = false := all_false_of hch (by show (!(decide (n + 1 - 1 ∈ ch) && _)) = false; rw [Nat.add_sub_cancel, hb]; rfl)
      show Dt H4 v (.bool (holdsLast κ.rels Φ (n + 1) (c, fm)))
      rw [e]; exact dv
    · refine ⟨⟨some x, rfl⟩, (s'.trans sy).trans s3, ?_⟩
      rw [all_take_succ hch, hall, hb]
      rfl
  · rintro σ' H' ⟨⟨v6, rfl⟩, s', hall⟩
    rw [List.take_length] at hall
    refine s_ret ed_bl (Same.refl _) fun v H4 s4 dv => hq v H4 (((s01.trans s2).trans s').trans s4) ?_
    have e : holdsLast κ.rels Φ (n + 1) (c, fm) = true := by unfold holdsLast; simpa only [Nat.add_sub_cancel] using hall
    show Dt H4 v (.bool (holdsLast κ.rels Φ (n + 1) (c, fm)))
    rw [e]; exact dv

structure KS where
  κ : Kd
  Φ : Fa
  n : Nat
structure KS.Ok (x : KS) : Prop where
  gk : GoodK x.κ
  n6 : x.n ≤ 6
  gv : GoodV x.κ.rels x.Φ x.n
abbrev sIsOfKind : Stmt := topS 20
def spIsOfKind (C : Addr) : Sp := spOf (R := KS) (fun x => [dK C x.κ, dD (encS (structOf x.κ.rels x.Φ x.n))]) (fun x _ => x.Ok) (fun x => dD (.bool (x.κ.sents.all fun s => holdsF x.κ.rels x.Φ x.n s)))
theorem scIsOfKind : FnScope ["kind", "structure", "sentence"] ["kind", "structure"] (defScope sIsOfKind) := ⟨rfl, rfl, rfl, by decide +kernel, rfl, by decide +kernel, by decide +kernel⟩
theorem ok_isOfKind {C : Addr} {f : Addr} {fd : FuncData} (Fn : Fun K "is_of_kind" "is_of_kind" sIsOfKind f fd) (T : Txt K mg) (KK : KC K C) (h_has_shape : Dl P w K mg base "has_shape" 3 ["kind", "structure"] (spHasShape C)) (h_holds : Dl P w K mg base "holds" 15 ["kind", "structure", "sentence"] (spHolds C)) :
    FnOk P w K mg base CX0 16 f fd ["kind", "structure"] (spIsOfKind C) := by
  have nd := scIsOfKind.nd
  refine okD Fn scIsOfKind (fun _ => rfl) fun cdv A outer s H E hr => ⟨_, (pss_one (ps_ret (pe_and (pe_dl h_has_shape (hr.mono (by omega)) rfl (pa_cons (pv 0) (pa_cons (pv 1) pa_nil))) (pe_one (pe_callB (cr_allK (K := K) rfl) (by rfl) T.all (by decide +kernel) (pa_cons (pe_lc (own := [("sentence", 2)]) rfl nd (pi_listK (K := K) (pe_fldK (K := K) (pv 0) rfl)) (blkOk_by (by kernel_rfl)) (fun _ _ _ _ _ => (pg_name (i := 2) nd rfl (by first | exact Or.inl rfl | exact Or.inr rfl))) (fun _ _ _ _ _ => pts_nil) (fun _ _ _ _ _ => (pe_dl h_holds (hr.mono (by omega)) rfl (pa_cons (pv 0) (pa_cons (pv 1) (pa_cons (pv 2) pa_nil)))))) pa_nil)))))), ?_⟩
  rintro ⟨κ, Φ, n⟩ vs D ha ⟨gk, hn6, gv⟩ hq -
  obtain ⟨v0, v1, rfl, d0, d1⟩ := all2_2 ha
  have hn6 : n ≤ 6 := hn6
  have gk : GoodK κ := gk
  have d1 : Dt H v1 (encS (structOf κ.rels Φ n)) := d1
  have d0' := d0
  obtain ⟨a, dx, fs, rfl, hk, kf⟩ := d0'
  obtain ⟨vs', ls, ds⟩ := kf.sen
  refine s_ret (δ := dD (.bool (κ.sents.all fun s => holdsF κ.rels Φ n s))) (dB_to (ed_andV (a := true) (b := (κ.sents.map fun s => holdsF κ.rels Φ n s).all id) (ev_call (κ, Φ, n) (ea_cons (dK_var (i := 0) rfl d0) (ea_cons (ed_var (i := 1) rfl d1) ea_nil)) fun _ _ => ⟨gk.rs, by show n ≤ 7; omega, gv⟩) fun _ =>
    ed_all (ev_l (em_lcmE (enc := .bool) (as := κ.sents) (f := fun s => holdsF κ.rels Φ n s) (ei_at (enc := encSe) (ev_fld (ev_var (i := 0) rfl) hk KK.cl KK.sen ls) ds) (small_line (by have := gk.few; omega)) fun s x H' hs sH dx => ?_))) ?_) (Same.refl _) hq
  · exact ev_call (⟨κ, Φ, n, s⟩ : HS) (ea_cons (dK_var (i := 0) rfl (up (δ := dK C κ) (G := Hn) d0 sH)) (ea_cons (ed_var (i := 1) rfl (d1.up sH)) (ea_cons (ed_var (i := 2) rfl dx) ea_nil))) fun _ _ => ⟨gk.rs, gk.ss s hs, by show n ≤ 7; omega⟩
  · rw [List.all_map]; rfl
abbrev sExts : Stmt := topS 26
def spExts (C : Addr) : Sp := spOf (R := KS) (fun x => [dK C x.κ, dD (encS (structOf x.κ.rels x.Φ x.n))]) (fun x _ => x.Ok ∧ countF x.κ.rels x.n ≤ 4096) (fun x => dM ((extsF x.κ x.Φ x.n).map encL))
theorem scExts : FnScope ["kind", "structure", "found", "layer", "larger", "sentence"] ["kind", "structure"] (defScope sExts) := ⟨rfl, rfl, rfl, by decide +kernel, rfl, by decide +kernel, by decide +kernel⟩
theorem encS_app (s : List (List (List Nat))) (l : List (List Nat)) : encS (s ++ [l]) = .tuple (s.map encL ++ [encL l]) := by unfold encS; rw [List.map_append]; rfl
theorem ok_exts {C : Addr} {f : Addr} {fd : FuncData} (Fn : Fun K "extensions" "extensions" sExts f fd) (T : Txt K mg) (KK : KC K C) (h_layers : Dl P w K mg base "layers" 5 ["kind", "point"] (spLayers C)) (h_holds_at_last : Dl P w K mg base "holds_at_last" 15 ["kind", "structure", "sentence"] (spHoldsLast C)) :
    FnOk P w K mg base CX0 16 f fd ["kind", "structure"] (spExts C) := by
  have nd := scExts.nd
  refine okD Fn scExts (fun _ => rfl) fun cdv A outer s H E hr => ⟨_, (pss_cons (ps_set (i := 2) nd rfl (by first | exact Or.inl rfl | exact Or.inr rfl) (pe_lst pa_nil))
    (pss_cons (ps_for PassesOwn.never rfl (pi_listK (K := K) (pe_dl h_layers (hr.mono (by omega)) rfl (pa_cons (pv 0) (pa_cons (pe_callB (call_lenK (K := K)) (by rfl) T.len PySem.boot_len (pa_cons (pv 1) pa_nil)) pa_nil)))) (pg_name (i := 3) nd rfl (by first | exact Or.inl rfl | exact Or.inr rfl))
      (pss_cons (ps_set (i := 4) nd rfl (by first | exact Or.inl rfl | exact Or.inr rfl) (pe_op (op_catK (K := K)) (pv 1) (pe_tup (pa_cons (pv 3) pa_nil))))
    (pss_one (ps_if (pt_val (pe_callB (cr_allK (K := K) rfl) (by rfl) T.all (by decide +kernel) (pa_cons (pe_lc (own := [("sentence", 5)]) rfl nd (pi_listK (K := K) (pe_fldK (K := K) (pv 0) rfl)) (blkOk_by (by kernel_rfl)) (fun _ _ _ _ _ => (pg_name (i := 5) nd rfl (by first | exact Or.inl rfl | exact Or.inr rfl))) (fun _ _ _ _ _ => pts_nil) (fun _ _ _ _ _ => (pe_dl h_holds_at_last (hr.mono (by omega)) rfl (pa_cons (pv 0) (pa_cons (pv 4) (pa_cons (pv 5) pa_nil)))))) pa_nil))) (pss_one (ps_expr (pe_bmK (K := K) PySem.F.plainAttrs_list PySem.F.slot_list_append PySem.F.type_list_append mt_append (pv 2) (pa_cons (pv 3) pa_nil)))) pss_nil))))
    (pss_one (ps_ret (pv 2))))), ?_⟩
  rintro ⟨κ, Φ, n⟩ vs D ha ⟨⟨gk, hn6, gv⟩, hc⟩ hq -
  obtain ⟨v0, v1, rfl, d0, d1⟩ := all2_2 ha
  have hn6 : n ≤ 6 := hn6
  have gk : GoodK κ := gk
  have gv : GoodV κ.rels Φ n := gv
  have hc : countF κ.rels n ≤ 4096 := hc
  have d1 : Dt H v1 (encS (structOf κ.rels Φ n)) := d1
  have d0' := d0
  obtain ⟨a, dx, fs, rfl, hk, kf⟩ := d0'
  obtain ⟨vs', ls, ds⟩ := kf.sen
  refine q_asg (δ := dM []) (em_lst (ds := []) ea_nil (Nat.zero_le _)) (Same.refl _) fun v2 H1 s1 d2 => ?_
  obtain ⟨l, zs, rfl, hl0, hl1, rz⟩ := d2
  cases rz
  -- all that was there, without the list
  refine q_for (as := layersF κ.rels n) (H0 := H) (ei_listM (enc := encL) (ev_call (κ, n) (ea_cons (dK_var (i := 0) rfl d0) (ea_cons (ed_lenS (ed_var (i := 1) rfl d1)) ea_nil)) fun _ _ => ⟨gk.rs, hn6, hc⟩)) s1 fun H2 s2 => ?_
  have lens := layers_len n κ.rels [[]]
  have hcnt : (layersF κ.rels n).length ≤ 4096 := by
    have e : (layersF κ.rels n).length = countF κ.rels n := lens
    rw [e]; exact hc
  refine ⟨fun i σ' H' => ∃ v3 v4 zs, σ' = [some (.ref a), some v1, some (.ref l), v3, v4, none] ∧ Kp H H1 H2 H' ∧ H' l = some (.lst zs) ∧ Dts H' zs ((((layersF κ.rels n).take i).filter fun l => κ.sents.all fun s => holdsLast κ.rels (extF κ.rels Φ n l) (n + 1) s).map encL),
    ⟨none, none, [], rfl, kp_same (s1.trans s2) (Same.refl _), s2 _ _ hl1, .nil⟩, fun i σ' H' _ ⟨_, _, _, _, k, _⟩ => k, ?_, ?_⟩
  · rintro i lay x σ' H' H'' hlay ⟨v3, v4, zs, rfl, kp, hl, rz⟩ sy dx
    have hmem := List.mem_of_getElem? hlay
    have sH : Same H H'' := kp.1.trans sy
    have sh := (layers_mem hmem).1
    show tSeq _ _ _ [some (.ref a), some v1, some (.ref l), some x, v4, none] H''
    refine q_asg (δ := dD (encS (structOf κ.rels (extF κ.rels Φ n lay) (n + 1)))) ?_ (Same.refl _) fun v4' H3 s3 d4 => ?_
    · rw [structOf_ext sh, encS_app]
      refine ed_cat (ed_var (i := 1) rfl (d1.up sH)) (ed_tup (ds := [encL lay]) (ea_cons (ed_var (i := 3) rfl dx) ea_nil) (small_line (by simp))) (small_line ?_)
      rw [List.length_map, struct_len]
      simp
      omega
    have s03 := sH.trans s3
    refine s_if (b := κ.sents.all fun s => holdsLast κ.rels (extF κ.rels Φ n lay) (n + 1) s) (et_B (dB_to (ed_all (ev_l (em_lcmE (enc := .bool) (as := κ.sents) (f := fun s => holdsLast κ.rels (extF κ.rels Φ n lay) (n + 1) s) (ei_at (enc := encSe) (ev_fld (ev_var (i := 0) rfl) (s03 _ _ hk) KK.cl KK.sen ls) (up ds s03)) (small_line (by have := gk.few; omega)) fun s x' G hs sG dx' => ?_))) ?_)) (Same.refl _) (fun hb H4 s4 => ?_) fun hb H4 s4 => ?_
    · exact ev_call (⟨κ, extF κ.rels Φ n lay, n, s⟩ : HS) (ea_cons (dK_var (i := 0) rfl (up (δ := dK C κ) (G := Hn) d0 (s03.trans sG))) (ea_cons (ed_var (i := 4) rfl (Dt.up sG d4)) (ea_cons (ed_var (i := 5) rfl dx') ea_nil))) fun _ _ => ⟨⟨gk.rs, gk.ss s hs, by show n ≤ 7; omega⟩, hn6⟩
    · rw [List.all_map]; rfl
    · have hl4 : H4 l = some (.lst zs) := s4 _ _ (s3 _ _ (sy _ _ hl))
      refine s_append (j := 2) rfl hl4 (ed_var (i := 3) rfl (dx.up (s3.trans s4))) (Same.refl _) (small_lt ?_) fun v H5 s5 dv => ?_
      · rw [rz.length, List.length_map]
        have h1 := List.length_filter_le (fun l => κ.sents.all fun s => holdsLast κ.rels (extF κ.rels Φ n l) (n + 1) s) ((layersF κ.rels n).take i)
        have h2 : ((layersF κ.rels n).take i).length ≤ (layersF κ.rels n).length := by rw [List.length_take]; exact Nat.min_le_right _ _
        omega
      have s25 := ((sy.trans s3).trans s4).trans s5
      refine ⟨some x, some v4', zs ++ [v], rfl, (kp.up s25).write hl0 (by rw [hl1]; intro z; cases z) (s5 _ _ hl4), upd_same, ?_⟩
      rw [take_succ_get hlay, List.filter_append, List.filter_cons_of_pos (by exact hb), List.filter_nil, List.map_append]
      have tk := tk_lst (o := .lst (zs ++ [v])) (s5 _ _ hl4)
      exact (rz.mono ((tk_same s25).trans tk)).append (.cons (Dt.mono tk dv) .nil)
    · refine ⟨some x, some v4', zs, rfl, kp.up ((sy.trans s3).trans s4), s4 _ _ (s3 _ _ (sy _ _ hl)), ?_⟩
      rw [take_succ_get hlay, List.filter_append, List.filter_cons_of_neg (by rw [hb]; simp), List.filter_nil, List.append_nil]
      exact rz.up ((sy.trans s3).trans s4)
  · rintro σ' H' ⟨v3, v4, zs, rfl, kp, hl, rz⟩
    rw [List.take_length] at rz
    refine s_ret (ev_var (i := 2) rfl) (Same.refl _) fun v H3 s3 d3 => ?_
    cases d3
    exact hq _ _ (kp.1.trans s3) ⟨l, zs, rfl, hl0, s3 _ _ hl, rz.up s3⟩
end
end D18
set_option Elab.async false
set_option linter.all false
set_option maxRecDepth 100000
set_option maxHeartbeats 8000000
/-! Pg8: atoms_of, ask_atoms. -/
namespace D18
open PySem L2
def subsF : Fm → List Fm
  | .not f => [f]
  | .bin _ f g => [f, g]
  | _ => []
def atomsF : Fm → List Fm
  | .tt => []
  | .ff => []
  | .is n vs v => [.is n vs v]
  | .not f => atomsF f
  | .bin _ f g => atomsF f ++ atomsF g
theorem atoms_len : ∀ f : Fm, (atomsF f).length ≤ 2 ^ depthF f
  | .tt => Nat.zero_le _
  | .ff => Nat.zero_le _
  | .is _ _ _ => by simp [atomsF, depthF]
  | .not f => by
    have h := atoms_len f
    show (atomsF f).length ≤ 2 ^ (depthF f + 1)
    rw [Nat.pow_succ]; omega
  | .bin _ f g => by
    have h1 := atoms_len f
    have h2 := atoms_len g
    show (atomsF f ++ atomsF g).length ≤ 2 ^ (max (depthF f) (depthF g) + 1)
    have p1 : 2 ^ depthF f ≤ 2 ^ (max (depthF f) (depthF g)) := Nat.pow_le_pow_right (by decide) (Nat.le_max_left _ _)
    have p2 : 2 ^ depthF g ≤ 2 ^ (max (depthF f) (depthF g)) := Nat.pow_le_pow_right (by decide) (Nat.le_max_right _ _)
    rw [List.length_append, Nat.pow_succ]; omega
theorem atoms_small {f : Fm} {d : Nat} (h : depthF f ≤ d) (hd : d ≤ 12) : (atomsF f).length ≤ 4096 := by
  refine Nat.le_trans (atoms_len f) ?_
  exact Nat.le_trans (Nat.pow_le_pow_right (by decide) (Nat.le_trans h hd)) (by decide)
theorem subs_depth {f g : Fm} {d : Nat} (hg : g ∈ subsF f) (h : depthF f ≤ d + 1) : depthF g ≤ d := by
  cases f with
  | tt => simp [subsF] at hg
  | ff => simp [subsF] at hg
  | is _ _ _ => simp [subsF] at hg
  | not f =>
    simp only [subsF, List.mem_singleton] at hg
    subst hg
    have : depthF g + 1 ≤ d + 1 := h
    omega
  | bin o f1 f2 =>
    have hm : max (depthF f1) (depthF f2) + 1 ≤ d + 1 := h
    have a1 := Nat.le_max_left (depthF f1) (depthF f2)
    have a2 := Nat.le_max_right (depthF f1) (depthF f2)
    simp only [subsF, List.mem_cons, List.not_mem_nil, or_false] at hg
    rcases hg with rfl | rfl <;> omega
theorem subs_atoms {f : Fm} (h : ∀ n vs v, f ≠ .is n vs v) : atomsF f = (subsF f).flatMap atomsF := by
  cases f with
  | tt => rfl
  | ff => rfl
  | is n vs v => exact absurd rfl (h n vs v)
  | not f => simp [atomsF, subsF]
  | bin o f g => simp [atomsF, subsF]
/-- the word of a formula -/
def wordF : Fm → Str
  | .tt => "true"
  | .ff => "false"
  | .is _ _ _ => "is"
  | .not _ => "not"
  | .bin o _ _ => opS o
def itemsF : Fm → List PyData
  | .tt => [.str "true"]
  | .ff => [.str "false"]
  | .is n vs v => [.str "is", .str n, encC vs, nI v]
  | .not f => [.str "not", encF f]
  | .bin o f g => [.str (opS o), encF f, encF g]
theorem encF_items (f : Fm) : encF f = .tuple (itemsF f) := by cases f <;> rfl
theorem items_word (f : Fm) : (itemsF f)[0]? = some (.str (wordF f)) := by cases f <;> rfl
theorem items_subs {f : Fm} (h : ∀ n vs v, f ≠ .is n vs v) : cutD (itemsF f) (some 1) none = (subsF f).map encF := by
  cases f with
  | tt => rfl
  | ff => rfl
  | is n vs v => exact absurd rfl (h n vs v)
  | not f => rfl
  | bin o f g => rfl
theorem word_is {f : Fm} (h : ∀ n vs v, f ≠ .is n vs v) : decide (wordF f = "is") = false := by
  cases f with
  | tt => decide +kernel
  | ff => decide +kernel
  | is n vs v => exact absurd rfl (h n vs v)
  | not f => show decide (("not" : Str) = "is") = false; decide +kernel
  | bin o f g => show decide (opS o = "is") = false; cases o <;> decide +kernel
section
variable {P : Program} {w : World} {K : PySem.W.Frag} {mg : Str → Option Value} {base : Heap}
abbrev sAtoms : Stmt := topS 28
def spAtoms (d : Nat) : Sp := spOf (R := Fm) (fun f => [dD (encF f)]) (fun f _ => depthF f ≤ d) (fun f => dM ((atomsF f).map encF))
theorem scAtoms : FnScope ["formula", "atoms", "inner"] ["formula"] (defScope sAtoms) := ⟨rfl, rfl, rfl, by decide +kernel, rfl, by decide +kernel, by decide +kernel⟩
theorem ok_atoms {d : Nat} (hd12 : d + 1 ≤ 12) {f : Addr} {fd : FuncData} (Fn : Fun K "atoms_of" "atoms_of" sAtoms f fd) (T : Txt K mg) (h_atoms_of : Dl P w K mg base "atoms_of" d ["formula"] (spAtoms d)) : FnOk P w K mg base CX0 (d + 1) f fd ["formula"] (spAtoms (d + 1)) := by
  have nd := scAtoms.nd
  refine okD Fn scAtoms (fun _ => rfl) fun cdv A outer s H E hr => ⟨_, (pss_cons (ps_if (pt_cmpR op_eq (pe_ix (ix_tupK (K := K)) (pv 0) pe_int (fun _ _ => rfl)) pe_str (nomark _)) (pss_one (ps_ret (pe_lst (pa_cons (pv 0) pa_nil)))) pss_nil)
    (pss_cons (ps_set (i := 1) nd rfl (by first | exact Or.inl rfl | exact Or.inr rfl) (pe_lst pa_nil))
    (pss_cons (ps_for PassesOwn.never rfl (pi_tupK (K := K) (pe_slice (sl_tupK (K := K)) (pv 0) (po_some pe_int) po_none)) (pg_name (i := 2) nd rfl (by first | exact Or.inl rfl | exact Or.inr rfl))
      (pss_one (ps_expr (pe_bmK (K := K) PySem.F.plainAttrs_list PySem.F.slot_list_extend PySem.F.type_list_extend mt_extend (pv 1) (pa_cons (pe_dl h_atoms_of (hr.mono (by omega)) rfl (pa_cons (pv 2) pa_nil)) pa_nil)))))
    (pss_one (ps_ret (pv 1)))))), ?_⟩
  rintro fm vs D ha hd hq -
  have hd : depthF fm ≤ d + 1 := hd
  obtain ⟨v0, rfl, d0⟩ := all2_1 ha
  have d0 : Dt H v0 (encF fm) := d0
  have d0' : Dt H v0 (.tuple (itemsF fm)) := by rw [← encF_items]; exact d0
  have word : EvX (tOp (rIxT K) (tVar 0) (tC (.int 0))) [some v0, none, none] H (dD (.str (wordF fm))) := ed_ixT (ed_var (i := 0) rfl d0') ed_int (atI_nat (j := 0) (items_word fm))
  by_cases his : ∃ n xs val, fm = .is n xs val
  · obtain ⟨n, xs, val, rfl⟩ := his
    refine q_yes (et_test (dB_to (ed_eqS word ed_str) (show decide (("is" : Str) = "is") = true by decide +kernel))) (Same.refl _) fun H1 s1 => ?_
    exact s_ret (δ := dM [encF (.is n xs val)]) (em_lst (ds := [encF (.is n xs val)]) (ea_cons (ed_var (i := 0) rfl (d0.up s1)) ea_nil) (small_line (by simp))) (Same.refl _) fun v H2 s2 dv => hq v H2 (s1.trans s2) (Mo.mo dv (Same.refl _) fun _ z => s1.free z)
  · have hno : ∀ n vs v, fm ≠ .is n vs v := fun n vs v e => his ⟨n, vs, v, e⟩
    refine q_no (et_test (dB_to (ed_eqS word ed_str) (word_is hno))) (Same.refl _) fun H0 s0 => ?_
    refine q_asg (δ := dM []) (em_lst (ds := []) ea_nil (Nat.zero_le _)) (Same.refl _) fun v1 H1 s1 d1 => ?_
    obtain ⟨l, zs, rfl, hl0, hl1, rz⟩ := d1
    cases rz
    refine q_for (as := subsF fm) (H0 := H0) (ei_tup (enc := encF) ((ed_slT (ed_var (i := 0) rfl (d0'.up s0)) (eo_some ed_int) eo_none).to (by rw [items_subs hno]))) s1 fun H2 s2 => ?_
    refine ⟨fun i σ' H' => ∃ v2 zs, σ' = [some v0, some (.ref l), v2] ∧ Kp H0 H1 H2 H' ∧ H' l = some (.lst zs) ∧ Dts H' zs ((((subsF fm).take i).flatMap atomsF).map encF),
      ⟨none, [], rfl, kp_same (s1.trans s2) (Same.refl _), s2 _ _ hl1, .nil⟩, fun i σ' H' _ ⟨_, _, _, k, _⟩ => k, ?_, ?_⟩
    · rintro i g x σ' H' H'' hg ⟨v2, zs, rfl, kp, hl, rz⟩ sy dx
      have hm := List.mem_of_getElem? hg
      have hgd := subs_depth hm hd
      have small : (((subsF fm).take (i + 1)).flatMap atomsF).length ≤ 4096 := by
        have h1 : ((subsF fm).flatMap atomsF).length ≤ 4096 := by rw [← subs_atoms hno]; exact atoms_small hd hd12
        have h2 : (((subsF fm).take (i + 1)).flatMap atomsF).length ≤ ((subsF fm).flatMap atomsF).length := by
          conv => rhs; rw [← List.take_append_drop (i + 1) (subsF fm), List.flatMap_append, List.length_append]
          exact Nat.le_add_right _ _
        omega
      rw [take_succ_get hg, List.flatMap_append, List.flatMap_singleton, List.length_append] at small
      refine s_extend (j := 1) (ds := (atomsF g).map encF) rfl (sy _ _ hl) (ev_call g (ea_cons (ed_var (i := 2) rfl dx) ea_nil) fun _ _ => hgd) (Same.refl _) (small_line ?_) fun ys H3 s3 dy => ?_
      · rw [rz.length, List.length_map, List.length_map]; omega
      · have s23 := sy.trans s3
        have hl3 := s23 _ _ hl
        refine ⟨some x, zs ++ ys, rfl, (kp.up s23).write hl0 (by rw [hl1]; intro z; cases z) hl3, upd_same, ?_⟩
        rw [take_succ_get hg, List.flatMap_append, List.flatMap_singleton, List.map_append]
        have tk := tk_lst (o := .lst (zs ++ ys)) hl3
        exact (rz.mono ((tk_same s23).trans tk)).append (dy.mono tk)
    · rintro σ' H' ⟨v2, zs, rfl, kp, hl, rz⟩
      rw [List.take_length, ← subs_atoms hno] at rz
      refine s_ret (ev_var (i := 1) rfl) (Same.refl _) fun v H3 s3 d3 => ?_
      cases d3
      exact hq _ _ (s0.trans (kp.1.trans s3)) ⟨l, zs, rfl, s0.free hl0, s3 _ _ hl, rz.up s3⟩
/-! ### ask_atoms -/
def ariKvs (rels : List Rel) : List (Key × V) := rels.map fun r => (Sum.inr r.name, V.int (r.ar : Nat))
/-- an object of the class, its arities written -/
def dA (C : Addr) (rels : List Rel) : De := fun G H v => ∃ a dx fs d, v = .ref a ∧ H a = some (.ins C dx fs) ∧ fs.lookup ("arities" : Str) = some (.ref d) ∧ H d = some (.dK (ariKvs rels))
instance {C : Addr} {rels : List Rel} : Mo (dA C rels) := ⟨fun ⟨a, dx, fs, d, e, h, l, k⟩ s _ => ⟨a, dx, fs, d, e, s _ _ h, l, s _ _ k⟩⟩
theorem ari_val {rels : List Rel} (nd : (rels.map (·.name)).Nodup) {r : Rel} (h : r ∈ rels) : valV (ariKvs rels) (Sum.inr r.name) = some (.int (r.ar : Nat)) := by
  unfold ariKvs
  induction rels with
  | nil => cases h
  | cons q rs ih =>
    rw [List.map_cons] at nd ⊢
    obtain ⟨n1, n2⟩ := List.nodup_cons.mp nd
    rcases List.mem_cons.mp h with rfl | h
    · rw [valV_pos rfl]
    · have ne : ¬ (Sum.inr q.name : Key) = Sum.inr r.name := fun e => n1 (by
        injection e with e
        rw [e]; exact List.mem_map.mpr ⟨r, h, rfl⟩)
      rw [valV_neg ne, ih n2 h]
section
variable {σ : L2.St} {H : Hp} {ta tb : TE}
theorem ed_dnotinK {a : Addr} {kvs : List (Key × V)} {z : Str} {v : V} (hb : EvX tb σ H (dD (.str z))) (ha : EvX ta σ H (dV (.ref a))) (hd : H a = some (.dK kvs)) (h : valV kvs (Sum.inr z) = some v) : EvX (tDNotIn tb ta) σ H (dD (.bool false)) := fun H1 e Q q =>
  hb H1 e _ fun y H2 s2 d2 => ha H2 (e.trans s2) _ fun x H3 s3 d3 => by
    cases d3
    cases Dt.str_inv d2
    exact ⟨a, some v, rfl, h ▸ DGet.k (k := Sum.inr z) ((e.trans (s2.trans s3)) _ _ hd), q _ H3 (s2.trans s3) (.bl _)⟩
theorem ed_dinK {a : Addr} {kvs : List (Key × V)} {z : Str} (hb : EvX tb σ H (dD (.str z))) (ha : EvX ta σ H (dV (.ref a))) (hd : H a = some (.dK kvs)) (h : valV kvs (Sum.inr z) = none) : EvX (tDIn tb ta) σ H (dD (.bool false)) := fun H1 e Q q =>
  hb H1 e _ fun y H2 s2 d2 => ha H2 (e.trans s2) _ fun x H3 s3 d3 => by
    cases d3
    cases Dt.str_inv d2
    exact ⟨a, none, rfl, h ▸ DGet.k (k := Sum.inr z) ((e.trans (s2.trans s3)) _ _ hd), q _ H3 (s2.trans s3) (.bl _)⟩
theorem ed_dgetK {a : Addr} {kvs : List (Key × V)} {z : Str} {i : Int} (ha : EvX ta σ H (dV (.ref a))) (hb : EvX tb σ H (dD (.str z))) (hd : H a = some (.dK kvs)) (h : valV kvs (Sum.inr z) = some (.int i)) : EvX (tDGet ta tb) σ H (dD (.int i)) := fun H1 e Q q =>
  ha H1 e _ fun x H2 s2 d2 => hb H2 (e.trans s2) _ fun y H3 s3 d3 => by
    cases d2
    cases Dt.str_inv d3
    exact ⟨a, _, rfl, h ▸ DGet.k (k := Sum.inr z) ((e.trans (s2.trans s3)) _ _ hd), q _ H3 (s2.trans s3) (.int _)⟩
end
abbrev sAskAt : Stmt := inClass (topS 30) 1
def spAskAt (C : Addr) : Sp := spOf (R := List Rel × Fm) (fun r => [dA C r.1, dD (encF r.2)]) (fun r _ => GoodRs r.1 ∧ (∃ c, GoodF r.1 c r.2) ∧ depthF r.2 ≤ 12) (fun _ => dV .non)
theorem scAskAt : FnScope ["self", "formula", "atom"] ["self", "formula"] (defScope sAskAt) := ⟨rfl, rfl, rfl, by decide +kernel, rfl, by decide +kernel, by decide +kernel⟩
theorem atoms_good {rels : List Rel} {c : Nat} : ∀ {f g : Fm}, GoodF rels c f → g ∈ atomsF f → ∃ n vs v, g = .is n vs v ∧ ∃ r ∈ rels, r.name = n ∧ vs.length = r.ar
  | .tt, _, _, h => by simp [atomsF] at h
  | .ff, _, _, h => by simp [atomsF] at h
  | .is n vs v, g, hf, h => by
    simp only [atomsF, List.mem_singleton] at h
    subst h
    exact ⟨n, vs, v, rfl, hf.1⟩
  | .not f, g, hf, h => atoms_good (f := f) hf h
  | .bin _ f1 f2, g, hf, h => by
    rcases List.mem_append.mp h with h | h
    · exact atoms_good hf.1 h
    · exact atoms_good hf.2 h
theorem ok_askAt {C : Addr} {f : Addr} {fd : FuncData} (Fn : Fun K "ask_atoms" "Kind.ask_atoms" sAskAt f fd) (T : Txt K mg) (KK : KC K C) (h_atoms_of : Dl P w K mg base "atoms_of" 12 ["formula"] (spAtoms 12)) : FnOk P w K mg base CX0 13 f fd ["self", "formula"] (spAskAt C) := by
  have nd := scAskAt.nd
  refine okD Fn scAskAt (fun _ => rfl) fun cdv A outer s H E hr => ⟨_, (pss_one (ps_for PassesOwn.never rfl (pi_listK (K := K) (pe_dl h_atoms_of (hr.mono (by omega)) rfl (pa_cons (pv 1) pa_nil))) (pg_name (i := 2) nd rfl (by first | exact Or.inl rfl | exact Or.inr rfl))
      (pss_cons (ps_if (pt_cmp (pc_dnotin (hu_of hr) (pe_ix (ix_tupK (K := K)) (pv 2) pe_int (fun _ _ => rfl)) (pe_fldK (K := K) (pv 0) rfl))) (pss_one ps_never) pss_nil)
    (pss_one (ps_if (pt_cmpR op_ne (pe_dget (hu_of hr) (pe_fldK (K := K) (pv 0) rfl) (pe_ix (ix_tupK (K := K)) (pv 2) pe_int (fun _ _ => rfl)) (fun _ _ => rfl)) (pe_callB (call_lenK (K := K)) (by rfl) T.len PySem.boot_len (pa_cons (pe_ix (ix_tupK (K := K)) (pv 2) pe_int (fun _ _ => rfl)) pa_nil)) (nomark _)) (pss_one ps_never) pss_nil))))), ?_⟩
  rintro ⟨rels, fm⟩ vs D ha ⟨hg, ⟨c, gf⟩, hd⟩ - hq
  have hg : GoodRs rels := hg
  have gf : GoodF rels c fm := gf
  have hd : depthF fm ≤ 12 := hd
  obtain ⟨v0, v1, rfl, d0, d1⟩ := all2_2 ha
  obtain ⟨a, dx, fs, d, rfl, hk, lk, hdd⟩ := d0
  refine s_for (as := atomsF fm) (ei_listM (enc := encF) (ev_call fm (ea_cons (ed_var (i := 1) rfl d1) ea_nil) fun _ _ => hd)) (Same.refl _) fun H1 s1 => ?_
  refine ⟨fun i σ' H' => (∃ v2, σ' = [some (.ref a), some v1, v2]) ∧ Same H1 H', ⟨⟨none, rfl⟩, Same.refl _⟩, fun i σ' H' _ h => kp_same s1 h.2, ?_, ?_⟩
  · rintro i g x σ' H' H'' hgm ⟨⟨v2, rfl⟩, s'⟩ sy dx'
    obtain ⟨n, xs, val, rfl, r, hr1, rfl, hlen⟩ := atoms_good gf (List.mem_of_getElem? hgm)
    have sH := (s1.trans s').trans sy
    have dx' : Dt H'' x (.tuple [.str "is", .str r.name, encC xs, nI val]) := dx'
    have fld : ∀ {H3}, Same H H3 → EvX (tFld K (tVar 0) "arities") [some (.ref a), some v1, some x] H3 (dV (.ref d)) := fun s3 => ev_fld (ev_var (i := 0) rfl) (s3 _ _ hk) KK.cl KK.ari lk
    refine q_no (et_test (ed_dnotinK (ed_ixT (d := .str r.name) (ed_var (i := 2) rfl dx') ed_int rfl) (fld sH) (sH _ _ hdd) (ari_val hg.nd hr1))) (Same.refl _) fun H2 s2 => ?_
    have sH2 := sH.trans s2
    refine s_no (et_test (dB_to (ed_neI (ed_dgetK (fld sH2) (ed_ixT (d := .str r.name) (ed_var (i := 2) rfl (dx'.up s2)) ed_int rfl) (sH2 _ _ hdd) (ari_val hg.nd hr1)) (ed_lenC (ed_ixT (d := encC xs) (ed_var (i := 2) rfl (dx'.up s2)) ed_int rfl))) (by simp [hlen]))) (Same.refl _) fun H3 s3 => ?_
    exact ⟨⟨_, rfl⟩, (s'.trans sy).trans (s2.trans s3)⟩
  · rintro σ' H' ⟨_, s'⟩
    exact hq _ _ (s1.trans s') rfl
end
end D18
set_option Elab.async false
set_option linter.all false
set_option maxRecDepth 100000
set_option maxHeartbeats 8000000
/-! Pg9: Kind.__init__. -/
namespace D18
open PySem L2
/-! ### writing an attribute -/
/-- only a is known -/
def only (a : Addr) : Hp := fun b => if b = a then some (.lst []) else none
theorem only_ne {a b : Addr} (h : only a b = none) : b ≠ a := fun e => by
  subst e
  unfold only at h
  rw [if_pos rfl] at h
  cases h
theorem only_none {a b : Addr} (h : b ≠ a) : only a b = none := by unfold only; rw [if_neg h]
theorem only_of {δ : De} [s : Sta δ] {G H : Hp} {v : V} {a : Addr} {o : HO} (h : δ G H v) (hG : G a = some o) : δ (only a) H v := s.st h (TK.refl H) (fun _ _ _ e => e) fun b n => only_none fun e => by rw [e, hG] at n; cases n
theorem only_upd {δ : De} [s : Sta δ] {H : Hp} {v : V} {a C dx : Addr} {fs : List (Str × V)} {o : HO} (h : δ (only a) H v) (hH : H a = some (.ins C dx fs)) : δ (only a) (upd H a o) v :=
  s.st h (tk_upd fun ys e => by rw [hH] at e; cases e) (fun b u n e => by rw [upd_ne (only_ne n)]; exact e) fun _ n => n
theorem only_hn {δ : De} [s : Sta δ] {H : Hp} {v : V} {a : Addr} (h : δ (only a) H v) : δ Hn H v := s.st h (TK.refl H) (fun _ _ _ e => e) hn_none
/-- a new dict -/
def dKd (kvs : List (Key × V)) : De := fun G H v => ∃ p, v = .ref p ∧ G p = none ∧ H p = some (.dK kvs)
instance {kvs : List (Key × V)} : Sta (dKd kvs) := ⟨fun ⟨p, e, g, h⟩ _ k g0 => ⟨p, e, g0 p g, k p _ g h⟩⟩
theorem dM_dk {xs : List PyData} {G H : Hp} {v : V} {d : Addr} {kvs : List (Key × V)} {o : HO} (h : dM xs G H v) (hd : H d = some (.dK kvs)) : dM xs G (upd H d o) v := by
  obtain ⟨p, vs, rfl, g, hp, r⟩ := h
  have np : p ≠ d := fun e => by subst e; rw [hd] at hp; cases hp
  exact ⟨p, vs, rfl, g, by rw [upd_ne np]; exact hp, r.mono (tk_upd fun ys e => by rw [hd] at e; cases e)⟩
theorem Kp.writeD {H0 H1 H2 H : Hp} {l : Addr} {kvs : List (Key × V)} {o : HO} (k : Kp H0 H1 H2 H) (h0 : H0 l = none) (h1 : H1 l ≠ none) (hl : H l = some (.dK kvs)) : Kp H0 H1 H2 (upd H l o) :=
  ⟨same_mut k.1 h0, fun b u n e => by
    have nb : b ≠ l := fun z => by subst z; exact h1 n
    rw [upd_ne nb]; exact k.2.1 b u n e, k.2.2.trans (tk_upd fun ys e => by rw [hl] at e; cases e)⟩
section
variable {K : PySem.W.Frag} {σ : L2.St} {H H0 : Hp} {ta tb tv te td ty : TE} {D : Ends} {u : TS}
theorem s_fld {a C dx : Addr} {fs : List (Str × V)} {f : Str} {δ : De} (h : EvX te σ H δ) (ho : σ[0]? = some (some (.ref a))) (hH : H a = some (.ins C dx fs)) (cl : Cls K C) (n : NoAttr K C f) (hl : fs.length < 1000)
    (k : ∀ v H2, Same H H2 → δ H H2 v → D.nx σ (upd H2 a (.ins C dx (putF f v fs)))) : sFld K (tVar 0) te f D σ H := h H (Same.refl _) _ fun v H2 s2 d2 =>
  ⟨.ref a, ho, a, C, dx, fs, rfl, s2 _ _ hH, cl, n, hl, k v H2 s2 d2⟩
theorem q_fld {a C dx : Addr} {fs : List (Str × V)} {f : Str} {δ : De} (h : EvX te σ H δ) (ho : σ[0]? = some (some (.ref a))) (hH : H a = some (.ins C dx fs)) (cl : Cls K C) (n : NoAttr K C f) (hl : fs.length < 1000)
    (k : ∀ v H2, Same H H2 → δ H H2 v → u D σ (upd H2 a (.ins C dx (putF f v fs)))) : tSeq (sFld K (tVar 0) te f) u D σ H := s_fld (D := { D with nx := u D }) h ho hH cl n hl k
theorem s_dputK {a : Addr} {kvs : List (Key × V)} {z : Str} {v : V} (hv : EvX tv σ H (dV v)) (hd : EvX td σ H (dV (.ref a))) (hy : EvX ty σ H (dD (.str z))) (hk : H a = some (.dK kvs)) (hl : kvs.length < sizeLine) (hn : valV kvs (Sum.inr z) = none)
    (k : ∀ H2, Same H H2 → D.nx σ (upd H2 a (.dK (kvs ++ [(Sum.inr z, v)])))) : sDPut td ty tv D σ H := hv H (Same.refl _) _ fun x H2 s2 d2 => hd H2 s2 _ fun y H3 s3 d3 => hy H3 (s2.trans s3) _ fun z' H4 s4 d4 => by
  cases d2; cases d3
  cases Dt.str_inv d4
  have s := s2.trans (s3.trans s4)
  refine ⟨a, _, rfl, DPut.k (k := Sum.inr z) (s _ _ hk) hl, ?_⟩
  rw [putK_new _ hn]
  exact k H4 s
theorem ev_meth {R : Type} {C a dx : Addr} {fs : List (Str × V)} {m : Str} {args : R → List De} {pre : R → Hp → Prop} {res : R → De} {δ δ0 : De} {δs : List De} {to : TE} {t : TA} (r : R) (ho : EvX to σ H (dV (.ref a))) (hH : H a = some (.ins C dx fs)) (hm : fs.lookup m = none)
    (ha : EvA t σ H δs) (hp : ∀ H2, Same H H2 → pre r H2) (h0 : δ0 Hn H (.ref a)) [m0 : Mo δ0] [MoL δs] [Mo (res r)] (hargs : args r = δ0 :: δs := by rfl) (hδ : res r = δ := by rfl) : EvX (tMeth C m (spOf args pre res) [] E0 to t) σ H δ := fun H1 e Q q =>
  ho H1 e _ fun x H2 s2 d2 => by
    cases d2
    refine ⟨a, dx, fs, rfl, s2 _ _ (e _ _ hH), hm, ?_⟩
    refine ha H2 (e.trans s2) _ fun vs H3 s3 d3 => ?_
    subst hδ
    rw [List.append_nil]
    refine ⟨r, ?_, hp H3 (e.trans (s2.trans s3)), fun v H4 s4 d4 => q v H4 (s2.trans (s3.trans s4)) (Mo.mo d4 (Same.refl _) fun _ z => (s2.trans s3).free z)⟩
    rw [hargs]
    exact ⟨up h0 (e.trans (s2.trans s3)), all2_hn d3⟩
end
def fsA (v1 : V) : List (Str × V) := putF "relations" v1 []
def fsB (v1 v2 : V) : List (Str × V) := putF "sentences" v2 (fsA v1)
def fsC (v1 v2 v3 : V) : List (Str × V) := putF "arities" v3 (fsB v1 v2)
def fsD (v1 v2 v3 v4 : V) : List (Str × V) := putF "names" v4 (fsC v1 v2 v3)
def fsE (v1 v2 v3 v4 v5 : V) : List (Str × V) := putF "places" v5 (fsD v1 v2 v3 v4)
def fsG (v1 v2 v3 v4 v5 v6 : V) : List (Str × V) := putF "indexes" v6 (fsE v1 v2 v3 v4 v5)
section
variable (v1 v2 v3 v4 v5 v6 : V)
theorem lC1 : (fsC v1 v2 v3).lookup ("relations" : Str) = some v1 := by rw [fsC, fsB, fsA, lookup_putF, if_neg (by decide +kernel), lookup_putF, if_neg (by decide +kernel), lookup_putF, if_pos rfl]
theorem lC2 : (fsC v1 v2 v3).lookup ("sentences" : Str) = some v2 := by rw [fsC, fsB, lookup_putF, if_neg (by decide +kernel), lookup_putF, if_pos rfl]
theorem lC3 : (fsC v1 v2 v3).lookup ("arities" : Str) = some v3 := by rw [fsC, lookup_putF, if_pos rfl]
theorem lCm : (fsC v1 v2 v3).lookup ("ask_atoms" : Str) = none := by rw [fsC, fsB, fsA, lookup_putF, if_neg (by decide +kernel), lookup_putF, if_neg (by decide +kernel), lookup_putF, if_neg (by decide +kernel)]; rfl
theorem lD1 : (fsD v1 v2 v3 v4).lookup ("relations" : Str) = some v1 := by rw [fsD, lookup_putF, if_neg (by decide +kernel), lC1]
theorem lE5 : (fsE v1 v2 v3 v4 v5).lookup ("places" : Str) = some v5 := by rw [fsE, lookup_putF, if_pos rfl]
theorem lG1 : (fsG v1 v2 v3 v4 v5 v6).lookup ("relations" : Str) = some v1 := by rw [fsG, fsE, lookup_putF, if_neg (by decide +kernel), lookup_putF, if_neg (by decide +kernel), lD1]
theorem lG2 : (fsG v1 v2 v3 v4 v5 v6).lookup ("sentences" : Str) = some v2 := by rw [fsG, fsE, fsD, lookup_putF, if_neg (by decide +kernel), lookup_putF, if_neg (by decide +kernel), lookup_putF, if_neg (by decide +kernel), lC2]
theorem lG4 : (fsG v1 v2 v3 v4 v5 v6).lookup ("names" : Str) = some v4 := by rw [fsG, fsE, fsD, lookup_putF, if_neg (by decide +kernel), lookup_putF, if_neg (by decide +kernel), lookup_putF, if_pos rfl]
theorem lG5 : (fsG v1 v2 v3 v4 v5 v6).lookup ("places" : Str) = some v5 := by rw [fsG, lookup_putF, if_neg (by decide +kernel), lE5]
theorem lG6 : (fsG v1 v2 v3 v4 v5 v6).lookup ("indexes" : Str) = some v6 := by rw [fsG, lookup_putF, if_pos rfl]
end
theorem len_fs (v1 v2 v3 v4 v5 : V) : (fsE v1 v2 v3 v4 v5).length ≤ 5 ∧ (fsD v1 v2 v3 v4).length ≤ 4 ∧ (fsC v1 v2 v3).length ≤ 3 ∧ (fsB v1 v2).length ≤ 2 ∧ (fsA v1).length ≤ 1 := by
  have h1 := length_putF "relations" v1 []
  have h2 := length_putF "sentences" v2 (fsA v1)
  have h3 := length_putF "arities" v3 (fsB v1 v2)
  have h4 := length_putF "names" v4 (fsC v1 v2 v3)
  have h5 := length_putF "places" v5 (fsD v1 v2 v3 v4)
  have e1 : (fsA v1).length ≤ 1 := h1
  have e2 : (fsB v1 v2).length ≤ 2 := by show (putF "sentences" v2 (fsA v1)).length ≤ 2; omega
  have e3 : (fsC v1 v2 v3).length ≤ 3 := by show (putF "arities" v3 (fsB v1 v2)).length ≤ 3; omega
  have e4 : (fsD v1 v2 v3 v4).length ≤ 4 := by show (putF "names" v4 (fsC v1 v2 v3)).length ≤ 4; omega
  exact ⟨by show (putF "places" v5 (fsD v1 v2 v3 v4)).length ≤ 5; omega, e4, e3, e2, e1⟩
section
variable {P : Program} {w : World} {K : PySem.W.Frag} {mg : Str → Option Value} {base : Heap}
abbrev sInit : Stmt := inClass (topS 30) 0
def spInit (K : PySem.W.Frag) (C : Addr) : Sp := fun vs H Q _ => ∃ (κ : Kd) (H0 : Hp) (x dx : Addr) (v1 v2 : V), vs = [.ref x, v1, v2] ∧ Same H0 H ∧ H0 x = none ∧ H x = some (.ins C dx []) ∧ dL K (κ.rels.map encR) Hn H0 v1 ∧ dL K (κ.sents.map encSe) Hn H0 v2 ∧ GoodK κ ∧
  ∀ H', Same H0 H' → dK C κ Hn H' (.ref x) → Q .non H'
theorem scInit : FnScope ["self", "relations", "sentences", "name", "arity", "values", "symmetric", "count", "formula", "relation", "point", "rows", "row"] ["self", "relations", "sentences"] (defScope sInit) := ⟨rfl, rfl, rfl, by decide +kernel, rfl, by decide +kernel, by decide +kernel⟩
theorem ok_init {C : Addr} {f fA : Addr} {fd fdA : FuncData} (Fn : Fun K "__init__" "Kind.__init__" sInit f fd) (T : Txt K mg) (KK : KC K C) (mAsk : Meth K C "ask_atoms" fA) (GAsk : FnOk P w K mg base CX0 13 fA fdA ["self", "formula"] (spAskAt C)) (bAsk : Binds K fdA ["self", "formula"] [])
    (h_places : Dl P w K mg base "places" 2 ["relation", "point"] spPlaces) (h_index_of : Dl P w K mg base "index_of" 1 ["row"] (spIndexOf K)) : FnOk P w K mg base CX0 14 f fd ["self", "relations", "sentences"] (spInit K C) := by
  have nd := scInit.nd
  obtain ⟨tmp, hMP⟩ := T.MP
  refine Fn.ok scInit (fun vs H Q E h => ?_) (fun cdv A outer s H vs Q E hr h => ⟨_, (pss_cons (ps_fldK (K := K) (pv 0) (pe_callTy (call_listK (K := K)) (by rfl) T.list (by decide +kernel) (pa_cons (pv 1) pa_nil)) rfl)
    (pss_cons (ps_fldK (K := K) (pv 0) (pe_callTy (call_listK (K := K)) (by rfl) T.list (by decide +kernel) (pa_cons (pv 2) pa_nil)) rfl)
    (pss_cons (ps_fldK (K := K) (pv 0) pe_dnewK rfl)
    (pss_cons (ps_for PassesOwn.never rfl (pi_listK (K := K) (pe_fldK (K := K) (pv 0) rfl)) (pg_tupK (K := K) (n := 4) rfl (pgs_cons (pg_name (i := 3) nd rfl (by first | exact Or.inl rfl | exact Or.inr rfl)) (pgs_cons (pg_name (i := 4) nd rfl (by first | exact Or.inl rfl | exact Or.inr rfl)) (pgs_cons (pg_name (i := 5) nd rfl (by first | exact Or.inl rfl | exact Or.inr rfl)) (pgs_cons (pg_name (i := 6) nd rfl (by first | exact Or.inl rfl | exact Or.inr rfl)) pgs_nil)))))
      (pss_cons (ps_if (pt_cmp (pc_din (hu_of hr) (pv 3) (pe_fldK (K := K) (pv 0) rfl))) (pss_one ps_never) pss_nil)
    (pss_one (ps_dput (hu_of hr) (pe_fldK (K := K) (pv 0) rfl) (pv 3) (pv 4) rfl))))
    (pss_cons (ps_for PassesOwn.never rfl (pi_listK (K := K) (pe_fldK (K := K) (pv 0) rfl)) (pg_tupK (K := K) (n := 2) rfl (pgs_cons (pg_name (i := 7) nd rfl (by first | exact Or.inl rfl | exact Or.inr rfl)) (pgs_cons (pg_name (i := 8) nd rfl (by first | exact Or.inl rfl | exact Or.inr rfl)) pgs_nil)))
      (pss_one (ps_expr (pe_meth (pv 0) KK.cl mAsk GAsk (hr.mono (by omega)) bAsk .nil pass0 (pa_cons (pv 8) pa_nil)))))
    (pss_cons (ps_fldK (K := K) (pv 0) (pe_lc (own := [("relation", 9)]) rfl nd (pi_listK (K := K) (pe_fldK (K := K) (pv 0) rfl)) (blkOk_by (by kernel_rfl)) (fun _ _ _ _ _ => (pg_name (i := 9) nd rfl (by first | exact Or.inl rfl | exact Or.inr rfl))) (fun _ _ _ _ _ => pts_nil) (fun _ _ _ _ _ => (pe_ix (ix_tupK (K := K)) (pv 9) pe_int (fun _ _ => rfl)))) rfl)
    (pss_cons (ps_fldK (K := K) (pv 0) (pe_lc (own := [("point", 10)]) rfl nd (pi_range1 rfl T.range (pa_cons (pe_glob (v := .int 7) rfl hMP ⟨_, rfl⟩) pa_nil)) (blkOk_by (by kernel_rfl)) (fun _ _ _ _ _ => (pg_name (i := 10) nd rfl (by first | exact Or.inl rfl | exact Or.inr rfl))) (fun _ _ _ _ _ => pts_nil) (fun _ _ _ _ _ => (pe_lc (own := [("relation", 9)]) rfl nd (pi_listK (K := K) (pe_fldK (K := K) (pv 0) rfl)) (blkOk_by (by kernel_rfl)) (fun _ _ _ _ _ => (pg_name (i := 9) nd rfl (by first | exact Or.inl rfl | exact Or.inr rfl))) (fun _ _ _ _ _ => pts_nil) (fun _ _ _ _ _ => (pe_dl h_places (hr.mono (by omega)) rfl (pa_cons (pv 9) (pa_cons (pv 10) pa_nil))))))) rfl)
    (pss_one (ps_fldK (K := K) (pv 0) (pe_lc (own := [("rows", 11)]) rfl nd (pi_listK (K := K) (pe_fldK (K := K) (pv 0) rfl)) (blkOk_by (by kernel_rfl)) (fun _ _ _ _ _ => (pg_name (i := 11) nd rfl (by first | exact Or.inl rfl | exact Or.inr rfl))) (fun _ _ _ _ _ => pts_nil) (fun _ _ _ _ _ => (pe_lc (own := [("row", 12)]) rfl nd (pi_listK (K := K) (pv 11)) (blkOk_by (by kernel_rfl)) (fun _ _ _ _ _ => (pg_name (i := 12) nd rfl (by first | exact Or.inl rfl | exact Or.inr rfl))) (fun _ _ _ _ _ => pts_nil) (fun _ _ _ _ _ => (pe_dl h_index_of (hr.mono (by omega)) rfl (pa_cons (pv 12) pa_nil)))))) rfl))))))))), ?_⟩)
  · obtain ⟨κ, H0, x, dx, v1, v2, rfl, _⟩ := h
    rfl
  obtain ⟨⟨rels, sents⟩, H0, x, dx, v1, v2, rfl, s0, nx, hx, d1, d2, ⟨hg, hfew, hss⟩, k⟩ := h
  have hg : GoodRs rels := hg
  have hfew : sents.length ≤ 2 := hfew
  have hss : ∀ s ∈ sents, GoodS rels s := hss
  have d1 : dL K (rels.map encR) Hn H0 v1 := d1
  have d2 : dL K (sents.map encSe) Hn H0 v2 := d2
  have few := hg.few
  -- self.relations
  refine q_fld (δ := dM (rels.map encR)) (em_listOf (el_var (i := 1) rfl (lL d1 s0))) rfl hx KK.cl KK.rel (by show 0 < 1000; decide) fun w1 G1 t1 e1 => ?_
  have e1 := only_upd (o := .ins C dx (fsA w1)) (only_of e1 hx) (t1 _ _ hx)
  have s1 : Same H0 (upd G1 x (.ins C dx (fsA w1))) := same_mut (s0.trans t1) nx
  show tSeq _ _ _ _ (upd G1 x (.ins C dx (fsA w1)))
  have hx1 : (upd G1 x (.ins C dx (fsA w1))) x = some (.ins C dx (fsA w1)) := upd_same
  generalize upd G1 x (.ins C dx (fsA w1)) = H1 at e1 s1 hx1 ⊢
  have ⟨_, _, _, _, l1⟩ := len_fs w1 w1 w1 w1 w1
  -- self.sentences
  refine q_fld (δ := dM (sents.map encSe)) (em_listOf (el_var (i := 2) rfl (lL d2 s1))) rfl hx1 KK.cl KK.sen (by omega) fun w2 G2 t2 e2 => ?_
  have e2 := only_upd (o := .ins C dx (fsB w1 w2)) (only_of e2 hx1) (t2 _ _ hx1)
  have e1 := only_upd (o := .ins C dx (fsB w1 w2)) (up e1 t2) (t2 _ _ hx1)
  have s2 : Same H0 (upd G2 x (.ins C dx (fsB w1 w2))) := same_mut (s1.trans t2) nx
  show tSeq _ _ _ _ (upd G2 x (.ins C dx (fsB w1 w2)))
  have hx2 : (upd G2 x (.ins C dx (fsB w1 w2))) x = some (.ins C dx (fsB w1 w2)) := upd_same
  generalize upd G2 x (.ins C dx (fsB w1 w2)) = H2 at e1 e2 s2 hx2 ⊢
  have ⟨_, _, _, l2, _⟩ := len_fs w1 w2 w1 w1 w1
  -- self.arities
  have ed : ∀ σ, EvX tDNewK σ H2 (dKd []) := fun σ H' e Q q p hp => q _ _ (same_new hp) ⟨p, rfl, hp, upd_same⟩
  refine q_fld (δ := dKd []) (ed _) rfl hx2 KK.cl KK.ari (by omega) fun w3 G3 t3 e3 => ?_
  obtain ⟨d, rfl, nd2, hd3⟩ := e3
  have e2 := only_upd (o := .ins C dx (fsC w1 w2 (.ref d))) (up e2 t3) (t3 _ _ hx2)
  have e1 := only_upd (o := .ins C dx (fsC w1 w2 (.ref d))) (up e1 t3) (t3 _ _ hx2)
  have s3 : Same H0 (upd G3 x (.ins C dx (fsC w1 w2 (.ref d)))) := same_mut (s2.trans t3) nx
  have ndx : d ≠ x := fun e => by rw [e, hx2] at nd2; cases nd2
  have nd0 : H0 d = none := s2.free nd2
  show tSeq _ _ _ _ (upd G3 x (.ins C dx (fsC w1 w2 (.ref d))))
  have hx3 : (upd G3 x (.ins C dx (fsC w1 w2 (.ref d)))) x = some (.ins C dx (fsC w1 w2 (.ref d))) := upd_same
  have hd : (upd G3 x (.ins C dx (fsC w1 w2 (.ref d)))) d = some (.dK []) := by rw [upd_ne ndx]; exact hd3
  generalize upd G3 x (.ins C dx (fsC w1 w2 (.ref d))) = H3 at e1 e2 s3 hx3 hd ⊢
  have ⟨_, _, l3, _, _⟩ := len_fs w1 w2 (.ref d) w1 w1
  have hxd : (del H3 d) x = some (.ins C dx (fsC w1 w2 (.ref d))) := by rw [del_ne ndx.symm]; exact hx3
  have e1d : dM (rels.map encR) Hn (del H3 d) w1 := by
    obtain ⟨p, us, rfl, _, hp, r⟩ := e1
    have np : p ≠ d := fun e => by subst e; rw [hd] at hp; cases hp
    exact ⟨p, us, rfl, rfl, by rw [del_ne np]; exact hp, r.mono fun b ys e => by
      have nb : b ≠ d := fun z => by subst z; rw [hd] at e; cases e
      rw [del_ne nb]; exact e⟩
  -- the arities
  refine q_for (as := rels) (H0 := del H3 d) (ei_at (enc := encR) (ev_fld (ev_var (i := 0) rfl) hxd KK.cl KK.rel (lC1 _ _ _)) e1d) (del_same _ _) fun H4 s4 => ?_
  refine ⟨fun i σ' H' => (∃ y3 y4 y5 y6, σ' = [some (.ref x), some v1, some v2, y3, y4, y5, y6, none, none, none, none, none, none]) ∧ Kp (del H3 d) H3 H4 H' ∧ H' d = some (.dK (ariKvs (rels.take i))),
    ⟨⟨none, none, none, none, rfl⟩, kp_same ((del_same _ _).trans s4) (Same.refl _), s4 _ _ hd⟩, fun i σ' H' _ h => h.2.1, ?_, ?_⟩
  · rintro i r y σ' H' H'' hr' ⟨⟨y3, y4, y5, y6, rfl⟩, kp, hdi⟩ sy dy
    obtain ⟨a, u1, u2, u3, u4, rfl, ha, du1, du2, du3, du4⟩ := dt4 dy
    refine g_tup4 ha ?_
    have kp' := kp.up sy
    have hxx := kp'.1 _ _ hxd
    have hdd := sy _ _ hdi
    have out : valV (ariKvs (rels.take i)) (Sum.inr r.name) = none := by
      apply valV_out
      intro hm
      unfold ariKvs at hm
      rw [List.map_map] at hm
      obtain ⟨q, hq, e⟩ := List.mem_map.mp hm
      have e : (Sum.inr q.name : Key) = Sum.inr r.name := e
      injection e with e
      obtain ⟨j, hj, ej⟩ := List.mem_iff_getElem.mp hq
      rw [List.getElem_take] at ej
      rw [List.length_take] at hj
      have hj' : j < rels.length := by omega
      have g1 : (rels.map (·.name))[j]? = some r.name := by rw [List.getElem?_map, List.getElem?_eq_getElem hj', ej, Option.map_some, e]
      have g2 : (rels.map (·.name))[i]? = some r.name := by rw [List.getElem?_map, hr']; rfl
      have := (List.getElem?_inj (by rw [List.length_map]; exact hj') hg.nd).mp (g1.trans g2.symm)
      omega
    cases Dt.int_inv du2
    refine q_no (et_test (ed_dinK (ed_var (i := 3) rfl du1) (ev_fld (ev_var (i := 0) rfl) hxx KK.cl KK.ari (lC3 _ _ _)) hdd out)) (Same.refl _) fun H5 s5 => ?_
    refine s_dputK (v := .int (r.ar : Nat)) (ev_var (i := 4) rfl) (ev_fld (ev_var (i := 0) rfl) (s5 _ _ hxx) KK.cl KK.ari (lC3 _ _ _)) (ed_var (i := 3) rfl (du1.up s5)) (s5 _ _ hdd) (small_lt ?_) out fun H6 s6 => ?_
    · unfold ariKvs
      rw [List.length_map, List.length_take]
      have := Nat.min_le_right i rels.length
      omega
    · have s56 := s5.trans s6
      refine ⟨⟨_, _, _, _, rfl⟩, (kp'.up s56).writeD del_self (by rw [hd]; intro z; cases z) (s56 _ _ hdd), ?_⟩
      rw [upd_same, take_succ_get hr']
      unfold ariKvs
      rw [List.map_append]
      rfl
  rintro σ' H' ⟨⟨y3, y4, y5, y6, rfl⟩, kp, hdi⟩
  rw [List.take_length] at hdi
  have e1 : dM (rels.map encR) (only x) H' w1 := by
    obtain ⟨p, us, rfl, np, hp, r⟩ := e1
    obtain ⟨p', us', ep, _, hp', r'⟩ := up e1d kp.1
    cases ep
    exact ⟨p, us', rfl, np, hp', r'⟩
  have e2 : dM (sents.map encSe) (only x) H' w2 := by
    obtain ⟨p, us, rfl, np, hp, r⟩ := e2
    have npd : p ≠ d := fun e => by subst e; rw [hd] at hp; cases hp
    exact ⟨p, us, rfl, np, kp.1 _ _ (by rw [del_ne npd]; exact hp), r.mono fun b ys e => kp.1 _ _ (by
      have nb : b ≠ d := fun z => by subst z; rw [hd] at e; cases e
      rw [del_ne nb]; exact e)⟩
  have s4' : Same H0 H' := (same_del s3 nd0).trans kp.1
  have hx4 : H' x = some (.ins C dx (fsC w1 w2 (.ref d))) := kp.1 _ _ hxd
  -- self.ask_atoms(formula)
  refine q_for (as := sents) (ei_at (enc := encSe) (ev_fld (ev_var (i := 0) rfl) hx4 KK.cl KK.sen (lC2 _ _ _)) (only_hn e2)) (Same.refl _) fun H5 s5 => ?_
  refine ⟨fun i σ' H6 => (∃ y7 y8, σ' = [some (.ref x), some v1, some v2, y3, y4, y5, y6, y7, y8, none, none, none, none]) ∧ Same H5 H6, ⟨⟨none, none, rfl⟩, Same.refl _⟩, fun i σ' H6 _ h => kp_same s5 h.2, ?_, ?_⟩
  · rintro i ⟨c, fm⟩ y σ' H6 H7 hs ⟨⟨y7, y8, rfl⟩, s'⟩ sy dy
    obtain ⟨a, u1, u2, rfl, ha, du1, du2⟩ := dt2 (d := nI c) (e := encF fm) dy
    have gs := hss _ (List.mem_of_getElem? hs)
    have sH := (s5.trans s').trans sy
    refine g_tup2 ha ?_
    refine s_drop (δ := dV .non) (ev_meth (δ0 := dA C rels) (δs := [dD (encF fm)]) (rels, fm) (ev_var (i := 0) rfl) (sH _ _ hx4) (lCm _ _ _) (ea_cons (ed_var (i := 8) rfl du2) ea_nil) (fun _ _ => ⟨hg, ⟨c, gs.f⟩, gs.d⟩) ⟨x, dx, _, d, rfl, sH _ _ hx4, lC3 _ _ _, sH _ _ hdi⟩) (Same.refl _) fun v H8 s8 _ => ?_
    exact ⟨⟨_, _, rfl⟩, (s'.trans sy).trans s8⟩
  rintro σ' H6 ⟨⟨y7, y8, rfl⟩, s6⟩
  have s56 := s5.trans s6
  have e1 := up e1 s56
  have e2 := up e2 s56
  have s6' := s4'.trans s56
  have hx6 := s56 _ _ hx4
  -- self.names
  refine q_fld (δ := dM (rels.map fun r => PyData.str r.name)) (em_lcm (as := rels) (f := fun r => PyData.str r.name) (ei_at (enc := encR) (ev_fld (ev_var (i := 0) rfl) hx6 KK.cl KK.rel (lC1 _ _ _)) (only_hn e1)) (small_line (by omega)) fun r y G hr' sG dy => ed_ixT (d := .str r.name) (ed_var (i := 9) rfl dy) ed_int rfl) rfl hx6 KK.cl KK.nam (by omega) fun w4 G4 t4 e4 => ?_
  have e4 := only_upd (o := .ins C dx (fsD w1 w2 (.ref d) w4)) (only_of e4 hx6) (t4 _ _ hx6)
  have e2 := only_upd (o := .ins C dx (fsD w1 w2 (.ref d) w4)) (up e2 t4) (t4 _ _ hx6)
  have e1 := only_upd (o := .ins C dx (fsD w1 w2 (.ref d) w4)) (up e1 t4) (t4 _ _ hx6)
  have s7 : Same H0 (upd G4 x (.ins C dx (fsD w1 w2 (.ref d) w4))) := same_mut (s6'.trans t4) nx
  show tSeq _ _ _ _ (upd G4 x (.ins C dx (fsD w1 w2 (.ref d) w4)))
  have hx7 : (upd G4 x (.ins C dx (fsD w1 w2 (.ref d) w4))) x = some (.ins C dx (fsD w1 w2 (.ref d) w4)) := upd_same
  generalize upd G4 x (.ins C dx (fsD w1 w2 (.ref d) w4)) = H7 at e1 e2 e4 s7 hx7 ⊢
  have ⟨_, l4, _, _, _⟩ := len_fs w1 w2 (.ref d) w4 w1
  -- self.places
  refine q_fld (δ := dPlaces rels) (ev_lcm (as := List.range 7) (f := fun p => dN (fun r => dRow (placesF r p)) rels) (ei_range1 (n := 7) ed_int (by decide)) (small_line (by simp)) fun p y G hp sG dy => ?_) rfl hx7 KK.cl KK.pla (by omega) fun w5 G5 t5 e5 => ?_
  · have hp7 : p < 7 := List.mem_range.mp hp
    refine ev_lcm (as := rels) (f := fun r => dRow (placesF r p)) (ei_at (enc := encR) (ev_fld (ev_var (i := 0) rfl) (sG _ _ hx7) KK.cl KK.rel (lD1 _ _ _ _)) (up (only_hn e1) sG)) (small_line (by omega)) fun r z G' hr' sG' dz => ?_
    exact ev_call (r, p) (ea_cons (ed_var (i := 9) rfl dz) (ea_cons (ed_var (i := 10) rfl (Dt.up sG' dy)) ea_nil)) fun _ _ => ⟨hg.good r hr', by show p ≤ 6; omega⟩
  have e5 := only_upd (o := .ins C dx (fsE w1 w2 (.ref d) w4 w5)) (only_of e5 hx7) (t5 _ _ hx7)
  have e4 := only_upd (o := .ins C dx (fsE w1 w2 (.ref d) w4 w5)) (up e4 t5) (t5 _ _ hx7)
  have e2 := only_upd (o := .ins C dx (fsE w1 w2 (.ref d) w4 w5)) (up e2 t5) (t5 _ _ hx7)
  have e1 := only_upd (o := .ins C dx (fsE w1 w2 (.ref d) w4 w5)) (up e1 t5) (t5 _ _ hx7)
  have s8 : Same H0 (upd G5 x (.ins C dx (fsE w1 w2 (.ref d) w4 w5))) := same_mut (s7.trans t5) nx
  show sFld _ _ _ _ _ _ (upd G5 x (.ins C dx (fsE w1 w2 (.ref d) w4 w5)))
  have hx8 : (upd G5 x (.ins C dx (fsE w1 w2 (.ref d) w4 w5))) x = some (.ins C dx (fsE w1 w2 (.ref d) w4 w5)) := upd_same
  generalize upd G5 x (.ins C dx (fsE w1 w2 (.ref d) w4 w5)) = H8 at e1 e2 e4 e5 s8 hx8 ⊢
  have ⟨l5, _, _, _, _⟩ := len_fs w1 w2 (.ref d) w4 w5
  -- self.indexes
  have e5' := only_hn e5
  obtain ⟨pp, pvs, rfl, _, hpp, rpp⟩ := e5'
  refine s_fld (δ := dIdx rels) (ev_lcm (as := List.range 7) (f := fun p => dN (fun r => dX (placesF r p)) rels) (ei_listV (f := fun p => dN (fun r => dRow (placesF r p)) rels) (ev_fld (ev_var (i := 0) rfl) hx8 KK.cl KK.pla (lE5 _ _ _ _ _)) (SqL.of hpp) rpp) (small_line (by simp)) fun p y G hp sG dy => ?_) rfl hx8 KK.cl KK.idx (by omega) fun w6 G6 t6 e6 => ?_
  · have hp7 : p < 7 := List.mem_range.mp hp
    obtain ⟨qq, qvs, rfl, _, hqq, rqq⟩ := dy
    refine ev_lcm (as := rels) (f := fun r => dX (placesF r p)) (ei_listV (f := fun r => dRow (placesF r p)) (ev_var (i := 11) rfl) (SqL.of hqq) rqq) (small_line (by omega)) fun r z G' hr' sG' dz => ?_
    exact ev_call (placesF r p) (ea_cons (el_var (i := 12) rfl (mL dz (Same.refl _))) ea_nil) fun _ _ => ⟨places_nodup _ _, by have := places_len (hg.good r hr') (p := p) (by omega); omega⟩
  have e6 := only_upd (o := .ins C dx (fsG w1 w2 (.ref d) w4 (.ref pp) w6)) (only_of e6 hx8) (t6 _ _ hx8)
  have e5 := only_upd (o := .ins C dx (fsG w1 w2 (.ref d) w4 (.ref pp) w6)) (up e5 t6) (t6 _ _ hx8)
  have e4 := only_upd (o := .ins C dx (fsG w1 w2 (.ref d) w4 (.ref pp) w6)) (up e4 t6) (t6 _ _ hx8)
  have e2 := only_upd (o := .ins C dx (fsG w1 w2 (.ref d) w4 (.ref pp) w6)) (up e2 t6) (t6 _ _ hx8)
  have e1 := only_upd (o := .ins C dx (fsG w1 w2 (.ref d) w4 (.ref pp) w6)) (up e1 t6) (t6 _ _ hx8)
  refine k _ (same_mut (s8.trans t6) nx) ⟨x, dx, fsG w1 w2 (.ref d) w4 (.ref pp) w6, rfl, upd_same, ⟨_, lG1 _ _ _ _ _ _, only_hn e1⟩, ⟨_, lG2 _ _ _ _ _ _, only_hn e2⟩, ⟨_, lG4 _ _ _ _ _ _, only_hn e4⟩, ⟨_, lG5 _ _ _ _ _ _, only_hn e5⟩, ⟨_, lG6 _ _ _ _ _ _, only_hn e6⟩⟩
end
end D18
set_option Elab.async false
set_option linter.all false
set_option maxRecDepth 100000
set_option maxHeartbeats 8000000
/-! PgA: _law_cell, _law_digits, _law_choices, _law_places. -/
namespace D18
open PySem L2
theorem fn_void {P : Program} {w : World} {K : PySem.W.Frag} {mg : Str → Option Value} {base : Heap} {CX : CXT} {k : Nat} {f : Addr} {fd : FuncData} {ps : List Str} {sp : Sp} (h : ∀ vs H Q E, ¬ sp vs H Q E) : FnOk P w K mg base CX k f fd ps sp :=
  ⟨fun _ _ _ _ q => (h _ _ _ _ q).elim, fun _ _ _ _ _ _ _ _ _ _ _ _ _ q => (h _ _ _ _ q).elim⟩
/-- some int -/
def dInt : De := fun _ _ v => ∃ i : Int, v = .int i
instance : Tks dInt := ⟨fun h _ => h⟩
section
variable {K : PySem.W.Frag} {σ : L2.St} {H : Hp} {ta tb : TE}
theorem ei_int {i : Int} (h : EvX ta σ H (dD (.int i))) : EvX ta σ H dInt := h.imp fun _ _ _ d => ⟨i, Dt.int_inv d⟩
/-- list[i] of ints -/
theorem ed_ixI {ns : List Int} {i : Int} {n : Int} (ha : EvX ta σ H (dL K (ns.map .int))) (hb : EvX tb σ H (dD (.int i))) (h : atI ns i = some n) : EvX (tOp (rIxL K) ta tb) σ H (dD (.int n)) := by
  refine ed_ixL ha hb ?_
  obtain ⟨j, hj, e⟩ := Option.bind_eq_some_iff.mp (show (ixN ns.length i).bind (fun j => ns[j]?) = some n from h)
  show (ixN (ns.map PyData.int).length i).bind (fun j => (ns.map PyData.int)[j]?) = _
  rw [List.length_map, hj]
  show (ns.map PyData.int)[j]? = _
  rw [List.getElem?_map, e]; rfl
theorem cmul_r {i j : Int} (h : -1000000000000000000 < j ∧ j < 1000000000000000000) : CMul i j := .inr ⟨by omega, by omega⟩
theorem cmul_l {i j : Int} (h : -1000000000000000000 < i ∧ i < 1000000000000000000) : CMul i j := .inl ⟨by omega, by omega⟩
theorem cdiv_s {i j : Int} (h0 : 0 < j) (h : j < 10000000000000000) : CDivW i j := wide_div (b := 60) h0 (by omega) (by decide) (by decide)
end
section
variable {P : Program} {w : World} {K : PySem.W.Frag} {mg : Str → Option Value} {base : Heap}
abbrev sLcell : Stmt := topS 33
def spLcell (K : PySem.W.Frag) : Sp := spOf (R := List Int × Nat) (fun r => [dL K (r.1.map .int), dD (nI r.2)]) (fun r _ => r.1.length ≤ 63 ∧ r.2 ≤ 1000) (fun _ => dInt)
theorem scLcell : FnScope ["_law_script", "_law_k"] ["_law_script", "_law_k"] (defScope sLcell) := ⟨rfl, rfl, rfl, by decide +kernel, rfl, by decide +kernel, by decide +kernel⟩
theorem ok_Lcell {f : Addr} {fd : FuncData} (Fn : Fun K "_law_cell" "_law_cell" sLcell f fd) (T : Txt K mg) : FnOk P w K mg base CX0 1 f fd ["_law_script", "_law_k"] (spLcell K) := by
  have nd := scLcell.nd
  refine okD Fn scLcell (fun _ => rfl) fun cdv A outer s H E hr => ⟨_, (pss_cons (ps_if (pt_cmpR op_lt (pv 1) (pe_callB (call_lenK (K := K)) (by rfl) T.len PySem.boot_len (pa_cons (pv 0) pa_nil)) (nomark _)) (pss_one (ps_ret (pe_ix (ix_listK (K := K)) (pv 0) (pv 1) (fun _ _ => rfl)))) pss_nil)
    (pss_cons (ps_if (pt_cmpR op_eq (pe_callB (call_lenK (K := K)) (by rfl) T.len PySem.boot_len (pa_cons (pv 0) pa_nil)) pe_int (nomark _)) (pss_one (ps_ret (pe_op op_mul (pv 1) pe_int))) pss_nil)
    (pss_one (ps_ret (pe_op op_add (pe_op op_mul (pe_ix (ix_listK (K := K)) (pv 0) (pe_op op_mod (pe_callTy call_int1K (by rfl) T.int (by decide +kernel) (pa_cons (pv 1) pa_nil)) (pe_callB (call_lenK (K := K)) (by rfl) T.len PySem.boot_len (pa_cons (pv 0) pa_nil))) (fun _ _ => rfl)) pe_int) (pe_op op_mul (pv 1) pe_int)))))), ?_⟩
  rintro ⟨ns, k⟩ vs D ha ⟨hn, hk⟩ hq -
  have hn : ns.length ≤ 63 := hn
  have hk : k ≤ 1000 := hk
  obtain ⟨v0, v1, rfl, d0, d1⟩ := all2_2 ha
  have d0 : dL K (ns.map .int) Hn H v0 := d0
  have d1 : Dt H v1 (nI k) := d1
  have ln : ∀ {σ : L2.St} {H' : Hp}, σ[0]? = some (some v0) → Same H H' → EvX (tCB (rLenQ K) (tCons (tVar 0) tNil)) σ H' (dD (nI ns.length)) := fun h s => ed_lenLm (enc := PyData.int) (el_var h (lL d0 s))
  refine q_if (b := decide (k < ns.length)) (et_test (dB_to (ed_cmp (ed_var (i := 1) rfl d1) (ln rfl (Same.refl _))) (dec_nat_lt _ _))) (Same.refl _) (fun hb H1 s1 => ?_) fun hb H1 s1 => ?_
  · have hlt : k < ns.length := of_decide_eq_true hb
    exact s_ret (δ := dInt) (ei_int (ed_ixI (n := ns[k]) (el_var (i := 0) rfl (lL d0 s1)) (ed_var (i := 1) rfl (d1.up s1)) (atI_nat (List.getElem?_eq_getElem hlt)))) (Same.refl _) fun v H2 s2 d2 => hq v H2 (s1.trans s2) d2
  · have hge : ns.length ≤ k := Nat.le_of_not_lt (of_decide_eq_false hb)
    refine q_if (b := decide (ns.length = 0)) (et_test (dB_to (ed_eqI (ln rfl s1) ed_int) (dec_nat_eq _ 0))) (Same.refl _) (fun hb2 H2 s2 => ?_) fun hb2 H2 s2 => ?_
    · exact s_ret (δ := dInt) (ei_int (ed_opC (ed_var (i := 1) rfl (d1.up (s1.trans s2))) ed_int (cmul_r (by decide)))) (Same.refl _) fun v H3 s3 d3 => hq v H3 ((s1.trans s2).trans s3) d3
    · have hpos : 0 < ns.length := Nat.pos_of_ne_zero (of_decide_eq_false hb2)
      have s12 := s1.trans s2
      have hm : k % ns.length < ns.length := Nat.mod_lt _ hpos
      have dk := d1.up s12
      refine s_ret (δ := dInt) (ei_int (ed_op0 (ed_opC (i := ns[k % ns.length]) (ed_ixI (i := ((k % ns.length : Nat) : Int)) (el_var (i := 0) rfl (lL d0 s12)) (dI_to (ed_opC (ed_intI (ed_var (i := 1) rfl dk)) (ln rfl s12) (by omega)) (by omega)) (atI_nat (List.getElem?_eq_getElem hm))) ed_int (cmul_r (by decide))) (ed_opC (ed_var (i := 1) rfl dk) ed_int (cmul_r (by decide))))) (Same.refl _) fun v H3 s3 d3 => hq v H3 (s12.trans s3) d3
abbrev sLdigits : Stmt := topS 34
def okDs (m n : Nat) (ds : List Nat) : Prop := ds.length = n ∧ ∀ d ∈ ds, d < m
def dDs (m n : Nat) : De := dE (okDs m n) (fun ds => dM (ds.map nI))
instance {m n : Nat} : Sta (dDs m n) := inferInstanceAs (Sta (dE _ _))
def spLdigits : Sp := spOf (R := Nat × Nat) (fun r => [dInt, dD (nI r.1), dD (nI r.2)]) (fun r _ => 1 ≤ r.1 ∧ r.1 ≤ 1200000000000000 ∧ r.2 ≤ 1000) (fun r => dDs r.1 r.2)
theorem scLdigits : FnScope ["_law_cell_here", "_law_many", "_law_count_here", "_law_digits_here", "_law_rest", "_law_k", "_law_mixed"] ["_law_cell_here", "_law_many", "_law_count_here"] (defScope sLdigits) := ⟨rfl, rfl, rfl, by decide +kernel, rfl, by decide +kernel, by decide +kernel⟩
theorem mod_nat {x : Int} {m : Nat} (h : 1 ≤ m) : ∃ d : Nat, x % (m : Int) = (d : Int) ∧ d < m := by
  have h1 := Int.emod_nonneg x (show (m : Int) ≠ 0 by omega)
  have h2 := Int.emod_lt_of_pos x (show (0 : Int) < m by omega)
  exact ⟨(x % (m : Int)).toNat, by omega, by omega⟩
theorem ok_Ldigits {f : Addr} {fd : FuncData} (Fn : Fun K "_law_digits" "_law_digits" sLdigits f fd) (T : Txt K mg) : FnOk P w K mg base CX0 1 f fd ["_law_cell_here", "_law_many", "_law_count_here"] spLdigits := by
  have nd := scLdigits.nd
  refine okD Fn scLdigits (fun _ => rfl) fun cdv A outer s H E hr => ⟨_, (pss_cons (ps_set (i := 3) nd rfl (by first | exact Or.inl rfl | exact Or.inr rfl) (pe_lst pa_nil))
    (pss_cons (ps_set (i := 4) nd rfl (by first | exact Or.inl rfl | exact Or.inr rfl) (pv 0))
    (pss_cons (ps_for PassesOwn.never rfl (pi_range1 rfl T.range (pa_cons (pv 2) pa_nil)) (pg_name (i := 5) nd rfl (by first | exact Or.inl rfl | exact Or.inr rfl))
      (pss_one (ps_if (pt_cmpR op_ge (pv 0) (pe_op op_pow pe_int pe_int) (nomark _)) (pss_cons (ps_expr (pe_bmK (K := K) PySem.F.plainAttrs_list PySem.F.slot_list_append PySem.F.type_list_append mt_append (pv 3) (pa_cons (pe_op op_mod (pe_callTy call_int1K (by rfl) T.int (by decide +kernel) (pa_cons (pv 4) pa_nil)) (pv 1)) pa_nil)))
    (pss_one (ps_set (i := 4) nd rfl (by first | exact Or.inl rfl | exact Or.inr rfl) (pe_op op_fdivW (pv 4) (pv 1))))) (pss_cons (ps_set (i := 6) nd rfl (by first | exact Or.inl rfl | exact Or.inr rfl) (pe_op op_mod (pe_callTy call_int1K (by rfl) T.int (by decide +kernel) (pa_cons (pe_op op_add (pe_op op_add (pe_op op_mul (pv 0) pe_int) (pe_op op_mul (pv 5) pe_int)) pe_int) pa_nil)) pe_int))
    (pss_cons (ps_set (i := 6) nd rfl (by first | exact Or.inl rfl | exact Or.inr rfl) (pe_op op_mod (pe_callTy call_int1K (by rfl) T.int (by decide +kernel) (pa_cons (pe_op op_add (pe_op op_add (pe_op op_mul (pv 6) (pv 6)) (pe_op op_mul pe_int (pv 6))) (pe_op op_mul pe_int (pv 5))) pa_nil)) pe_int))
    (pss_one (ps_expr (pe_bmK (K := K) PySem.F.plainAttrs_list PySem.F.slot_list_append PySem.F.type_list_append mt_append (pv 3) (pa_cons (pe_op op_mod (pe_callTy call_int1K (by rfl) T.int (by decide +kernel) (pa_cons (pe_op op_fdivW (pv 6) pe_int) pa_nil)) (pv 1)) pa_nil)))))))))
    (pss_one (ps_ret (pv 3)))))), ?_⟩
  rintro ⟨m, n⟩ vs D ha ⟨hm1, hm2, hn⟩ hq -
  have hm1 : 1 ≤ m := hm1
  have hm2 : m ≤ 1200000000000000 := hm2
  have hn : n ≤ 1000 := hn
  obtain ⟨v0, v1, v2, rfl, d0, d1, d2⟩ := all2_3 ha
  obtain ⟨c, rfl⟩ := d0
  cases Dt.int_inv d1
  cases Dt.int_inv d2
  refine q_asg (δ := dM []) (em_lst (ds := []) ea_nil (Nat.zero_le _)) (Same.refl _) fun v3 H1 s1 d3 => ?_
  obtain ⟨l, zs, rfl, hl0, hl1, rz⟩ := d3
  cases rz
  refine q_asg (δ := dV (.int c)) (ev_var (i := 0) rfl) (Same.refl _) fun v4 H1' s1' d4 => ?_
  cases d4
  have hl1' := s1' _ _ hl1
  refine q_for (H0 := H) (as := List.range n) (ei_range1 (n := n) (ed_var (i := 2) rfl (.int _)) (by omega)) (s1.trans s1') fun H2 s2 => ?_
  refine ⟨fun i σ' H' => ∃ r v5 v6 zs ds, σ' = [some (.int c), some (.int m), some (.int n), some (.ref l), some (.int r), v5, v6] ∧ Kp H H1' H2 H' ∧ H' l = some (.lst zs) ∧ Dts H' zs (ds.map nI) ∧ okDs m i ds,
    ⟨c, none, none, [], [], rfl, kp_same ((s1.trans s1').trans s2) (Same.refl _), s2 _ _ hl1', .nil, rfl, fun _ h => by cases h⟩, fun i σ' H' _ ⟨_, _, _, _, _, _, k, _⟩ => k, ?_, ?_⟩
  · rintro i a x σ' H' H'' hi ⟨r, v5, v6, zs, ds, rfl, kp, hl, rz, hlen, hds⟩ sy dx
    have hi' : i < n := by simpa using (List.getElem?_eq_some_iff.mp hi).1
    have ea : a = i := by
      obtain ⟨h1, h2⟩ := List.getElem?_eq_some_iff.mp hi
      rw [List.getElem_range] at h2; exact h2.symm
    subst ea
    cases Dt.int_inv dx
    have p18 : EvX (tOp (rI CPow fun i j => .int (i ^ j.toNat)) (tC (.int 10)) (tC (.int 18))) [some (.int c), some (.int m), some (.int n), some (.ref l), some (.int r), some (.int (a : Nat)), v6] H'' (dD (.int (10 ^ (18 : Int).toNat))) := ed_opC (g := fun i j => i ^ j.toNat) ed_int ed_int ⟨by decide, by decide, by decide⟩
    -- the new digit's writing
    have fin : ∀ (H3 : Hp) (v : V) (y : Int), Same H'' H3 → Dt H3 v (.int (y % (m : Int))) → Kp H H1' H2 (upd H3 l (.lst (zs ++ [v]))) ∧ ∃ ds', Dts (upd H3 l (.lst (zs ++ [v]))) (zs ++ [v]) (List.map nI ds') ∧ okDs m (a + 1) ds' := fun H3 v y s3 dv => by
      have hl3 := s3 _ _ (sy _ _ hl)
      obtain ⟨d, ed, hd⟩ := mod_nat (x := y) hm1
      rw [ed] at dv
      refine ⟨(kp.up (sy.trans s3)).write hl0 (by rw [hl1']; intro z; cases z) hl3, ds ++ [d], ?_, ?_, ?_⟩
      · rw [List.map_append]
        have tk := tk_lst (o := .lst (zs ++ [v])) hl3
        exact (rz.mono ((tk_same (sy.trans s3)).trans tk)).append (.cons (Dt.mono tk dv) .nil)
      · rw [List.length_append, hlen]; rfl
      · intro e he
        rcases List.mem_append.mp he with h | h
        · exact hds e h
        · rw [List.mem_singleton] at h; rw [h]; exact hd
    have zlen : zs.length < sizeLine := small_lt (by rw [rz.length, List.length_map, hlen]; omega)
    refine s_if (b := decide ((10 : Int) ^ (18 : Int).toNat ≤ c)) (et_test (dB_to (ed_cmp (ed_var (i := 0) rfl (.int _)) p18) (by simp))) (Same.refl _) (fun hb H3 s3 => ?_) fun hb H3 s3 => ?_
    · refine q_append (j := 3) (δ := dD (.int (r % (m : Int)))) rfl (s3 _ _ (sy _ _ hl)) (ed_opC (ed_intI (ed_var (i := 4) rfl (.int _))) (ed_var (i := 1) rfl (.int _)) (by omega)) (Same.refl _) zlen fun v H4 s4 dv => ?_
      obtain ⟨k1, ds', r1, r2⟩ := fin H4 v r (s3.trans s4) dv
      refine s_asg (δ := dD (.int (r / (m : Int)))) (ed_opC (ed_var (i := 4) rfl (.int _)) (ed_var (i := 1) rfl (.int _)) (cdiv_s (by omega) (by omega))) (Same.refl _) fun v' H5 s5 dv' => ?_
      cases Dt.int_inv dv'
      exact ⟨_, _, _, _, ds', rfl, k1.up s5, s5 _ _ upd_same, r1.up s5, r2⟩
    · refine q_asg (δ := dE (fun x : Int => 0 ≤ x ∧ x < 2147483647) fun x => dD (.int x)) (EvX.imp (δ := dD (.int ((c * 40503 + (a : Int) * 90121 + 77) % 2147483647))) (ed_opC (ed_intI (ed_op0 (ed_op0 (ed_opC (ed_var (i := 0) rfl (.int _)) ed_int (cmul_r (by decide))) (ed_opC (ed_var (i := 5) rfl (.int _)) ed_int (cmul_r (by decide)))) ed_int)) ed_int (by decide)) fun _ _ _ d => ⟨_, ⟨Int.emod_nonneg _ (by decide), Int.emod_lt_of_pos _ (by decide)⟩, d⟩) (Same.refl _) fun v6' H4 s4 dv => ?_
      obtain ⟨x6, ⟨b6, b7⟩, e6⟩ := dv
      cases Dt.int_inv e6
      refine q_asg (δ := dInt) (ei_int (ed_opC (ed_intI (ed_op0 (ed_op0 (ed_opC (ed_var (i := 6) rfl (.int _)) (ed_var (i := 6) rfl (.int _)) (cmul_l (by omega))) (ed_opC ed_int (ed_var (i := 6) rfl (.int _)) (cmul_l (by decide)))) (ed_opC ed_int (ed_var (i := 5) rfl (.int _)) (cmul_l (by decide))))) ed_int (by decide))) (Same.refl _) fun v7 H5 s5 dv7 => ?_
      obtain ⟨x7, rfl⟩ := dv7
      have s35 := (s3.trans s4).trans s5
      refine s_append (j := 3) (δ := dD (.int (x7 / 37 % (m : Int)))) rfl (s35 _ _ (sy _ _ hl)) (ed_opC (ed_intI (ed_opC (ed_var (i := 6) rfl (.int _)) ed_int (cdiv_s (by decide) (by decide)))) (ed_var (i := 1) rfl (.int _)) (by omega)) (Same.refl _) zlen fun v H6 s6 dv => ?_
      obtain ⟨k1, ds', r1, r2⟩ := fin H6 v (x7 / 37) (s35.trans s6) dv
      exact ⟨_, _, _, _, ds', rfl, k1, upd_same, r1, r2⟩
  · rintro σ' H' ⟨r, v5, v6, zs, ds, rfl, kp, hl, rz, hok⟩
    rw [List.length_range] at hok
    refine s_ret (ev_var (i := 3) rfl) (Same.refl _) fun v H3 s3 d3 => ?_
    cases d3
    exact hq _ _ (kp.1.trans s3) ⟨ds, hok, l, zs, rfl, hl0, s3 _ _ hl, rz.up s3⟩
abbrev sLchoices : Stmt := topS 37
theorem scLchoices : FnScope ["_law_points", "_law_count_here", "_law_found", "_law_k", "_law_longer", "_law_choice", "_law_point"] ["_law_points", "_law_count_here"] (defScope sLchoices) := ⟨rfl, rfl, rfl, by decide +kernel, rfl, by decide +kernel, by decide +kernel⟩
def chOne (ps : List Nat) (c : List Nat) : List (List Nat) := (ps.filter fun p => !decide (p ∈ c)).map fun p => c ++ [p]
theorem take_flat_le {α β : Type} (g : α → List β) (l : List α) (i : Nat) : ((l.take i).flatMap g).length ≤ (l.flatMap g).length := by
  conv => rhs; rw [← List.take_append_drop i l, List.flatMap_append, List.length_append]
  exact Nat.le_add_right _ _
theorem ok_Lchoices {f : Addr} {fd : FuncData} (Fn : Fun K "_law_choices" "_law_choices" sLchoices f fd) (T : Txt K mg) : FnOk P w K mg base CX0 1 f fd ["_law_points", "_law_count_here"] (spChoices K) := by
  have nd := scLchoices.nd
  refine okD Fn scLchoices (fun _ => rfl) fun cdv A outer s H E hr => ⟨_, (pss_cons (ps_set (i := 2) nd rfl (by first | exact Or.inl rfl | exact Or.inr rfl) (pe_lst (pa_cons (pe_tup pa_nil) pa_nil)))
    (pss_cons (ps_for PassesOwn.never rfl (pi_range1 rfl T.range (pa_cons (pv 1) pa_nil)) (pg_name (i := 3) nd rfl (by first | exact Or.inl rfl | exact Or.inr rfl))
      (pss_cons (ps_set (i := 4) nd rfl (by first | exact Or.inl rfl | exact Or.inr rfl) (pe_lst pa_nil))
    (pss_cons (ps_for PassesOwn.never rfl (pi_listK (K := K) (pv 2)) (pg_name (i := 5) nd rfl (by first | exact Or.inl rfl | exact Or.inr rfl))
      (pss_one (ps_expr (pe_bmK (K := K) PySem.F.plainAttrs_list PySem.F.slot_list_extend PySem.F.type_list_extend mt_extend (pv 4) (pa_cons (pe_lc (own := [("_law_point", 6)]) rfl nd (pi_listK (K := K) (pv 0)) (blkOk_by (by kernel_rfl)) (fun _ _ _ _ _ => (pg_name (i := 6) nd rfl (by first | exact Or.inl rfl | exact Or.inr rfl))) (fun _ _ _ _ _ => (pts_one (pt_cmpR (op_notInK (K := K)) (pv 6) (pv 5) (by rfl)))) (fun _ _ _ _ _ => (pe_op (op_catK (K := K)) (pv 5) (pe_tup (pa_cons (pv 6) pa_nil))))) pa_nil)))))
    (pss_one (ps_set (i := 2) nd rfl (by first | exact Or.inl rfl | exact Or.inr rfl) (pv 4))))))
    (pss_one (ps_ret (pv 2))))), ?_⟩
  rintro ⟨ps, n⟩ vs D ha ⟨h7, h4⟩ hq -
  obtain ⟨v0, v1, rfl, d0, d1⟩ := all2_2 ha
  have h7 : ps.length ≤ 7 := h7
  have h4 : n ≤ 4 := h4
  cases Dt.int_inv d1
  refine q_asg (δ := dM [.tuple []]) (em_lst (ds := [.tuple []]) (ea_cons (ed_tup (ds := []) ea_nil (Nat.zero_le _)) ea_nil) (by decide)) (Same.refl _) fun v2 H1 s1 d2 => ?_
  refine q_for (ei_range1 (n := n) (ed_var (i := 1) rfl (.int _)) (by omega)) (Same.refl _) fun H2 s2 => ?_
  refine ⟨fun i σ' H' => ∃ v2 v3 v4 v5, σ' = [some v0, some (.int n), some v2, v3, v4, v5, none] ∧ Same H2 H' ∧ dM ((choicesF ps i).map encC) H H' v2, ⟨v2, none, none, none, rfl, Same.refl _, Mo.mo d2 s2 fun _ z => z⟩, ?_, ?_, ?_⟩
  · rintro i σ' H' _ ⟨_, _, _, _, _, s', _⟩
    exact kp_same s2 s'
  · rintro i a x σ' H' H'' hi ⟨v2, v3, v4, v5, rfl, s', d⟩ sy dx
    have hi' : i < n := by simpa using (List.getElem?_eq_some_iff.mp hi).1
    have sH : Same H H'' := ((s1.trans s2).trans s').trans sy
    have dl : dL K ((choicesF ps i).map encC) H'' H'' v2 := mL d sy
    have small : ((choicesF ps i).flatMap (chOne ps)).length ≤ 2401 := choices_small (ps := ps) (n := i + 1) h7 (by omega)
    show tSeq _ _ _ [some v0, some (.int n), some v2, some x, v4, v5, none] H''
    refine q_asg (δ := dM []) (em_lst (ds := []) ea_nil (Nat.zero_le _)) (Same.refl _) fun v4' H3 s3 d4 => ?_
    obtain ⟨l, zs, rfl, hl0, hl1, rz⟩ := d4
    cases rz
    refine q_for (as := choicesF ps i) (H0 := H'') (ei_listL (enc := encC) (i := 2) rfl dl) s3 fun H4 s4 => ?_
    refine ⟨fun j σ' H' => ∃ v5 zs, σ' = [some v0, some (.int n), some v2, some x, some (.ref l), v5, none] ∧ Kp H'' H3 H4 H' ∧ H' l = some (.lst zs) ∧ Dts H' zs ((((choicesF ps i).take j).flatMap (chOne ps)).map encC),
      ⟨v5, [], rfl, kp_same (s3.trans s4) (Same.refl _), s4 _ _ hl1, .nil⟩, fun j σ' H' _ ⟨_, _, _, k, _⟩ => k, ?_, ?_⟩
    · rintro j c y σ' G G' hc ⟨v5, zs, rfl, kp, hl, rz⟩ sG dy
      have hlen := choices_mem_len (List.mem_of_getElem? hc)
      have sGG := kp.1.trans sG
      have tot := take_flat_le (chOne ps) (choicesF ps i) (j + 1)
      rw [take_succ_get hc, List.flatMap_append, List.flatMap_singleton, List.length_append] at tot
      refine s_extend (j := 4) (ds := (chOne ps c).map encC) rfl (sG _ _ hl) (em_lcE (enc := encC) (as := ps) (p := fun p => !decide (p ∈ c)) (f := fun p => c ++ [p]) (ei_listL (enc := nI) (i := 0) rfl (lL d0 (sH.trans sGG))) (small_line (by omega)) fun p z G2 hp sz dz => ⟨et_test (ed_notinN (ed_var (i := 6) rfl dz) (ed_var (i := 5) rfl (Dt.up sz dy))), fun _ => ?_⟩) (Same.refl _) (small_line ?_) fun ys G3 s3' dys => ?_
      · rw [encC_app]
        refine ed_cat (ed_var (i := 5) rfl (Dt.up sz dy)) (ed_tup (ds := [nI p]) (ea_cons (ed_var (i := 6) rfl dz) ea_nil) (small_line (by simp))) (small_line ?_)
        rw [List.length_map]
        simp
        omega
      · rw [rz.length, List.length_map, List.length_map]; omega
      · have s23 := sG.trans s3'
        have hl3 := s23 _ _ hl
        refine ⟨some y, zs ++ ys, rfl, (kp.up s23).write hl0 (by rw [hl1]; intro z; cases z) hl3, upd_same, ?_⟩
        rw [take_succ_get hc, List.flatMap_append, List.flatMap_singleton, List.map_append]
        have tk := tk_lst (o := .lst (zs ++ ys)) hl3
        exact (rz.mono ((tk_same s23).trans tk)).append (dys.mono tk)
    · rintro σ' G ⟨v5, zs, rfl, kp, hl, rz⟩
      rw [List.take_length] at rz
      refine s_asg (δ := dV (.ref l)) (ev_var (i := 4) rfl) (Same.refl _) fun v G2 s5 d5 => ?_
      cases d5
      exact ⟨.ref l, _, _, _, rfl, (s'.trans sy).trans (kp.1.trans s5), l, zs, rfl, sH.free hl0, s5 _ _ hl, rz.up s5⟩
  · rintro σ' H' ⟨v2, v3, v4, v5, rfl, s', d⟩
    rw [List.length_range] at d
    refine s_ret (ev_var (i := 2) rfl) (Same.refl _) fun v H3 s3 d3 => ?_
    cases d3
    exact hq _ _ (((s1.trans s2).trans s').trans s3) (Mo.mo d s3 fun _ z => z)
/-! ### _law_places -/
theorem eqv_ints : ∀ (a b : List Int), PyData.eqvAll (a.map .int) (b.map .int) = decide (a = b)
  | [], [] => rfl
  | [], _ :: _ => rfl
  | _ :: _, [] => rfl
  | x :: a, y :: b => by
    rw [List.map_cons, List.map_cons]
    show (PyData.eqv (.int x) (.int y) && PyData.eqvAll (a.map .int) (b.map .int)) = _
    rw [eqv_ints a b]
    show (decide (x = y) && _) = _
    by_cases h : x = y
    · subst h; simp
    · simp [h]
end
end D18
set_option Elab.async false
set_option linter.all false
set_option maxRecDepth 100000
set_option maxHeartbeats 8000000
/-! PgB: _law_places, _law_ordered_keys, _law_count, _law_indexed, _law_value. -/
namespace D18
open PySem L2
def keysAt (rels : List Rel) (p : Nat) : List FKey := rels.zipIdx.flatMap fun ri => (placesF ri.1 p).map fun c => (ri.2, c)
def keysF (rels : List Rel) (n : Nat) : List FKey := (List.range n).flatMap (keysAt rels)
def encKey (k : FKey) : PyData := .tuple [nI k.1, encC k.2]
def vlOf (rels : List Rel) (k : FKey) : Nat := match rels[k.1]? with
  | some r => r.vals
  | none => 1
def countA (rels : List Rel) (n : Nat) : Nat := (keysF rels n).foldl (fun c k => c * vlOf rels k) 1
def facR (vl : FKey → Nat) : List FKey → Nat → List (FKey × Nat)
  | [], _ => []
  | k :: r, x => (k, x % vl k) :: facR vl r (x / vl k)
def restR (vl : FKey → Nat) : List FKey → Nat → Nat
  | [], x => x
  | k :: r, x => restR vl r (x / vl k)
theorem facR_snoc (vl : FKey → Nat) : ∀ (l : List FKey) (k : FKey) (x : Nat), facR vl (l ++ [k]) x = facR vl l x ++ [(k, restR vl l x % vl k)]
  | [], _, _ => rfl
  | a :: l, k, x => by
    rw [List.cons_append, facR, facR_snoc vl l k]; rfl
theorem restR_snoc (vl : FKey → Nat) : ∀ (l : List FKey) (k : FKey) (x : Nat), restR vl (l ++ [k]) x = restR vl l x / vl k
  | [], _, _ => rfl
  | a :: l, k, x => by
    rw [List.cons_append, restR, restR_snoc vl l k]; rfl
theorem facR_keys (vl : FKey → Nat) : ∀ (l : List FKey) (x : Nat), (facR vl l x).map (·.1) = l
  | [], _ => rfl
  | a :: l, x => by rw [facR, List.map_cons, facR_keys vl l]
/-- values of facts -/
def faOf (kvs : List (FKey × Nat)) : Fa := fun i c => (kvs.lookup (i, c)).getD 0
theorem keysF_mem {rels : List Rel} {n : Nat} {k : FKey} (h : k ∈ keysF rels n) : ∃ r p, rels[k.1]? = some r ∧ k.2 ∈ placesF r p ∧ p < n := by
  obtain ⟨p, hp, h⟩ := List.mem_flatMap.mp h
  obtain ⟨ri, hri, h⟩ := List.mem_flatMap.mp h
  obtain ⟨c, hc, rfl⟩ := List.mem_map.mp h
  obtain ⟨r, i⟩ := ri
  have := List.mk_mem_zipIdx_iff_getElem?.mp hri
  exact ⟨r, p, this, hc, List.mem_range.mp hp⟩
theorem mem_keysF {rels : List Rel} {n i p : Nat} {r : Rel} {c : List Nat} (h : rels[i]? = some r) (hc : c ∈ placesF r p) (hp : p < n) : (i, c) ∈ keysF rels n :=
  List.mem_flatMap.mpr ⟨p, List.mem_range.mpr hp, List.mem_flatMap.mpr ⟨(r, i), List.mk_mem_zipIdx_iff_getElem?.mpr h, List.mem_map.mpr ⟨c, hc, rfl⟩⟩⟩
theorem flat_len_le {α β : Type} (g : α → List β) (k : Nat) : ∀ l : List α, (∀ a ∈ l, (g a).length ≤ k) → (l.flatMap g).length ≤ l.length * k
  | [], _ => by simp
  | a :: r, h => by
    have h1 := h a (List.mem_cons_self ..)
    have h2 := flat_len_le g k r fun b hb => h b (List.mem_cons_of_mem _ hb)
    rw [List.flatMap_cons, List.length_append, List.length_cons, Nat.add_mul, Nat.one_mul]
    omega
theorem keysAt_len {rels : List Rel} (g : GoodRs rels) {p : Nat} (hp : p ≤ 6) : (keysAt rels p).length ≤ 7203 := by
  have h := flat_len_le (fun ri : Rel × Nat => (placesF ri.1 p).map fun c => (ri.2, c)) 2401 rels.zipIdx fun ri hri => by
    rw [List.length_map]
    obtain ⟨r, i⟩ := ri
    exact places_len (g.good r (List.mem_of_getElem? (List.mk_mem_zipIdx_iff_getElem?.mp hri))) hp
  rw [List.length_zipIdx] at h
  have := g.few
  show (rels.zipIdx.flatMap _).length ≤ _
  omega
theorem keysF_len {rels : List Rel} (g : GoodRs rels) {n : Nat} (hn : n ≤ 7) : (keysF rels n).length ≤ 50421 := by
  have h := flat_len_le (keysAt rels) 7203 (List.range n) fun p hp => keysAt_len g (by have := List.mem_range.mp hp; omega)
  rw [List.length_range] at h
  show ((List.range n).flatMap _).length ≤ _
  omega
theorem Kp.writeO {H0 H1 H2 H : Hp} {l : Addr} {o : HO} (k : Kp H0 H1 H2 H) (h0 : H0 l = none) (h1 : H1 l ≠ none) (hl : ∀ xs, H l ≠ some (.tup xs)) : Kp H0 H1 H2 (upd H l o) :=
  ⟨same_mut k.1 h0, fun b u n e => by
    have nb : b ≠ l := fun z => by subst z; exact h1 n
    rw [upd_ne nb]; exact k.2.1 b u n e, k.2.2.trans (tk_upd hl)⟩
/-- facts -/
def dF (P : Program) (w : World) (kvs : List (FKey × Nat)) : De := fun G H v => ∃ a, v = .ref a ∧ FactsAt P w H a kvs
instance {P : Program} {w : World} {kvs : List (FKey × Nat)} : Mo (dF P w kvs) := ⟨fun ⟨a, e, h⟩ s _ => ⟨a, e, h.up s⟩⟩
theorem dF_var {P : Program} {w : World} {kvs : List (FKey × Nat)} {σ : L2.St} {H : Hp} {i : Nat} {v : V} (h : σ[i]? = some (some v)) (d : dF P w kvs Hn H v) : EvX (tVar i) σ H (dF P w kvs) := fun H1 e Q q => ⟨v, h, q v H1 (Same.refl _) (up (δ := dF P w kvs) (G := Hn) d e)⟩
theorem keyAt_dt {H : Hp} {k : FKey} {v : V} (h : Dt H v (encKey k)) : ∃ t, v = .ref t ∧ KeyAt H k t := by
  obtain ⟨t, x, y, rfl, ht, hx, hy⟩ := dt2 h
  cases Dt.int_inv hx
  obtain ⟨p, rfl, hp⟩ := encC_inv hy
  rw [List.map_map] at hp
  exact ⟨t, rfl, p, ht, hp⟩
section
variable {P : Program} {w : World} {K : PySem.W.Frag} {σ : L2.St} {H : Hp} {ta tb : TE}
theorem ed_facts {kvs : List (FKey × Nat)} {k : FKey} {n : Nat} (ha : EvX ta σ H (dF P w kvs)) (hb : EvX tb σ H (dD (encKey k))) (h : kvs.lookup k = some n) : EvX (tOp (rIxF P w) ta tb) σ H (dD (nI n)) :=
  ev_op ha hb fun G H1 x y _ _ dx dy Q q => by
    obtain ⟨a, rfl, hf⟩ := dx
    obtain ⟨t, rfl, hk⟩ := keyAt_dt dy
    exact ⟨a, t, kvs, k, n, rfl, rfl, hf, hk, h, q _ H1 (Same.refl _) (.int _)⟩
theorem asc_dec {c : List Nat} (nd : c.Nodup) : decide ((c.map fun n : Nat => (n : Int)) = sortI (c.map fun n : Nat => (n : Int))) = isAscF c := by
  rw [Bool.eq_iff_iff, decide_eq_true_iff, ← asc_of_sort nd, ← sortN_cast]
  exact ⟨fun h => (nat_of_cast h).symm, fun h => by rw [h]⟩
theorem eqvL (xs ys : List PyData) : PyData.eqv (.list xs) (.list ys) = PyData.eqvAll xs ys := by simp only [PyData.eqv]
theorem psI {ns : List Int} : ∀ d ∈ ns.map PyData.int, PS 0 d := fun d hd => by obtain ⟨n, _, rfl⟩ := List.mem_map.mp hd; exact ⟨_, rfl⟩
end
section
variable {P : Program} {w : World} {K : PySem.W.Frag} {mg : Str → Option Value} {base : Heap}
abbrev sLplaces : Stmt := topS 38
theorem scLplaces : FnScope ["_law_relation", "_law_point", "_law_choice", "_law_found"] ["_law_relation", "_law_point"] (defScope sLplaces) := ⟨rfl, rfl, rfl, by decide +kernel, rfl, by decide +kernel, by decide +kernel⟩
theorem ok_Lplaces {f : Addr} {fd : FuncData} (Fn : Fun K "_law_places" "_law_places" sLplaces f fd) (T : Txt K mg) (h_Lchoices : Dl P w K mg base "_law_choices" 1 ["_law_points", "_law_count_here"] (spChoices K)) :
    FnOk P w K mg base CX0 2 f fd ["_law_relation", "_law_point"] spPlaces := by
  have nd := scLplaces.nd
  refine okD Fn scLplaces (fun _ => rfl) fun cdv A outer s H E hr => ⟨_, (pss_cons (ps_setLc (i := 3) (own := [("_law_choice", 2)]) rfl nd rfl rfl (sw_true rfl rfl rfl (by decide +kernel)) (pi_listK (K := K) (pe_dl h_Lchoices (hr.mono (by omega)) rfl (pa_cons (pe_listRg rfl rfl T.list (prg_1 rfl T.range (pe_op op_add (pv 1) pe_int))) (pa_cons (pe_ix (ix_tupK (K := K)) (pv 0) pe_int (fun _ _ => rfl)) pa_nil)))) (blkOk_by (by kernel_rfl)) (fun _ _ _ _ _ => (pg_name (i := 2) nd rfl (by first | exact Or.inl rfl | exact Or.inr rfl))) (fun _ _ _ _ _ => (pts_one (pt_cmpR (op_inK (K := K)) (pv 1) (pv 2) (by rfl)))) (fun _ _ _ _ _ => (pv 2)))
    (pss_cons (ps_if (pt_val (pe_ix (ix_tupK (K := K)) (pv 0) pe_int (fun _ _ => rfl))) (pss_one (ps_setLc (i := 3) (own := [("_law_choice", 2)]) rfl nd rfl rfl (sw_true rfl rfl rfl (by decide +kernel)) (pi_listK (K := K) (pv 3)) (blkOk_by (by kernel_rfl)) (fun _ _ _ _ _ => (pg_name (i := 2) nd rfl (by first | exact Or.inl rfl | exact Or.inr rfl))) (fun _ _ _ _ _ => (pts_one (pt_cmpR (op_eqDK (K := K) hr.units) (pe_callTy (call_listK (K := K)) (by rfl) T.list (by decide +kernel) (pa_cons (pv 2) pa_nil)) (pe_callB (cr_sortedTupK (K := K)) (by rfl) T.sorted (by decide +kernel) (pa_cons (pv 2) pa_nil)) (nomark _)))) (fun _ _ _ _ _ => (pv 2)))) pss_nil)
    (pss_one (ps_ret (pv 3))))), ?_⟩
  rintro ⟨r, p⟩ vs D ha ⟨gr, hp⟩ hq -
  have gr : GoodR r := gr
  have hp : p ≤ 6 := hp
  have ha3 := gr.ar3
  obtain ⟨v0, v1, rfl, d0, d1⟩ := all2_2 ha
  have d0 : Dt H v0 (encR r) := d0
  have d1 : Dt H v1 (nI p) := d1
  have small := choices_small (ps := List.range (p + 1)) (n := r.ar) (by rw [List.length_range]; omega) (by omega)
  refine q_asg (δ := dM (((choicesF (List.range (p + 1)) r.ar).filter fun c => decide (p ∈ c)).map encC)) ?_ (Same.refl _) fun v3 H2 s2 d4 => ?_
  · refine em_lcS (ei_listM (as := choicesF (List.range (p + 1)) r.ar) (enc := encC) (ev_call (List.range (p + 1), r.ar) (ea_cons (ev_l (em_listRg (n := p + 1) (ed_op0 (ed_var (i := 1) rfl d1) ed_int) (by omega))) (ea_cons (ed_ixT (d := nI r.ar) (ed_var (i := 0) rfl d0) ed_int rfl) ea_nil)) fun _ _ => ⟨by rw [List.length_range]; omega, by show r.ar ≤ 4; omega⟩)) (small_line (by omega)) ?_
    intro c x H' hc sH dx
    exact ⟨et_test (ed_inN (ed_var (i := 1) rfl (d1.up sH)) (ed_var (i := 2) rfl dx)), fun _ => ed_var (i := 2) rfl dx⟩
  have lens : ((choicesF (List.range (p + 1)) r.ar).filter fun c => decide (p ∈ c)).length ≤ 2401 := Nat.le_trans (List.length_filter_le _ _) small
  refine q_if (b := r.sym) (et_B (ed_ixT (d := .bool r.sym) (ed_var (i := 0) rfl (d0.up s2)) ed_int rfl)) (Same.refl _) (fun hb H3 s3 => ?_) fun hb H3 s3 => ?_
  · refine s_asg (δ := dM ((((choicesF (List.range (p + 1)) r.ar).filter fun c => decide (p ∈ c)).filter isAscF).map encC)) ?_ (Same.refl _) fun v4' H4 s4 d4' => ?_
    · refine em_lcS (ei_listL (i := 3) rfl (mL d4 s3)) (small_line (by omega)) ?_
      intro c x H' hc sH dx
      have hc1 := (List.mem_filter.mp hc).1
      have hc' := choices_mem_len hc1
      have ndc := (choices_mem.mp hc1).2.1
      have dx : Dt H' x (encC c) := dx
      have dx' : Dt H' x (.tuple ((c.map fun n : Nat => (n : Int)).map .int)) := by rw [← map_nI]; exact dx
      refine ⟨et_test (dB_to (ed_eqL (ev_l (em_listOfT (ed_var (i := 2) rfl dx'))) (ev_l (em_sortedT (ed_var (i := 2) rfl dx') (by rw [List.length_map]; omega))) (ps_shapedL (by decide) psI) (ps_shapedL (by decide) psI)) ?_), fun _ => ed_var (i := 2) rfl dx⟩
      rw [eqvL, eqv_ints, asc_dec ndc]
    · refine s_ret (ev_var (i := 3) rfl) (Same.refl _) fun v H5 s5 d5 => ?_
      cases d5
      refine hq _ _ ((s2.trans s3).trans (s4.trans s5)) ?_
      have e : placesF r p = ((choicesF (List.range (p + 1)) r.ar).filter fun c => decide (p ∈ c)).filter isAscF := by unfold placesF; rw [hb]; rfl
      show dM ((placesF r p).map encC) _ _ _
      rw [e]
      exact Mo.mo d4' s5 fun _ z => (s2.trans s3).free z
  · refine s_next ?_
    refine s_ret (ev_var (i := 3) rfl) (Same.refl _) fun v H5 s5 d5 => ?_
    cases d5
    refine hq _ _ ((s2.trans s3).trans s5) ?_
    have e : placesF r p = (choicesF (List.range (p + 1)) r.ar).filter fun c => decide (p ∈ c) := by unfold placesF; rw [hb]; rfl
    show dM ((placesF r p).map encC) _ _ _
    rw [e]
    exact Mo.mo d4 (s3.trans s5) fun _ z => z
abbrev sLkeys : Stmt := topS 40
def spLkeys (K : PySem.W.Frag) : Sp := spOf (R := List Rel × Nat) (fun r => [dL K (r.1.map encR), dD (nI r.2)]) (fun r _ => GoodRs r.1 ∧ r.2 ≤ 7) (fun r => dM ((keysF r.1 r.2).map encKey))
theorem scLkeys : FnScope ["_law_relations_here", "_law_size", "_law_keys", "_law_point", "_law_number", "_law_place"] ["_law_relations_here", "_law_size"] (defScope sLkeys) := ⟨rfl, rfl, rfl, by decide +kernel, rfl, by decide +kernel, by decide +kernel⟩
theorem range_get {n i a : Nat} (h : (List.range n)[i]? = some a) : a = i ∧ i < n := by
  obtain ⟨h1, h2⟩ := List.getElem?_eq_some_iff.mp h
  rw [List.getElem_range] at h2
  rw [List.length_range] at h1
  exact ⟨h2.symm, h1⟩
theorem ok_Lkeys {f : Addr} {fd : FuncData} (Fn : Fun K "_law_ordered_keys" "_law_ordered_keys" sLkeys f fd) (T : Txt K mg) (h_Lplaces : Dl P w K mg base "_law_places" 2 ["_law_relation", "_law_point"] spPlaces) :
    FnOk P w K mg base CX0 3 f fd ["_law_relations_here", "_law_size"] (spLkeys K) := by
  have nd := scLkeys.nd
  refine okD Fn scLkeys (fun _ => rfl) fun cdv A outer s H E hr => ⟨_, (pss_cons (ps_set (i := 2) nd rfl (by first | exact Or.inl rfl | exact Or.inr rfl) (pe_lst pa_nil))
    (pss_cons (ps_for PassesOwn.never rfl (pi_range1 rfl T.range (pa_cons (pv 1) pa_nil)) (pg_name (i := 3) nd rfl (by first | exact Or.inl rfl | exact Or.inr rfl))
      (pss_one (ps_for PassesOwn.never rfl (pi_range1 rfl T.range (pa_cons (pe_callB (call_lenK (K := K)) (by rfl) T.len PySem.boot_len (pa_cons (pv 0) pa_nil)) pa_nil)) (pg_name (i := 4) nd rfl (by first | exact Or.inl rfl | exact Or.inr rfl))
      (pss_one (ps_expr (pe_bmK (K := K) PySem.F.plainAttrs_list PySem.F.slot_list_extend PySem.F.type_list_extend mt_extend (pv 2) (pa_cons (pe_lc (own := [("_law_place", 5)]) rfl nd (pi_listK (K := K) (pe_dl h_Lplaces (hr.mono (by omega)) rfl (pa_cons (pe_ix (ix_listK (K := K)) (pv 0) (pv 4) (fun _ _ => rfl)) (pa_cons (pv 3) pa_nil)))) (blkOk_by (by kernel_rfl)) (fun _ _ _ _ _ => (pg_name (i := 5) nd rfl (by first | exact Or.inl rfl | exact Or.inr rfl))) (fun _ _ _ _ _ => pts_nil) (fun _ _ _ _ _ => (pe_tup (pa_cons (pv 4) (pa_cons (pv 5) pa_nil))))) pa_nil)))))))
    (pss_one (ps_ret (pv 2))))), ?_⟩
  rintro ⟨rels, n⟩ vs D ha ⟨hg, hn⟩ hq -
  have hg : GoodRs rels := hg
  have hn : n ≤ 7 := hn
  have few := hg.few
  obtain ⟨v0, v1, rfl, d0, d1⟩ := all2_2 ha
  have d0 : dL K (rels.map encR) Hn H v0 := d0
  cases Dt.int_inv d1
  have len := keysF_len hg hn
  refine q_asg (δ := dM []) (em_lst (ds := []) ea_nil (Nat.zero_le _)) (Same.refl _) fun v2 H1 s1 d2 => ?_
  obtain ⟨l, zs, rfl, hl0, hl1, rz⟩ := d2
  cases rz
  refine q_for (as := List.range n) (H0 := H) (ei_range1 (n := n) (ed_var (i := 1) rfl (.int _)) (by omega)) s1 fun H2 s2 => ?_
  refine ⟨fun i σ' H' => ∃ v3 v4 zs, σ' = [some v0, some (.int n), some (.ref l), v3, v4, none] ∧ Kp H H1 H2 H' ∧ H' l = some (.lst zs) ∧ Dts H' zs ((((List.range n).take i).flatMap (keysAt rels)).map encKey),
    ⟨none, none, [], rfl, kp_same (s1.trans s2) (Same.refl _), s2 _ _ hl1, .nil⟩, fun i σ' H' _ ⟨_, _, _, _, k, _⟩ => k, ?_, ?_⟩
  · rintro i a x σ' H' H'' hi ⟨v3, v4, zs, rfl, kp, hl, rz⟩ sy dx
    obtain ⟨rfl, hin⟩ := range_get hi
    have kp' := kp.up sy
    have hl' := sy _ _ hl
    have tot := take_flat_le (keysAt rels) (List.range n) (a + 1)
    rw [take_succ_get hi, List.flatMap_append, List.flatMap_singleton, List.length_append] at tot
    have tot : (((List.range n).take a).flatMap (keysAt rels)).length + (keysAt rels a).length ≤ 50421 := Nat.le_trans tot len
    show tFor _ _ _ _ [some v0, some (.int n), some (.ref l), some x, v4, none] H''
    refine s_for (as := List.range rels.length) (H0 := H) (ei_range1 (n := rels.length) (ed_lenLm (enc := encR) (el_var (i := 0) rfl (lL d0 (Same.refl _)))) (by omega)) kp'.1 fun H3 s3 => ?_
    refine ⟨fun j σ' G => ∃ v4 zs, σ' = [some v0, some (.int n), some (.ref l), some x, v4, none] ∧ Kp H H1 H2 G ∧ Kp H H'' H3 G ∧ G l = some (.lst zs) ∧ Dt G x (nI a) ∧ Dts G zs ((((List.range n).take a).flatMap (keysAt rels) ++ (rels.zipIdx.take j).flatMap fun ri => (placesF ri.1 a).map fun c => (ri.2, c)).map encKey),
      ⟨v4, zs, rfl, kp'.up s3, kp_same (kp'.1.trans s3) (Same.refl _), s3 _ _ hl', Dt.up s3 dx, by rw [List.take_zero, List.flatMap_nil, List.append_nil]; exact rz.up (sy.trans s3)⟩, fun j σ' G _ ⟨_, _, _, _, k, _⟩ => k, ?_, ?_⟩
    · rintro j b y σ' G G' hj ⟨v4, zs, rfl, k1, k2, hlG, dx, rz⟩ sG dy
      obtain ⟨rfl, hjn⟩ := range_get hj
      have hr : rels[b]? = some rels[b] := List.getElem?_eq_getElem hjn
      generalize hR : rels[b] = r at hr
      have gr := hg.good r (List.mem_of_getElem? hr)
      have hz : rels.zipIdx[b]? = some (r, b) := by rw [List.getElem?_zipIdx, hr]; simp
      have pl := places_len gr (p := a) (by omega)
      have tot2 := take_flat_le (fun ri : Rel × Nat => (placesF ri.1 a).map fun c => (ri.2, c)) rels.zipIdx (b + 1)
      rw [take_succ_get hz, List.flatMap_append, List.flatMap_singleton, List.length_append, List.length_map] at tot2
      have tot2 : ((rels.zipIdx.take b).flatMap fun ri => (placesF ri.1 a).map fun c => (ri.2, c)).length + (placesF r a).length ≤ (keysAt rels a).length := tot2
      have sHG := k1.1.trans sG
      refine s_extend (j := 2) (ds := ((placesF r a).map fun c => (b, c)).map encKey) rfl (sG _ _ hlG) (em_lcmE (enc := encKey) (as := placesF r a) (f := fun c => (b, c)) (ei_listM (enc := encC) (ev_call (r, a) (ea_cons (ed_ixL (ds := rels.map encR) (d := encR r) (el_var (i := 0) rfl (lL d0 sHG)) (ed_var (i := 4) rfl dy) (atI_nat (by rw [List.getElem?_map, hr]; rfl))) (ea_cons (ed_var (i := 3) rfl (dx.up sG)) ea_nil)) fun _ _ => ⟨gr, by show a ≤ 6; omega⟩)) (small_line (by omega)) fun c z G2 hc sz dz => ?_) (Same.refl _) (small_line ?_) fun ys G3 s3' dys => ?_
      · exact ed_tup (ds := [nI b, encC c]) (ea_cons (ed_var (i := 4) rfl (Dt.up sz dy)) (ea_cons (ed_var (i := 5) rfl dz) ea_nil)) (small_line (by simp))
      · rw [rz.length, List.length_map, List.length_append, List.length_map, List.length_map]
        omega
      · have s23 := sG.trans s3'
        have hl3 := s23 _ _ hlG
        have tk := tk_lst (o := .lst (zs ++ ys)) hl3
        refine ⟨some y, zs ++ ys, rfl, (k1.up s23).write hl0 (by rw [hl1]; intro z; cases z) hl3, (k2.up s23).write hl0 (by rw [hl']; intro z; cases z) hl3, upd_same, Dt.mono ((tk_same s23).trans tk) dx, ?_⟩
        rw [take_succ_get hz, List.flatMap_append, List.flatMap_singleton, ← List.append_assoc, List.map_append]
        exact (rz.mono ((tk_same s23).trans tk)).append (dys.mono tk)
    · rintro σ' G ⟨v4, zs, rfl, k1, k2, hlG, dx, rz⟩
      refine ⟨some x, v4, zs, rfl, k1, hlG, ?_⟩
      rw [take_succ_get hi, List.flatMap_append, List.flatMap_singleton]
      have e : rels.zipIdx.take (List.range rels.length).length = rels.zipIdx := by rw [List.length_range]; exact List.take_of_length_le (by rw [List.length_zipIdx]; exact Nat.le_refl _)
      rw [e] at rz
      exact rz
  · rintro σ' H' ⟨v3, v4, zs, rfl, kp, hl, rz⟩
    rw [List.take_length] at rz
    refine s_ret (ev_var (i := 2) rfl) (Same.refl _) fun v H3 s3 d3 => ?_
    cases d3
    exact hq _ _ (kp.1.trans s3) ⟨l, zs, rfl, hl0, s3 _ _ hl, rz.up s3⟩
abbrev sLcount : Stmt := topS 41
def spLcount (K : PySem.W.Frag) : Sp := spOf (R := List Rel × Nat) (fun r => [dL K (r.1.map encR), dD (nI r.2)]) (fun r _ => GoodRs r.1 ∧ r.2 ≤ 7) (fun r => dD (nI (countA r.1 r.2)))
theorem scLcount : FnScope ["_law_relations_here", "_law_size", "_law_count_here", "_law_key"] ["_law_relations_here", "_law_size"] (defScope sLcount) := ⟨rfl, rfl, rfl, by decide +kernel, rfl, by decide +kernel, by decide +kernel⟩
theorem ok_Lcount {f : Addr} {fd : FuncData} (Fn : Fun K "_law_count" "_law_count" sLcount f fd) (T : Txt K mg) (h_Lordered_keys : Dl P w K mg base "_law_ordered_keys" 3 ["_law_relations_here", "_law_size"] (spLkeys K)) :
    FnOk P w K mg base CX0 4 f fd ["_law_relations_here", "_law_size"] (spLcount K) := by
  have nd := scLcount.nd
  refine okD Fn scLcount (fun _ => rfl) fun cdv A outer s H E hr => ⟨_, (pss_cons (ps_set (i := 2) nd rfl (by first | exact Or.inl rfl | exact Or.inr rfl) pe_int)
    (pss_cons (ps_for PassesOwn.never rfl (pi_listK (K := K) (pe_dl h_Lordered_keys (hr.mono (by omega)) rfl (pa_cons (pv 0) (pa_cons (pv 1) pa_nil)))) (pg_name (i := 3) nd rfl (by first | exact Or.inl rfl | exact Or.inr rfl))
      (pss_one (ps_set (i := 2) nd rfl (by first | exact Or.inl rfl | exact Or.inr rfl) (pe_op op_mul (pv 2) (pe_ix (ix_tupK (K := K)) (pe_ix (ix_listK (K := K)) (pv 0) (pe_ix (ix_tupK (K := K)) (pv 3) pe_int (fun _ _ => rfl)) (fun _ _ => rfl)) pe_int (fun _ _ => rfl))))))
    (pss_one (ps_ret (pv 2))))), ?_⟩
  rintro ⟨rels, n⟩ vs D ha ⟨hg, hn⟩ hq -
  have hg : GoodRs rels := hg
  have hn : n ≤ 7 := hn
  obtain ⟨v0, v1, rfl, d0, d1⟩ := all2_2 ha
  have d0 : dL K (rels.map encR) Hn H v0 := d0
  refine q_asg (δ := dD (nI 1)) ed_int (Same.refl _) fun v2 H1 s1 d2 => ?_
  refine q_for (as := keysF rels n) (ei_listM (enc := encKey) (ev_call (rels, n) (ea_cons (el_var (i := 0) rfl (lL d0 s1)) (ea_cons (ed_var (i := 1) rfl (Dt.up s1 d1)) ea_nil)) fun _ _ => ⟨hg, hn⟩)) (Same.refl _) fun H2 s2 => ?_
  refine ⟨fun i σ' H' => (∃ v3, σ' = [some v0, some v1, some (.int (((keysF rels n).take i).foldl (fun c k => c * vlOf rels k) 1 : Nat)), v3]) ∧ Same H2 H', ⟨⟨none, by rw [Dt.int_inv d2]; rfl⟩, Same.refl _⟩, fun i σ' H' _ h => kp_same s2 h.2, ?_, ?_⟩
  · rintro i k x σ' H' H'' hk ⟨⟨v3, rfl⟩, s'⟩ sy dx
    obtain ⟨r, p, hr, _, _⟩ := keysF_mem (List.mem_of_getElem? hk)
    have gr := hg.good r (List.mem_of_getElem? hr)
    have ev : vlOf rels k = r.vals := by unfold vlOf; rw [hr]
    have sH := (s1.trans s2).trans (s'.trans sy)
    have ef := foldl_take_succ (fun c k => c * vlOf rels k) 1 hk
    generalize ((keysF rels n).take i).foldl (fun c k => c * vlOf rels k) 1 = c at ef ⊢
    refine s_asg (δ := dD (.int ((c : Int) * (r.vals : Int)))) (ed_opC (ed_var (i := 2) rfl (.int _)) (ed_ixT (d := nI r.vals) (ed_ixL (ds := rels.map encR) (d := encR r) (el_var (i := 0) rfl (lL d0 sH)) (ed_ixT (ds := [nI k.1, encC k.2]) (d := nI k.1) (ed_var (i := 3) rfl dx) ed_int rfl) (atI_nat (by rw [List.getElem?_map, hr]; rfl))) ed_int rfl) (cmul_r (by have := gr.v3; omega))) (Same.refl _) fun v H3 s3 d3 => ?_
    rw [Dt.int_inv d3]
    exact ⟨⟨some x, by rw [ef, ev, Int.natCast_mul]; rfl⟩, (s'.trans sy).trans s3⟩
  · rintro σ' H' ⟨⟨v3, rfl⟩, s'⟩
    rw [List.take_length]
    exact s_ret (δ := dD (nI (countA rels n))) (ed_var (i := 2) rfl (.int _)) (Same.refl _) fun v H3 s3 d3 => hq v H3 ((s1.trans s2).trans (s'.trans s3)) d3

abbrev sLindexed : Stmt := topS 42
structure IX where
  rels : List Rel
  ks : List FKey
  x : Nat
structure IX.Ok (r : IX) : Prop where
  g : GoodRs r.rels
  nd : r.ks.Nodup
  len : r.ks.length ≤ 60000
  at_ : ∀ k ∈ r.ks, ∃ q, r.rels[k.1]? = some q
def kvsOf (rels : List Rel) (ks : List FKey) (x : Nat) : List (FKey × Nat) := facR (vlOf rels) ks.reverse x
def spLindexed (P : Program) (w : World) (K : PySem.W.Frag) : Sp := spOf (R := IX) (fun r => [dL K (r.rels.map encR), dL K (r.ks.map encKey), dD (nI r.x)]) (fun r _ => r.Ok) (fun r => dF P w (kvsOf r.rels r.ks r.x))
theorem scLindexed : FnScope ["_law_relations_here", "_law_keys", "_law_index", "_law_facts", "_law_rest", "_law_k"] ["_law_relations_here", "_law_keys", "_law_index"] (defScope sLindexed) := ⟨rfl, rfl, rfl, by decide +kernel, rfl, by decide +kernel, by decide +kernel⟩
theorem ok_Lindexed {f : Addr} {fd : FuncData} (Fn : Fun K "_law_indexed" "_law_indexed" sLindexed f fd) (T : Txt K mg) : FnOk P w K mg base CX0 1 f fd ["_law_relations_here", "_law_keys", "_law_index"] (spLindexed P w K) := by
  have nd := scLindexed.nd
  refine okD Fn scLindexed (fun _ => rfl) fun cdv A outer s H E hr => ⟨_, (pss_cons (ps_set (i := 3) nd rfl (by first | exact Or.inl rfl | exact Or.inr rfl) (pe_fnew (P := P) (w := w)))
    (pss_cons (ps_set (i := 4) nd rfl (by first | exact Or.inl rfl | exact Or.inr rfl) (pv 2))
    (pss_cons (ps_for PassesOwn.never rfl (pi_range3 rfl T.range (pa_cons (pe_op op_sub (pe_callB (call_lenK (K := K)) (by rfl) T.len PySem.boot_len (pa_cons (pv 1) pa_nil)) pe_int) (pa_cons (pe_un un_neg pe_int) (pa_cons (pe_un un_neg pe_int) pa_nil)))) (pg_name (i := 5) nd rfl (by first | exact Or.inl rfl | exact Or.inr rfl))
      (pss_cons (ps_asg (pe_op op_mod (pe_callTy call_int1K (by rfl) T.int (by decide +kernel) (pa_cons (pv 4) pa_nil)) (pe_ix (ix_tupK (K := K)) (pe_ix (ix_listK (K := K)) (pv 0) (pe_ix (ix_tupK (K := K)) (pe_ix (ix_listK (K := K)) (pv 1) (pv 5) (fun _ _ => rfl)) pe_int (fun _ _ => rfl)) (fun _ _ => rfl)) pe_int (fun _ _ => rfl))) (pg_sub (pv 3) (pe_ix (ix_listK (K := K)) (pv 1) (pv 5) (fun _ _ => rfl)) (set_facts (P := P) (w := w) (hu12 hr))))
    (pss_one (ps_set (i := 4) nd rfl (by first | exact Or.inl rfl | exact Or.inr rfl) (pe_op op_fdivW (pv 4) (pe_ix (ix_tupK (K := K)) (pe_ix (ix_listK (K := K)) (pv 0) (pe_ix (ix_tupK (K := K)) (pe_ix (ix_listK (K := K)) (pv 1) (pv 5) (fun _ _ => rfl)) pe_int (fun _ _ => rfl)) (fun _ _ => rfl)) pe_int (fun _ _ => rfl)))))))
    (pss_one (ps_ret (pv 3)))))), ?_⟩
  rintro ⟨rels, ks, x⟩ vs D ha ⟨hg, hnd, hlen, hat⟩ hq -
  have hg : GoodRs rels := hg
  have hnd : ks.Nodup := hnd
  have hlen : ks.length ≤ 60000 := hlen
  have hat : ∀ k ∈ ks, ∃ q, rels[k.1]? = some q := hat
  obtain ⟨v0, v1, v2, rfl, d0, d1, d2⟩ := all2_3 ha
  have d0 : dL K (rels.map encR) Hn H v0 := d0
  have d1 : dL K (ks.map encKey) Hn H v1 := d1
  cases Dt.int_inv d2
  have ef : EvX (tFNew P w) (start ["_law_relations_here", "_law_keys", "_law_index", "_law_facts", "_law_rest", "_law_k"] [v0, v1, .int (x : Nat)]) H (fun G H v => ∃ a, v = .ref a ∧ G a = none ∧ FactsAt P w H a [] ∧ H a ≠ none) := fun H' e Q q p hp => q _ _ (same_new hp) ⟨p, rfl, hp, ⟨[], upd_same, .nil⟩, by rw [upd_same]; intro z; cases z⟩
  refine q_asg ef (Same.refl _) fun v3 H1 s1 d3 => ?_
  obtain ⟨a, rfl, ha0, hf, ha1⟩ := d3
  refine q_asg (δ := dV (.int (x : Nat))) (ev_var (i := 2) rfl) (Same.refl _) fun v4 H1' s1' d4 => ?_
  cases d4
  have hf := hf.up s1'
  have ha1 : H1' a ≠ none := fun z => ha1 (s1'.free z)
  have sH1 := s1.trans s1'
  have neg1 : ∀ {σ : L2.St} {H : Hp}, EvX (tUn (rU fun i => .int (-i)) (tC (.int 1))) σ H (dD (.int (-1))) := fun H' e Q q => ⟨1, rfl, q _ H' (Same.refl _) (.int _)⟩
  refine q_for (as := List.range ks.length) (H0 := H) (ei_down (n := ks.length) (ed_op0 (ed_lenLm (enc := encKey) (el_var (i := 1) rfl (lL d1 (Same.refl _)))) ed_int) neg1 neg1 (by omega)) sH1 fun H2 s2 => ?_
  refine ⟨fun i σ' H' => (∃ v5, σ' = [some v0, some v1, some (.int (x : Nat)), some (.ref a), some (.int (restR (vlOf rels) (ks.reverse.take i) x : Nat)), v5]) ∧ Kp H H1' H2 H' ∧ FactsAt P w H' a (facR (vlOf rels) (ks.reverse.take i) x),
    ⟨⟨none, rfl⟩, kp_same (sH1.trans s2) (Same.refl _), hf.up s2⟩, fun i σ' H' _ h => h.2.1, ?_, ?_⟩
  · rintro i b y σ' H' H'' hi ⟨⟨v5, rfl⟩, kp, hfa⟩ sy dy
    obtain ⟨rfl, hin⟩ := range_get hi
    have kp' := kp.up sy
    have sH := kp'.1
    have hfa := hfa.up sy
    have hj : ks.length - 1 - b < ks.length := by omega
    have gk : ks[ks.length - 1 - b]? = some (ks[ks.length - 1 - b]) := List.getElem?_eq_getElem hj
    generalize hK : ks[ks.length - 1 - b] = k at gk
    have gr' : ks.reverse[b]? = some k := by rw [List.getElem?_reverse hin]; exact gk
    have hm : k ∈ ks := List.mem_of_getElem? gk
    obtain ⟨r, hr⟩ := hat k hm
    have gr := hg.good r (List.mem_of_getElem? hr)
    have ev : vlOf rels k = r.vals := by unfold vlOf; rw [hr]
    have eF := facR_snoc (vlOf rels) (ks.reverse.take b) k x
    have eR := restR_snoc (vlOf rels) (ks.reverse.take b) k x
    rw [← take_succ_get gr'] at eF eR
    have hout : k ∉ (facR (vlOf rels) (ks.reverse.take b) x).map (·.1) := by
      rw [facR_keys]
      intro hmem
      obtain ⟨j, hj', ej⟩ := List.mem_iff_getElem.mp hmem
      rw [List.getElem_take] at ej
      rw [List.length_take] at hj'
      have h1 : j < ks.reverse.length := by omega
      have h2 : ks.reverse[j]? = some k := by rw [List.getElem?_eq_getElem h1, ej]
      have := (List.getElem?_inj h1 (show ks.reverse.Nodup by unfold List.Nodup; rw [List.pairwise_reverse]; exact hnd.imp fun h e => h e.symm)).mp (h2.trans gr'.symm)
      omega
    have hflen : (facR (vlOf rels) (ks.reverse.take b) x).length < sizeLine := by
      have e := congrArg List.length (facR_keys (vlOf rels) (ks.reverse.take b) x)
      rw [List.length_map, List.length_take] at e
      exact small_lt (by omega)
    rw [ev] at eF eR
    have dy : Dt H'' y (.int ((ks.length : Int) - 1 - (b : Nat))) := dy
    generalize restR (vlOf rels) (ks.reverse.take b) x = rest at eF eR ⊢
    have key : ∀ {σ : L2.St} {H3 : Hp}, σ[1]? = some (some v1) → σ[5]? = some (some y) → Same H'' H3 → EvX (tOp (rIxL K) (tVar 1) (tVar 5)) σ H3 (dD (encKey k)) := fun h1 h5 s3 =>
      ed_ixL (ds := ks.map encKey) (el_var h1 (lL d1 (sH.trans s3))) (ed_var h5 (dy.up s3)) (atI_natE (j := ks.length - 1 - b) (by omega) (by rw [List.getElem?_map, gk]; rfl))
    have vals : ∀ {σ : L2.St} {H3 : Hp}, σ[0]? = some (some v0) → σ[1]? = some (some v1) → σ[5]? = some (some y) → Same H'' H3 → EvX (tOp (rIxT K) (tOp (rIxL K) (tVar 0) (tOp (rIxT K) (tOp (rIxL K) (tVar 1) (tVar 5)) (tC (.int 0)))) (tC (.int 2))) σ H3 (dD (nI r.vals)) := fun h0 h1 h5 s3 =>
      ed_ixT (d := nI r.vals) (ed_ixL (ds := rels.map encR) (d := encR r) (el_var h0 (lL d0 (sH.trans s3))) (ed_ixT (ds := [nI k.1, encC k.2]) (d := nI k.1) (key h1 h5 s3) ed_int rfl) (atI_nat (by rw [List.getElem?_map, hr]; rfl))) ed_int rfl
    have v1p := gr.v1
    have v3p := gr.v3
    show tSeq (tAsg _ _) _ _ [some v0, some v1, some (.int (x : Nat)), some (.ref a), some (.int (rest : Nat)), some y] H''
    refine (ed_opC (ed_intI (ed_var (i := 4) rfl (.int _))) (vals rfl rfl rfl (Same.refl _)) (show (0 : Int) < (r.vals : Int) by omega) : EvX _ _ H'' (dD (.int ((rest : Int) % (r.vals : Int))))) H'' (Same.refl _) _ fun v H3 s3 dv => ?_
    cases Dt.int_inv dv
    refine ⟨.ref a, rfl, key (H3 := H3) rfl rfl s3 H3 (Same.refl _) _ fun t H4 s4 dt => ?_⟩
    obtain ⟨ta, rfl, hkt⟩ := keyAt_dt dt
    have s34 := s3.trans s4
    have hfa4 := hfa.up s34
    refine ⟨a, ta, _, k, rest % r.vals, rfl, rfl, by rw [Int.natCast_emod], hfa4, hkt, hflen, hout, fun φ n1 n2 hnew => ?_⟩
    have kp4 := (kp'.up s34).writeO (o := φ) ha0 ha1 n2
    have sH4 : Same H (upd H4 a φ) := kp4.1
    rw [← eF] at hnew
    refine s_asg (δ := dD (.int ((rest : Int) / (r.vals : Int)))) (ed_opC (ed_var (i := 4) rfl (.int _)) ?_ (cdiv_s (by omega) (by omega))) (Same.refl _) fun v5' H5 s5 d5 => ?_
    · have dyU : Dt (upd H4 a φ) y (.int ((ks.length : Int) - 1 - (b : Nat))) := by cases Dt.int_inv dy; exact .int _
      exact ed_ixT (d := nI r.vals) (ed_ixL (ds := rels.map encR) (d := encR r) (el_var (i := 0) rfl (lL d0 sH4)) (ed_ixT (ds := [nI k.1, encC k.2]) (d := nI k.1) (ed_ixL (ds := ks.map encKey) (el_var (i := 1) rfl (lL d1 sH4)) (ed_var (i := 5) rfl dyU) (atI_natE (j := ks.length - 1 - b) (by omega) (by rw [List.getElem?_map, gk]; rfl))) ed_int rfl) (atI_nat (by rw [List.getElem?_map, hr]; rfl))) ed_int rfl
    · rw [Dt.int_inv d5]
      refine ⟨⟨some y, ?_⟩, kp4.up s5, hnew.up s5⟩
      rw [eR, Int.natCast_ediv]; rfl
  · rintro σ' H' ⟨⟨v5, rfl⟩, kp, hfa⟩
    rw [List.length_range, ← List.length_reverse, List.take_length] at hfa
    refine s_ret (ev_var (i := 3) rfl) (Same.refl _) fun v H3 s3 d3 => ?_
    cases d3
    exact hq _ _ (kp.1.trans s3) ⟨a, rfl, hfa.up s3⟩
abbrev sLvalue : Stmt := topS 43
structure LV where
  rels : List Rel
  kvs : List (FKey × Nat)
  i : Nat
  r : Rel
  pts : List Nat
structure LV.Ok (x : LV) : Prop where
  g : GoodRs x.rels
  at_ : x.rels[x.i]? = some x.r
  len : x.pts.length ≤ 4
  there : ∃ n, x.kvs.lookup (x.i, keyOf x.r x.pts) = some n
def spLvalue (P : Program) (w : World) (K : PySem.W.Frag) : Sp := spOf (R := LV) (fun x => [dL K (x.rels.map encR), dF P w x.kvs, dD (nI x.i), dL K (x.pts.map nI)]) (fun x _ => x.Ok) (fun x => dD (nI (faOf x.kvs x.i (keyOf x.r x.pts))))
theorem scLvalue : FnScope ["_law_relations_here", "_law_facts", "_law_number", "_law_points"] ["_law_relations_here", "_law_facts", "_law_number", "_law_points"] (defScope sLvalue) := ⟨rfl, rfl, rfl, by decide +kernel, rfl, by decide +kernel, by decide +kernel⟩
theorem ok_Lvalue {f : Addr} {fd : FuncData} (Fn : Fun K "_law_value" "_law_value" sLvalue f fd) (T : Txt K mg) : FnOk P w K mg base CX0 1 f fd ["_law_relations_here", "_law_facts", "_law_number", "_law_points"] (spLvalue P w K) := by
  have nd := scLvalue.nd
  refine okD Fn scLvalue (fun _ => rfl) fun cdv A outer s H E hr => ⟨_, (pss_cons (ps_if (pt_val (pe_ix (ix_tupK (K := K)) (pe_ix (ix_listK (K := K)) (pv 0) (pv 2) (fun _ _ => rfl)) pe_int (fun _ _ => rfl))) (pss_one (ps_ret (ix_facts (P := P) (w := w) (hu12 hr) rfl rfl (pv 1) (pe_tup (pa_cons (pv 2) (pa_cons (pe_callTy (call_tupleK (K := K)) (by rfl) T.tuple (by decide +kernel) (pa_cons (pe_callB (cr_sortedK (K := K)) (by rfl) T.sorted (by decide +kernel) (pa_cons (pv 3) pa_nil)) pa_nil)) pa_nil))) (fun _ _ => rfl)))) pss_nil)
    (pss_one (ps_ret (ix_facts (P := P) (w := w) (hu12 hr) rfl rfl (pv 1) (pe_tup (pa_cons (pv 2) (pa_cons (pe_callTy (call_tupleK (K := K)) (by rfl) T.tuple (by decide +kernel) (pa_cons (pv 3) pa_nil)) pa_nil))) (fun _ _ => rfl))))), ?_⟩
  rintro ⟨rels, kvs, i, r, pts⟩ vs D ha ⟨hg, hat, hlen, n, hn⟩ hq -
  have hat : rels[i]? = some r := hat
  have hlen : pts.length ≤ 4 := hlen
  have hn : kvs.lookup (i, keyOf r pts) = some n := hn
  obtain ⟨v0, v1, v2, v3, rfl, d0, d1, d2, d3⟩ := all2_4 ha
  have d0 : dL K (rels.map encR) Hn H v0 := d0
  have d1 : dF P w kvs Hn H v1 := d1
  have d2 : Dt H v2 (nI i) := d2
  have d3 : dL K (pts.map nI) Hn H v3 := d3
  have e : faOf kvs i (keyOf r pts) = n := by unfold faOf; rw [hn]; rfl
  have hq' : ∀ v H', Same H H' → Dt H' v (nI n) → D.rt v H' := fun v H' s' d => hq v H' s' (by show Dt H' v (nI (faOf kvs i (keyOf r pts))); rw [e]; exact d)
  refine q_if (b := r.sym) (et_B (ed_ixT (d := .bool r.sym) (ed_ixL (ds := rels.map encR) (d := encR r) (el_var (i := 0) rfl (lL d0 (Same.refl _))) (ed_var (i := 2) rfl d2) (atI_nat (by rw [List.getElem?_map, hat]; rfl))) ed_int rfl)) (Same.refl _) (fun hs H2 s2 => ?_) fun hs H2 s2 => ?_
  · have ek : keyOf r pts = sortN pts := by unfold keyOf; rw [if_pos hs]
    rw [ek] at hn
    exact s_ret (δ := dD (nI n)) (ed_facts (dF_var (i := 1) rfl (up d1 s2)) (ed_tup (ds := [nI i, encC (sortN pts)]) (ea_cons (ed_var (i := 2) rfl (d2.up s2)) (ea_cons (ed_sortN (el_var (i := 3) rfl (lL d3 s2)) (by omega)) ea_nil)) (small_line (by simp))) hn) (Same.refl _) fun v H3 s3 d => hq' v H3 (s2.trans s3) d
  · have ek : keyOf r pts = pts := by unfold keyOf; rw [if_neg (by rw [hs]; simp)]
    rw [ek] at hn
    exact s_ret (δ := dD (nI n)) (ed_facts (dF_var (i := 1) rfl (up d1 s2)) (ed_tup (ds := [nI i, encC pts]) (ea_cons (ed_var (i := 2) rfl (d2.up s2)) (ea_cons (ed_tupleOf (el_var (i := 3) rfl (lL d3 s2))) ea_nil)) (small_line (by simp))) hn) (Same.refl _) fun v H3 s3 d => hq' v H3 (s2.trans s3) d
end
end D18
set_option Elab.async false
set_option linter.all false
set_option maxRecDepth 100000
set_option maxHeartbeats 8000000
/-! PgC: _law_part, _law_is_true, _law_holds, _law_fits, _law_all. -/
namespace D18
open PySem L2
theorem zipIdx_pw {α : Type} (l : List α) : l.zipIdx.Pairwise fun a b => a.2 ≠ b.2 := by
  rw [List.pairwise_iff_getElem]
  intro i j hi hj hij
  rw [List.getElem_zipIdx, List.getElem_zipIdx]
  simp only [Nat.zero_add]
  omega
theorem keysAt_mem {rels : List Rel} {p : Nat} {k : FKey} (h : k ∈ keysAt rels p) : ∃ r, rels[k.1]? = some r ∧ k.2 ∈ placesF r p := by
  obtain ⟨ri, hri, h⟩ := List.mem_flatMap.mp h
  obtain ⟨c, hc, rfl⟩ := List.mem_map.mp h
  obtain ⟨r, i⟩ := ri
  exact ⟨r, List.mk_mem_zipIdx_iff_getElem?.mp hri, hc⟩
theorem place_max {r : Rel} {p : Nat} {c : List Nat} (h : c ∈ placesF r p) : maxN c = p := by
  obtain ⟨_, _, hle, hp⟩ := (places_mem.mp h).1
  have h1 := le_maxN hp
  have ne : c ≠ [] := fun e => by rw [e] at hp; cases hp
  have h2 := hle _ (maxN_mem ne)
  omega
theorem keysF_nodup (rels : List Rel) (n : Nat) : (keysF rels n).Nodup := by
  unfold keysF List.Nodup
  rw [List.pairwise_flatMap]
  refine ⟨fun p _ => ?_, (range_nodup n).imp fun {p q} hne x hx y hy e => ?_⟩
  · unfold keysAt
    rw [List.pairwise_flatMap]
    refine ⟨fun ri _ => ?_, (zipIdx_pw rels).imp fun {a b} hne x hx y hy e => ?_⟩
    · rw [List.pairwise_map]
      exact (places_nodup ri.1 p).imp fun h e => h (by injection e)
    · obtain ⟨c, _, rfl⟩ := List.mem_map.mp hx
      obtain ⟨d, _, rfl⟩ := List.mem_map.mp hy
      exact hne (by injection e)
  · obtain ⟨r1, _, h1⟩ := keysAt_mem hx
    obtain ⟨r2, _, h2⟩ := keysAt_mem hy
    rw [e] at h1
    exact hne ((place_max h1).symm.trans (place_max h2))
theorem keyOf_place {r : Rel} {p : Nat} {c : List Nat} (h : c ∈ placesF r p) : keyOf r c = c := by
  unfold keyOf
  cases hs : r.sym with
  | false => rfl
  | true =>
    have := (places_mem.mp h)
    rw [if_pos rfl]
    exact (asc_of_sort this.1.2.1).mpr (this.2 hs)
/-- the facts have all keys -/
def Covers (rels : List Rel) (n : Nat) (kvs : List (FKey × Nat)) : Prop := ∀ k ∈ keysF rels n, ∃ m, kvs.lookup k = some m
theorem lookup_mem : ∀ {l : List (FKey × Nat)} {k : FKey}, k ∈ l.map (·.1) → ∃ m, l.lookup k = some m
  | [], k, h => by cases h
  | (a, b) :: r, k, h => by
    by_cases e : k = a
    · subst e
      exact ⟨b, List.lookup_cons_self⟩
    · rw [List.lookup_cons, beq_eq_false_iff_ne.mpr e]
      exact lookup_mem ((List.mem_cons.mp h).resolve_left e)
theorem kvs_covers (rels : List Rel) (n x : Nat) : Covers rels n (kvsOf rels (keysF rels n) x) := fun k hk => by
  refine lookup_mem ?_
  unfold kvsOf
  rw [facR_keys]
  exact List.mem_reverse.mpr hk
def phiX (rels : List Rel) (n x : Nat) : Fa := faOf (kvsOf rels (keysF rels n) x)
def fitsF (rels : List Rel) (sents : List Sent) (Φ : Fa) (n : Nat) : Bool := sents.all fun s => holdsF rels Φ n s
def levelF (rels : List Rel) (sents : List Sent) (n : Nat) : List (List (List (List Nat))) := ((List.range (countA rels n)).filter fun x => fitsF rels sents (phiX rels n x) n).map fun x => structOf rels (phiX rels n x) n
section
variable {P : Program} {w : World} {K : PySem.W.Frag} {mg : Str → Option Value} {base : Heap}
structure LP where
  rels : List Rel
  kvs : List (FKey × Nat)
  n : Nat
structure LP.Ok (x : LP) : Prop where
  g : GoodRs x.rels
  n7 : x.n ≤ 7
  cov : Covers x.rels x.n x.kvs
abbrev sLpart : Stmt := topS 44
def spLpart (P : Program) (w : World) (K : PySem.W.Frag) : Sp := spOf (R := LP) (fun x => [dL K (x.rels.map encR), dF P w x.kvs, dL K ((List.range x.n).map nI)]) (fun x _ => x.Ok) (fun x => dD (encS (structOf x.rels (faOf x.kvs) x.n)))
theorem scLpart : FnScope ["_law_relations_here", "_law_facts", "_law_points", "_law_layers", "_law_k", "_law_layer", "_law_number", "_law_row", "_law_place", "_law_j"] ["_law_relations_here", "_law_facts", "_law_points"] (defScope sLpart) := ⟨rfl, rfl, rfl, by decide +kernel, rfl, by decide +kernel, by decide +kernel⟩
theorem struct_succ (rels : List Rel) (Φ : Fa) (n : Nat) : structOf rels Φ (n + 1) = structOf rels Φ n ++ [layerOf rels Φ n] := by unfold structOf; rw [List.range_succ, List.map_append]; rfl
theorem ok_Lpart {f : Addr} {fd : FuncData} (Fn : Fun K "_law_part" "_law_part" sLpart f fd) (T : Txt K mg) (h_Lplaces : Dl P w K mg base "_law_places" 2 ["_law_relation", "_law_point"] spPlaces) (h_Lvalue : Dl P w K mg base "_law_value" 1 ["_law_relations_here", "_law_facts", "_law_number", "_law_points"] (spLvalue P w K)) :
    FnOk P w K mg base CX0 3 f fd ["_law_relations_here", "_law_facts", "_law_points"] (spLpart P w K) := by
  have nd := scLpart.nd
  refine okD Fn scLpart (fun _ => rfl) fun cdv A outer s H E hr => ⟨_, (pss_cons (ps_set (i := 3) nd rfl (by first | exact Or.inl rfl | exact Or.inr rfl) (pe_lst pa_nil))
    (pss_cons (ps_for PassesOwn.never rfl (pi_range1 rfl T.range (pa_cons (pe_callB (call_lenK (K := K)) (by rfl) T.len PySem.boot_len (pa_cons (pv 2) pa_nil)) pa_nil)) (pg_name (i := 4) nd rfl (by first | exact Or.inl rfl | exact Or.inr rfl))
      (pss_cons (ps_set (i := 5) nd rfl (by first | exact Or.inl rfl | exact Or.inr rfl) (pe_lst pa_nil))
    (pss_cons (ps_for PassesOwn.never rfl (pi_range1 rfl T.range (pa_cons (pe_callB (call_lenK (K := K)) (by rfl) T.len PySem.boot_len (pa_cons (pv 0) pa_nil)) pa_nil)) (pg_name (i := 6) nd rfl (by first | exact Or.inl rfl | exact Or.inr rfl))
      (pss_cons (ps_set (i := 7) nd rfl (by first | exact Or.inl rfl | exact Or.inr rfl) (pe_dl h_Lplaces (hr.mono (by omega)) rfl (pa_cons (pe_ix (ix_listK (K := K)) (pv 0) (pv 6) (fun _ _ => rfl)) (pa_cons (pv 4) pa_nil))))
    (pss_one (ps_expr (pe_bmK (K := K) PySem.F.plainAttrs_list PySem.F.slot_list_append PySem.F.type_list_append mt_append (pv 5) (pa_cons (pe_callTy (call_tupleK (K := K)) (by rfl) T.tuple (by decide +kernel) (pa_cons (pe_lc (own := [("_law_place", 8)]) rfl nd (pi_listK (K := K) (pv 7)) (blkOk_by (by kernel_rfl)) (fun _ _ _ _ _ => (pg_name (i := 8) nd rfl (by first | exact Or.inl rfl | exact Or.inr rfl))) (fun _ _ _ _ _ => pts_nil) (fun _ _ _ _ _ => (pe_dl h_Lvalue (hr.mono (by omega)) rfl (pa_cons (pv 0) (pa_cons (pv 1) (pa_cons (pv 6) (pa_cons (pe_lc (own := [("_law_j", 9)]) rfl nd (pi_tupK (K := K) (pv 8)) (blkOk_by (by kernel_rfl)) (fun _ _ _ _ _ => (pg_name (i := 9) nd rfl (by first | exact Or.inl rfl | exact Or.inr rfl))) (fun _ _ _ _ _ => pts_nil) (fun _ _ _ _ _ => (pe_ix (ix_listK (K := K)) (pv 2) (pv 9) (fun _ _ => rfl)))) pa_nil))))))) pa_nil)) pa_nil))))))
    (pss_one (ps_expr (pe_bmK (K := K) PySem.F.plainAttrs_list PySem.F.slot_list_append PySem.F.type_list_append mt_append (pv 3) (pa_cons (pe_callTy (call_tupleK (K := K)) (by rfl) T.tuple (by decide +kernel) (pa_cons (pv 5) pa_nil)) pa_nil)))))))
    (pss_one (ps_ret (pe_callTy (call_tupleK (K := K)) (by rfl) T.tuple (by decide +kernel) (pa_cons (pv 3) pa_nil)))))), ?_⟩
  rintro ⟨rels, kvs, n⟩ vs D ha ⟨hg, hn, hcov⟩ hq -
  have hg : GoodRs rels := hg
  have hn : n ≤ 7 := hn
  have hcov : Covers rels n kvs := hcov
  have few := hg.few
  obtain ⟨v0, v1, v2, rfl, d0, d1, d2⟩ := all2_3 ha
  have d0 : dL K (rels.map encR) Hn H v0 := d0
  have d1 : dF P w kvs Hn H v1 := d1
  have d2 : dL K ((List.range n).map nI) Hn H v2 := d2
  refine q_asg (δ := dM []) (em_lst (ds := []) ea_nil (Nat.zero_le _)) (Same.refl _) fun v3 H1 s1 d3 => ?_
  obtain ⟨l, zs, rfl, hl0, hl1, rz⟩ := d3
  cases rz
  refine q_for (as := List.range n) (H0 := H) (ei_range1 (n := n) (dI_to (ed_lenLm (enc := nI) (el_var (i := 2) rfl (lL d2 (Same.refl _)))) (by rw [List.length_range])) (by omega)) s1 fun H2 s2 => ?_
  refine ⟨fun i σ' H' => ∃ v4 v5 v6 v7 zs, σ' = [some v0, some v1, some v2, some (.ref l), v4, v5, v6, v7, none, none] ∧ Kp H H1 H2 H' ∧ H' l = some (.lst zs) ∧ Dts H' zs ((structOf rels (faOf kvs) i).map encL),
    ⟨none, none, none, none, [], rfl, kp_same (s1.trans s2) (Same.refl _), s2 _ _ hl1, .nil⟩, fun i σ' H' _ ⟨_, _, _, _, _, _, k, _⟩ => k, ?_, ?_⟩
  · rintro i a x σ' H' H'' hi ⟨v4, v5, v6, v7, zs, rfl, kp, hl, rz⟩ sy dx
    obtain ⟨rfl, hin⟩ := range_get hi
    have kp' := kp.up sy
    have hl' := sy _ _ hl
    have dx : Dt H'' x (nI a) := dx
    show tSeq _ _ _ [some v0, some v1, some v2, some (.ref l), some x, v5, v6, v7, none, none] H''
    refine q_asg (δ := dM []) (em_lst (ds := []) ea_nil (Nat.zero_le _)) (Same.refl _) fun v5' H3 s3 d5 => ?_
    obtain ⟨m, ws, rfl, hm0, hm1, rw'⟩ := d5
    cases rw'
    refine q_for (as := List.range rels.length) (H0 := H'') (ei_range1 (n := rels.length) (ed_lenLm (enc := encR) (el_var (i := 0) rfl (lL d0 kp'.1))) (by omega)) s3 fun H4 s4 => ?_
    refine ⟨fun j σ' G => ∃ v6 v7 ws, σ' = [some v0, some v1, some v2, some (.ref l), some x, some (.ref m), v6, v7, none, none] ∧ Kp H'' H3 H4 G ∧ G m = some (.lst ws) ∧ Dts G ws (((rels.zipIdx.take j).map fun ri => (placesF ri.1 a).map fun c => faOf kvs ri.2 c).map encC),
      ⟨v6, v7, [], rfl, kp_same (s3.trans s4) (Same.refl _), s4 _ _ hm1, .nil⟩, fun j σ' G _ ⟨_, _, _, _, k, _⟩ => k, ?_, ?_⟩
    · rintro j b y σ' G G' hj ⟨v6, v7, ws, rfl, k2, hmG, rw'⟩ sG dy
      obtain ⟨rfl, hjn⟩ := range_get hj
      have hr : rels[b]? = some rels[b] := List.getElem?_eq_getElem hjn
      generalize hR : rels[b] = r at hr
      have gr := hg.good r (List.mem_of_getElem? hr)
      have hz : rels.zipIdx[b]? = some (r, b) := by rw [List.getElem?_zipIdx, hr]; simp
      have pl := places_len gr (p := a) (by omega)
      have sHG := kp'.1.trans (k2.1.trans sG)
      have dy : Dt G' y (nI b) := dy
      show tSeq _ _ _ [some v0, some v1, some v2, some (.ref l), some x, some (.ref m), some y, v7, none, none] G'
      refine q_asg (δ := dM ((placesF r a).map encC)) (ev_call (r, a) (ea_cons (ed_ixL (ds := rels.map encR) (d := encR r) (el_var (i := 0) rfl (lL d0 sHG)) (ed_var (i := 6) rfl dy) (atI_nat (by rw [List.getElem?_map, hr]; rfl))) (ea_cons (ed_var (i := 4) rfl (dx.up (k2.1.trans sG))) ea_nil)) fun _ _ => ⟨gr, by show a ≤ 6; omega⟩) (Same.refl _) fun v7' G1 s7 d7 => ?_
      have sH1 := sHG.trans s7
      refine s_append (j := 5) (δ := dD (encC ((placesF r a).map fun c => faOf kvs b c))) rfl (s7 _ _ (sG _ _ hmG)) (ed_tupleOf (ev_l (em_lcmE (enc := nI) (as := placesF r a) (f := fun c => faOf kvs b c) (ei_listL (enc := encC) (i := 7) rfl (mL d7 (Same.refl _))) (small_line (by omega)) fun c z G2 hc sz dz => ?_))) (Same.refl _) (small_lt ?_) fun v G2 s8 dv => ?_
      · have pm := (places_mem.mp hc).1
        have hcl : c.length ≤ 3 := by rw [pm.1]; exact gr.ar3
        have key : keyOf r c = c := keyOf_place hc
        have sH2 := sH1.trans sz
        refine (ev_call (⟨rels, kvs, b, r, c⟩ : LV) (ea_cons (el_var (i := 0) rfl (lL d0 sH2)) (ea_cons (dF_var (i := 1) rfl (up d1 sH2)) (ea_cons (ed_var (i := 6) rfl (dy.up (s7.trans sz))) (ea_cons (δ := dL K (c.map nI)) (ev_l (em_lcm (as := c) (f := nI) (ei_tup (enc := nI) (ed_var (i := 8) rfl dz)) (small_line (by omega)) fun k u G3 hk sk dk => ?_)) ea_nil)))) fun _ _ => ⟨hg, hr, by show c.length ≤ 4; omega, ?_⟩ : EvX _ _ _ (dD (nI (faOf kvs b (keyOf r c))))).to (by rw [key])
        · have hk' := pm.2.2.1 k hk
          exact ed_ixL (ds := (List.range n).map nI) (el_var (i := 2) rfl (lL d2 (sH2.trans sk))) (ed_var (i := 9) rfl dk) (atI_nat (by rw [List.getElem?_map, List.getElem?_range (by omega)]; rfl))
        · show ∃ m, kvs.lookup (b, keyOf r c) = some m
          rw [key]
          exact hcov _ (mem_keysF hr hc hin)
      · rw [rw'.length, List.length_map, List.length_map, List.length_take]
        have := Nat.min_le_left b rels.zipIdx.length
        omega
      · have s28 := (sG.trans s7).trans s8
        have hm8 := s28 _ _ hmG
        have tk := tk_lst (o := .lst (ws ++ [v])) hm8
        refine ⟨some y, some v7', ws ++ [v], rfl, (k2.up s28).write hm0 (by rw [hm1]; intro z; cases z) hm8, upd_same, ?_⟩
        rw [take_succ_get hz, List.map_append, List.map_append]
        exact (rw'.mono ((tk_same s28).trans tk)).append (.cons (Dt.mono tk dv) .nil)
    · rintro σ' G ⟨v6, v7, ws, rfl, k2, hmG, rw'⟩
      have e : rels.zipIdx.take (List.range rels.length).length = rels.zipIdx := by rw [List.length_range]; exact List.take_of_length_le (by rw [List.length_zipIdx]; exact Nat.le_refl _)
      rw [e] at rw'
      have sG := k2.1
      refine s_append (j := 3) (δ := dD (encL (layerOf rels (faOf kvs) a))) rfl (sG _ _ hl') (ed_tupleOf (el_var (i := 5) rfl ⟨m, ws, rfl, SqL.of hmG, rw'⟩)) (Same.refl _) (small_lt ?_) fun v G2 s8 dv => ?_
      · rw [rz.length, List.length_map, struct_len]; omega
      · have s28 := (sy.trans sG).trans s8
        have hl8 := s28 _ _ hl
        have tk := tk_lst (o := .lst (zs ++ [v])) hl8
        refine ⟨_, _, _, _, zs ++ [v], rfl, (kp.up s28).write hl0 (by rw [hl1]; intro z; cases z) hl8, upd_same, ?_⟩
        rw [struct_succ, List.map_append]
        exact (rz.mono ((tk_same s28).trans tk)).append (.cons (Dt.mono tk dv) .nil)
  · rintro σ' H' ⟨v4, v5, v6, v7, zs, rfl, kp, hl, rz⟩
    rw [List.length_range] at rz
    exact s_ret (δ := dD (encS (structOf rels (faOf kvs) n))) (ed_tupleOf (el_var (i := 3) rfl ⟨l, zs, rfl, SqL.of hl, rz⟩)) (Same.refl _) fun v H3 s3 d3 => hq v H3 (kp.1.trans s3) d3

structure LT where
  rels : List Rel
  kvs : List (FKey × Nat)
  n : Nat
  f : Fm
  ch : List Nat
structure LT.Ok (x : LT) (d : Nat) : Prop where
  rs : GoodRs x.rels
  gf : GoodF x.rels x.ch.length x.f
  nd : x.ch.Nodup
  lt : ∀ k ∈ x.ch, k < x.n
  n7 : x.n ≤ 7
  d : depthF x.f ≤ d
  cov : Covers x.rels x.n x.kvs
abbrev sLisTrue : Stmt := topS 48
def spLisTrue (P : Program) (w : World) (K : PySem.W.Frag) (d : Nat) : Sp := spOf (R := LT) (fun x => [dL K (x.rels.map encR), dF P w x.kvs, dD (encF x.f), dD (encC x.ch)]) (fun x _ => x.Ok d) (fun x => dD (.bool (evalF (valN x.rels (faOf x.kvs)) x.ch x.f)))
theorem scLisTrue : FnScope ["_law_relations_here", "_law_facts", "_law_formula_here", "_law_chosen", "_law_word", "_law_relation", "_law_number", "_law_k", "_law_first", "_law_second"] ["_law_relations_here", "_law_facts", "_law_formula_here", "_law_chosen"] (defScope sLisTrue) := ⟨rfl, rfl, rfl, by decide +kernel, rfl, by decide +kernel, by decide +kernel⟩
theorem ok_LisTrue {d : Nat} {f : Addr} {fd : FuncData} (Fn : Fun K "_law_is_true" "_law_is_true" sLisTrue f fd) (T : Txt K mg) (h_Lvalue : Dl P w K mg base "_law_value" 1 ["_law_relations_here", "_law_facts", "_law_number", "_law_points"] (spLvalue P w K)) (h_Lis_true : Dl P w K mg base "_law_is_true" (d + 2) ["_law_relations_here", "_law_facts", "_law_formula_here", "_law_chosen"] (spLisTrue P w K d)) :
    FnOk P w K mg base CX0 (d + 1 + 2) f fd ["_law_relations_here", "_law_facts", "_law_formula_here", "_law_chosen"] (spLisTrue P w K (d + 1)) := by
  have nd := scLisTrue.nd
  refine okD Fn scLisTrue (fun _ => rfl) fun cdv A outer s H E hr => ⟨_, (pss_cons (ps_set (i := 4) nd rfl (by first | exact Or.inl rfl | exact Or.inr rfl) (pe_ix (ix_tupK (K := K)) (pv 2) pe_int (fun _ _ => rfl)))
    (pss_cons (ps_if (PW.pt (pw_or (pt_cmpR op_eq (pv 4) pe_str (nomark _)) (pw_or1 (pt_cmpR op_eq (pv 4) pe_str (nomark _))))) (pss_one (ps_ret (pe_cmpR op_eq (pv 4) pe_str (nomark _)))) pss_nil)
    (pss_cons (ps_if (pt_cmpR op_eq (pv 4) pe_str (nomark _)) (pss_cons (ps_set (i := 6) nd rfl (by first | exact Or.inl rfl | exact Or.inr rfl) (pe_bmK (K := K) PySem.F.plainAttrs_list PySem.F.slot_list_index PySem.F.type_list_index (mt_indexK (K := K)) (pe_lc (own := [("_law_relation", 5)]) rfl nd (pi_listK (K := K) (pv 0)) (blkOk_by (by kernel_rfl)) (fun _ _ _ _ _ => (pg_name (i := 5) nd rfl (by first | exact Or.inl rfl | exact Or.inr rfl))) (fun _ _ _ _ _ => pts_nil) (fun _ _ _ _ _ => (pe_ix (ix_tupK (K := K)) (pv 5) pe_int (fun _ _ => rfl)))) (pa_cons (pe_ix (ix_tupK (K := K)) (pv 2) pe_int (fun _ _ => rfl)) pa_nil)))
    (pss_one (ps_ret (pe_cmpR op_eq (pe_dl h_Lvalue (hr.mono (by omega)) rfl (pa_cons (pv 0) (pa_cons (pv 1) (pa_cons (pv 6) (pa_cons (pe_lc (own := [("_law_k", 7)]) rfl nd (pi_tupK (K := K) (pe_ix (ix_tupK (K := K)) (pv 2) pe_int (fun _ _ => rfl))) (blkOk_by (by kernel_rfl)) (fun _ _ _ _ _ => (pg_name (i := 7) nd rfl (by first | exact Or.inl rfl | exact Or.inr rfl))) (fun _ _ _ _ _ => pts_nil) (fun _ _ _ _ _ => (pe_ix (ix_tupK (K := K)) (pv 3) (pv 7) (fun _ _ => rfl)))) pa_nil))))) (pe_ix (ix_tupK (K := K)) (pv 2) pe_int (fun _ _ => rfl)) (nomark _))))) pss_nil)
    (pss_cons (ps_set (i := 8) nd rfl (by first | exact Or.inl rfl | exact Or.inr rfl) (pe_dl h_Lis_true (hr.mono (by omega)) rfl (pa_cons (pv 0) (pa_cons (pv 1) (pa_cons (pe_ix (ix_tupK (K := K)) (pv 2) pe_int (fun _ _ => rfl)) (pa_cons (pv 3) pa_nil))))))
    (pss_cons (ps_if (pt_cmpR op_eq (pv 4) pe_str (nomark _)) (pss_one (ps_ret (pe_not (pv 8)))) pss_nil)
    (pss_cons (ps_set (i := 9) nd rfl (by first | exact Or.inl rfl | exact Or.inr rfl) (pe_dl h_Lis_true (hr.mono (by omega)) rfl (pa_cons (pv 0) (pa_cons (pv 1) (pa_cons (pe_ix (ix_tupK (K := K)) (pv 2) pe_int (fun _ _ => rfl)) (pa_cons (pv 3) pa_nil))))))
    (pss_cons (ps_if (pt_cmpR op_eq (pv 4) pe_str (nomark _)) (pss_one (ps_ret (pe_and (pv 8) (pe_one (pv 9))))) pss_nil)
    (pss_cons (ps_if (pt_cmpR op_eq (pv 4) pe_str (nomark _)) (pss_one (ps_ret (pe_or (pv 8) (pe_one (pv 9))))) pss_nil)
    (pss_cons (ps_if (pt_cmpR op_eq (pv 4) pe_str (nomark _)) (pss_one (ps_ret (pe_or (pv 9) (pe_one (pe_not (pv 8)))))) pss_nil)
    (pss_one (ps_ret (pe_cmpR op_eq (pv 8) (pv 9) (nomark _))))))))))))), ?_⟩
  rintro ⟨rels, kvs, n, fm, ch⟩ vs D ha ⟨hg, gf, hnd, hlt, hn7, hd, hcov⟩ hq -
  have hg : GoodRs rels := hg
  have hcov : Covers rels n kvs := hcov
  have hlt : ∀ k ∈ ch, k < n := hlt
  have hnd : ch.Nodup := hnd
  obtain ⟨v0, v1, v2, v3, rfl, d0, d1, d2, d3⟩ := all2_4 ha
  have gf : GoodF rels ch.length fm := gf
  have hd : depthF fm ≤ d + 1 := hd
  have d0 : dL K (rels.map encR) Hn H v0 := d0
  have d1 : dF P w kvs Hn H v1 := d1
  have d2 : Dt H v2 (encF fm) := d2
  have d3 : Dt H v3 (encC ch) := d3
  have nofalse : ∀ {σ : L2.St} {H : Hp} {i : Nat} {v : V} {x y z : Str}, σ[i]? = some (some v) → Dt H v (.str x) → decide (x = y) = false → decide (x = z) = false → EvT (tOr (tTest (tOp rEq (tVar i) (tC (.str y)))) (tTest (tOp rEq (tVar i) (tC (.str z))))) σ H false := fun h dv h1 h2 =>
    et_or (a := false) (b := false) (et_test (dB_to (ed_eqS (ed_var h dv) ed_str) h1)) fun _ => et_test (dB_to (ed_eqS (ed_var h dv) ed_str) h2)
  have no : ∀ {σ : L2.St} {H : Hp} {i : Nat} {v : V} {x y : Str} {b : Bool}, σ[i]? = some (some v) → Dt H v (.str x) → decide (x = y) = b → EvT (tTest (tOp rEq (tVar i) (tC (.str y)))) σ H b := fun h dv h1 => et_test (dB_to (ed_eqS (ed_var h dv) ed_str) h1)
  have rec_ : ∀ {σ : L2.St} {H2 : Hp} {te : TE} {g : Fm}, σ[0]? = some (some v0) → σ[1]? = some (some v1) → σ[3]? = some (some v3) → Same H H2 → EvX te σ H2 (dD (encF g)) → GoodF rels ch.length g → depthF g ≤ d →
      EvX (tCall (spLisTrue P w K d) [] E0 (tCons (tVar 0) (tCons (tVar 1) (tCons te (tCons (tVar 3) tNil))))) σ H2 (dD (.bool (evalF (valN rels (faOf kvs)) ch g))) := fun {σ H2 te g} h0 h1 h3 s2 he gg dg =>
    ev_call (⟨rels, kvs, n, g, ch⟩ : LT) (ea_cons (el_var h0 (lL d0 s2)) (ea_cons (dF_var h1 (up d1 s2)) (ea_cons he (ea_cons (ed_var h3 (d3.up s2)) ea_nil)))) fun _ _ => ⟨hg, gg, hnd, hlt, hn7, dg, hcov⟩
  cases fm with
  | tt =>
    refine q_asg (δ := dD (.str "true")) (ed_ixT (ds := [.str "true"]) (ed_var (i := 2) rfl d2) ed_int rfl) (Same.refl _) fun v4 H1 s1 d4 => ?_
    refine q_yes (et_or (a := true) (b := true) (no (i := 4) rfl d4 (by decide +kernel)) fun z => by cases z) (Same.refl _) fun H2 s2 => ?_
    exact s_ret (δ := dD (.bool true)) (dB_to (ed_eqS (ed_var (i := 4) rfl (Dt.up s2 d4)) ed_str) (by decide +kernel)) (Same.refl _) fun v H3 s3 d5 => hq v H3 ((s1.trans s2).trans s3) d5
  | ff =>
    refine q_asg (δ := dD (.str "false")) (ed_ixT (ds := [.str "false"]) (ed_var (i := 2) rfl d2) ed_int rfl) (Same.refl _) fun v4 H1 s1 d4 => ?_
    refine q_yes (et_or (a := false) (b := true) (no (i := 4) rfl d4 (by decide +kernel)) fun _ => no (i := 4) rfl d4 (by decide +kernel)) (Same.refl _) fun H2 s2 => ?_
    exact s_ret (δ := dD (.bool false)) (dB_to (ed_eqS (ed_var (i := 4) rfl (Dt.up s2 d4)) ed_str) (by decide +kernel)) (Same.refl _) fun v H3 s3 d5 => hq v H3 ((s1.trans s2).trans s3) d5
  | is name xs val =>
    obtain ⟨hat, hxn, hxl⟩ := gf
    refine q_asg (δ := dD (.str "is")) (ed_ixT (ds := [.str "is", .str name, encC xs, nI val]) (ed_var (i := 2) rfl d2) ed_int rfl) (Same.refl _) fun v4 H1 s1 d4 => ?_
    refine q_no (nofalse (i := 4) rfl d4 (by decide +kernel) (by decide +kernel)) (Same.refl _) fun H2 s2 => ?_
    refine q_yes (no (i := 4) rfl (Dt.up s2 d4) (by decide +kernel)) (Same.refl _) fun H3 s3 => ?_
    have s03 := (s1.trans s2).trans s3
    have pnd : (xs.map fun k => ch.getD k 0).Nodup := by
      unfold List.Nodup
      rw [List.pairwise_map]
      refine List.Pairwise.imp_of_mem ?_ hxn
      intro p q hp hq' hpq e
      have l1 := hxl p hp
      have l2 := hxl q hq'
      rw [List.getD_eq_getElem?_getD, List.getD_eq_getElem?_getD, List.getElem?_eq_getElem l1, List.getElem?_eq_getElem l2] at e
      exact hpq ((List.getElem?_inj l1 hnd).mp (by rw [List.getElem?_eq_getElem l1, List.getElem?_eq_getElem l2]; exact congrArg some e))
    have plt : ∀ k ∈ (xs.map fun k => ch.getD k 0), k < n := fun k hk => by
      obtain ⟨j, hj, rfl⟩ := List.mem_map.mp hk
      have l1 := hxl j hj
      rw [List.getD_eq_getElem?_getD, List.getElem?_eq_getElem l1]
      exact hlt _ (List.getElem_mem l1)
    have evs : EvX (tOp (rIxT K) (tVar 2) (tC (.int 2))) [some v0, some v1, some v2, some v3, some v4, none, none, none, none, none] H3 (dD (.tuple (xs.map nI))) := ed_ixT (ds := [.str "is", .str name, encC xs, nI val]) (ed_var (i := 2) rfl (d2.up s03)) ed_int rfl
    have xsmall : xs.length ≤ sizeLine := by
      obtain ⟨r, hr, _, hl⟩ := hat
      have := (hg.good r hr).ar3
      exact small_line (by omega)
    obtain ⟨r, hr1, hr2, hr3⟩ := name_idx hg.nd hat
    have hm : name ∈ rels.map (·.name) := by obtain ⟨r', h1, h2, _⟩ := hat; exact List.mem_map.mpr ⟨r', h1, h2⟩
    have few : rels.length ≤ 3 := hg.few
    have few2 : rels.length ≤ 16000000 := by omega
    have gr := hg.good r (List.mem_of_getElem? hr1)
    refine q_asg (δ := dD (nI ((rels.map (·.name)).idxOf name))) (ed_index (ev_l (em_lcmE (enc := PyData.str) (as := rels) (f := fun q => q.name) (ei_listL (enc := encR) (i := 0) rfl (lL d0 s03)) (small_line few2) fun q y G hq' sG dy => ed_ixT (d := .str q.name) (ed_var (i := 5) rfl dy) ed_int rfl)) (ed_ixT (ds := [.str "is", .str name, encC xs, nI val]) (d := .str name) (ed_var (i := 2) rfl (d2.up s03)) ed_int rfl) hm) (Same.refl _) fun v6 H4 s4 d6 => ?_
    have s04 := s03.trans s4
    generalize hI : (rels.map (·.name)).idxOf name = ii at d6 hr1
    have e : valN rels (faOf kvs) name (xs.map fun k => ch.getD k 0) = faOf kvs ii (keyOf r (xs.map fun k => ch.getD k 0)) := by
      unfold valN
      rw [hI]
      simp only [hr1]
    have plen : (xs.map fun k => ch.getD k 0).length = r.ar := by rw [List.length_map]; exact hr3
    have pne : (xs.map fun k => ch.getD k 0) ≠ [] := fun e => by rw [e] at plen; have := gr.ar1; simp at plen; omega
    have evs : EvX (tOp (rIxT K) (tVar 2) (tC (.int 2))) [some v0, some v1, some v2, some v3, some v4, none, some v6, none, none, none] H4 (dD (.tuple (xs.map nI))) := ed_ixT (ds := [.str "is", .str name, encC xs, nI val]) (ed_var (i := 2) rfl (d2.up s04)) ed_int rfl
    refine s_ret (δ := dD (.bool (evalF (valN rels (faOf kvs)) ch (.is name xs val)))) (dB_to (ed_eqI (i := ((valN rels (faOf kvs) name (xs.map fun k => ch.getD k 0) : Nat) : Int)) (j := (val : Int)) ((ev_call (⟨rels, kvs, ii, r, xs.map fun k => ch.getD k 0⟩ : LV) (ea_cons (el_var (i := 0) rfl (lL d0 s04)) (ea_cons (dF_var (i := 1) rfl (up d1 s04)) (ea_cons (ed_var (i := 6) rfl d6)
      (ea_cons (δ := dL K ((xs.map fun k => ch.getD k 0).map nI)) (by
        rw [vars_map]
        refine ev_l (em_lcm (ei_tup (as := xs) (enc := nI) evs) xsmall fun k x H' hk sk dk => ?_)
        exact ed_ixC (ed_var (i := 3) rfl (d3.up (s04.trans sk))) (ed_var (i := 7) rfl dk) rfl (hxl k hk)) ea_nil)))) fun _ _ => ⟨hg, hr1, by show (xs.map fun k => ch.getD k 0).length ≤ 4; rw [plen]; have := gr.ar3; omega, hcov _ (mem_keysF hr1 (key_place plen pnd pne) (plt _ (maxN_mem pne)))⟩ : EvX _ _ _ (dD (nI (faOf kvs ii (keyOf r (xs.map fun k => ch.getD k 0)))))).to (by rw [e]))
      (ed_ixT (ds := [.str "is", .str name, encC xs, nI val]) (d := nI val) (ed_var (i := 2) rfl (d2.up s04)) ed_int rfl)) (dec_nat_eq _ _)) (Same.refl _) fun v H5 s5 d5 => hq v H5 (s04.trans s5) d5
  | not g =>
    have hdg : depthF g ≤ d := by have : depthF g + 1 ≤ d + 1 := hd; omega
    refine q_asg (δ := dD (.str "not")) (ed_ixT (ds := [.str "not", encF g]) (ed_var (i := 2) rfl d2) ed_int rfl) (Same.refl _) fun v4 H1 s1 d4 => ?_
    refine q_no (nofalse (i := 4) rfl d4 (by decide +kernel) (by decide +kernel)) (Same.refl _) fun H2 s2 => ?_
    refine q_no (no (i := 4) rfl (Dt.up s2 d4) (by decide +kernel)) (Same.refl _) fun H3 s3 => ?_
    have s03 := (s1.trans s2).trans s3
    refine q_asg (δ := dD (.bool (evalF (valN rels (faOf kvs)) ch g))) (rec_ rfl rfl rfl s03 (ed_ixT (ds := [.str "not", encF g]) (d := encF g) (ed_var (i := 2) rfl (d2.up s03)) ed_int rfl) gf hdg) (Same.refl _) fun v6 H4 s4 d6 => ?_
    refine q_yes (no (i := 4) rfl (Dt.up ((s2.trans s3).trans s4) d4) (by decide +kernel)) (Same.refl _) fun H5 s5 => ?_
    exact s_ret (δ := dD (.bool (evalF (valN rels (faOf kvs)) ch (.not g)))) (ed_notV (ed_var (i := 8) rfl (Dt.up s5 d6))) (Same.refl _) fun v H6 s6 d7 => hq v H6 ((s03.trans s4).trans (s5.trans s6)) d7
  | bin o g h =>
    have hm : max (depthF g) (depthF h) + 1 ≤ d + 1 := hd
    have hdg : depthF g ≤ d := by have := Nat.le_max_left (depthF g) (depthF h); omega
    have hdh : depthF h ≤ d := by have := Nat.le_max_right (depthF g) (depthF h); omega
    obtain ⟨gg, gh⟩ := gf
    have f1 : decide (opS o = "true") = false ∧ decide (opS o = "false") = false ∧ decide (opS o = "is") = false ∧ decide (opS o = "not") = false := by cases o <;> decide +kernel
    refine q_asg (δ := dD (.str (opS o))) (ed_ixT (ds := [.str (opS o), encF g, encF h]) (ed_var (i := 2) rfl d2) ed_int rfl) (Same.refl _) fun v4 H1 s1 d4 => ?_
    refine q_no (nofalse (i := 4) rfl d4 f1.1 f1.2.1) (Same.refl _) fun H2 s2 => ?_
    refine q_no (no (i := 4) rfl (Dt.up s2 d4) f1.2.2.1) (Same.refl _) fun H3 s3 => ?_
    have s03 := (s1.trans s2).trans s3
    refine q_asg (δ := dD (.bool (evalF (valN rels (faOf kvs)) ch g))) (rec_ rfl rfl rfl s03 (ed_ixT (ds := [.str (opS o), encF g, encF h]) (d := encF g) (ed_var (i := 2) rfl (d2.up s03)) ed_int rfl) gg hdg) (Same.refl _) fun v6 H4 s4 d6 => ?_
    refine q_no (no (i := 4) rfl (Dt.up ((s2.trans s3).trans s4) d4) f1.2.2.2) (Same.refl _) fun H5 s5 => ?_
    have s05 := (s03.trans s4).trans s5
    refine q_asg (δ := dD (.bool (evalF (valN rels (faOf kvs)) ch h))) (rec_ rfl rfl rfl s05 (ed_ixT (ds := [.str (opS o), encF g, encF h]) (d := encF h) (ed_var (i := 2) rfl (d2.up s05)) ed_int rfl) gh hdh) (Same.refl _) fun v7 H6 s6 d7 => ?_
    have s06 := s05.trans s6
    have d4' : Dt H6 v4 (.str (opS o)) := Dt.up (((s2.trans s3).trans s4).trans (s5.trans s6)) d4
    have d6' : Dt H6 v6 (.bool (evalF (valN rels (faOf kvs)) ch g)) := Dt.up (s5.trans s6) d6
    have d7' : Dt H6 v7 (.bool (evalF (valN rels (faOf kvs)) ch h)) := d7
    clear d2 d4 d6 d7 nofalse rec_
    cases o with
    | and =>
      refine q_yes (no (i := 4) rfl d4' (by decide +kernel)) (Same.refl _) fun H7 s7 => ?_
      exact s_ret (δ := dD (.bool (evalF (valN rels (faOf kvs)) ch g && evalF (valN rels (faOf kvs)) ch h))) (ed_andV (ed_var (i := 8) rfl (d6'.up s7)) fun _ => ed_var (i := 9) rfl (d7'.up s7)) (Same.refl _) fun v H8 s8 d9 => hq v H8 (s06.trans (s7.trans s8)) d9
    | or =>
      refine q_no (no (i := 4) rfl d4' (by decide +kernel)) (Same.refl _) fun H7 s7 => ?_
      refine q_yes (no (i := 4) rfl (d4'.up s7) (by decide +kernel)) (Same.refl _) fun H8 s8 => ?_
      have s68 := s7.trans s8
      exact s_ret (δ := dD (.bool (evalF (valN rels (faOf kvs)) ch g || evalF (valN rels (faOf kvs)) ch h))) (ed_orV (ed_var (i := 8) rfl (d6'.up s68)) fun _ => ed_var (i := 9) rfl (d7'.up s68)) (Same.refl _) fun v H9 s9 d9 => hq v H9 (s06.trans (s68.trans s9)) d9
    | imp =>
      refine q_no (no (i := 4) rfl d4' (by decide +kernel)) (Same.refl _) fun H7 s7 => ?_
      refine q_no (no (i := 4) rfl (d4'.up s7) (by decide +kernel)) (Same.refl _) fun H8 s8 => ?_
      refine q_yes (no (i := 4) rfl (d4'.up (s7.trans s8)) (by decide +kernel)) (Same.refl _) fun H9 s9 => ?_
      have s69 := (s7.trans s8).trans s9
      exact s_ret (δ := dD (.bool (!evalF (valN rels (faOf kvs)) ch g || evalF (valN rels (faOf kvs)) ch h))) (dB_to (ed_orV (ed_var (i := 9) rfl (d7'.up s69)) fun _ => ed_notV (ed_var (i := 8) rfl (d6'.up s69))) (Bool.or_comm _ _)) (Same.refl _) fun v H10 s10 d9 => hq v H10 (s06.trans (s69.trans s10)) d9
    | same =>
      refine q_no (no (i := 4) rfl d4' (by decide +kernel)) (Same.refl _) fun H7 s7 => ?_
      refine q_no (no (i := 4) rfl (d4'.up s7) (by decide +kernel)) (Same.refl _) fun H8 s8 => ?_
      refine q_no (no (i := 4) rfl (d4'.up (s7.trans s8)) (by decide +kernel)) (Same.refl _) fun H9 s9 => ?_
      have s69 := (s7.trans s8).trans s9
      exact s_ret (δ := dD (.bool (evalF (valN rels (faOf kvs)) ch g == evalF (valN rels (faOf kvs)) ch h))) (ed_eqB (ed_var (i := 8) rfl (d6'.up s69)) (ed_var (i := 9) rfl (d7'.up s69))) (Same.refl _) fun v H10 s10 d9 => hq v H10 (s06.trans (s69.trans s10)) d9
structure LH where
  rels : List Rel
  kvs : List (FKey × Nat)
  n : Nat
  s : Sent
structure LH.Ok (x : LH) : Prop where
  rs : GoodRs x.rels
  gs : GoodS x.rels x.s
  n7 : x.n ≤ 7
  cov : Covers x.rels x.n x.kvs
abbrev sLholds : Stmt := topS 49
def spLholds (P : Program) (w : World) (K : PySem.W.Frag) : Sp := spOf (R := LH) (fun x => [dL K (x.rels.map encR), dF P w x.kvs, dD (nI x.n), dD (encSe x.s)]) (fun x _ => x.Ok) (fun x => dD (.bool (holdsF x.rels (faOf x.kvs) x.n x.s)))
theorem scLholds : FnScope ["_law_relations_here", "_law_facts", "_law_size", "_law_sentence", "_law_chosen"] ["_law_relations_here", "_law_facts", "_law_size", "_law_sentence"] (defScope sLholds) := ⟨rfl, rfl, rfl, by decide +kernel, rfl, by decide +kernel, by decide +kernel⟩
theorem ok_Lholds {f : Addr} {fd : FuncData} (Fn : Fun K "_law_holds" "_law_holds" sLholds f fd) (T : Txt K mg) (h_Lchoices : Dl P w K mg base "_law_choices" 1 ["_law_points", "_law_count_here"] (spChoices K)) (h_Lis_true : Dl P w K mg base "_law_is_true" 14 ["_law_relations_here", "_law_facts", "_law_formula_here", "_law_chosen"] (spLisTrue P w K 12)) :
    FnOk P w K mg base CX0 15 f fd ["_law_relations_here", "_law_facts", "_law_size", "_law_sentence"] (spLholds P w K) := by
  have nd := scLholds.nd
  refine okD Fn scLholds (fun _ => rfl) fun cdv A outer s H E hr => ⟨_, (pss_cons (ps_for PassesOwn.never rfl (pi_listK (K := K) (pe_dl h_Lchoices (hr.mono (by omega)) rfl (pa_cons (pe_listRg rfl rfl T.list (prg_1 rfl T.range (pv 2))) (pa_cons (pe_ix (ix_tupK (K := K)) (pv 3) pe_int (fun _ _ => rfl)) pa_nil)))) (pg_name (i := 4) nd rfl (by first | exact Or.inl rfl | exact Or.inr rfl))
      (pss_one (ps_if (pt_not (pt_val (pe_dl h_Lis_true (hr.mono (by omega)) rfl (pa_cons (pv 0) (pa_cons (pv 1) (pa_cons (pe_ix (ix_tupK (K := K)) (pv 3) pe_int (fun _ _ => rfl)) (pa_cons (pv 4) pa_nil))))))) (pss_one (ps_ret pe_bl)) pss_nil)))
    (pss_one (ps_ret pe_bl))), ?_⟩
  rintro ⟨rels, kvs, n, c, fm⟩ vs D ha ⟨hg, ⟨hc1, hc4, gf, hd⟩, hn7, hcov⟩ hq -
  obtain ⟨v0, v1, v2, v3, rfl, d0, d1, d2, d3⟩ := all2_4 ha
  have hc4 : c ≤ 4 := hc4
  have hn7 : n ≤ 7 := hn7
  have d0 : dL K (rels.map encR) Hn H v0 := d0
  have d1 : dF P w kvs Hn H v1 := d1
  have d2 : Dt H v2 (nI n) := d2
  have d3 : Dt H v3 (.tuple [nI c, encF fm]) := d3
  refine q_for (as := choicesF (List.range n) c) (ei_listM (enc := encC) (ev_call (List.range n, c) (ea_cons (ev_l (em_listRg (n := n) (ed_var (i := 2) rfl d2) (by omega))) (ea_cons (ed_ixT (d := nI c) (ed_var (i := 3) rfl d3) ed_int rfl) ea_nil)) fun _ _ => ⟨by show (List.range n).length ≤ 7; rw [List.length_range]; exact hn7, hc4⟩)) (Same.refl _) fun H2 s2 => ?_
  refine ⟨fun i σ' H' => (∃ v5, σ' = [some v0, some v1, some v2, some v3, v5]) ∧ Same H2 H' ∧ (((choicesF (List.range n) c).take i).all fun ch => evalF (valN rels (faOf kvs)) ch fm) = true, ⟨⟨none, rfl⟩, Same.refl _, by simp⟩, fun i σ' H' _ h => kp_same s2 h.2.1, ?_, ?_⟩
  · rintro i ch x σ' H' H'' hch ⟨⟨v5, rfl⟩, s', hall⟩ sy dx
    obtain ⟨l1, l2, l3⟩ := chosen_ok (List.mem_of_getElem? hch)
    have sH := (s2.trans s').trans sy
    have gf' : GoodF rels ch.length fm := by rw [l1]; exact gf
    refine s_if (b := !evalF (valN rels (faOf kvs)) ch fm) (et_not (et_B (ev_call (⟨rels, kvs, n, fm, ch⟩ : LT) (ea_cons (el_var (i := 0) rfl (lL d0 sH)) (ea_cons (dF_var (i := 1) rfl (up d1 sH)) (ea_cons (ed_ixT (d := encF fm) (ed_var (i := 3) rfl (d3.up sH)) ed_int rfl) (ea_cons (ed_var (i := 4) rfl dx) ea_nil)))) fun _ _ => ⟨hg, gf', l2, l3, hn7, hd, hcov⟩))) (Same.refl _) (fun hb H3 s3 => ?_) fun hb H3 s3 => ?_
    · refine s_ret ed_bl (Same.refl _) fun v H4 s4 dv => hq v H4 (sH.trans (s3.trans s4)) ?_
      have e : holdsF rels (faOf kvs) n (c, fm) = false := all_false_of hch (by simpa using hb)
      show Dt H4 v (.bool (holdsF rels (faOf kvs) n (c, fm)))
      rw [e]; exact dv
    · refine ⟨⟨some x, rfl⟩, (s'.trans sy).trans s3, ?_⟩
      rw [all_take_succ hch, hall]
      simpa using hb
  · rintro σ' H' ⟨⟨v5, rfl⟩, s', hall⟩
    rw [List.take_length] at hall
    refine s_ret ed_bl (Same.refl _) fun v H4 s4 dv => hq v H4 ((s2.trans s').trans s4) ?_
    have e : holdsF rels (faOf kvs) n (c, fm) = true := hall
    show Dt H4 v (.bool (holdsF rels (faOf kvs) n (c, fm)))
    rw [e]; exact dv
structure LF where
  rels : List Rel
  sents : List Sent
  kvs : List (FKey × Nat)
  n : Nat
structure LF.Ok (x : LF) : Prop where
  rs : GoodRs x.rels
  few : x.sents.length ≤ 2
  ss : ∀ s ∈ x.sents, GoodS x.rels s
  n7 : x.n ≤ 7
  cov : Covers x.rels x.n x.kvs
abbrev sLfits : Stmt := topS 50
def spLfits (P : Program) (w : World) (K : PySem.W.Frag) : Sp := spOf (R := LF) (fun x => [dL K (x.rels.map encR), dL K (x.sents.map encSe), dF P w x.kvs, dD (nI x.n)]) (fun x _ => x.Ok) (fun x => dD (.bool (fitsF x.rels x.sents (faOf x.kvs) x.n)))
theorem scLfits : FnScope ["_law_relations_here", "_law_sentences_here", "_law_facts", "_law_size", "_law_sentence"] ["_law_relations_here", "_law_sentences_here", "_law_facts", "_law_size"] (defScope sLfits) := ⟨rfl, rfl, rfl, by decide +kernel, rfl, by decide +kernel, by decide +kernel⟩
theorem ok_Lfits {f : Addr} {fd : FuncData} (Fn : Fun K "_law_fits" "_law_fits" sLfits f fd) (T : Txt K mg) (h_Lholds : Dl P w K mg base "_law_holds" 15 ["_law_relations_here", "_law_facts", "_law_size", "_law_sentence"] (spLholds P w K)) :
    FnOk P w K mg base CX0 16 f fd ["_law_relations_here", "_law_sentences_here", "_law_facts", "_law_size"] (spLfits P w K) := by
  have nd := scLfits.nd
  refine okD Fn scLfits (fun _ => rfl) fun cdv A outer s H E hr => ⟨_, (pss_one (ps_ret (pe_callB (cr_allK (K := K) rfl) (by rfl) T.all (by decide +kernel) (pa_cons (pe_lc (own := [("_law_sentence", 4)]) rfl nd (pi_listK (K := K) (pv 1)) (blkOk_by (by kernel_rfl)) (fun _ _ _ _ _ => (pg_name (i := 4) nd rfl (by first | exact Or.inl rfl | exact Or.inr rfl))) (fun _ _ _ _ _ => pts_nil) (fun _ _ _ _ _ => (pe_dl h_Lholds (hr.mono (by omega)) rfl (pa_cons (pv 0) (pa_cons (pv 2) (pa_cons (pv 3) (pa_cons (pv 4) pa_nil))))))) pa_nil)))), ?_⟩
  rintro ⟨rels, sents, kvs, n⟩ vs D ha ⟨hg, hfew, hss, hn7, hcov⟩ hq -
  obtain ⟨v0, v1, v2, v3, rfl, d0, d1, d2, d3⟩ := all2_4 ha
  have hfew : sents.length ≤ 2 := hfew
  have d0 : dL K (rels.map encR) Hn H v0 := d0
  have d1 : dL K (sents.map encSe) Hn H v1 := d1
  have d2 : dF P w kvs Hn H v2 := d2
  have d3 : Dt H v3 (nI n) := d3
  refine s_ret (δ := dD (.bool (fitsF rels sents (faOf kvs) n))) (dB_to (ed_all (ev_l (em_lcmE (enc := .bool) (as := sents) (f := fun s => holdsF rels (faOf kvs) n s) (ei_listL (enc := encSe) (i := 1) rfl (lL d1 (Same.refl _))) (small_line (by omega)) fun s x H' hs sH dx => ?_))) ?_) (Same.refl _) hq
  · exact ev_call (⟨rels, kvs, n, s⟩ : LH) (ea_cons (el_var (i := 0) rfl (lL d0 sH)) (ea_cons (dF_var (i := 2) rfl (up d2 sH)) (ea_cons (ed_var (i := 3) rfl (d3.up sH)) (ea_cons (ed_var (i := 4) rfl dx) ea_nil)))) fun _ _ => ⟨hg, hss s hs, hn7, hcov⟩
  · rw [List.all_map]; rfl
structure LA where
  rels : List Rel
  sents : List Sent
  n : Nat
structure LA.Ok (x : LA) : Prop where
  rs : GoodRs x.rels
  few : x.sents.length ≤ 2
  ss : ∀ s ∈ x.sents, GoodS x.rels s
  n7 : x.n ≤ 7
  cnt : countA x.rels x.n ≤ 100
abbrev sLall : Stmt := topS 51
def spLall (K : PySem.W.Frag) : Sp := spOf (R := LA) (fun x => [dL K (x.rels.map encR), dL K (x.sents.map encSe), dD (nI x.n)]) (fun x _ => x.Ok) (fun x => dM ((levelF x.rels x.sents x.n).map encS))
theorem scLall : FnScope ["_law_relations_here", "_law_sentences_here", "_law_size", "_law_keys", "_law_found", "_law_index", "_law_facts"] ["_law_relations_here", "_law_sentences_here", "_law_size"] (defScope sLall) := ⟨rfl, rfl, rfl, by decide +kernel, rfl, by decide +kernel, by decide +kernel⟩
theorem keysF_at {rels : List Rel} {n : Nat} : ∀ k ∈ keysF rels n, ∃ q, rels[k.1]? = some q := fun k hk => by
  obtain ⟨r, _, h, _⟩ := keysF_mem hk
  exact ⟨r, h⟩
theorem ok_Lall {f : Addr} {fd : FuncData} (Fn : Fun K "_law_all" "_law_all" sLall f fd) (T : Txt K mg) (h_Lordered_keys : Dl P w K mg base "_law_ordered_keys" 3 ["_law_relations_here", "_law_size"] (spLkeys K)) (h_Lcount : Dl P w K mg base "_law_count" 4 ["_law_relations_here", "_law_size"] (spLcount K))
    (h_Lindexed : Dl P w K mg base "_law_indexed" 1 ["_law_relations_here", "_law_keys", "_law_index"] (spLindexed P w K)) (h_Lfits : Dl P w K mg base "_law_fits" 16 ["_law_relations_here", "_law_sentences_here", "_law_facts", "_law_size"] (spLfits P w K)) (h_Lpart : Dl P w K mg base "_law_part" 3 ["_law_relations_here", "_law_facts", "_law_points"] (spLpart P w K)) :
    FnOk P w K mg base CX0 17 f fd ["_law_relations_here", "_law_sentences_here", "_law_size"] (spLall K) := by
  have nd := scLall.nd
  refine okD Fn scLall (fun _ => rfl) fun cdv A outer s H E hr => ⟨_, (pss_cons (ps_set (i := 3) nd rfl (by first | exact Or.inl rfl | exact Or.inr rfl) (pe_dl h_Lordered_keys (hr.mono (by omega)) rfl (pa_cons (pv 0) (pa_cons (pv 2) pa_nil))))
    (pss_cons (ps_set (i := 4) nd rfl (by first | exact Or.inl rfl | exact Or.inr rfl) (pe_lst pa_nil))
    (pss_cons (ps_for PassesOwn.never rfl (pi_range1 rfl T.range (pa_cons (pe_dl h_Lcount (hr.mono (by omega)) rfl (pa_cons (pv 0) (pa_cons (pv 2) pa_nil))) pa_nil)) (pg_name (i := 5) nd rfl (by first | exact Or.inl rfl | exact Or.inr rfl))
      (pss_cons (ps_set (i := 6) nd rfl (by first | exact Or.inl rfl | exact Or.inr rfl) (pe_dl h_Lindexed (hr.mono (by omega)) rfl (pa_cons (pv 0) (pa_cons (pv 3) (pa_cons (pv 5) pa_nil)))))
    (pss_one (ps_if (pt_val (pe_dl h_Lfits (hr.mono (by omega)) rfl (pa_cons (pv 0) (pa_cons (pv 1) (pa_cons (pv 6) (pa_cons (pv 2) pa_nil)))))) (pss_one (ps_expr (pe_bmK (K := K) PySem.F.plainAttrs_list PySem.F.slot_list_append PySem.F.type_list_append mt_append (pv 4) (pa_cons (pe_dl h_Lpart (hr.mono (by omega)) rfl (pa_cons (pv 0) (pa_cons (pv 6) (pa_cons (pe_listRg rfl rfl T.list (prg_1 rfl T.range (pv 2))) pa_nil)))) pa_nil)))) pss_nil))))
    (pss_one (ps_ret (pv 4)))))), ?_⟩
  rintro ⟨rels, sents, n⟩ vs D ha ⟨hg, hfew, hss, hn7, hcnt⟩ hq -
  obtain ⟨v0, v1, v2, rfl, d0, d1, d2⟩ := all2_3 ha
  have hg : GoodRs rels := hg
  have hfew : sents.length ≤ 2 := hfew
  have hss : ∀ s ∈ sents, GoodS rels s := hss
  have hn7 : n ≤ 7 := hn7
  have hcnt : countA rels n ≤ 100 := hcnt
  have d0 : dL K (rels.map encR) Hn H v0 := d0
  have d1 : dL K (sents.map encSe) Hn H v1 := d1
  have d2 : Dt H v2 (nI n) := d2
  have klen := keysF_len hg hn7
  refine q_asg (δ := dM ((keysF rels n).map encKey)) (ev_call (rels, n) (ea_cons (el_var (i := 0) rfl (lL d0 (Same.refl _))) (ea_cons (ed_var (i := 2) rfl d2) ea_nil)) fun _ _ => ⟨hg, hn7⟩) (Same.refl _) fun v3 H1 s1 d3 => ?_
  have d3 : dL K ((keysF rels n).map encKey) Hn H1 v3 := toHn (mL d3 (Same.refl _))
  refine q_asg (δ := dM []) (em_lst (ds := []) ea_nil (Nat.zero_le _)) (Same.refl _) fun v4 H2 s2 d4 => ?_
  obtain ⟨l, zs, rfl, hl0, hl2, rz⟩ := d4
  cases rz
  have hl0H : H l = none := s1.free hl0
  refine q_for (as := List.range (countA rels n)) (H0 := H1) (ei_range1 (n := countA rels n) (ev_call (rels, n) (ea_cons (el_var (i := 0) rfl (lL d0 s1)) (ea_cons (ed_var (i := 2) rfl (d2.up s1)) ea_nil)) fun _ _ => ⟨hg, hn7⟩) (by omega)) s2 fun H3 s3 => ?_
  refine ⟨fun i σ' H' => ∃ v5 v6 zs, σ' = [some v0, some v1, some v2, some v3, some (.ref l), v5, v6] ∧ Kp H1 H2 H3 H' ∧ H' l = some (.lst zs) ∧ Dts H' zs (((((List.range (countA rels n)).take i).filter fun x => fitsF rels sents (phiX rels n x) n).map fun x => structOf rels (phiX rels n x) n).map encS),
    ⟨none, none, [], rfl, kp_same (s2.trans s3) (Same.refl _), s3 _ _ hl2, .nil⟩, fun i σ' H' _ ⟨_, _, _, _, k, _⟩ => k, ?_, ?_⟩
  · rintro i a x σ' H' H'' hi ⟨v5, v6, zs, rfl, kp, hl, rz⟩ sy dx
    have ⟨ea, hin⟩ := range_get hi
    have dx : Dt H'' x (nI a) := dx
    have s1y := kp.1.trans sy
    have sH := s1.trans s1y
    show tSeq _ _ _ [some v0, some v1, some v2, some v3, some (.ref l), some x, v6] H''
    refine q_asg (δ := dF P w (kvsOf rels (keysF rels n) a)) (ev_call (⟨rels, keysF rels n, a⟩ : IX) (ea_cons (el_var (i := 0) rfl (lL d0 sH)) (ea_cons (el_var (i := 3) rfl (lL d3 s1y)) (ea_cons (ed_var (i := 5) rfl dx) ea_nil))) fun _ _ => ⟨hg, keysF_nodup _ _, by show (keysF rels n).length ≤ 60000; omega, keysF_at⟩) (Same.refl _) fun v6' H4 s4 d6 => ?_
    have d6 : dF P w (kvsOf rels (keysF rels n) a) Hn H4 v6' := toHn d6
    have sH4 := sH.trans s4
    refine s_if (b := fitsF rels sents (phiX rels n a) n) (et_B (ev_call (⟨rels, sents, kvsOf rels (keysF rels n) a, n⟩ : LF) (ea_cons (el_var (i := 0) rfl (lL d0 sH4)) (ea_cons (el_var (i := 1) rfl (lL d1 sH4)) (ea_cons (dF_var (i := 6) rfl d6) (ea_cons (ed_var (i := 2) rfl (d2.up sH4)) ea_nil)))) fun _ _ => ⟨hg, hfew, hss, hn7, kvs_covers _ _ _⟩)) (Same.refl _) (fun hb H5 s5 => ?_) fun hb H5 s5 => ?_
    · have sH5 := sH4.trans s5
      have s45 := (sy.trans s4).trans s5
      have hl5 := s45 _ _ hl
      refine s_append (j := 4) (δ := dD (encS (structOf rels (phiX rels n a) n))) rfl hl5 (ev_call (⟨rels, kvsOf rels (keysF rels n) a, n⟩ : LP) (ea_cons (el_var (i := 0) rfl (lL d0 sH5)) (ea_cons (dF_var (i := 6) rfl (up d6 s5)) (ea_cons (ev_l (em_listRg (n := n) (ed_var (i := 2) rfl (d2.up sH5)) (by omega))) ea_nil))) fun _ _ => ⟨hg, hn7, kvs_covers _ _ _⟩) (Same.refl _) (small_lt ?_) fun v H6 s6 dv => ?_
      · rw [rz.length, List.length_map, List.length_map]
        have h1 := List.length_filter_le (fun x => fitsF rels sents (phiX rels n x) n) ((List.range (countA rels n)).take i)
        rw [List.length_take, List.length_range] at h1
        have := Nat.min_le_right i (countA rels n)
        omega
      · have s46 := s45.trans s6
        have hl6 := s46 _ _ hl
        refine ⟨some x, some v6', zs ++ [v], rfl, (kp.up s46).write hl0 (by rw [hl2]; intro z; cases z) hl6, upd_same, ?_⟩
        rw [take_succ_get hi, List.filter_append, List.filter_cons_of_pos (by exact hb), List.filter_nil, List.map_append, List.map_append]
        have tk := tk_lst (o := .lst (zs ++ [v])) hl6
        exact (rz.mono ((tk_same s46).trans tk)).append (.cons (Dt.mono tk dv) .nil)
    · have s45 := (sy.trans s4).trans s5
      refine ⟨some x, some v6', zs, rfl, kp.up s45, s45 _ _ hl, ?_⟩
      rw [take_succ_get hi, List.filter_append, List.filter_cons_of_neg (by rw [hb]; simp), List.filter_nil, List.append_nil]
      exact rz.up s45
  · rintro σ' H' ⟨v5, v6, zs, rfl, kp, hl, rz⟩
    rw [List.take_length] at rz
    refine s_ret (ev_var (i := 4) rfl) (Same.refl _) fun v H4 s4 d5 => ?_
    cases d5
    exact hq _ _ (s1.trans (kp.1.trans s4)) ⟨l, zs, rfl, hl0H, s4 _ _ hl, rz.up s4⟩
end
end D18
set_option Elab.async false
set_option linter.all false
set_option maxRecDepth 100000
set_option maxHeartbeats 8000000
/-! PgD: _law_equal, _law_extends. -/
namespace D18
open PySem L2
/-- list[i] or tuple[i] -/
def rIxO (K : PySem.W.Frag) : R2 := fun x y H Q => rIxL K x y H Q ∨ rIxT K x y H Q
theorem ix_orK {X : Cx} {K : PySem.W.Frag} (hK : X.K = K := by rfl) : IxR X (rIxO K) := by
  intro va sl pins s σ H x y v u Q I rx ry h e
  rcases h with h | h
  · exact ix_listK hK va sl pins s σ H x y v u Q I rx ry h e
  · exact ix_tupK hK va sl pins s σ H x y v u Q I rx ry h e
/-- a list that stands there, its data -/
def dLs (xs : List PyData) : De := fun _ H v => ∃ p vs, v = .ref p ∧ H p = some (.lst vs) ∧ Dts H vs xs
instance {xs : List PyData} : Mo (dLs xs) := ⟨fun ⟨p, vs, e, h, r⟩ s _ => ⟨p, vs, e, s _ _ h, r.up s⟩⟩
theorem dLs_of {xs : List PyData} {G H G' : Hp} {v : V} (h : dM xs G H v) : dLs xs G' H v := by
  obtain ⟨p, vs, e, _, h, r⟩ := h
  exact ⟨p, vs, e, h, r⟩
theorem dL_of_dLs {K : PySem.W.Frag} {xs : List PyData} {G G' H : Hp} {v : V} (h : dLs xs G H v) : dL K xs G' H v := by
  obtain ⟨p, vs, e, h, r⟩ := h
  exact ⟨p, vs, e, SqL.of h, r⟩
theorem dLs_var {xs : List PyData} {σ : L2.St} {H : Hp} {i : Nat} {v : V} (h : σ[i]? = some (some v)) (d : dLs xs Hn H v) : EvX (tVar i) σ H (dLs xs) := fun H1 e Q q => ⟨v, h, q v H1 (Same.refl _) (up (δ := dLs xs) (G := Hn) d e)⟩
/-- ints, bools, tuples of such, n deep -/
def ShD : Nat → PyData → Prop
  | 0, _ => False
  | n + 1, x => (∃ i, x = .int i) ∨ (∃ b, x = .bool b) ∨ ∃ ds, x = .tuple ds ∧ ds.length ≤ 5000 ∧ ∀ d ∈ ds, ShD n d
def ShL : Nat → List PyData → Prop
  | 0, _ => False
  | n + 1, xs => xs.length ≤ 5000 ∧ ∀ d ∈ xs, ShD n d
section
variable {K : PySem.W.Frag} {σ : L2.St} {H : Hp} {ta tb : TE}
theorem ed_ixTO {ds : List PyData} {i : Int} {d : PyData} (ha : EvX ta σ H (dD (.tuple ds))) (hb : EvX tb σ H (dD (.int i))) (h : atI ds i = some d) : EvX (tOp (rIxO K) ta tb) σ H (dD d) := fun H1 e Q q =>
  ha H1 e _ fun x H2 s2 d2 => hb H2 (e.trans s2) _ fun y H3 s3 d3 => by
    have q' := ed_ixT (K := K) (ta := fun _ H' Q' => Q' x H') (tb := fun _ H' Q' => Q' y H') (σ := σ) (H := H3) (fun G eG Q' q' => q' x G (Same.refl _) (Dt.up (s3.trans eG) d2)) (fun G eG Q' q' => q' y G (Same.refl _) (Dt.up eG d3)) h
    exact .inr (q' H3 (Same.refl _) Q fun v H4 s4 d4 => q v H4 (s2.trans (s3.trans s4)) d4)
theorem ed_ixLO {ds : List PyData} {i : Int} {d : PyData} (ha : EvX ta σ H (dL K ds)) (hb : EvX tb σ H (dD (.int i))) (h : atI ds i = some d) : EvX (tOp (rIxO K) ta tb) σ H (dD d) := fun H1 e Q q =>
  ha H1 e _ fun x H2 s2 d2 => hb H2 (e.trans s2) _ fun y H3 s3 d3 => by
    have q' := ed_ixL (K := K) (ta := fun _ H' Q' => Q' x H') (tb := fun _ H' Q' => Q' y H') (σ := σ) (H := H3) (fun G eG Q' q' => q' x G (Same.refl _) (lL d2 (s3.trans eG))) (fun G eG Q' q' => q' y G (Same.refl _) (Dt.up eG d3)) h
    exact .inl (q' H3 (Same.refl _) Q fun v H4 s4 d4 => q v H4 (s2.trans (s3.trans s4)) d4)
end
section
variable {P : Program} {w : World} {K : PySem.W.Frag} {mg : Str → Option Value} {base : Heap}
abbrev sLequal : Stmt := topS 35
def eqArgs : PyData ⊕ List PyData → List De
  | .inl x => [dD x, dD x]
  | .inr xs => [dLs xs, dLs xs]
def eqPre (d : Nat) : PyData ⊕ List PyData → Prop
  | .inl x => ShD d x
  | .inr xs => ShL d xs
def spLequal (d : Nat) : Sp := spOf (R := PyData ⊕ List PyData) eqArgs (fun r _ => eqPre d r) (fun _ => dD (.bool true))
instance {x : PyData} : MoL (eqArgs (.inl x)) := inferInstanceAs (MoL [dD x, dD x])
instance {x : List PyData} : MoL (eqArgs (.inr x)) := inferInstanceAs (MoL [dLs x, dLs x])
theorem scLequal : FnScope ["_law_actual", "_law_expected", "_law_k"] ["_law_actual", "_law_expected"] (defScope sLequal) := ⟨rfl, rfl, rfl, by decide +kernel, rfl, by decide +kernel, by decide +kernel⟩
theorem all_true (n : Nat) : ((List.range n).map fun _ => true).all id = true := by rw [List.all_map]; simp
theorem ok_Lequal {d : Nat} {f : Addr} {fd : FuncData} (Fn : Fun K "_law_equal" "_law_equal" sLequal f fd) (T : Txt K mg) (h_Lequal : Dl P w K mg base "_law_equal" d ["_law_actual", "_law_expected"] (spLequal d)) : FnOk P w K mg base CX0 (d + 1) f fd ["_law_actual", "_law_expected"] (spLequal (d + 1)) := by
  have nd := scLequal.nd
  refine okD Fn scLequal (fun r => by cases r <;> rfl) fun cdv A outer s H E hr => ⟨_, (pss_cons (ps_if (PW.pt (pw_or (pt_val (pe_callB (call_isiKk (K := K)) (by rfl) T.isinstance (by decide +kernel) (pa_cons (pv 1) (pa_cons (pe_bltn (v := .ty "list") (by rfl) T.list (by decide +kernel) rfl) pa_nil)))) (pw_or1 (pt_val (pe_callB (call_isiKk (K := K)) (by rfl) T.isinstance (by decide +kernel) (pa_cons (pv 1) (pa_cons (pe_bltn (v := .ty "tuple") (by rfl) T.tuple (by decide +kernel) rfl) pa_nil))))))) (pss_cons (ps_if (PW.pt (pw_and (pt_val (pe_callB (call_isiKk (K := K)) (by rfl) T.isinstance (by decide +kernel) (pa_cons (pv 1) (pa_cons (pe_bltn (v := .ty "list") (by rfl) T.list (by decide +kernel) rfl) pa_nil)))) (pw_and1 (pt_not (pt_val (pe_callB (call_isiKk (K := K)) (by rfl) T.isinstance (by decide +kernel) (pa_cons (pv 0) (pa_cons (pe_bltn (v := .ty "list") (by rfl) T.list (by decide +kernel) rfl) pa_nil)))))))) (pss_one (ps_ret pe_bl)) pss_nil)
    (pss_cons (ps_if (PW.pt (pw_and (pt_val (pe_callB (call_isiKk (K := K)) (by rfl) T.isinstance (by decide +kernel) (pa_cons (pv 1) (pa_cons (pe_bltn (v := .ty "tuple") (by rfl) T.tuple (by decide +kernel) rfl) pa_nil)))) (pw_and1 (pt_not (pt_val (pe_callB (call_isiKk (K := K)) (by rfl) T.isinstance (by decide +kernel) (pa_cons (pv 0) (pa_cons (pe_bltn (v := .ty "tuple") (by rfl) T.tuple (by decide +kernel) rfl) pa_nil)))))))) (pss_one (ps_ret pe_bl)) pss_nil)
    (pss_cons (ps_if (pt_cmpR op_ne (pe_callB (call_lenK (K := K)) (by rfl) T.len PySem.boot_len (pa_cons (pv 0) pa_nil)) (pe_callB (call_lenK (K := K)) (by rfl) T.len PySem.boot_len (pa_cons (pv 1) pa_nil)) (nomark _)) (pss_one (ps_ret pe_bl)) pss_nil)
    (pss_one (ps_ret (pe_callB (cr_allK (K := K) rfl) (by rfl) T.all (by decide +kernel) (pa_cons (pe_lc (own := [("_law_k", 2)]) rfl nd (pi_range1 rfl T.range (pa_cons (pe_callB (call_lenK (K := K)) (by rfl) T.len PySem.boot_len (pa_cons (pv 1) pa_nil)) pa_nil)) (blkOk_by (by kernel_rfl)) (fun _ _ _ _ _ => (pg_name (i := 2) nd rfl (by first | exact Or.inl rfl | exact Or.inr rfl))) (fun _ _ _ _ _ => pts_nil) (fun _ _ _ _ _ => (pe_dl h_Lequal (hr.mono (by omega)) rfl (pa_cons (pe_ix (ix_orK (K := K)) (pv 0) (pv 2) (fun _ _ => rfl)) (pa_cons (pe_ix (ix_orK (K := K)) (pv 1) (pv 2) (fun _ _ => rfl)) pa_nil))))) pa_nil))))))) pss_nil)
    (pss_cons (ps_if (pt_val (pe_callB (call_isiKk (K := K)) (by rfl) T.isinstance (by decide +kernel) (pa_cons (pv 1) (pa_cons (pe_bltn (v := .ty "bool") (by rfl) T.bool (by decide +kernel) rfl) pa_nil)))) (pss_one (ps_ret (pe_and (pe_callB (call_isiKk (K := K)) (by rfl) T.isinstance (by decide +kernel) (pa_cons (pv 0) (pa_cons (pe_bltn (v := .ty "bool") (by rfl) T.bool (by decide +kernel) rfl) pa_nil))) (pe_one (pe_cmpR op_eq (pv 0) (pv 1) (nomark _)))))) pss_nil)
    (pss_cons (ps_if (pt_val (pe_callB (call_isiKk (K := K)) (by rfl) T.isinstance (by decide +kernel) (pa_cons (pv 1) (pa_cons (pe_bltn (v := .ty "int") (by rfl) T.int (by decide +kernel) rfl) pa_nil)))) (pss_one (ps_ret (pe_and (pe_callB (call_isiKk (K := K)) (by rfl) T.isinstance (by decide +kernel) (pa_cons (pv 0) (pa_cons (pe_bltn (v := .ty "int") (by rfl) T.int (by decide +kernel) rfl) pa_nil))) (pe_and (pe_not (pe_callB (call_isiKk (K := K)) (by rfl) T.isinstance (by decide +kernel) (pa_cons (pv 0) (pa_cons (pe_bltn (v := .ty "bool") (by rfl) T.bool (by decide +kernel) rfl) pa_nil)))) (pe_one (pe_cmpR op_eq (pv 0) (pv 1) (nomark _))))))) pss_nil)
    (pss_one (ps_ret (pe_and (pe_callB (call_isiKk (K := K)) (by rfl) T.isinstance (by decide +kernel) (pa_cons (pv 0) (pa_cons (pe_bltn (v := .ty "str") (by rfl) T.str (by decide +kernel) rfl) pa_nil))) (pe_one (pe_cmpR op_eq (pv 0) (pv 1) (nomark _))))))))), ?_⟩
  rintro (x | xs) vs D ha hpre hq -
  · obtain ⟨v0, v1, rfl, d0, d1⟩ := all2_2 ha
    have d0 : Dt H v0 x := d0
    have d1 : Dt H v1 x := d1
    rcases (show ShD (d + 1) x from hpre) with ⟨i, rfl⟩ | ⟨b, rfl⟩ | ⟨ds, rfl, hlen, hds⟩
    · have q0 : ∀ {σ : L2.St} {H1 : Hp} {n : String} {b : Bool}, σ[0]? = some (some v0) → Same H H1 → kitB "int" n = some b → EvX (tCB (rIsi K) (tCons (tVar 0) (tCons (tC (.ty n)) tNil))) σ H1 (dD (.bool b)) := fun h s k => ed_isi (ed_var h (d0.up s)) ev_c k
      have q1 : ∀ {σ : L2.St} {H1 : Hp} {n : String} {b : Bool}, σ[1]? = some (some v1) → Same H H1 → kitB "int" n = some b → EvX (tCB (rIsi K) (tCons (tVar 1) (tCons (tC (.ty n)) tNil))) σ H1 (dD (.bool b)) := fun h s k => ed_isi (ed_var h (d1.up s)) ev_c k
      refine q_no (et_or (a := false) (b := false) (et_B (q1 rfl (Same.refl _) kIL)) fun _ => et_B (q1 rfl (Same.refl _) kIT)) (Same.refl _) fun H1 s1 => ?_
      refine q_no (et_B (q1 rfl s1 kIB)) (Same.refl _) fun H2 s2 => ?_
      have s12 := s1.trans s2
      refine q_yes (et_B (q1 rfl s12 kII)) (Same.refl _) fun H3 s3 => ?_
      have s13 := s12.trans s3
      exact s_ret (δ := dD (.bool true)) (dB_to (ed_andV (a := true) (b := true) (q0 rfl s13 kII) fun _ => dB_to (ed_andV (a := true) (b := true) (dB_to (ed_notV (q0 rfl s13 kIB)) rfl) fun _ => dB_to (ed_eqI (ed_var (i := 0) rfl (d0.up s13)) (ed_var (i := 1) rfl (d1.up s13))) (by simp)) rfl) rfl) (Same.refl _) fun v H4 s4 d4 => hq v H4 (s13.trans s4) d4
    · have q0 : ∀ {σ : L2.St} {H1 : Hp} {n : String} {b : Bool}, σ[0]? = some (some v0) → Same H H1 → kitB "bool" n = some b → EvX (tCB (rIsi K) (tCons (tVar 0) (tCons (tC (.ty n)) tNil))) σ H1 (dD (.bool b)) := fun h s k => ed_isi (ed_var h (d0.up s)) ev_c k
      have q1 : ∀ {σ : L2.St} {H1 : Hp} {n : String} {b : Bool}, σ[1]? = some (some v1) → Same H H1 → kitB "bool" n = some b → EvX (tCB (rIsi K) (tCons (tVar 1) (tCons (tC (.ty n)) tNil))) σ H1 (dD (.bool b)) := fun h s k => ed_isi (ed_var h (d1.up s)) ev_c k
      refine q_no (et_or (a := false) (b := false) (et_B (q1 rfl (Same.refl _) kBL)) fun _ => et_B (q1 rfl (Same.refl _) kBT)) (Same.refl _) fun H1 s1 => ?_
      refine q_yes (et_B (q1 rfl s1 kBB)) (Same.refl _) fun H2 s2 => ?_
      have s12 := s1.trans s2
      exact s_ret (δ := dD (.bool true)) (dB_to (ed_andV (a := true) (b := true) (q0 rfl s12 kBB) fun _ => dB_to (ed_eqB (ed_var (i := 0) rfl (d0.up s12)) (ed_var (i := 1) rfl (d1.up s12))) (by simp)) rfl) (Same.refl _) fun v H4 s4 d4 => hq v H4 (s12.trans s4) d4
    · have q0 : ∀ {σ : L2.St} {H1 : Hp} {n : String} {b : Bool}, σ[0]? = some (some v0) → Same H H1 → kitB "tuple" n = some b → EvX (tCB (rIsi K) (tCons (tVar 0) (tCons (tC (.ty n)) tNil))) σ H1 (dD (.bool b)) := fun h s k => ed_isi (ed_var h (d0.up s)) ev_c k
      have q1 : ∀ {σ : L2.St} {H1 : Hp} {n : String} {b : Bool}, σ[1]? = some (some v1) → Same H H1 → kitB "tuple" n = some b → EvX (tCB (rIsi K) (tCons (tVar 1) (tCons (tC (.ty n)) tNil))) σ H1 (dD (.bool b)) := fun h s k => ed_isi (ed_var h (d1.up s)) ev_c k
      refine q_yes (et_or (a := false) (b := true) (et_B (q1 rfl (Same.refl _) kTL)) fun _ => et_B (q1 rfl (Same.refl _) kTT)) (Same.refl _) fun H1 s1 => ?_
      refine q_no (et_and (a := false) (b := false) (et_B (q1 rfl s1 kTL)) fun z => by cases z) (Same.refl _) fun H2 s2 => ?_
      have s12 := s1.trans s2
      refine q_no (et_and (a := true) (b := false) (et_B (q1 rfl s12 kTT)) fun _ => et_not (a := true) (et_B (q0 rfl s12 kTT))) (Same.refl _) fun H3 s3 => ?_
      have s13 := s12.trans s3
      refine q_no (et_test (dB_to (ed_neI (ed_lenT (ed_var (i := 0) rfl (d0.up s13))) (ed_lenT (ed_var (i := 1) rfl (d1.up s13)))) (by simp))) (Same.refl _) fun H4 s4 => ?_
      have s14 := s13.trans s4
      refine s_ret (δ := dD (.bool true)) (dB_to (ed_all (ev_l (em_lcmE (enc := .bool) (as := List.range ds.length) (f := fun _ => true) (ei_range1 (n := ds.length) (ed_lenT (ed_var (i := 1) rfl (d1.up s14))) (by omega)) (small_line (by rw [List.length_range]; omega)) fun k y G hk sG dy => ?_))) (all_true _)) (Same.refl _) fun v H5 s5 d5 => hq v H5 (s14.trans s5) d5
      have hkl := List.mem_range.mp hk
      have ge : ds[k]? = some ds[k] := List.getElem?_eq_getElem hkl
      have sHG := s14.trans sG
      exact ev_call (.inl ds[k] : PyData ⊕ List PyData) (ea_cons (ed_ixTO (ed_var (i := 0) rfl (d0.up sHG)) (ed_var (i := 2) rfl dy) (atI_nat ge)) (ea_cons (ed_ixTO (ed_var (i := 1) rfl (d1.up sHG)) (ed_var (i := 2) rfl dy) (atI_nat ge)) ea_nil)) fun _ _ => hds _ (List.getElem_mem hkl)
  · obtain ⟨v0, v1, rfl, d0, d1⟩ := all2_2 ha
    have d0 : dLs xs Hn H v0 := d0
    have d1 : dLs xs Hn H v1 := d1
    obtain ⟨hlen, hds⟩ := (show ShL (d + 1) xs from hpre)
    have e0 : ∀ {σ : L2.St} {H1 : Hp}, σ[0]? = some (some v0) → Same H H1 → EvX (tVar 0) σ H1 (dL K xs) := fun h s => el_var h (dL_of_dLs (up d0 s))
    have e1 : ∀ {σ : L2.St} {H1 : Hp}, σ[1]? = some (some v1) → Same H H1 → EvX (tVar 1) σ H1 (dL K xs) := fun h s => el_var h (dL_of_dLs (up d1 s))
    obtain ⟨p0, vs0, rfl, hp0, _⟩ := d0
    obtain ⟨p1, vs1, rfl, hp1, _⟩ := d1
    have q0 : ∀ {σ : L2.St} {H1 : Hp} {n : String} {b : Bool}, σ[0]? = some (some (.ref p0)) → Same H H1 → kitB "list" n = some b → EvX (tCB (rIsi K) (tCons (tVar 0) (tCons (tC (.ty n)) tNil))) σ H1 (dD (.bool b)) := fun h s k => ed_isiL (ev_var h) (s _ _ hp0) ev_c k
    have q1 : ∀ {σ : L2.St} {H1 : Hp} {n : String} {b : Bool}, σ[1]? = some (some (.ref p1)) → Same H H1 → kitB "list" n = some b → EvX (tCB (rIsi K) (tCons (tVar 1) (tCons (tC (.ty n)) tNil))) σ H1 (dD (.bool b)) := fun h s k => ed_isiL (ev_var h) (s _ _ hp1) ev_c k
    refine q_yes (et_or (a := true) (b := true) (et_B (q1 rfl (Same.refl _) kLL)) fun z => by cases z) (Same.refl _) fun H1 s1 => ?_
    refine q_no (et_and (a := true) (b := false) (et_B (q1 rfl s1 kLL)) fun _ => et_not (a := true) (et_B (q0 rfl s1 kLL))) (Same.refl _) fun H2 s2 => ?_
    have s12 := s1.trans s2
    refine q_no (et_and (a := false) (b := false) (et_B (q1 rfl s12 kLT)) fun z => by cases z) (Same.refl _) fun H3 s3 => ?_
    have s13 := s12.trans s3
    refine q_no (et_test (dB_to (ed_neI (ed_lenL (e0 rfl s13)) (ed_lenL (e1 rfl s13))) (by simp))) (Same.refl _) fun H4 s4 => ?_
    have s14 := s13.trans s4
    refine s_ret (δ := dD (.bool true)) (dB_to (ed_all (ev_l (em_lcmE (enc := .bool) (as := List.range xs.length) (f := fun _ => true) (ei_range1 (n := xs.length) (ed_lenL (e1 rfl s14)) (by omega)) (small_line (by rw [List.length_range]; omega)) fun k y G hk sG dy => ?_))) (all_true _)) (Same.refl _) fun v H5 s5 d5 => hq v H5 (s14.trans s5) d5
    have hkl := List.mem_range.mp hk
    have ge : xs[k]? = some xs[k] := List.getElem?_eq_getElem hkl
    have sHG := s14.trans sG
    exact ev_call (.inl xs[k] : PyData ⊕ List PyData) (ea_cons (ed_ixLO (e0 rfl sHG) (ed_var (i := 2) rfl dy) (atI_nat ge)) (ea_cons (ed_ixLO (e1 rfl sHG) (ed_var (i := 2) rfl dy) (atI_nat ge)) ea_nil)) fun _ _ => hds _ (List.getElem_mem hkl)
structure EXT where
  κ : Kd
  Φ : Fa
  n : Nat
  longer : List (List (List (List Nat)))
structure EXT.Ok (x : EXT) : Prop where
  gk : GoodK x.κ
  n6 : x.n ≤ 6
  gv : GoodV x.κ.rels x.Φ x.n
  cnt : countF x.κ.rels x.n ≤ 4096
  few : x.longer.length ≤ 100
  len : ∀ o ∈ x.longer, o.length = x.n + 1
  eq : ((x.longer.filter fun o => decide (o.take x.n = structOf x.κ.rels x.Φ x.n)).map fun o => o.getD x.n []) = extsF x.κ x.Φ x.n
abbrev sLextends : Stmt := topS 52
def spLextends (K : PySem.W.Frag) (C : Addr) : Sp := spOf (R := EXT) (fun x => [dK C x.κ, dD (encS (structOf x.κ.rels x.Φ x.n)), dL K (x.longer.map encS)]) (fun x _ => x.Ok) (fun _ => dD (.bool true))
theorem scLextends : FnScope ["_law_kind", "_law_structure", "_law_longer", "_law_size", "_law_other", "_law_expected", "_law_found"] ["_law_kind", "_law_structure", "_law_longer"] (defScope sLextends) := ⟨rfl, rfl, rfl, by decide +kernel, rfl, by decide +kernel, by decide +kernel⟩
theorem cut_take {α : Type} (l : List α) (n : Nat) : cutD l none (some (n : Int)) = l.take n := by
  unfold cutD
  rw [HT.sIx_none, HT.sIx_nat, List.drop_zero, Nat.sub_zero]
  rcases Nat.le_total n l.length with h | h
  · rw [Nat.min_eq_left h]
  · rw [Nat.min_eq_right h, List.take_length, List.take_of_length_le h]
theorem exts_sh {κ : Kd} {Φ : Fa} {n : Nat} (gk : GoodK κ) (hn : n ≤ 6) (hc : countF κ.rels n ≤ 4096) : ShL 4 ((extsF κ Φ n).map encL) := by
  have lens := layers_len n κ.rels [[]]
  have hcnt : (layersF κ.rels n).length ≤ 4096 := by
    have e : (layersF κ.rels n).length = countF κ.rels n := lens
    rw [e]; exact hc
  have h1 := List.length_filter_le (fun l => κ.sents.all fun s => holdsLast κ.rels (extF κ.rels Φ n l) (n + 1) s) (layersF κ.rels n)
  refine ⟨by rw [List.length_map]; exact Nat.le_trans h1 (by omega), fun d hd => ?_⟩
  obtain ⟨l, hl, rfl⟩ := List.mem_map.mp hd
  have hl := (List.mem_filter.mp hl).1
  obtain ⟨⟨l1, l2⟩, _⟩ := layers_mem hl
  have few := gk.rs.few
  refine .inr (.inr ⟨_, rfl, by rw [List.length_map]; omega, fun d hd => ?_⟩)
  obtain ⟨c, hc', rfl⟩ := List.mem_map.mp hd
  obtain ⟨i, hi, ei⟩ := List.mem_iff_getElem.mp hc'
  have hi' : i < κ.rels.length := by omega
  have hr : κ.rels[i]? = some κ.rels[i] := List.getElem?_eq_getElem hi'
  have h2 := l2 i _ hr
  rw [List.getD_eq_getElem?_getD, List.getElem?_eq_getElem hi, ei] at h2
  have pl := places_len (gk.rs.good _ (List.mem_of_getElem? hr)) hn
  refine .inr (.inr ⟨_, rfl, by rw [List.length_map]; have h2 : c.length = _ := h2; omega, fun d hd => ?_⟩)
  obtain ⟨m, _, rfl⟩ := List.mem_map.mp hd
  exact .inl ⟨_, rfl⟩
theorem ok_Lextends {C : Addr} {f : Addr} {fd : FuncData} (Fn : Fun K "_law_extends" "_law_extends" sLextends f fd) (T : Txt K mg) (h_extensions : Dl P w K mg base "extensions" 16 ["kind", "structure"] (spExts C)) (h_Lequal : Dl P w K mg base "_law_equal" 4 ["_law_actual", "_law_expected"] (spLequal 4)) :
    FnOk P w K mg base CX0 17 f fd ["_law_kind", "_law_structure", "_law_longer"] (spLextends K C) := by
  have nd := scLextends.nd
  refine okD Fn scLextends (fun _ => rfl) fun cdv A outer s H E hr => ⟨_, (pss_cons (ps_set (i := 3) nd rfl (by first | exact Or.inl rfl | exact Or.inr rfl) (pe_callB (call_lenK (K := K)) (by rfl) T.len PySem.boot_len (pa_cons (pv 1) pa_nil)))
    (pss_cons (ps_setLc (i := 5) (own := [("_law_other", 4)]) rfl nd rfl rfl (sw_true rfl rfl rfl (by decide +kernel)) (pi_listK (K := K) (pv 2)) (blkOk_by (by kernel_rfl)) (fun _ _ _ _ _ => (pg_name (i := 4) nd rfl (by first | exact Or.inl rfl | exact Or.inr rfl))) (fun _ _ _ _ _ => (pts_one (pt_cmpR (op_eqDK (K := K) hr.units) (pe_slice (sl_tupK (K := K)) (pv 4) po_none (po_some (pv 3))) (pv 1) (nomark _)))) (fun _ _ _ _ _ => (pe_ix (ix_tupK (K := K)) (pv 4) (pv 3) (fun _ _ => rfl))))
    (pss_cons (ps_set (i := 6) nd rfl (by first | exact Or.inl rfl | exact Or.inr rfl) (pe_dl h_extensions (hr.mono (by omega)) rfl (pa_cons (pv 0) (pa_cons (pv 1) pa_nil))))
    (pss_cons (ps_if (pt_not (pt_val (pe_dl h_Lequal (hr.mono (by omega)) rfl (pa_cons (pv 6) (pa_cons (pv 5) pa_nil))))) (pss_one (ps_ret pe_bl)) pss_nil)
    (pss_cons (ps_expr (pe_bmK (K := K) PySem.F.plainAttrs_list PySem.F.slot_list_append PySem.F.type_list_append mt_append (pv 6) (pa_cons (pe_tup pa_nil) pa_nil)))
    (pss_one (ps_ret (pe_dl h_Lequal (hr.mono (by omega)) rfl (pa_cons (pe_dl h_extensions (hr.mono (by omega)) rfl (pa_cons (pv 0) (pa_cons (pv 1) pa_nil))) (pa_cons (pv 5) pa_nil)))))))))), ?_⟩
  rintro ⟨κ, Φ, n, longer⟩ vs D ha ⟨gk, hn6, gv, hcnt, hfew, hlen, heq⟩ hq -
  obtain ⟨v0, v1, v2, rfl, d0, d1, d2⟩ := all2_3 ha
  have gk : GoodK κ := gk
  have hn6 : n ≤ 6 := hn6
  have gv : GoodV κ.rels Φ n := gv
  have hcnt : countF κ.rels n ≤ 4096 := hcnt
  have hfew : longer.length ≤ 100 := hfew
  have hlen : ∀ o ∈ longer, o.length = n + 1 := hlen
  have heq : ((longer.filter fun o => decide (o.take n = structOf κ.rels Φ n)).map fun o => o.getD n []) = extsF κ Φ n := heq
  have d0 : dK C κ Hn H v0 := d0
  have d1 : Dt H v1 (encS (structOf κ.rels Φ n)) := d1
  have d2 : dL K (longer.map encS) Hn H v2 := d2
  have sh := exts_sh (Φ := Φ) gk hn6 hcnt
  refine q_asg (δ := dD (nI n)) (ed_lenS (ed_var (i := 1) rfl d1)) (Same.refl _) fun v3 H1 s1 d3 => ?_
  have d3 : Dt H1 v3 (nI n) := d3
  refine q_asg (δ := dM ((extsF κ Φ n).map encL)) ?_ (Same.refl _) fun v5 H2 s2 d5 => ?_
  · rw [← heq]
    refine em_lcE (enc := encL) (as := longer) (p := fun o => decide (o.take n = structOf κ.rels Φ n)) (f := fun o => o.getD n []) (ei_listL (enc := encS) (i := 2) rfl (lL d2 s1)) (small_line (by omega)) fun o x G ho sG dx => ?_
    have dx : Dt G x (.tuple (o.map encL)) := dx
    have ol := hlen o ho
    refine ⟨et_test ?_, fun _ => ?_⟩
    · have e1 : EvX (tSl (rSlA K) (tVar 4) tNoPart (tPart (tVar 3))) [some v0, some v1, some v2, some v3, some x, none, none] G (dD (encS (o.take n))) := (ed_slT (ed_var (i := 4) rfl dx) eo_none (eo_some (ed_var (i := 3) rfl (d3.up sG)))).to (by rw [cut_take, ← List.map_take]; rfl)
      exact dB_to (ed_eqD e1 (ed_var (i := 1) rfl (d1.up (s1.trans sG))) (ps_shaped (n := 3) (by decide) (ps_encS _)) (ps_shaped (n := 3) (by decide) (ps_encS _))) (eqv_encS _ _)
    · have hn : n < o.length := by omega
      exact ed_ixT (d := encL (o.getD n [])) (ed_var (i := 4) rfl dx) (ed_var (i := 3) rfl (d3.up sG)) (atI_nat (by rw [List.getElem?_map, List.getElem?_eq_getElem hn, List.getD_eq_getElem?_getD, List.getElem?_eq_getElem hn]; rfl))
  have s12 := s1.trans s2
  have d5 : dLs ((extsF κ Φ n).map encL) Hn H2 v5 := dLs_of d5
  refine q_asg (δ := dM ((extsF κ Φ n).map encL)) (ev_call (⟨κ, Φ, n⟩ : KS) (ea_cons (dK_var (i := 0) rfl (up d0 s12)) (ea_cons (ed_var (i := 1) rfl (d1.up s12)) ea_nil)) fun _ _ => ⟨⟨gk, hn6, gv⟩, hcnt⟩) (Same.refl _) fun v6 H3 s3 d6 => ?_
  have d6' : dLs ((extsF κ Φ n).map encL) Hn H3 v6 := dLs_of d6
  refine q_no (et_not (a := true) (et_B (ev_call (.inr ((extsF κ Φ n).map encL) : PyData ⊕ List PyData) (ea_cons (dLs_var (i := 6) rfl d6') (ea_cons (dLs_var (i := 5) rfl (up d5 s3)) ea_nil)) fun _ _ => sh))) (Same.refl _) fun H4 s4 => ?_
  obtain ⟨l, zs, rfl, hl2, hl3, rz⟩ := d6
  have zlen : zs.length < sizeLine := small_lt (by rw [rz.length]; have := sh.1; omega)
  refine q_append (j := 6) (δ := dD (.tuple [])) rfl (s4 _ _ hl3) (ed_tup (ds := []) ea_nil (Nat.zero_le _)) (Same.refl _) zlen fun u H5 s5 _ => ?_
  have s25 : Same H2 (upd H5 l (.lst (zs ++ [u]))) := same_mut ((s3.trans s4).trans s5) hl2
  have sH := s12.trans s25
  exact s_ret (δ := dD (.bool true)) (ev_call (.inr ((extsF κ Φ n).map encL) : PyData ⊕ List PyData) (ea_cons ((ev_call (⟨κ, Φ, n⟩ : KS) (ea_cons (dK_var (i := 0) rfl (up d0 sH)) (ea_cons (ed_var (i := 1) rfl (d1.up sH)) ea_nil)) (fun _ _ => ⟨⟨gk, hn6, gv⟩, hcnt⟩) : EvX _ _ _ (dM ((extsF κ Φ n).map encL))).imp fun _ _ _ d => dLs_of d) (ea_cons (dLs_var (i := 5) rfl (up d5 s25)) ea_nil)) fun _ _ => sh) (Same.refl _) fun v H6 s6 d7 => hq v H6 (sH.trans s6) d7
end
end D18
set_option Elab.async false
set_option linter.all false
set_option maxRecDepth 100000
set_option maxHeartbeats 8000000
/-! PgE: _law_names. -/
namespace D18
open PySem L2
/-- a text of lo to hi characters -/
def dS (lo hi : Nat) : De := fun _ _ v => ∃ s : Str, v = .str s ∧ lo ≤ s.length ∧ s.length ≤ hi
instance {lo hi : Nat} : Tks (dS lo hi) := ⟨fun h _ => h⟩
theorem sLen_app (a b : Str) : (a ++ b).length = a.length + b.length := PySem.strLen_append a b
theorem cdiv_nat (a b : Nat) : ((a / b : Nat) : Int) = (a : Int) / (b : Int) := Int.natCast_ediv a b
section
variable {K : PySem.W.Frag} {σ : L2.St} {H : Hp} {ta tb : TE}
theorem es_ix {z : Str} {i : Int} (ha : EvX ta σ H (dD (.str z))) (hb : EvX tb σ H (dD (.int i))) (hz : z.length ≤ 1000) (h0 : 0 ≤ i) (h1 : i < z.length) : EvX (tOp rIxS ta tb) σ H (dS 1 1) :=
  ev_op ha hb fun G H1 x y _ _ dx dy Q q => by
    have hl : i.toNat < z.cps.toList.length := by
      have e : z.cps.toList.length = z.length := Array.length_toList
      omega
    exact ⟨z, i, z.cps.toList[i.toNat], Dt.str_inv dx, Dt.int_inv dy, small_line (by omega), atI_natE (j := i.toNat) (by omega) (List.getElem?_eq_getElem hl), q _ H1 (Same.refl _) ⟨_, rfl, Nat.le_refl _, Nat.le_refl _⟩⟩
theorem es_add {a b c d : Nat} (ha : EvX ta σ H (dS a b)) (hb : EvX tb σ H (dS c d)) (hl : b + d ≤ 100000) : EvX (tOp rAddS2 ta tb) σ H (dS (a + c) (b + d)) :=
  ev_op ha hb fun G H1 x y _ _ dx dy Q q => by
    obtain ⟨s, rfl, h1, h2⟩ := dx
    obtain ⟨t, rfl, h3, h4⟩ := dy
    exact ⟨s, t, rfl, rfl, small_line (by omega), q _ H1 (Same.refl _) ⟨_, rfl, by rw [sLen_app]; omega, by rw [sLen_app]; omega⟩⟩
theorem es_mono {a b c d : Nat} (h : EvX ta σ H (dS a b)) (h1 : c ≤ a) (h2 : b ≤ d) : EvX ta σ H (dS c d) := h.imp fun _ _ _ ⟨s, e, x, y⟩ => ⟨s, e, by omega, by omega⟩
theorem es_str {s : Str} {lo hi : Nat} (h : EvX ta σ H (dD (.str s))) (h1 : lo ≤ s.length) (h2 : s.length ≤ hi) : EvX ta σ H (dS lo hi) := h.imp fun _ _ _ d => ⟨s, Dt.str_inv d, h1, h2⟩
theorem join_len : ∀ ys : List Str, (∀ y ∈ ys, y.length ≤ 1) → (Str.join "" ys).length ≤ ys.length
  | [], _ => Nat.le_refl 0
  | [x], h => h x (List.mem_cons_self ..)
  | x :: z :: r, h => by
    show (x ++ "" ++ Str.join "" (z :: r)).length ≤ _
    have ih := join_len (z :: r) fun y hy => h y (List.mem_cons_of_mem _ hy)
    have h1 := h x (List.mem_cons_self ..)
    have e0 : (("" : String) : Str).length = 0 := by decide +kernel
    rw [sLen_app, sLen_app, e0, List.length_cons]
    omega
theorem strs_of {as : List Nat} {G H : Hp} : ∀ {vs : List V}, Paired (fun v (_ : Nat) => dS 1 1 G H v) vs as → ∃ ys : List Str, vs = ys.map V.str ∧ ys.length = as.length ∧ ∀ y ∈ ys, y.length ≤ 1 := by
  intro vs h
  induction h with
  | nil => exact ⟨[], rfl, rfl, fun y hy => by cases hy⟩
  | cons h _ ih =>
    obtain ⟨s, rfl, _, h2⟩ := h
    obtain ⟨ys, rfl, e2, h3⟩ := ih
    refine ⟨s :: ys, rfl, by rw [List.length_cons, List.length_cons, e2], fun y hy => ?_⟩
    rcases List.mem_cons.mp hy with rfl | hy
    · exact h2
    · exact h3 y hy
theorem sum_le1 : ∀ ys : List Str, (∀ y ∈ ys, y.length ≤ 1) → (ys.map (·.length)).sum ≤ ys.length
  | [], _ => Nat.le_refl 0
  | y :: r, h => by
    have ih := sum_le1 r fun z hz => h z (List.mem_cons_of_mem _ hz)
    have := h y (List.mem_cons_self ..)
    rw [List.map_cons, List.sum_cons, List.length_cons]
    omega
theorem es_join {n : Nat} (ha : EvX ta σ H (dD (.str ""))) (hb : EvX tb σ H (dN (fun _ : Nat => dS 1 1) (List.range n))) (hn : n ≤ 1000) :
    EvX (tM1 (fun x xs H Q => ∃ a p, ∃ ys : List Str, x = .str a ∧ xs = [.ref p] ∧ (SqL K H p (ys.map V.str) ∨ SqT K H p (ys.map V.str)) ∧ (ys.map (·.length)).sum + ys.length * a.length ≤ 16777216 ∧ Q (.str (Txt.join a ys)) H) ta tb) σ H (dS 0 n) := fun H1 e Q q =>
  ha H1 e _ fun x H2 s2 d2 => ⟨⟨_, Dt.str_inv d2⟩, hb H2 (e.trans s2) _ fun y H3 s3 d3 => by
    obtain ⟨p, vs, rfl, _, hp, r⟩ := d3
    obtain ⟨ys, rfl, hl, h1⟩ := strs_of r
    rw [List.length_range] at hl
    have e0 : (("" : String) : Str).length = 0 := by decide +kernel
    refine ⟨"", p, ys, Dt.str_inv d2, rfl, .inl (SqL.of hp), ?_, q _ H3 (s2.trans s3) ⟨_, rfl, Nat.zero_le _, ?_⟩⟩
    · have := sum_le1 ys h1
      rw [e0]; omega
    · rw [TL.join_eq]
      have := join_len ys h1
      omega⟩
theorem es_sl {tl th : TO} {lo hi : Option Int} {a b : Nat} (h : EvX ta σ H (dS a b)) (h1 : EvO tl σ H lo) (h2 : EvO th σ H hi) (hb : b ≤ 100000) : EvX (tSl rSlS ta tl th) σ H (dS 0 b) := fun H1 e Q q =>
  h H1 e _ fun v H2 s2 d2 => h1 H2 (e.trans s2) _ fun H3 s3 => h2 H3 ((e.trans s2).trans s3) _ fun H4 s4 => by
    obtain ⟨s, rfl, _, l2⟩ := d2
    refine ⟨s, rfl, small_line (by omega), q _ H4 (s2.trans (s3.trans s4)) ⟨_, rfl, Nat.zero_le _, ?_⟩⟩
    have := cutS_length s lo hi
    omega
def rLenStr : List V → Hp → VK → Prop := fun xs H Q => ∃ s : Str, xs = [.str s] ∧ s.length ≤ sizeLine ∧ Q (.int s.length) H
end
theorem cutD_map {α β : Type} (f : α → β) (xs : List α) (lo hi : Option Int) : cutD (xs.map f) lo hi = (cutD xs lo hi).map f := by
  unfold cutD
  rw [List.length_map, List.map_take, List.map_drop]
theorem cut_row (ds : List Nat) (k : Nat) (h : 8 * k + 8 ≤ ds.length) : (cutD ds (some ((8 * k : Nat) : Int)) (some ((8 * k + 8 : Nat) : Int))).length = 8 ∧ ∀ d ∈ cutD ds (some ((8 * k : Nat) : Int)) (some ((8 * k + 8 : Nat) : Int)), d ∈ ds := by
  unfold cutD
  rw [HT.sIx_nat, HT.sIx_nat, Nat.min_eq_left (by omega), Nat.min_eq_left (by omega)]
  refine ⟨by rw [List.length_take, List.length_drop]; omega, fun d hd => List.mem_of_mem_drop (List.mem_of_mem_take hd)⟩
/-! ### names that differ -/
def us : Str := "_"
def appU (nm : Str) : Nat → Str
  | 0 => nm
  | m + 1 => appU nm m ++ us
theorem appU_len (nm : Str) : ∀ m, (appU nm m).length = nm.length + m
  | 0 => rfl
  | m + 1 => by
    have e : us.length = 1 := by decide +kernel
    show (appU nm m ++ us).length = _
    rw [sLen_app, appU_len nm m, e]; omega
def wordsL : List Str := ["all", "true", "false", "not", "and", "or", "relation", "values", "symmetric"]
theorem words_len : ∀ s ∈ wordsL, 1 ≤ s.length ∧ s.length ≤ 9 := by decide +kernel
theorem words_us : ∀ s ∈ wordsL, s.cps.toList.getLast? ≠ some 95 := by decide +kernel
theorem appU_last (nm : Str) (m : Nat) : (appU nm (m + 1)).cps.toList.getLast? = some 95 := by
  show ((appU nm m).cps ++ us.cps).toList.getLast? = some 95
  rw [Array.toList_append]
  have e : us.cps.toList = [95] := by decide +kernel
  rw [e]
  exact List.getLast?_concat
theorem appU_word (nm : Str) (m : Nat) : appU nm (m + 1) ∉ wordsL := fun h => words_us _ h (appU_last nm m)
/-- the name after j turns -/
def NmAt (S : List Str) (nm : Str) (j : Nat) (x : Str) : Prop := ∃ m, m ≤ j ∧ x = appU nm m ∧ (∀ i, i < m → appU nm i ∈ S ∨ appU nm i ∈ wordsL) ∧ (m < j → ¬ (x ∈ S ∨ x ∈ wordsL))
theorem NmAt.start (S : List Str) (nm : Str) : NmAt S nm 0 nm := ⟨0, Nat.le_refl _, rfl, fun i h => by omega, fun h => by omega⟩
theorem NmAt.yes {S : List Str} {nm x : Str} {j : Nat} (h : NmAt S nm j x) (hx : x ∈ S ∨ x ∈ wordsL) : NmAt S nm (j + 1) (x ++ us) := by
  obtain ⟨m, h1, rfl, h2, h3⟩ := h
  have em : m = j := by
    rcases Nat.lt_or_ge m j with h | h
    · exact absurd hx (h3 h)
    · omega
  subst em
  refine ⟨m + 1, Nat.le_refl _, rfl, fun i hi => ?_, fun h => by omega⟩
  rcases Nat.lt_or_ge i m with h | h
  · exact h2 i h
  · have e : i = m := by omega
    rw [e]; exact hx
theorem NmAt.no {S : List Str} {nm x : Str} {j : Nat} (h : NmAt S nm j x) (hx : ¬ (x ∈ S ∨ x ∈ wordsL)) : NmAt S nm (j + 1) x := by
  obtain ⟨m, h1, e, h2, _⟩ := h
  exact ⟨m, by omega, e, h2, fun _ => hx⟩
theorem NmAt.len {S : List Str} {nm x : Str} {j : Nat} (h : NmAt S nm j x) : nm.length ≤ x.length ∧ x.length ≤ nm.length + j := by
  obtain ⟨m, h1, rfl, _⟩ := h
  rw [appU_len]; omega
theorem NmAt.out {S : List Str} {nm x : Str} (h : NmAt S nm 4 x) (hS : S.length ≤ 2) : x ∉ S := by
  obtain ⟨m, h1, rfl, h2, h3⟩ := h
  intro hx
  rcases Nat.lt_or_ge m 4 with h | h
  · exact h3 h (.inl hx)
  have em : m = 4 := by omega
  subst em
  have a1 : appU nm 1 ∈ S := (h2 1 (by omega)).resolve_right (appU_word nm 0)
  have a2 : appU nm 2 ∈ S := (h2 2 (by omega)).resolve_right (appU_word nm 1)
  have l1 := appU_len nm 1
  have l2 := appU_len nm 2
  have l4 := appU_len nm 4
  have ne : ∀ {x y : Str}, x.length ≠ y.length → x ≠ y := fun h e => h (by rw [e])
  match S, hS with
  | [], _ => cases a1
  | [a], _ =>
    simp only [List.mem_singleton] at a1 a2
    exact ne (x := appU nm 1) (y := appU nm 2) (by omega) (a1.trans a2.symm)
  | [a, b], _ =>
    simp only [List.mem_cons, List.not_mem_nil, or_false] at a1 a2 hx
    rcases a1 with a1 | a1 <;> rcases a2 with a2 | a2 <;> rcases hx with hx | hx
    · exact ne (x := appU nm 1) (y := appU nm 2) (by omega) (a1.trans a2.symm)
    · exact ne (x := appU nm 1) (y := appU nm 2) (by omega) (a1.trans a2.symm)
    · exact ne (x := appU nm 1) (y := appU nm 4) (by omega) (a1.trans hx.symm)
    · exact ne (x := appU nm 2) (y := appU nm 4) (by omega) (a2.trans hx.symm)
    · exact ne (x := appU nm 2) (y := appU nm 4) (by omega) (a2.trans hx.symm)
    · exact ne (x := appU nm 1) (y := appU nm 4) (by omega) (a1.trans hx.symm)
    · exact ne (x := appU nm 1) (y := appU nm 2) (by omega) (a1.trans a2.symm)
    · exact ne (x := appU nm 1) (y := appU nm 2) (by omega) (a1.trans a2.symm)
end D18
set_option Elab.async false
set_option linter.all false
set_option maxRecDepth 100000
set_option maxHeartbeats 8000000
/-! PgF: _law_names. -/
namespace D18
open PySem L2
theorem call_len_strK {X : Cx} : CallR X (.builtin "len") rLenStr := call_len_str
section
variable {K : PySem.W.Frag} {σ : L2.St} {H : Hp} {ta tb : TE}
theorem ed_lenStr {s : Str} (ha : EvX ta σ H (dD (.str s))) (hl : s.length ≤ 100000) : EvX (tCB rLenStr (tCons ta tNil)) σ H (dD (nI s.length)) :=
  ev_cb (ea_cons ha ea_nil) fun G H1 vs _ _ h Q q => by
    obtain ⟨v, rfl, d⟩ := all2_1 h
    cases Dt.str_inv d
    exact ⟨s, rfl, small_line (by omega), q _ H1 (Same.refl _) (.int _)⟩
theorem q_cut {t u : TS} {D : Ends} (M : L2.St → Hp → Prop) (h : ∀ N : L2.St → Hp → Prop, (∀ σ H, M σ H → N σ H) → t ⟨N, D.rt, D.bk, D.ct⟩ σ H) (k : ∀ σ' H', M σ' H' → u D σ' H') : tSeq t u D σ H := h (u D) k
end
def smallS : Str := "abcdefghijklmnopqrstuvwxyz"
def innerS : Str := smallS ++ "ABCDEFGHIJKLMNOPQRSTUVWXYZ" ++ "0123456789_"
theorem small_len : smallS.length = 26 := by decide +kernel
theorem inner_len : innerS.length = 63 := by decide +kernel
section
variable {P : Program} {w : World} {K : PySem.W.Frag} {mg : Str → Option Value} {base : Heap}
abbrev sLnames : Stmt := topS 36
def okNs (n : Nat) (ns : List Str) : Prop := ns.length = n ∧ ns.Nodup ∧ ∀ s ∈ ns, 1 ≤ s.length ∧ s.length ≤ 30 * 4 ^ n
def dNs (n : Nat) : De := dE (okNs n) (fun ns => dM (ns.map .str))
instance {n : Nat} : Sta (dNs n) := inferInstanceAs (Sta (dE _ _))
def spLnames : Sp := spOf (R := Unit) (fun _ => [dInt, dD (nI 3)]) (fun _ _ => True) (fun _ => dNs 3)
theorem scLnames : FnScope ["_law_cell_here", "_law_count_here", "_law_words", "_law_small", "_law_inner", "_law_digits_here", "_law_names_here", "_law_k", "_law_row", "_law_way", "_law_j", "_law_name", "_law_at", "_law_middle"] ["_law_cell_here", "_law_count_here"] (defScope sLnames) := ⟨rfl, rfl, rfl, by decide +kernel, rfl, by decide +kernel, by decide +kernel⟩
theorem ok_Lnames {f : Addr} {fd : FuncData} (Fn : Fun K "_law_names" "_law_names" sLnames f fd) (T : Txt K mg) (h_Ldigits : Dl P w K mg base "_law_digits" 1 ["_law_cell_here", "_law_many", "_law_count_here"] spLdigits) : FnOk P w K mg base CX0 2 f fd ["_law_cell_here", "_law_count_here"] spLnames := by
  have nd := scLnames.nd
  refine okD Fn scLnames (fun _ => rfl) fun cdv A outer s H E hr => ⟨_, (pss_cons (ps_set (i := 2) nd rfl (by first | exact Or.inl rfl | exact Or.inr rfl) (pe_lst (pa_cons pe_str (pa_cons pe_str (pa_cons pe_str (pa_cons pe_str (pa_cons pe_str (pa_cons pe_str (pa_cons pe_str (pa_cons pe_str (pa_cons pe_str pa_nil)))))))))))
    (pss_cons (ps_set (i := 3) nd rfl (by first | exact Or.inl rfl | exact Or.inr rfl) pe_str)
    (pss_cons (ps_set (i := 4) nd rfl (by first | exact Or.inl rfl | exact Or.inr rfl) (pe_op op_addSK (pe_op op_addSK (pv 3) pe_str) pe_str))
    (pss_cons (ps_set (i := 5) nd rfl (by first | exact Or.inl rfl | exact Or.inr rfl) (pe_dl h_Ldigits (hr.mono (by omega)) rfl (pa_cons (pv 0) (pa_cons pe_int (pa_cons (pe_op op_mul pe_int (pv 1)) pa_nil)))))
    (pss_cons (ps_set (i := 6) nd rfl (by first | exact Or.inl rfl | exact Or.inr rfl) (pe_lst pa_nil))
    (pss_cons (ps_for PassesOwn.never rfl (pi_range1 rfl T.range (pa_cons (pv 1) pa_nil)) (pg_name (i := 7) nd rfl (by first | exact Or.inl rfl | exact Or.inr rfl))
      (pss_cons (ps_set (i := 8) nd rfl (by first | exact Or.inl rfl | exact Or.inr rfl) (pe_slice (sl_listK (K := K)) (pv 5) (po_some (pe_op op_mul pe_int (pv 7))) (po_some (pe_op op_add (pe_op op_mul pe_int (pv 7)) pe_int))))
    (pss_cons (ps_set (i := 9) nd rfl (by first | exact Or.inl rfl | exact Or.inr rfl) (pe_op op_mod (pe_callTy call_int1K (by rfl) T.int (by decide +kernel) (pa_cons (pe_op op_fdivW (pe_ix (ix_listK (K := K)) (pv 8) pe_int (fun _ _ => rfl)) pe_int) pa_nil)) pe_int))
    (pss_cons (ps_set (i := 11) nd rfl (by first | exact Or.inl rfl | exact Or.inr rfl) (pe_op op_addSK (pe_ix ix_str (pv 3) (pe_op op_mod (pe_callTy call_int1K (by rfl) T.int (by decide +kernel) (pa_cons (pe_ix (ix_listK (K := K)) (pv 8) pe_int (fun _ _ => rfl)) pa_nil)) pe_int) (fun _ _ => rfl)) (pe_join pe_str (pe_lc (own := [("_law_j", 10)]) rfl nd (pi_range1 rfl T.range (pa_cons (pe_op op_mod (pe_callTy call_int1K (by rfl) T.int (by decide +kernel) (pa_cons (pe_op op_fdivW (pe_ix (ix_listK (K := K)) (pv 8) pe_int (fun _ _ => rfl)) pe_int) pa_nil)) pe_int) pa_nil)) (blkOk_by (by kernel_rfl)) (fun _ _ _ _ _ => (pg_name (i := 10) nd rfl (by first | exact Or.inl rfl | exact Or.inr rfl))) (fun _ _ _ _ _ => pts_nil) (fun _ _ _ _ _ => (pe_ix ix_str (pv 4) (pe_op op_mod (pe_callTy call_int1K (by rfl) T.int (by decide +kernel) (pa_cons (pe_ix (ix_listK (K := K)) (pv 8) (pe_op op_add pe_int (pv 10)) (fun _ _ => rfl)) pa_nil)) pe_int) (fun _ _ => rfl)))))))
    (pss_cons (ps_if (PW.pt (pw_and (pt_cmpR op_eq (pv 9) pe_int (nomark _)) (pw_and1 (pt_cmpR op_gt (pv 7) pe_int (nomark _))))) (pss_cons (ps_set (i := 12) nd rfl (by first | exact Or.inl rfl | exact Or.inr rfl) (pe_op op_mod (pe_callTy call_int1K (by rfl) T.int (by decide +kernel) (pa_cons (pe_ix (ix_listK (K := K)) (pv 8) pe_int (fun _ _ => rfl)) pa_nil)) (pe_callB call_len_strK (by rfl) T.len PySem.boot_len (pa_cons (pe_ix (ix_listK (K := K)) (pv 6) (pe_op op_sub (pv 7) pe_int) (fun _ _ => rfl)) pa_nil))))
    (pss_cons (ps_set (i := 13) nd rfl (by first | exact Or.inl rfl | exact Or.inr rfl) (pe_ix ix_str (pv 4) (pe_op op_mod (pe_callTy call_int1K (by rfl) T.int (by decide +kernel) (pa_cons (pe_ix (ix_listK (K := K)) (pv 8) pe_int (fun _ _ => rfl)) pa_nil)) pe_int) (fun _ _ => rfl)))
    (pss_cons (ps_if (pt_cmpR op_eq (pv 12) pe_int (nomark _)) (pss_one (ps_set (i := 13) nd rfl (by first | exact Or.inl rfl | exact Or.inr rfl) (pe_ix ix_str (pv 3) (pe_op op_mod (pe_callTy call_int1K (by rfl) T.int (by decide +kernel) (pa_cons (pe_ix (ix_listK (K := K)) (pv 8) pe_int (fun _ _ => rfl)) pa_nil)) pe_int) (fun _ _ => rfl)))) pss_nil)
    (pss_one (ps_set (i := 11) nd rfl (by first | exact Or.inl rfl | exact Or.inr rfl) (pe_op op_addSK (pe_op op_addSK (pe_slice sl_str (pe_ix (ix_listK (K := K)) (pv 6) (pe_op op_sub (pv 7) pe_int) (fun _ _ => rfl)) po_none (po_some (pv 12))) (pv 13)) (pe_slice sl_str (pe_ix (ix_listK (K := K)) (pv 6) (pe_op op_sub (pv 7) pe_int) (fun _ _ => rfl)) (po_some (pe_op op_add (pv 12) pe_int)) po_none))))))) pss_nil)
    (pss_cons (ps_if (PW.pt (pw_and (pt_cmpR op_eq (pv 9) pe_int (nomark _)) (pw_and1 (pt_cmpR op_gt (pv 7) pe_int (nomark _))))) (pss_one (ps_set (i := 11) nd rfl (by first | exact Or.inl rfl | exact Or.inr rfl) (pe_op op_addSK (pe_ix (ix_listK (K := K)) (pv 6) (pe_op op_sub (pv 7) pe_int) (fun _ _ => rfl)) (pe_ix ix_str (pv 4) (pe_op op_mod (pe_callTy call_int1K (by rfl) T.int (by decide +kernel) (pa_cons (pe_ix (ix_listK (K := K)) (pv 8) pe_int (fun _ _ => rfl)) pa_nil)) pe_int) (fun _ _ => rfl))))) pss_nil)
    (pss_cons (ps_if (PW.pt (pw_and (pt_cmpR op_eq (pv 9) pe_int (nomark _)) (pw_and1 (pt_cmpR op_eq (pv 7) pe_int (nomark _))))) (pss_one (ps_set (i := 11) nd rfl (by first | exact Or.inl rfl | exact Or.inr rfl) (pe_op op_addSK (pe_ix (ix_listK (K := K)) (pv 2) (pe_op op_mod (pe_callTy call_int1K (by rfl) T.int (by decide +kernel) (pa_cons (pe_ix (ix_listK (K := K)) (pv 8) pe_int (fun _ _ => rfl)) pa_nil)) pe_int) (fun _ _ => rfl)) (pe_ix ix_str (pv 4) (pe_op op_mod (pe_callTy call_int1K (by rfl) T.int (by decide +kernel) (pa_cons (pe_ix (ix_listK (K := K)) (pv 8) pe_int (fun _ _ => rfl)) pa_nil)) pe_int) (fun _ _ => rfl))))) pss_nil)
    (pss_cons (ps_for PassesOwn.never rfl (pi_range1 rfl T.range (pa_cons (pe_op op_add (pv 1) pe_int) pa_nil)) (pg_name (i := 10) nd rfl (by first | exact Or.inl rfl | exact Or.inr rfl))
      (pss_one (ps_if (PW.pt (pw_or (pt_cmpR (op_inK (K := K)) (pv 11) (pv 6) (by rfl)) (pw_or1 (pt_cmpR (op_inK (K := K)) (pv 11) (pv 2) (by rfl))))) (pss_one (ps_set (i := 11) nd rfl (by first | exact Or.inl rfl | exact Or.inr rfl) (pe_op op_addSK (pv 11) pe_str))) pss_nil)))
    (pss_one (ps_expr (pe_bmK (K := K) PySem.F.plainAttrs_list PySem.F.slot_list_append PySem.F.type_list_append mt_append (pv 6) (pa_cons (pv 11) pa_nil))))))))))))
    (pss_one (ps_ret (pv 6))))))))), ?_⟩
  rintro ⟨⟩ vs D ha - hq -
  obtain ⟨v0, v1, rfl, d0, d1⟩ := all2_2 ha
  obtain ⟨cell, rfl⟩ := d0
  cases Dt.int_inv d1
  refine q_asg (δ := dM (wordsL.map .str)) (em_lst (ds := wordsL.map .str) (ea_cons ed_str (ea_cons ed_str (ea_cons ed_str (ea_cons ed_str (ea_cons ed_str (ea_cons ed_str (ea_cons ed_str (ea_cons ed_str (ea_cons ed_str ea_nil))))))))) (by decide)) (Same.refl _) fun v2 H1 s1 d2 => ?_
  have d2 : dL K (wordsL.map .str) Hn H1 v2 := toHn (mL d2 (Same.refl _))
  refine q_asg (δ := dD (.str smallS)) ed_str (Same.refl _) fun v3 H2 s2 d3 => ?_
  cases Dt.str_inv d3
  refine q_asg (δ := dD (.str innerS)) (ed_addS (ed_addS (ed_var (i := 3) rfl (.str _)) ed_str (small_line (by decide +kernel))) ed_str (small_line (by decide +kernel))) (Same.refl _) fun v4 H3 s3 d4 => ?_
  cases Dt.str_inv d4
  refine q_asg (δ := dDs 3276 24) (ev_call (3276, 24) (ea_cons (ei_int (ed_var (i := 0) rfl (.int _))) (ea_cons ed_int (ea_cons (dI_to (ed_opC ed_int (ed_var (i := 1) rfl (.int _)) (cmul_l (by decide))) (by decide)) ea_nil))) fun _ _ => ⟨by decide, by decide, by decide⟩) (Same.refl _) fun v5 H4 s4 d5 => ?_
  obtain ⟨ds, ⟨dlen, dlt⟩, d5⟩ := d5
  have d5 : dL K (ds.map nI) Hn H4 v5 := toHn (mL d5 (Same.refl _))
  have d2 : dL K (wordsL.map .str) Hn H4 v2 := up d2 ((s2.trans s3).trans s4)
  have sH4 := ((s1.trans s2).trans s3).trans s4
  refine q_asg (δ := dM []) (em_lst (ds := []) ea_nil (Nat.zero_le _)) (Same.refl _) fun v6 H5 s5 d6 => ?_
  obtain ⟨l, zs, rfl, hl0, hl1, rz⟩ := d6
  cases rz
  refine q_for (as := List.range 3) (H0 := H4) (ei_range1 (n := 3) (ed_var (i := 1) rfl (.int _)) (by decide)) s5 fun H6 s6 => ?_
  refine ⟨fun i σ' G => ∃ v7 v8 v9 v10 v11 v12 v13 zs nms, σ' = [some (.int cell), some (.int (3 : Nat)), some v2, some (.str smallS), some (.str innerS), some v5, some (.ref l), v7, v8, v9, v10, v11, v12, v13] ∧ Kp H4 H5 H6 G ∧ G l = some (.lst zs) ∧ Dts G zs (nms.map .str) ∧ okNs i nms,
    ⟨none, none, none, none, none, none, none, [], [], rfl, kp_same (s5.trans s6) (Same.refl _), s6 _ _ hl1, .nil, rfl, .nil, fun s h => by cases h⟩, fun i σ' G _ ⟨_, _, _, _, _, _, _, _, _, _, k, _⟩ => k, ?_, ?_⟩
  · rintro i a x σ' G0 G hi ⟨v7, v8, v9, v10, v11, v12, v13, zs, nms, rfl, kp, hl, rz, nlen, nnd, nb⟩ sy dx
    obtain ⟨rfl, hin⟩ := range_get hi
    cases Dt.int_inv dx
    have kp' := kp.up sy
    have sHG := kp'.1
    have hlG := sy _ _ hl
    have rzG := rz.up sy
    have B1 : (1 : Nat) ≤ 4 ^ a := Nat.one_le_pow _ _ (by decide)
    have B2 : (4 : Nat) ^ a ≤ 4 ^ 2 := Nat.pow_le_pow_right (by decide) (by omega)
    have B2 : (4 : Nat) ^ a ≤ 16 := B2
    generalize hB : 30 * 4 ^ a = B at nb
    have hB' : 30 * 4 ^ (a + 1) = 4 * B := by rw [Nat.pow_succ]; omega
    have Blo : 30 ≤ B := by omega
    have Bhi : B ≤ 480 := by omega
    -- the row
    have cr := cut_row ds a (by rw [dlen]; omega)
    generalize hrs : cutD ds (some ((8 * a : Nat) : Int)) (some ((8 * a + 8 : Nat) : Int)) = rs at cr
    obtain ⟨rlen, rmem⟩ := cr
    have row : ∀ {σ : L2.St}, σ[5]? = some (some v5) → σ[7]? = some (some (.int (a : Nat))) → EvX (tSl (rSlL K) (tVar 5) (tPart (tOp (rI CMul fun i j => .int (i * j)) (tC (.int 8)) (tVar 7))) (tPart (tOp (rI0 fun i j => .int (i + j)) (tOp (rI CMul fun i j => .int (i * j)) (tC (.int 8)) (tVar 7)) (tC (.int 8))))) σ G (dM (rs.map nI)) := fun h5 h7 => by
      rw [← hrs, ← cutD_map]
      exact em_slL (el_var h5 (lL d5 sHG)) (eo_some (dI_to (ed_opC ed_int (ed_var h7 (.int _)) (cmul_l (by decide))) (by omega))) (eo_some (dI_to (ed_op0 (ed_opC ed_int (ed_var h7 (.int _)) (cmul_l (by decide))) ed_int) (by omega)))
    refine q_asg (row rfl rfl) (Same.refl _) fun v8 G1 t1 d8 => ?_
    have d8 : dL K (rs.map nI) Hn G1 v8 := toHn (mL d8 (Same.refl _))
    have sHG1 := sHG.trans t1
    have hl1' := t1 _ _ hlG
    have rz1 := rzG.up t1
    have rget : ∀ {σ : L2.St} {G2 : Hp} {te : TE} {j : Nat}, σ[8]? = some (some v8) → Same G1 G2 → EvX te σ G2 (dD (.int (j : Nat))) → j < 8 → EvX (tOp (rIxL K) (tVar 8) te) σ G2 (dD (nI (rs.getD j 0))) := fun h8 s he hj => ed_ixL (el_var h8 (lL d8 s)) he (atI_nat (by rw [List.getElem?_map, getD_get (by omega)]; rfl))
    have inn : ∀ {σ : L2.St} {G2 : Hp} {te : TE} {j : Nat}, σ[4]? = some (some (.str innerS)) → σ[8]? = some (some v8) → Same G1 G2 → EvX te σ G2 (dD (.int (j : Nat))) → j < 8 → EvX (tOp rIxS (tVar 4) (tOp (rI (fun _ j => 0 < j) fun i j => .int (i % j)) (tCB rIntQ (tCons (tOp (rIxL K) (tVar 8) te) tNil)) (tC (.int 63)))) σ G2 (dS 1 1) := fun h4 h8 s he hj =>
      es_ix (ed_var h4 (.str _)) (ed_opC (ed_intI (rget h8 s he hj)) ed_int (by decide)) (by rw [inner_len]; decide) (Int.emod_nonneg _ (by decide)) (by rw [inner_len]; exact Int.emod_lt_of_pos _ (by decide))
    have sma : ∀ {σ : L2.St} {G2 : Hp} {te : TE} {j : Nat}, σ[3]? = some (some (.str smallS)) → σ[8]? = some (some v8) → Same G1 G2 → EvX te σ G2 (dD (.int (j : Nat))) → j < 8 → EvX (tOp rIxS (tVar 3) (tOp (rI (fun _ j => 0 < j) fun i j => .int (i % j)) (tCB rIntQ (tCons (tOp (rIxL K) (tVar 8) te) tNil)) (tC (.int 26)))) σ G2 (dS 1 1) := fun h3 h8 s he hj =>
      es_ix (ed_var h3 (.str _)) (ed_opC (ed_intI (rget h8 s he hj)) ed_int (by decide)) (by rw [small_len]; decide) (Int.emod_nonneg _ (by decide)) (by rw [small_len]; exact Int.emod_lt_of_pos _ (by decide))
    -- way
    refine q_asg (δ := dInt) (ei_int (ed_opC (ed_intI (ed_opC (rget (j := 0) rfl (Same.refl _) ed_int (by decide)) ed_int (cdiv_s (by decide) (by decide)))) ed_int (by decide))) (Same.refl _) fun v9 G2 t2 d9 => ?_
    obtain ⟨wy, rfl⟩ := d9
    -- name
    refine q_asg (δ := dS 1 7) (es_mono (es_add (sma (j := 0) rfl rfl t2 ed_int (by decide)) (es_join (n := (rs.getD 0 0 / 26) % 7) ed_str (ev_lcm (as := List.range ((rs.getD 0 0 / 26) % 7)) (f := fun _ => dS 1 1) (ei_range1 (n := (rs.getD 0 0 / 26) % 7) (dI_to (ed_opC (ed_intI (ed_opC (rget (j := 0) rfl t2 ed_int (by decide)) ed_int (cdiv_s (by decide) (by decide)))) ed_int (by decide)) (by omega)) (by omega)) (small_line (by rw [List.length_range]; omega)) fun j y G3 hj s3 dy => ?_) (by omega)) (by omega)) (by omega) (by omega)) (Same.refl _) fun v11 G3 t3 d11 => ?_
    · have hj' := List.mem_range.mp hj
      exact inn (j := 1 + j) rfl rfl (t2.trans s3) (dI_to (ed_op0 ed_int (ed_var (i := 10) rfl dy)) (by omega)) (by omega)
    have t13 := t2.trans t3
    have d11 : dS 1 (2 * B + 1) Hn G3 v11 := by obtain ⟨s, e, l1, l2⟩ := d11; exact ⟨s, e, l1, by omega⟩
    have nget : ∀ {σ : L2.St} {G4 : Hp}, σ[6]? = some (some (.ref l)) → σ[7]? = some (some (.int (a : Nat))) → Same G1 G4 → (h : 0 < a) → EvX (tOp (rIxL K) (tVar 6) (tOp (rI0 fun i j => .int (i - j)) (tVar 7) (tC (.int 1)))) σ G4 (dD (.str (nms.getD (a - 1) ""))) := fun h6 h7 s h => by
      have hlt : a - 1 < nms.length := by omega
      refine ed_ixL (ds := nms.map .str) (el_var h6 ⟨l, zs, rfl, SqL.of (s _ _ hl1'), rz1.up s⟩) (ed_op0 (ed_var h7 (.int _)) ed_int) (atI_natE (j := a - 1) (by omega) ?_)
      rw [List.getElem?_map, List.getElem?_eq_getElem hlt, List.getD_eq_getElem?_getD, List.getElem?_eq_getElem hlt]; rfl
    have nmb : 0 < a → 1 ≤ (nms.getD (a - 1) "").length ∧ (nms.getD (a - 1) "").length ≤ B := fun h => by
      have hlt : a - 1 < nms.length := by omega
      rw [List.getD_eq_getElem?_getD, List.getElem?_eq_getElem hlt]
      exact nb _ (List.getElem_mem hlt)
    -- if way == 1 and k > 0
    refine q_cut (fun σ' G4 => ∃ v11 v12 v13, σ' = [some (.int cell), some (.int (3 : Nat)), some v2, some (.str smallS), some (.str innerS), some v5, some (.ref l), some (.int (a : Nat)), some v8, some (.int wy), v10, some v11, v12, v13] ∧ Same G1 G4 ∧ dS 1 (2 * B + 1) Hn G4 v11) (fun N hN => ?_) ?_
    · refine s_if (b := decide (wy = 1) && decide (0 < a)) (et_and (et_test (ed_eqI (ed_var (i := 9) rfl (.int _)) ed_int)) fun _ => et_test (dB_to (ed_cmp (ed_var (i := 7) rfl (.int _)) ed_int) (by simp))) (Same.refl _) (fun hb G4 t4 => ?_) fun hb G4 t4 => hN _ _ ⟨v11, v12, v13, rfl, t13.trans t4, d11⟩
      have hap : 0 < a := by simpa using (Bool.and_eq_true_iff.mp hb).2
      obtain ⟨n1, n2⟩ := nmb hap
      generalize hnm : nms.getD (a - 1) "" = nm at n1 n2
      have nget : ∀ {σ : L2.St} {G4 : Hp}, σ[6]? = some (some (.ref l)) → σ[7]? = some (some (.int (a : Nat))) → Same G1 G4 → EvX (tOp (rIxL K) (tVar 6) (tOp (rI0 fun i j => .int (i - j)) (tVar 7) (tC (.int 1)))) σ G4 (dD (.str nm)) := fun h6 h7 s => by rw [← hnm]; exact nget h6 h7 s hap
      have t14 := t13.trans t4
      refine q_asg (δ := dInt) (ei_int (ed_opC (ed_intI (rget (j := 1) rfl t14 ed_int (by decide))) (ed_lenStr (nget rfl rfl t14) (by omega)) (show (0 : Int) < (nm.length : Int) by omega))) (Same.refl _) fun v12 G5 t5 d12 => ?_
      obtain ⟨at_, rfl⟩ := d12
      have t15 := t14.trans t5
      refine q_asg (δ := dS 1 1) (inn (j := 2) rfl rfl t15 ed_int (by decide)) (Same.refl _) fun v13 G6 t6 d13 => ?_
      have t16 := t15.trans t6
      refine q_cut (fun σ' G7 => ∃ v13, σ' = [some (.int cell), some (.int (3 : Nat)), some v2, some (.str smallS), some (.str innerS), some v5, some (.ref l), some (.int (a : Nat)), some v8, some (.int wy), v10, some v11, some (.int at_), some v13] ∧ Same G1 G7 ∧ dS 1 1 Hn G7 v13) (fun N2 hN2 => ?_) ?_
      · refine s_if (b := decide (at_ = 0)) (et_test (ed_eqI (ed_var (i := 12) rfl (.int _)) ed_int)) (Same.refl _) (fun hb G7 t7 => ?_) fun hb G7 t7 => hN2 _ _ ⟨v13, rfl, t16.trans t7, d13⟩
        exact s_asg (sma (j := 2) rfl rfl (t16.trans t7) ed_int (by decide)) (Same.refl _) fun v13' G8 t8 d13' => hN2 _ _ ⟨v13', rfl, (t16.trans t7).trans t8, d13'⟩
      · rintro σ' G7 ⟨v13, rfl, t17, d13⟩
        have e13 : EvX (tVar 13) [some (.int cell), some (.int (3 : Nat)), some v2, some (.str smallS), some (.str innerS), some v5, some (.ref l), some (.int (a : Nat)), some v8, some (.int wy), v10, some v11, some (.int at_), some v13] G7 (dS 1 1) := fun G8 e Q q => ⟨v13, rfl, q v13 G8 (Same.refl _) d13⟩
        have nmS : ∀ {σ : L2.St}, σ[6]? = some (some (.ref l)) → σ[7]? = some (some (.int (a : Nat))) → EvX (tOp (rIxL K) (tVar 6) (tOp (rI0 fun i j => .int (i - j)) (tVar 7) (tC (.int 1)))) σ G7 (dS 1 B) := fun h6 h7 => es_str (nget h6 h7 t17) n1 n2
        refine s_asg (es_mono (es_add (es_add (es_sl (nmS rfl rfl) eo_none (eo_some (ed_var (i := 12) rfl (.int _))) (by omega)) e13 (by omega)) (es_sl (nmS rfl rfl) (eo_some (ed_op0 (ed_var (i := 12) rfl (.int _)) ed_int)) eo_none (by omega)) (by omega)) (show 1 ≤ 0 + 1 + 0 by omega) (show B + 1 + B ≤ 2 * B + 1 by omega)) (Same.refl _) fun v11' G8 t8 d11' => hN _ _ ⟨v11', _, _, rfl, t17.trans t8, d11'⟩
    rintro σ' G4 ⟨v11, v12, v13, rfl, t4, d11⟩
    -- if way == 2 and k > 0
    refine q_cut (fun σ' G4 => ∃ v11 v12 v13, σ' = [some (.int cell), some (.int (3 : Nat)), some v2, some (.str smallS), some (.str innerS), some v5, some (.ref l), some (.int (a : Nat)), some v8, some (.int wy), v10, some v11, v12, v13] ∧ Same G1 G4 ∧ dS 1 (2 * B + 1) Hn G4 v11) (fun N hN => ?_) ?_
    · refine s_if (b := decide (wy = 2) && decide (0 < a)) (et_and (et_test (ed_eqI (ed_var (i := 9) rfl (.int _)) ed_int)) fun _ => et_test (dB_to (ed_cmp (ed_var (i := 7) rfl (.int _)) ed_int) (by simp))) (Same.refl _) (fun hb G5 t5 => ?_) fun hb G5 t5 => hN _ _ ⟨v11, v12, v13, rfl, t4.trans t5, d11⟩
      have hap : 0 < a := by simpa using (Bool.and_eq_true_iff.mp hb).2
      obtain ⟨n1, n2⟩ := nmb hap
      have t15 := t4.trans t5
      exact s_asg (es_mono (es_add (es_str (nget rfl rfl t15 hap) n1 n2) (inn (j := 1) rfl rfl t15 ed_int (by decide)) (by omega)) (show 1 ≤ 1 + 1 by omega) (show B + 1 ≤ 2 * B + 1 by omega)) (Same.refl _) fun v11' G8 t8 d11' => hN _ _ ⟨v11', _, _, rfl, t15.trans t8, d11'⟩
    rintro σ' G5 ⟨v11, v12, v13, rfl, t5, d11⟩
    -- if way == 2 and k == 0
    refine q_cut (fun σ' G4 => ∃ v11 v12 v13, σ' = [some (.int cell), some (.int (3 : Nat)), some v2, some (.str smallS), some (.str innerS), some v5, some (.ref l), some (.int (a : Nat)), some v8, some (.int wy), v10, some v11, v12, v13] ∧ Same G1 G4 ∧ dS 1 (2 * B + 1) Hn G4 v11) (fun N hN => ?_) ?_
    · refine s_if (b := decide (wy = 2) && decide ((a : Int) = 0)) (et_and (et_test (ed_eqI (ed_var (i := 9) rfl (.int _)) ed_int)) fun _ => et_test (ed_eqI (ed_var (i := 7) rfl (.int _)) ed_int)) (Same.refl _) (fun hb G6 t6 => ?_) fun hb G6 t6 => hN _ _ ⟨v11, v12, v13, rfl, t5.trans t6, d11⟩
      have t16 := t5.trans t6
      have hlt : rs.getD 1 0 % 9 < wordsL.length := Nat.mod_lt _ (by decide)
      have wl := words_len _ (List.getElem_mem hlt)
      refine s_asg (es_mono (es_add (es_str (s := wordsL[rs.getD 1 0 % 9]) (ed_ixL (ds := wordsL.map .str) (i := ((rs.getD 1 0 % 9 : Nat) : Int)) (el_var (i := 2) rfl (lL d2 (sHG1.trans t16))) (dI_to (ed_opC (ed_intI (rget (j := 1) rfl t16 ed_int (by decide))) ed_int (by decide)) (by omega)) (atI_nat (by rw [List.getElem?_map, List.getElem?_eq_getElem hlt]; rfl))) wl.1 wl.2) (inn (j := 2) rfl rfl t16 ed_int (by decide)) (by omega)) (show 1 ≤ 1 + 1 by omega) (show 9 + 1 ≤ 2 * B + 1 by omega)) (Same.refl _) fun v11' G8 t8 d11' => hN _ _ ⟨v11', _, _, rfl, t16.trans t8, d11'⟩
    rintro σ' G6 ⟨v11, v12, v13, rfl, t6, nm, rfl, m1, m2⟩
    have sH6 := sHG1.trans t6
    -- the names differ
    refine q_for (as := List.range 4) (ei_range1 (n := 4) (dI_to (ed_op0 (ed_var (i := 1) rfl (.int _)) ed_int) (by decide)) (by decide)) (Same.refl _) fun G7 t7 => ?_
    refine ⟨fun j σ' G8 => ∃ v10 x, σ' = [some (.int cell), some (.int (3 : Nat)), some v2, some (.str smallS), some (.str innerS), some v5, some (.ref l), some (.int (a : Nat)), some v8, some (.int wy), v10, some (.str x), v12, v13] ∧ Same G7 G8 ∧ NmAt nms nm j x,
      ⟨v10, nm, rfl, Same.refl _, .start _ _⟩, fun j σ' G8 _ ⟨_, _, _, s', _⟩ => kp_same t7 s', ?_, ?_⟩
    · rintro j b y σ' G8 G9 hj ⟨v10, x, rfl, s', hx⟩ sG dy
      have t19 := t6.trans (t7.trans (s'.trans sG))
      have hln := hx.len
      refine s_if (b := decide (x ∈ nms) || decide (x ∈ wordsL)) (et_or (et_test (ed_inL (ed_var (i := 11) rfl (.str _)) (el_var (i := 6) rfl ⟨l, zs, rfl, SqL.of (t19 _ _ hl1'), rz1.up t19⟩))) fun _ => et_test (ed_inL (ed_var (i := 11) rfl (.str _)) (el_var (i := 2) rfl (lL d2 (sHG1.trans t19))))) (Same.refl _) (fun hb G10 t10 => ?_) fun hb G10 t10 => ?_
      · have hin' : x ∈ nms ∨ x ∈ wordsL := by simpa using hb
        have hj4 := (range_get hj).2
        have hj5 := (range_get hj).1
        refine s_asg (δ := dD (.str (x ++ us))) (ed_addS (ed_var (i := 11) rfl (.str _)) ed_str (small_line ?_)) (Same.refl _) fun v11 G11 t11 d11 => ?_
        · have e : us.length = 1 := by decide +kernel
          show x.length + us.length ≤ _
          rw [e]; omega
        · cases Dt.str_inv d11
          exact ⟨_, _, rfl, (s'.trans sG).trans (t10.trans t11), hx.yes hin'⟩
      · have hin' : ¬ (x ∈ nms ∨ x ∈ wordsL) := by simpa using hb
        exact ⟨_, _, rfl, (s'.trans sG).trans t10, hx.no hin'⟩
    · rintro σ' G8 ⟨v10, x, rfl, s', hx⟩
      have hx : NmAt nms nm 4 x := hx
      have hln := hx.len
      have hout := hx.out (by omega)
      have t18 := t6.trans (t7.trans s')
      have hl8 := t18 _ _ hl1'
      refine s_append (j := 6) (δ := dD (.str x)) rfl hl8 (ed_var (i := 11) rfl (.str _)) (Same.refl _) (small_lt (by rw [rz1.length, List.length_map]; omega)) fun v G9 t9 dv => ?_
      have t19 := t1.trans (t18.trans t9)
      have hl9 := t19 _ _ hlG
      have tk := tk_lst (o := .lst (zs ++ [v])) hl9
      refine ⟨_, _, _, _, _, _, _, zs ++ [v], nms ++ [x], rfl, (kp'.up t19).write hl0 (by rw [hl1]; intro z; cases z) hl9, upd_same, ?_, ?_, ?_, ?_⟩
      · rw [List.map_append]
        exact (rzG.mono ((tk_same t19).trans tk)).append (.cons (Dt.mono tk dv) .nil)
      · rw [List.length_append, nlen]; rfl
      · rw [List.nodup_append]
        refine ⟨nnd, by simp, fun p hp q hq e => ?_⟩
        rw [List.mem_singleton] at hq
        subst hq
        subst e
        exact hout hp
      · intro z hz
        rw [hB']
        rcases List.mem_append.mp hz with h | h
        · have := nb z h
          omega
        · rw [List.mem_singleton] at h
          subst h
          omega
  · rintro σ' G ⟨v7, v8, v9, v10, v11, v12, v13, zs, nms, rfl, kp, hl, rz, hok⟩
    refine s_ret (ev_var (i := 6) rfl) (Same.refl _) fun v G2 t2 d => ?_
    cases d
    exact hq _ _ (sH4.trans (kp.1.trans t2)) ⟨nms, hok, l, zs, rfl, sH4.free hl0, t2 _ _ hl, rz.up t2⟩
end
end D18
set_option Elab.async false
set_option linter.all false
set_option maxRecDepth 100000
set_option maxHeartbeats 8000000
/-! PgG: _law_relations, _law_atom. -/
namespace D18
open PySem L2
theorem dE_mo {α : Type} {Pr : α → Prop} {f : α → De} (h : ∀ a, Mo (f a)) : Mo (dE Pr f) := ⟨fun ⟨a, p, q⟩ s g => ⟨a, p, (h a).mo q s g⟩⟩
/-- names, in a list that is read -/
def dNsL (K : PySem.W.Frag) : De := dE (okNs 3) (fun ns => dL K (ns.map .str))
instance {K : PySem.W.Frag} : Mo (dNsL K) := dE_mo fun _ => inferInstance
/-- relations -/
def dRs : De := dE GoodRs (fun rels => dM (rels.map encR))
instance : Sta dRs := inferInstanceAs (Sta (dE _ _))
abbrev Shp := Nat × Nat × Bool
def encSh (s : Shp) : PyData := .tuple [nI s.1, nI s.2.1, .bool s.2.2]
def shapesL : List Shp := [(2, 2, true), (1, 2, false), (2, 2, false), (3, 2, true), (1, 3, true), (2, 3, true), (3, 2, false), (2, 1, false), (2, 3, false), (1, 1, false)]
theorem shapes_ok : ∀ s ∈ shapesL, 1 ≤ s.1 ∧ s.1 ≤ 3 ∧ 1 ≤ s.2.1 ∧ s.2.1 ≤ 3 := by decide
def howL : List Nat := [1, 2, 1, 3, 1, 0, 2, 1]
theorem how_ok : ∀ n ∈ howL, n ≤ 3 := by decide
section
variable {σ : L2.St} {H : Hp}
theorem ed_shp {a b : Nat} {c : Bool} : EvX (tTup (tCons (tC (.int (a : Nat))) (tCons (tC (.int (b : Nat))) (tCons (tC (.bl c)) tNil)))) σ H (dD (encSh (a, b, c))) := ed_tup (ds := [nI a, nI b, .bool c]) (ea_cons ed_int (ea_cons ed_int (ea_cons ed_bl ea_nil))) (small_line (by simp))
end
section
variable {σ : L2.St} {H : Hp} {ta tb : TE}
theorem ed_modN {i j : Nat} (ha : EvX ta σ H (dD (nI i))) (hb : EvX tb σ H (dD (nI j))) (h : 0 < j) : EvX (tOp (rI (fun _ j => 0 < j) fun i j => .int (i % j)) ta tb) σ H (dD (nI (i % j))) := dI_to (ed_opC ha hb (show (0 : Int) < (j : Int) by omega)) (by rw [Int.natCast_emod])
theorem ed_divN {i j : Nat} (ha : EvX ta σ H (dD (nI i))) (hb : EvX tb σ H (dD (nI j))) (h : 0 < j) (h2 : j < 10000000000000000) : EvX (tOp (rI CDivW fun i j => .int (i / j)) ta tb) σ H (dD (nI (i / j))) := dI_to (ed_opC ha hb (cdiv_s (by omega) (by omega))) (by rw [Int.natCast_ediv])
end
section
variable {P : Program} {w : World} {K : PySem.W.Frag} {mg : Str → Option Value} {base : Heap}
abbrev sLrels : Stmt := topS 39
def spLrels (K : PySem.W.Frag) : Sp := spOf (R := Unit) (fun _ => [dInt, dNsL K]) (fun _ _ => True) (fun _ => dRs)
theorem scLrels : FnScope ["_law_cell_here", "_law_names_here", "_law_digits_here", "_law_shapes", "_law_relations_here", "_law_k", "_law_shape"] ["_law_cell_here", "_law_names_here"] (defScope sLrels) := ⟨rfl, rfl, rfl, by decide +kernel, rfl, by decide +kernel, by decide +kernel⟩
theorem ok_Lrels {f : Addr} {fd : FuncData} (Fn : Fun K "_law_relations" "_law_relations" sLrels f fd) (T : Txt K mg) (h_Ldigits : Dl P w K mg base "_law_digits" 1 ["_law_cell_here", "_law_many", "_law_count_here"] spLdigits) : FnOk P w K mg base CX0 2 f fd ["_law_cell_here", "_law_names_here"] (spLrels K) := by
  have nd := scLrels.nd
  refine okD Fn scLrels (fun _ => rfl) fun cdv A outer s H E hr => ⟨_, (pss_cons (ps_set (i := 2) nd rfl (by first | exact Or.inl rfl | exact Or.inr rfl) (pe_dl h_Ldigits (hr.mono (by omega)) rfl (pa_cons (pv 0) (pa_cons pe_int (pa_cons pe_int pa_nil)))))
    (pss_cons (ps_set (i := 3) nd rfl (by first | exact Or.inl rfl | exact Or.inr rfl) (pe_lst (pa_cons (pe_tup (pa_cons pe_int (pa_cons pe_int (pa_cons pe_bl pa_nil)))) (pa_cons (pe_tup (pa_cons pe_int (pa_cons pe_int (pa_cons pe_bl pa_nil)))) (pa_cons (pe_tup (pa_cons pe_int (pa_cons pe_int (pa_cons pe_bl pa_nil)))) (pa_cons (pe_tup (pa_cons pe_int (pa_cons pe_int (pa_cons pe_bl pa_nil)))) (pa_cons (pe_tup (pa_cons pe_int (pa_cons pe_int (pa_cons pe_bl pa_nil)))) (pa_cons (pe_tup (pa_cons pe_int (pa_cons pe_int (pa_cons pe_bl pa_nil)))) (pa_cons (pe_tup (pa_cons pe_int (pa_cons pe_int (pa_cons pe_bl pa_nil)))) pa_nil)))))))))
    (pss_cons (ps_expr (pe_bmK (K := K) PySem.F.plainAttrs_list PySem.F.slot_list_extend PySem.F.type_list_extend mt_extend (pv 3) (pa_cons (pe_lst (pa_cons (pe_tup (pa_cons pe_int (pa_cons pe_int (pa_cons pe_bl pa_nil)))) (pa_cons (pe_tup (pa_cons pe_int (pa_cons pe_int (pa_cons pe_bl pa_nil)))) (pa_cons (pe_tup (pa_cons pe_int (pa_cons pe_int (pa_cons pe_bl pa_nil)))) pa_nil)))) pa_nil)))
    (pss_cons (ps_set (i := 4) nd rfl (by first | exact Or.inl rfl | exact Or.inr rfl) (pe_lst pa_nil))
    (pss_cons (ps_for PassesOwn.never rfl (pi_range1 rfl T.range (pa_cons (pe_ix (ix_listK (K := K)) (pe_lst (pa_cons pe_int (pa_cons pe_int (pa_cons pe_int (pa_cons pe_int (pa_cons pe_int (pa_cons pe_int (pa_cons pe_int (pa_cons pe_int pa_nil))))))))) (pe_op op_mod (pe_callTy call_int1K (by rfl) T.int (by decide +kernel) (pa_cons (pe_ix (ix_listK (K := K)) (pv 2) pe_int (fun _ _ => rfl)) pa_nil)) pe_int) (fun _ _ => rfl)) pa_nil)) (pg_name (i := 5) nd rfl (by first | exact Or.inl rfl | exact Or.inr rfl))
      (pss_cons (ps_set (i := 6) nd rfl (by first | exact Or.inl rfl | exact Or.inr rfl) (pe_ix (ix_listK (K := K)) (pv 3) (pe_op op_mod (pe_callTy call_int1K (by rfl) T.int (by decide +kernel) (pa_cons (pe_ix (ix_listK (K := K)) (pv 2) (pe_op op_add pe_int (pv 5)) (fun _ _ => rfl)) pa_nil)) pe_int) (fun _ _ => rfl)))
    (pss_one (ps_expr (pe_bmK (K := K) PySem.F.plainAttrs_list PySem.F.slot_list_append PySem.F.type_list_append mt_append (pv 4) (pa_cons (pe_tup (pa_cons (pe_ix (ix_listK (K := K)) (pv 1) (pv 5) (fun _ _ => rfl)) (pa_cons (pe_ix (ix_tupK (K := K)) (pv 6) pe_int (fun _ _ => rfl)) (pa_cons (pe_ix (ix_tupK (K := K)) (pv 6) pe_int (fun _ _ => rfl)) (pa_cons (pe_ix (ix_tupK (K := K)) (pv 6) pe_int (fun _ _ => rfl)) pa_nil))))) pa_nil))))))
    (pss_one (ps_ret (pv 4)))))))), ?_⟩
  rintro ⟨⟩ vs D ha - hq -
  obtain ⟨v0, v1, rfl, d0, d1⟩ := all2_2 ha
  obtain ⟨ns, ⟨nlen, nnd, nb⟩, d1⟩ := d1
  have d1 : dL K (ns.map .str) Hn H v1 := d1
  have e0 : EvX (tVar 0) (start ["_law_cell_here", "_law_names_here", "_law_digits_here", "_law_shapes", "_law_relations_here", "_law_k", "_law_shape"] [v0, v1]) H dInt := fun H1 e Q q => ⟨v0, rfl, q v0 H1 (Same.refl _) d0⟩
  refine q_asg (δ := dDs 5040 4) (ev_call (5040, 4) (ea_cons e0 (ea_cons ed_int (ea_cons ed_int ea_nil))) fun _ _ => ⟨by decide, by decide, by decide⟩) (Same.refl _) fun v2 H1 s1 d2 => ?_
  obtain ⟨ds, ⟨dlen, dlt⟩, d2⟩ := d2
  have d2 : dL K (ds.map nI) Hn H1 v2 := toHn (mL d2 (Same.refl _))
  refine q_asg (δ := dM ((shapesL.take 7).map encSh)) (em_lst (ds := (shapesL.take 7).map encSh) (ea_cons ed_shp (ea_cons ed_shp (ea_cons ed_shp (ea_cons ed_shp (ea_cons ed_shp (ea_cons ed_shp (ea_cons ed_shp ea_nil))))))) (by decide)) (Same.refl _) fun v3 H2 s2 d3 => ?_
  obtain ⟨q3, z3, rfl, hq30, hq31, r3⟩ := d3
  refine q_extend (j := 3) (ds := (shapesL.drop 7).map encSh) rfl hq31 (em_lst (ds := (shapesL.drop 7).map encSh) (ea_cons ed_shp (ea_cons ed_shp (ea_cons ed_shp ea_nil))) (by decide)) (Same.refl _) (small_line (by rw [r3.length]; decide)) fun ys H3 s3 dys => ?_
  have s13 : Same H1 (upd H3 q3 (.lst (z3 ++ ys))) := same_mut (s2.trans s3) hq30
  have d3 : dL K (shapesL.map encSh) Hn (upd H3 q3 (.lst (z3 ++ ys))) (.ref q3) := by
    refine ⟨q3, z3 ++ ys, rfl, SqL.of upd_same, ?_⟩
    have tk := tk_lst (o := .lst (z3 ++ ys)) (s3 _ _ hq31)
    exact ((r3.mono ((tk_same s3).trans tk)).append (dys.mono tk) : Dts _ _ (((shapesL.take 7).map encSh) ++ ((shapesL.drop 7).map encSh)))
  generalize upd H3 q3 (.lst (z3 ++ ys)) = H4 at s13 d3 ⊢
  refine q_asg (δ := dM []) (em_lst (ds := []) ea_nil (Nat.zero_le _)) (Same.refl _) fun v4 H5 s5 d4 => ?_
  obtain ⟨l, zs, rfl, hl0, hl1, rz⟩ := d4
  cases rz
  have hd0 : 0 < ds.length := by omega
  have how : ds.getD 0 0 % 8 < howL.length := Nat.mod_lt _ (by decide)
  have hle := how_ok _ (List.getElem_mem how)
  generalize hn : howL[ds.getD 0 0 % 8] = n at hle
  have sH4 := s1.trans s13
  refine q_for (as := List.range n) (H0 := H4) (ei_range1 (n := n) (ed_ixL (ds := howL.map nI) (d := nI n) (i := ((ds.getD 0 0 % 8 : Nat) : Int)) (ev_l (em_lst (ds := howL.map nI) (ea_cons ed_int (ea_cons ed_int (ea_cons ed_int (ea_cons ed_int (ea_cons ed_int (ea_cons ed_int (ea_cons ed_int (ea_cons ed_int ea_nil)))))))) (by decide))) (dI_to (ed_opC (ed_intI (ed_ixL (ds := ds.map nI) (d := nI (ds.getD 0 0)) (el_var (i := 2) rfl (lL d2 s13)) ed_int (atI_natE (j := 0) rfl (by rw [List.getElem?_map, getD_get hd0]; rfl)))) ed_int (by decide)) (by omega)) (atI_nat (by rw [List.getElem?_map, List.getElem?_eq_getElem how, hn]; rfl))) (by omega)) s5 fun H6 s6 => ?_
  refine ⟨fun i σ' G => ∃ v5 v6 zs rels, σ' = [some v0, some v1, some v2, some (.ref q3), some (.ref l), v5, v6] ∧ Kp H4 H5 H6 G ∧ G l = some (.lst zs) ∧ Dts G zs (rels.map encR) ∧ rels.length = i ∧ (rels.map (·.name)) = ns.take i ∧ ∀ r ∈ rels, GoodR r,
    ⟨none, none, [], [], rfl, kp_same (s5.trans s6) (Same.refl _), s6 _ _ hl1, .nil, rfl, by simp, fun r h => by cases h⟩, fun i σ' G _ ⟨_, _, _, _, _, k, _⟩ => k, ?_, ?_⟩
  · rintro i a x σ' G0 G hi ⟨v5, v6, zs, rels, rfl, kp, hl, rz, rlen, rnm, rg⟩ sy dx
    obtain ⟨rfl, hin⟩ := range_get hi
    have kp' := kp.up sy
    have sG := kp'.1
    have dx : Dt G x (nI a) := dx
    have hj : 1 + a < ds.length := by omega
    have hs : ds.getD (1 + a) 0 % 10 < shapesL.length := Nat.mod_lt _ (by decide)
    have hok := shapes_ok _ (List.getElem_mem hs)
    generalize hsh : shapesL[ds.getD (1 + a) 0 % 10] = sh at hok
    refine q_asg (δ := dD (encSh sh)) (ed_ixL (ds := shapesL.map encSh) (d := encSh sh) (i := ((ds.getD (1 + a) 0 % 10 : Nat) : Int)) (el_var (i := 3) rfl (lL d3 sG)) (dI_to (ed_opC (ed_intI (ed_ixL (ds := ds.map nI) (d := nI (ds.getD (1 + a) 0)) (i := ((1 + a : Nat) : Int)) (el_var (i := 2) rfl (lL d2 (s13.trans sG))) (dI_to (ed_op0 ed_int (ed_var (i := 5) rfl dx)) (by omega)) (atI_nat (by rw [List.getElem?_map, getD_get hj]; rfl)))) ed_int (by decide)) (by omega)) (atI_nat (by rw [List.getElem?_map, List.getElem?_eq_getElem hs, hsh]; rfl))) (Same.refl _) fun v6' G1 t1 d6 => ?_
    have d6 : Dt G1 v6' (.tuple [nI sh.1, nI sh.2.1, .bool sh.2.2]) := d6
    have hlG1 := t1 _ _ (sy _ _ hl)
    have hna : a < ns.length := by omega
    refine s_append (j := 4) (δ := dD (encR ⟨ns[a], sh.1, sh.2.1, sh.2.2⟩)) rfl hlG1 (ed_tup (ds := [.str ns[a], nI sh.1, nI sh.2.1, .bool sh.2.2]) (ea_cons (ed_ixL (ds := ns.map .str) (el_var (i := 1) rfl (lL d1 ((sH4.trans sG).trans t1))) (ed_var (i := 5) rfl (dx.up t1)) (atI_nat (by rw [List.getElem?_map, List.getElem?_eq_getElem hna]; rfl))) (ea_cons (ed_ixT (d := nI sh.1) (ed_var (i := 6) rfl d6) ed_int rfl) (ea_cons (ed_ixT (d := nI sh.2.1) (ed_var (i := 6) rfl d6) ed_int rfl) (ea_cons (ed_ixT (d := .bool sh.2.2) (ed_var (i := 6) rfl d6) ed_int rfl) ea_nil)))) (small_line (by simp))) (Same.refl _) (small_lt (by rw [rz.length, List.length_map]; omega)) fun v G2 t2 dv => ?_
    have t12 := sy.trans (t1.trans t2)
    have hl2 := t12 _ _ hl
    have tk := tk_lst (o := .lst (zs ++ [v])) hl2
    refine ⟨_, _, zs ++ [v], rels ++ [⟨ns[a], sh.1, sh.2.1, sh.2.2⟩], rfl, (kp.up t12).write hl0 (by rw [hl1]; intro z; cases z) hl2, upd_same, ?_, ?_, ?_, ?_⟩
    · rw [List.map_append]
      exact (rz.mono ((tk_same t12).trans tk)).append (.cons (Dt.mono tk dv) .nil)
    · rw [List.length_append, rlen]; rfl
    · rw [List.map_append, rnm, take_succ_get (List.getElem?_eq_getElem hna)]; rfl
    · intro r hr'
      rcases List.mem_append.mp hr' with h | h
      · exact rg r h
      · rw [List.mem_singleton] at h
        subst h
        exact ⟨hok.1, hok.2.1, hok.2.2.1, hok.2.2.2⟩
  · rintro σ' G ⟨v5, v6, zs, rels, rfl, kp, hl, rz, rlen, rnm, rg⟩
    rw [List.length_range] at rlen rnm
    refine s_ret (ev_var (i := 4) rfl) (Same.refl _) fun v G2 t2 d => ?_
    cases d
    exact hq _ _ (sH4.trans (kp.1.trans t2)) ⟨rels, ⟨by omega, rg, by rw [rnm]; exact nnd.sublist (List.take_sublist _ _)⟩, l, zs, rfl, sH4.free hl0, t2 _ _ hl, rz.up t2⟩
/-! ### _law_atom -/
def sizeF : Fm → Nat
  | .tt => 1
  | .ff => 1
  | .is _ _ _ => 1
  | .not f => sizeF f + 1
  | .bin _ f g => sizeF f + sizeF g + 1
theorem sizeF_pos (f : Fm) : 1 ≤ sizeF f := by cases f <;> simp [sizeF]
theorem depth_size : ∀ f : Fm, depthF f ≤ sizeF f
  | .tt => Nat.le_refl _
  | .ff => Nat.le_refl _
  | .is _ _ _ => Nat.le_refl _
  | .not f => by have := depth_size f; show depthF f + 1 ≤ sizeF f + 1; omega
  | .bin _ f g => by
    have h1 := depth_size f
    have h2 := depth_size g
    have p1 := sizeF_pos f
    have p2 := sizeF_pos g
    show max (depthF f) (depthF g) + 1 ≤ sizeF f + sizeF g + 1
    have : max (depthF f) (depthF g) ≤ sizeF f + sizeF g := Nat.max_le.mpr ⟨by omega, by omega⟩
    omega
/-- a good formula of a size -/
def dFm (rels : List Rel) (cnt m : Nat) : De := dE (fun f : Fm => GoodF rels cnt f ∧ sizeF f ≤ m) (fun f => dD (encF f))
instance {rels : List Rel} {cnt m : Nat} : Tks (dFm rels cnt m) := ⟨fun ⟨f, h, d⟩ t => ⟨f, h, Dt.mono t d⟩⟩
structure AT where
  d : Nat
  cnt : Nat
  rels : List Rel
structure AT.Ok (x : AT) : Prop where
  g : GoodRs x.rels
  c4 : x.cnt ≤ 4
abbrev sLatom : Stmt := topS 45
def spLatom (K : PySem.W.Frag) : Sp := spOf (R := AT) (fun x => [dD (nI x.d), dD (nI x.cnt), dL K (x.rels.map encR)]) (fun x _ => x.Ok) (fun x => dFm x.rels x.cnt 1)
theorem scLatom : FnScope ["_law_digit", "_law_count_here", "_law_relations_here", "_law_relation", "_law_fitting", "_law_rest", "_law_variables", "_law_chosen", "_law_k", "_law_at"] ["_law_digit", "_law_count_here", "_law_relations_here"] (defScope sLatom) := ⟨rfl, rfl, rfl, by decide +kernel, rfl, by decide +kernel, by decide +kernel⟩
theorem erase_map {α β : Type} (f : α → β) (l : List α) (i : Nat) : (l.map f).eraseIdx i = (l.eraseIdx i).map f := by
  rw [List.eraseIdx_eq_take_drop_succ, List.eraseIdx_eq_take_drop_succ, List.map_append, List.map_take, List.map_drop]
theorem erase_split (vs : List Nat) (k : Nat) (h : k < vs.length) : (vs.eraseIdx k ++ [vs[k]]).Perm vs := by
  have e : vs.take k ++ vs[k] :: vs.drop (k + 1) = vs := by rw [← List.drop_eq_getElem_cons h, List.take_append_drop]
  rw [List.eraseIdx_eq_take_drop_succ]
  have p : (vs.take k ++ vs.drop (k + 1) ++ [vs[k]]).Perm (vs.take k ++ vs[k] :: vs.drop (k + 1)) := by
    rw [List.append_assoc]
    exact List.Perm.append_left _ (List.perm_append_singleton _ _)
  exact p.trans (List.Perm.of_eq e)
theorem ok_Latom {f : Addr} {fd : FuncData} (Fn : Fun K "_law_atom" "_law_atom" sLatom f fd) (T : Txt K mg) : FnOk P w K mg base CX0 1 f fd ["_law_digit", "_law_count_here", "_law_relations_here"] (spLatom K) := by
  have nd := scLatom.nd
  refine okD Fn scLatom (fun _ => rfl) fun cdv A outer s H E hr => ⟨_, (pss_cons (ps_setLc (i := 4) (own := [("_law_relation", 3)]) rfl nd rfl rfl (sw_true rfl rfl rfl (by decide +kernel)) (pi_listK (K := K) (pv 2)) (blkOk_by (by kernel_rfl)) (fun _ _ _ _ _ => (pg_name (i := 3) nd rfl (by first | exact Or.inl rfl | exact Or.inr rfl))) (fun _ _ _ _ _ => (pts_one (pt_cmpR op_le (pe_ix (ix_tupK (K := K)) (pv 3) pe_int (fun _ _ => rfl)) (pv 1) (nomark _)))) (fun _ _ _ _ _ => (pv 3)))
    (pss_cons (ps_if (pt_cmpR op_eq (pe_callB (call_lenK (K := K)) (by rfl) T.len PySem.boot_len (pa_cons (pv 4) pa_nil)) pe_int (nomark _)) (pss_one (ps_ret (pe_tup (pa_cons pe_str pa_nil)))) pss_nil)
    (pss_cons (ps_set (i := 3) nd rfl (by first | exact Or.inl rfl | exact Or.inr rfl) (pe_ix (ix_listK (K := K)) (pv 4) (pe_op op_mod (pe_callTy call_int1K (by rfl) T.int (by decide +kernel) (pa_cons (pv 0) pa_nil)) (pe_callB (call_lenK (K := K)) (by rfl) T.len PySem.boot_len (pa_cons (pv 4) pa_nil))) (fun _ _ => rfl)))
    (pss_cons (ps_set (i := 5) nd rfl (by first | exact Or.inl rfl | exact Or.inr rfl) (pe_op op_fdivW (pe_callTy call_int1K (by rfl) T.int (by decide +kernel) (pa_cons (pv 0) pa_nil)) (pe_callB (call_lenK (K := K)) (by rfl) T.len PySem.boot_len (pa_cons (pv 4) pa_nil))))
    (pss_cons (ps_set (i := 6) nd rfl (by first | exact Or.inl rfl | exact Or.inr rfl) (pe_listRg rfl rfl T.list (prg_1 rfl T.range (pv 1))))
    (pss_cons (ps_set (i := 7) nd rfl (by first | exact Or.inl rfl | exact Or.inr rfl) (pe_lst pa_nil))
    (pss_cons (ps_for PassesOwn.never rfl (pi_range1 rfl T.range (pa_cons (pe_ix (ix_tupK (K := K)) (pv 3) pe_int (fun _ _ => rfl)) pa_nil)) (pg_name (i := 8) nd rfl (by first | exact Or.inl rfl | exact Or.inr rfl))
      (pss_cons (ps_set (i := 9) nd rfl (by first | exact Or.inl rfl | exact Or.inr rfl) (pe_op op_mod (pe_callTy call_int1K (by rfl) T.int (by decide +kernel) (pa_cons (pv 5) pa_nil)) (pe_callB (call_lenK (K := K)) (by rfl) T.len PySem.boot_len (pa_cons (pv 6) pa_nil))))
    (pss_cons (ps_set (i := 5) nd rfl (by first | exact Or.inl rfl | exact Or.inr rfl) (pe_op op_fdivW (pv 5) (pe_callB (call_lenK (K := K)) (by rfl) T.len PySem.boot_len (pa_cons (pv 6) pa_nil))))
    (pss_one (ps_expr (pe_bmK (K := K) PySem.F.plainAttrs_list PySem.F.slot_list_append PySem.F.type_list_append mt_append (pv 7) (pa_cons (pe_bmK (K := K) PySem.F.plainAttrs_list PySem.F.slot_list_pop PySem.F.type_list_pop mt_popAt (pv 6) (pa_cons (pv 9) pa_nil)) pa_nil)))))))
    (pss_cons (ps_if (pt_cmpR op_gt (pe_op op_mod (pe_callTy call_int1K (by rfl) T.int (by decide +kernel) (pa_cons (pv 5) pa_nil)) pe_int) pe_int (nomark _)) (pss_one (ps_ret (pe_tup (pa_cons pe_str (pa_cons (pe_ix (ix_tupK (K := K)) (pv 3) pe_int (fun _ _ => rfl)) (pa_cons (pe_callTy (call_tupleK (K := K)) (by rfl) T.tuple (by decide +kernel) (pa_cons (pv 7) pa_nil)) (pa_cons (pe_op op_mod (pe_callTy call_int1K (by rfl) T.int (by decide +kernel) (pa_cons (pe_op op_fdivW (pv 5) pe_int) pa_nil)) (pe_ix (ix_tupK (K := K)) (pv 3) pe_int (fun _ _ => rfl))) pa_nil))))))) pss_nil)
    (pss_one (ps_ret (pe_tup (pa_cons pe_str (pa_cons (pe_ix (ix_tupK (K := K)) (pv 3) pe_int (fun _ _ => rfl)) (pa_cons (pe_callTy (call_tupleK (K := K)) (by rfl) T.tuple (by decide +kernel) (pa_cons (pv 7) pa_nil)) (pa_cons (pe_op op_mod (pe_callTy call_int1K (by rfl) T.int (by decide +kernel) (pa_cons (pe_op op_fdivW (pv 5) pe_int) pa_nil)) (pe_op op_pow pe_int pe_int)) pa_nil))))))))))))))), ?_⟩
  rintro ⟨dg, cnt, rels⟩ vs D ha ⟨hg, hc4⟩ hq -
  have hg : GoodRs rels := hg
  have hc4 : cnt ≤ 4 := hc4
  have few := hg.few
  obtain ⟨v0, v1, v2, rfl, d0, d1, d2⟩ := all2_3 ha
  cases Dt.int_inv d0
  cases Dt.int_inv d1
  have d2 : dL K (rels.map encR) Hn H v2 := d2
  refine q_asg (δ := dM ((rels.filter fun r => decide (r.ar ≤ cnt)).map encR)) (em_lcS (enc := encR) (as := rels) (p := fun r => decide (r.ar ≤ cnt)) (ei_listL (i := 2) rfl (lL d2 (Same.refl _))) (small_line (by omega)) fun r x G hr' sG dx => ⟨et_test (dB_to (ed_cmp (ed_ixT (d := nI r.ar) (ed_var (i := 3) rfl dx) ed_int rfl) (ed_var (i := 1) rfl (.int _))) (by simp)), fun _ => ed_var (i := 3) rfl dx⟩) (Same.refl _) fun v4 H1 s1 d4 => ?_
  have d4 : dL K ((rels.filter fun r => decide (r.ar ≤ cnt)).map encR) Hn H1 v4 := toHn (mL d4 (Same.refl _))
  have flen := List.length_filter_le (fun r : Rel => decide (r.ar ≤ cnt)) rels
  have fmem : ∀ r ∈ rels.filter fun r => decide (r.ar ≤ cnt), r ∈ rels ∧ r.ar ≤ cnt := fun r h => ⟨(List.mem_filter.mp h).1, by simpa using (List.mem_filter.mp h).2⟩
  generalize hfit : (rels.filter fun r => decide (r.ar ≤ cnt)) = fit at d4 flen fmem
  refine q_if (b := decide (fit.length = 0)) (et_test (dB_to (ed_eqI (ed_lenLm (enc := encR) (el_var (i := 4) rfl (lL d4 (Same.refl _)))) ed_int) (dec_nat_eq _ 0))) (Same.refl _) (fun hb H2 s2 => ?_) fun hb H2 s2 => ?_
  · exact s_ret (δ := dD (encF .tt)) (ed_tup (ds := [.str "true"]) (ea_cons ed_str ea_nil) (small_line (by simp))) (Same.refl _) fun v H3 s3 d3 => hq v H3 (s1.trans (s2.trans s3)) ⟨.tt, ⟨True.intro, Nat.le_refl _⟩, d3⟩
  have fpos : 0 < fit.length := Nat.pos_of_ne_zero (of_decide_eq_false hb)
  have d4 := up d4 s2
  have s12 := s1.trans s2
  have hlt : dg % fit.length < fit.length := Nat.mod_lt _ fpos
  obtain ⟨hrm, hra⟩ := fmem _ (List.getElem_mem hlt)
  generalize hR : fit[dg % fit.length] = r at hrm hra
  have gr := hg.good r hrm
  have gr3 := gr.ar3
  have gv1 := gr.v1
  have gv3 := gr.v3
  have lenF : ∀ {σ : L2.St} {G : Hp}, σ[4]? = some (some v4) → Same H2 G → EvX (tCB (rLenQ K) (tCons (tVar 4) tNil)) σ G (dD (nI fit.length)) := fun h s => ed_lenLm (enc := encR) (el_var h (lL d4 s))
  refine q_asg (δ := dD (encR r)) (ed_ixL (ds := fit.map encR) (d := encR r) (i := ((dg % fit.length : Nat) : Int)) (el_var (i := 4) rfl (lL d4 (Same.refl _))) (ed_modN (ed_intI (ed_var (i := 0) rfl (.int _))) (lenF rfl (Same.refl _)) fpos) (atI_nat (by rw [List.getElem?_map, List.getElem?_eq_getElem hlt, hR]; rfl))) (Same.refl _) fun v3 H3 s3 d3 => ?_
  have d3 : Dt H3 v3 (.tuple [.str r.name, nI r.ar, nI r.vals, .bool r.sym]) := d3
  refine q_asg (δ := dD (nI (dg / fit.length))) (ed_divN (ed_intI (ed_var (i := 0) rfl (.int _))) (lenF rfl s3) fpos (by omega)) (Same.refl _) fun v5 H4 s4 d5 => ?_
  cases Dt.int_inv d5
  generalize dg / fit.length = rest0
  have d3 := d3.up s4
  have sH4 := s12.trans (s3.trans s4)
  refine q_asg (δ := dM ((List.range cnt).map nI)) (em_listRg (n := cnt) (ed_var (i := 1) rfl (.int _)) (by omega)) (Same.refl _) fun v6 H5 s5 d6 => ?_
  obtain ⟨a, zs, rfl, ha0, ha1, rz⟩ := d6
  rw [map_nI] at rz
  have ez := rz.ints
  subst ez
  refine q_asg (δ := dM []) (em_lst (ds := []) ea_nil (Nat.zero_le _)) (Same.refl _) fun v7 H6 s6 d7 => ?_
  obtain ⟨b, zs, rfl, hb0, hb1, rz⟩ := d7
  cases rz
  have ha6 := s6 _ _ ha1
  have hab : a ≠ b := fun e => by rw [e, hb0] at ha1; cases ha1
  have hb4 : H4 b = none := s5.free hb0
  refine q_for (as := List.range r.ar) (H0 := H4) (ei_range1 (n := r.ar) (ed_ixT (d := nI r.ar) (ed_var (i := 3) rfl d3) ed_int rfl) (by omega)) (s5.trans s6) fun H7 s7 => ?_
  refine ⟨fun i σ' G => ∃ v8 v9 rest vl cl, σ' = [some (.int dg), some (.int cnt), some v2, some v3, some v4, some (.int (rest : Nat)), some (.ref a), some (.ref b), v8, v9] ∧ Kp H4 H6 H7 G ∧ G a = some (.lst ((vl.map fun n : Nat => (n : Int)).map V.int)) ∧ G b = some (.lst ((cl.map fun n : Nat => (n : Int)).map V.int)) ∧ (vl ++ cl).Perm (List.range cnt) ∧ cl.length = i,
    ⟨none, none, rest0, List.range cnt, [], rfl, kp_same ((s5.trans s6).trans s7) (Same.refl _), s7 _ _ ha6, s7 _ _ hb1, by rw [List.append_nil], rfl⟩, fun i σ' G _ ⟨_, _, _, _, _, _, k, _⟩ => k, ?_, ?_⟩
  · rintro i k x σ' G0 G hi ⟨v8, v9, rest, vl, cl, rfl, kp, hva, hcb, hp, hcl⟩ sy dx
    obtain ⟨rfl, hin⟩ := range_get hi
    have kp' := kp.up sy
    have hvaG := sy _ _ hva
    have hcbG := sy _ _ hcb
    have tot := hp.length_eq
    rw [List.length_append, List.length_range] at tot
    have vpos : 0 < vl.length := by omega
    have lenV : ∀ {σ : L2.St} {G1 : Hp}, σ[6]? = some (some (.ref a)) → Same G G1 → EvX (tCB (rLenQ K) (tCons (tVar 6) tNil)) σ G1 (dD (nI vl.length)) := fun h s => (ed_lenV (ev_var h) (SqL.of (s _ _ hvaG))).to (by rw [List.length_map, List.length_map])
    have hm : rest % vl.length < vl.length := Nat.mod_lt _ vpos
    refine q_asg (δ := dD (nI (rest % vl.length))) (ed_modN (ed_intI (ed_var (i := 5) rfl (.int _))) (lenV rfl (Same.refl _)) vpos) (Same.refl _) fun v9' G1 t1 d9 => ?_
    cases Dt.int_inv d9
    refine q_asg (δ := dD (nI (rest / vl.length))) (ed_divN (ed_var (i := 5) rfl (.int _)) (lenV rfl t1) vpos (by omega)) (Same.refl _) fun v5' G2 t2 d5' => ?_
    cases Dt.int_inv d5'
    generalize hat : rest % vl.length = at_ at hm
    generalize rest / vl.length = rest'
    have t12 := t1.trans t2
    have hva2 := t12 _ _ hvaG
    have hcb2 := t12 _ _ hcbG
    have kp2 := kp'.up t12
    -- chosen.append(variables.pop(at))
    refine ⟨_, rfl, .inl ⟨rfl, _, SqL.of hcb2⟩, _, rfl, .inl ⟨rfl, _, SqL.of hva2⟩, _, rfl, a, _, _, at_, .int (vl[at_] : Nat), rfl, rfl, hva2, by omega, by omega, ?_, ?_, ?_⟩
    · rw [List.length_map, List.length_map, PyProof.Rows.seqIndex_at (by omega) (by omega)]
      rfl
    · rw [List.getElem?_map, List.getElem?_map, List.getElem?_eq_getElem hm]; rfl
    · have hcb3 : (upd G2 a (.lst (((vl.map fun n : Nat => (n : Int)).map V.int).eraseIdx at_))) b = some (.lst ((cl.map fun n : Nat => (n : Int)).map V.int)) := by rw [upd_ne hab.symm]; exact hcb2
      refine ⟨b, _, _, rfl, rfl, hcb3, small_lt (by rw [List.length_map, List.length_map]; omega), ?_⟩
      have k3 := kp2.write (o := .lst (((vl.map fun n : Nat => (n : Int)).map V.int).eraseIdx at_)) ha0 (by rw [ha6]; intro z; cases z) hva2
      refine ⟨_, _, rest', vl.eraseIdx at_, cl ++ [vl[at_]], rfl, k3.write hb4 (by rw [hb1]; intro z; cases z) hcb3, ?_, ?_, ?_, ?_⟩
      · rw [upd_ne hab, upd_same, erase_map, erase_map]
      · rw [upd_same, List.map_append, List.map_append]; rfl
      · have p1 := erase_split vl at_ hm
        have p2 : (vl.eraseIdx at_ ++ (cl ++ [vl[at_]])).Perm (vl.eraseIdx at_ ++ ([vl[at_]] ++ cl)) := List.Perm.append_left _ List.perm_append_comm
        rw [← List.append_assoc (vl.eraseIdx at_) [vl[at_]] cl] at p2
        exact (p2.trans (List.Perm.append_right cl p1)).trans hp
      · rw [List.length_append, hcl]; rfl
  · rintro σ' G ⟨v8, v9, rest, vl, cl, rfl, kp, hva, hcb, hp, hcl⟩
    rw [List.length_range] at hcl
    have sG := kp.1
    have d3 := d3.up sG
    have cnd : cl.Nodup := ((hp.nodup_iff.mpr (range_nodup cnt)).sublist (List.sublist_append_right vl cl))
    have clt : ∀ k ∈ cl, k < cnt := fun k hk => List.mem_range.mp (hp.subset (List.mem_append_right _ hk))
    have good : ∀ val, GoodF rels cnt (.is r.name cl val) := fun val => ⟨⟨r, hrm, rfl, hcl⟩, cnd, clt⟩
    have etup : ∀ {σ : L2.St} {G1 : Hp}, σ[7]? = some (some (.ref b)) → Same G G1 → EvX (tCB (rTupQ K) (tCons (tVar 7) tNil)) σ G1 (dD (encC cl)) := fun h s => (ed_tupleOf (el_var h ⟨b, _, rfl, SqL.of (s _ _ hcb), dts_ints _⟩)).to (by unfold encC; rw [map_nI])
    refine q_if (b := decide (0 < rest % 16)) (et_test (dB_to (ed_cmp (ed_opC (ed_intI (ed_var (i := 5) rfl (.int _))) ed_int (by decide)) ed_int) (decide_eq_decide.mpr (by omega)))) (Same.refl _) (fun hb H8 s8 => ?_) fun hb H8 s8 => ?_
    · exact s_ret (δ := dD (encF (.is r.name cl (rest / 16 % r.vals)))) (ed_tup (ds := [.str "is", .str r.name, encC cl, nI (rest / 16 % r.vals)]) (ea_cons ed_str (ea_cons (ed_ixT (d := .str r.name) (ed_var (i := 3) rfl (d3.up s8)) ed_int rfl) (ea_cons (etup rfl s8) (ea_cons (dI_to (ed_opC (ed_intI (ed_opC (ed_var (i := 5) rfl (.int _)) ed_int (cdiv_s (by decide) (by decide)))) (ed_ixT (d := nI r.vals) (ed_var (i := 3) rfl (d3.up s8)) ed_int rfl) (show (0 : Int) < (r.vals : Int) by omega)) (by rw [Int.natCast_emod, Int.natCast_ediv]; rfl)) ea_nil)))) (small_line (by simp))) (Same.refl _) fun v H9 s9 dv => hq v H9 ((sH4.trans sG).trans (s8.trans s9)) ⟨_, ⟨good _, Nat.le_refl _⟩, dv⟩
    · exact s_ret (δ := dD (encF (.is r.name cl (rest / 16 % 10 ^ 9)))) (ed_tup (ds := [.str "is", .str r.name, encC cl, nI (rest / 16 % 10 ^ 9)]) (ea_cons ed_str (ea_cons (ed_ixT (d := .str r.name) (ed_var (i := 3) rfl (d3.up s8)) ed_int rfl) (ea_cons (etup rfl s8) (ea_cons (dI_to (ed_opC (ed_intI (ed_opC (ed_var (i := 5) rfl (.int _)) ed_int (cdiv_s (by decide) (by decide)))) (ed_opC (g := fun i j => i ^ j.toNat) ed_int ed_int ⟨by decide, by decide, by decide⟩) (by decide)) (by rw [Int.natCast_emod, Int.natCast_ediv]; rfl)) ea_nil)))) (small_line (by simp))) (Same.refl _) fun v H9 s9 dv => hq v H9 ((sH4.trans sG).trans (s8.trans s9)) ⟨_, ⟨good _, Nat.le_refl _⟩, dv⟩
end
end D18
set_option Elab.async false
set_option linter.all false
set_option maxRecDepth 100000
set_option maxHeartbeats 8000000
/-! PgH: _law_formula, _law_sentences. -/
namespace D18
open PySem L2
theorem Dts.snoc_inv {H : Hp} {d : PyData} : ∀ {ds : List PyData} {zs : List V}, Dts H zs (ds ++ [d]) → ∃ ys y, zs = ys ++ [y] ∧ Dts H ys ds ∧ Dt H y d
  | [], _, .cons h .nil => ⟨[], _, rfl, .nil, h⟩
  | _ :: ds, _, .cons h r => by
    obtain ⟨ys, y, rfl, r1, r2⟩ := Dts.snoc_inv (ds := ds) r
    exact ⟨_ :: ys, y, rfl, .cons h r1, r2⟩
theorem pop_last {ys : List V} {y : V} : (ys ++ [y])[(ys ++ [y]).length - 1]? = some y := by
  rw [List.length_append, List.length_singleton, Nat.add_sub_cancel, List.getElem?_append_right (Nat.le_refl _), Nat.sub_self]; rfl
theorem pop_rest {ys : List V} {y : V} : (ys ++ [y]).dropLast = ys := List.dropLast_concat
theorem push_tup {HB HC HD G : Hp} {l p : Addr} {ys items : List V} {ds es : List PyData} (kp : Kp HB HC HD G) (h0 : HB l = none) (h1 : HC l ≠ none) (hl : G l = some (.lst ys)) (hp : G p = none) (dy : Dts G ys ds) (di : Dts G items es) :
    Kp HB HC HD (upd (upd G p (.tup items)) l (.lst (ys ++ [.ref p]))) ∧ (upd (upd G p (.tup items)) l (.lst (ys ++ [.ref p]))) l = some (.lst (ys ++ [.ref p])) ∧ Dts (upd (upd G p (.tup items)) l (.lst (ys ++ [.ref p]))) (ys ++ [.ref p]) (ds ++ [.tuple es]) := by
  have ne : l ≠ p := fun e => by rw [e, hp] at hl; cases hl
  have hl2 : (upd G p (.tup items)) l = some (.lst ys) := by rw [upd_ne ne]; exact hl
  refine ⟨(kp.up (same_new hp)).write h0 h1 hl2, upd_same, ?_⟩
  have tk : TK G (upd (upd G p (.tup items)) l (.lst (ys ++ [.ref p]))) := (tk_new hp).trans (tk_lst hl2)
  exact (dy.mono tk).append (.cons (.tup (by rw [upd_ne ne.symm]; exact upd_same) (di.mono tk)) .nil)
def opsL : List Op4 := [.and, .or, .imp, .same]
theorem sum_app (fs : List Fm) (f : Fm) : ((fs ++ [f]).map sizeF).sum = (fs.map sizeF).sum + sizeF f := by rw [List.map_append, List.sum_append]; simp
theorem len_sum : ∀ fs : List Fm, fs.length ≤ (fs.map sizeF).sum
  | [] => Nat.le_refl 0
  | f :: r => by
    have := len_sum r
    have := sizeF_pos f
    rw [List.map_cons, List.sum_cons, List.length_cons]; omega
/-- the trees -/
structure Trees (rels : List Rel) (cnt m : Nat) (fs : List Fm) : Prop where
  good : ∀ f ∈ fs, GoodF rels cnt f
  size : (fs.map sizeF).sum ≤ m
theorem Trees.push {rels : List Rel} {cnt m k : Nat} {fs : List Fm} {f : Fm} (t : Trees rels cnt m fs) (g : GoodF rels cnt f) (h : sizeF f ≤ k) : Trees rels cnt (m + k) (fs ++ [f]) :=
  ⟨fun x hx => by
    rcases List.mem_append.mp hx with h | h
    · exact t.good x h
    · rw [List.mem_singleton] at h; rw [h]; exact g, by rw [sum_app]; have := t.size; omega⟩
theorem Trees.not {rels : List Rel} {cnt m : Nat} {fs : List Fm} {f : Fm} (t : Trees rels cnt m (fs ++ [f])) : Trees rels cnt (m + 1) (fs ++ [.not f]) := by
  have h := t.size
  rw [sum_app] at h
  refine ⟨fun x hx => ?_, by rw [sum_app]; show _ + (sizeF f + 1) ≤ _; omega⟩
  rcases List.mem_append.mp hx with h | h
  · exact t.good x (List.mem_append_left _ h)
  · rw [List.mem_singleton] at h; rw [h]; exact t.good f (List.mem_append_right _ (List.mem_singleton.mpr rfl))
theorem Trees.bin {rels : List Rel} {cnt m : Nat} {fs : List Fm} {f g : Fm} (o : Op4) (t : Trees rels cnt m (fs ++ [f] ++ [g])) : Trees rels cnt (m + 1) (fs ++ [.bin o f g]) := by
  have h := t.size
  rw [sum_app, sum_app] at h
  refine ⟨fun x hx => ?_, by rw [sum_app]; show _ + (sizeF f + sizeF g + 1) ≤ _; omega⟩
  rcases List.mem_append.mp hx with h | h
  · exact t.good x (List.mem_append_left _ (List.mem_append_left _ h))
  · rw [List.mem_singleton] at h
    rw [h]
    exact ⟨t.good f (List.mem_append_left _ (List.mem_append_right _ (List.mem_singleton.mpr rfl))), t.good g (List.mem_append_right _ (List.mem_singleton.mpr rfl))⟩
theorem last1 {α : Type} {fs : List α} (h : fs ≠ []) : ∃ gs g, fs = gs ++ [g] := ⟨fs.dropLast, fs.getLast h, (List.dropLast_concat_getLast h).symm⟩
theorem last2 {α : Type} {fs : List α} (h : 2 ≤ fs.length) : ∃ gs g k, fs = gs ++ [g] ++ [k] := by
  obtain ⟨gs, k, rfl⟩ := last1 (fs := fs) (fun e => by rw [e] at h; simp at h)
  rw [List.length_append, List.length_singleton] at h
  obtain ⟨hs, g, rfl⟩ := last1 (fs := gs) (fun e => by rw [e] at h; simp at h)
  exact ⟨hs, g, k, rfl⟩
section
variable {K : PySem.W.Frag} {σ : L2.St} {H : Hp} {ta tb : TE}
theorem ed_op4 {i : Nat} (hb : EvX tb σ H (dD (nI i))) (h : i < 4) : ∃ o, EvX (tOp (rIxL K) (tLst (tCons (tC (.str "and")) (tCons (tC (.str "or")) (tCons (tC (.str "implies")) (tCons (tC (.str "same")) tNil))))) tb) σ H (dD (.str (opS o))) := by
  have h' : i < opsL.length := h
  refine ⟨opsL[i], ed_ixL (ds := opsL.map fun o => .str (opS o)) (i := ((i : Nat) : Int)) (ev_l (em_lst (ds := opsL.map fun o => .str (opS o)) (ea_cons ed_str (ea_cons ed_str (ea_cons ed_str (ea_cons ed_str ea_nil)))) (by decide))) hb (atI_nat (by rw [List.getElem?_map, List.getElem?_eq_getElem h']; rfl))⟩
theorem ed_tup2E {α : Type} {x : PyData} {Pr : α → Prop} {enc : α → PyData} (ha : EvX ta σ H (dD x)) (hb : EvX tb σ H (dE Pr (fun a => dD (enc a)))) : EvX (tTup (tCons ta (tCons tb tNil))) σ H (dE Pr (fun a => dD (.tuple [x, enc a]))) := fun H1 e Q q =>
  ha H1 e _ fun u H2 s2 d2 => hb H2 (e.trans s2) _ fun y H3 s3 ⟨a, pa, d3⟩ => by
    refine ⟨small_line (by simp), fun p hp => q _ _ ((s2.trans s3).trans (same_new hp)) ⟨a, pa, .tup upd_same ?_⟩⟩
    exact .cons (Dt.mono (tk_new hp) (Dt.up s3 d2)) (.cons (Dt.mono (tk_new hp) d3) .nil)
end
section
variable {P : Program} {w : World} {K : PySem.W.Frag} {mg : Str → Option Value} {base : Heap}
abbrev sLformula : Stmt := topS 46
def spLformula (K : PySem.W.Frag) : Sp := spOf (R := Nat × List Rel) (fun x => [dInt, dD (nI x.1), dL K (x.2.map encR), dD (nI 6)]) (fun x _ => GoodRs x.2 ∧ x.1 ≤ 4) (fun x => dFm x.2 x.1 12)
theorem scLformula : FnScope ["_law_cell_here", "_law_count_here", "_law_relations_here", "_law_most", "_law_digits_here", "_law_trees", "_law_k", "_law_choice", "_law_rest", "_law_second"] ["_law_cell_here", "_law_count_here", "_law_relations_here", "_law_most"] (defScope sLformula) := ⟨rfl, rfl, rfl, by decide +kernel, rfl, by decide +kernel, by decide +kernel⟩
theorem ok_Lformula {f : Addr} {fd : FuncData} (Fn : Fun K "_law_formula" "_law_formula" sLformula f fd) (T : Txt K mg) (h_Ldigits : Dl P w K mg base "_law_digits" 1 ["_law_cell_here", "_law_many", "_law_count_here"] spLdigits) (h_Latom : Dl P w K mg base "_law_atom" 1 ["_law_digit", "_law_count_here", "_law_relations_here"] (spLatom K)) : FnOk P w K mg base CX0 2 f fd ["_law_cell_here", "_law_count_here", "_law_relations_here", "_law_most"] (spLformula K) := by
  have nd := scLformula.nd
  refine okD Fn scLformula (fun _ => rfl) fun cdv A outer s H E hr => ⟨_, (pss_cons (ps_set (i := 4) nd rfl (by first | exact Or.inl rfl | exact Or.inr rfl) (pe_dl h_Ldigits (hr.mono (by omega)) rfl (pa_cons (pv 0) (pa_cons (pe_op op_mul pe_int (pe_op op_pow pe_int pe_int)) (pa_cons (pe_op op_add (pv 3) pe_int) pa_nil)))))
    (pss_cons (ps_set (i := 5) nd rfl (by first | exact Or.inl rfl | exact Or.inr rfl) (pe_lst pa_nil))
    (pss_cons (ps_for PassesOwn.never rfl (pi_range1 rfl T.range (pa_cons (pe_op op_add pe_int (pe_op op_mod (pe_callTy call_int1K (by rfl) T.int (by decide +kernel) (pa_cons (pe_ix (ix_listK (K := K)) (pv 4) pe_int (fun _ _ => rfl)) pa_nil)) (pv 3))) pa_nil)) (pg_name (i := 6) nd rfl (by first | exact Or.inl rfl | exact Or.inr rfl))
      (pss_cons (ps_set (i := 7) nd rfl (by first | exact Or.inl rfl | exact Or.inr rfl) (pe_op op_mod (pe_callTy call_int1K (by rfl) T.int (by decide +kernel) (pa_cons (pe_ix (ix_listK (K := K)) (pv 4) (pe_op op_add pe_int (pv 6)) (fun _ _ => rfl)) pa_nil)) pe_int))
    (pss_cons (ps_set (i := 8) nd rfl (by first | exact Or.inl rfl | exact Or.inr rfl) (pe_op op_fdivW (pe_callTy call_int1K (by rfl) T.int (by decide +kernel) (pa_cons (pe_ix (ix_listK (K := K)) (pv 4) (pe_op op_add pe_int (pv 6)) (fun _ _ => rfl)) pa_nil)) pe_int))
    (pss_one (ps_if (pt_cmpR op_eq (pv 7) pe_int (nomark _)) (pss_one (ps_expr (pe_bmK (K := K) PySem.F.plainAttrs_list PySem.F.slot_list_append PySem.F.type_list_append mt_append (pv 5) (pa_cons (pe_tup (pa_cons (pe_ix (ix_listK (K := K)) (pe_lst (pa_cons pe_str (pa_cons pe_str pa_nil))) (pe_op op_mod (pe_callTy call_int1K (by rfl) T.int (by decide +kernel) (pa_cons (pv 8) pa_nil)) pe_int) (fun _ _ => rfl)) pa_nil)) pa_nil)))) (pss_one (ps_if (PW.pt (pw_or (pt_cmpR op_lt (pv 7) pe_int (nomark _)) (pw_or (pt_cmpR op_eq (pe_callB (call_lenK (K := K)) (by rfl) T.len PySem.boot_len (pa_cons (pv 5) pa_nil)) pe_int (nomark _)) (pw_or1 (PW.pt (pw_and (pt_cmpR op_gt (pv 7) pe_int (nomark _)) (pw_and1 (pt_cmpR op_eq (pe_callB (call_lenK (K := K)) (by rfl) T.len PySem.boot_len (pa_cons (pv 5) pa_nil)) pe_int (nomark _))))))))) (pss_one (ps_expr (pe_bmK (K := K) PySem.F.plainAttrs_list PySem.F.slot_list_append PySem.F.type_list_append mt_append (pv 5) (pa_cons (pe_dl h_Latom (hr.mono (by omega)) rfl (pa_cons (pv 8) (pa_cons (pv 1) (pa_cons (pv 2) pa_nil)))) pa_nil)))) (pss_one (ps_if (pt_cmpR op_lt (pv 7) pe_int (nomark _)) (pss_one (ps_expr (pe_bmK (K := K) PySem.F.plainAttrs_list PySem.F.slot_list_append PySem.F.type_list_append mt_append (pv 5) (pa_cons (pe_tup (pa_cons pe_str (pa_cons (pe_bm0K (K := K) PySem.F.plainAttrs_list PySem.F.slot_list_pop PySem.F.type_list_pop mt_pop (pv 5)) pa_nil))) pa_nil)))) (pss_cons (ps_set (i := 9) nd rfl (by first | exact Or.inl rfl | exact Or.inr rfl) (pe_bm0K (K := K) PySem.F.plainAttrs_list PySem.F.slot_list_pop PySem.F.type_list_pop mt_pop (pv 5)))
    (pss_one (ps_expr (pe_bmK (K := K) PySem.F.plainAttrs_list PySem.F.slot_list_append PySem.F.type_list_append mt_append (pv 5) (pa_cons (pe_tup (pa_cons (pe_ix (ix_listK (K := K)) (pe_lst (pa_cons pe_str (pa_cons pe_str (pa_cons pe_str (pa_cons pe_str pa_nil))))) (pe_op op_sub (pv 7) pe_int) (fun _ _ => rfl)) (pa_cons (pe_bm0K (K := K) PySem.F.plainAttrs_list PySem.F.slot_list_pop PySem.F.type_list_pop mt_pop (pv 5)) (pa_cons (pv 9) pa_nil)))) pa_nil))))))))))))))
    (pss_cons (ps_set (i := 8) nd rfl (by first | exact Or.inl rfl | exact Or.inr rfl) (pe_op op_fdivW (pe_callTy call_int1K (by rfl) T.int (by decide +kernel) (pa_cons (pe_ix (ix_listK (K := K)) (pv 4) pe_int (fun _ _ => rfl)) pa_nil)) (pv 3)))
    (pss_cons (ps_for PassesOwn.never rfl (pi_range1 rfl T.range (pa_cons (pv 3) pa_nil)) (pg_name (i := 6) nd rfl (by first | exact Or.inl rfl | exact Or.inr rfl))
      (pss_one (ps_if (pt_cmpR op_gt (pe_callB (call_lenK (K := K)) (by rfl) T.len PySem.boot_len (pa_cons (pv 5) pa_nil)) pe_int (nomark _)) (pss_cons (ps_set (i := 9) nd rfl (by first | exact Or.inl rfl | exact Or.inr rfl) (pe_bm0K (K := K) PySem.F.plainAttrs_list PySem.F.slot_list_pop PySem.F.type_list_pop mt_pop (pv 5)))
    (pss_cons (ps_expr (pe_bmK (K := K) PySem.F.plainAttrs_list PySem.F.slot_list_append PySem.F.type_list_append mt_append (pv 5) (pa_cons (pe_tup (pa_cons (pe_ix (ix_listK (K := K)) (pe_lst (pa_cons pe_str (pa_cons pe_str (pa_cons pe_str (pa_cons pe_str pa_nil))))) (pe_op op_mod (pe_callTy call_int1K (by rfl) T.int (by decide +kernel) (pa_cons (pv 8) pa_nil)) pe_int) (fun _ _ => rfl)) (pa_cons (pe_bm0K (K := K) PySem.F.plainAttrs_list PySem.F.slot_list_pop PySem.F.type_list_pop mt_pop (pv 5)) (pa_cons (pv 9) pa_nil)))) pa_nil)))
    (pss_one (ps_set (i := 8) nd rfl (by first | exact Or.inl rfl | exact Or.inr rfl) (pe_op op_fdivW (pv 8) pe_int))))) pss_nil)))
    (pss_one (ps_ret (pe_ix (ix_listK (K := K)) (pv 5) pe_int (fun _ _ => rfl))))))))), ?_⟩
  rintro ⟨cnt, rels⟩ vs D ha ⟨hg, hc4⟩ hq -
  have hg : GoodRs rels := hg
  have hc4 : cnt ≤ 4 := hc4
  obtain ⟨v0, v1, v2, v3, rfl, d0, d1, d2, d3⟩ := all2_4 ha
  obtain ⟨cell, rfl⟩ := d0
  cases Dt.int_inv d1
  cases Dt.int_inv d3
  have d2 : dL K (rels.map encR) Hn H v2 := d2
  refine q_asg (δ := dDs 1200000000000000 7) (ev_call (1200000000000000, 7) (ea_cons (ei_int (ed_var (i := 0) rfl (.int _))) (ea_cons (dI_to (ed_opC ed_int (ed_opC (g := fun i j => i ^ j.toNat) ed_int ed_int ⟨by decide, by decide, by decide⟩) (cmul_l (by decide))) (by decide)) (ea_cons (dI_to (ed_op0 (ed_var (i := 3) rfl (.int _)) ed_int) (by decide)) ea_nil))) fun _ _ => ⟨by decide, by decide, by decide⟩) (Same.refl _) fun v4 H1 s1 d4 => ?_
  obtain ⟨ds, ⟨dlen, dlt⟩, d4⟩ := d4
  have d4 : dL K (ds.map nI) Hn H1 v4 := toHn (mL d4 (Same.refl _))
  refine q_asg (δ := dM []) (em_lst (ds := []) ea_nil (Nat.zero_le _)) (Same.refl _) fun v5 H2 s2 d5 => ?_
  obtain ⟨l, zs, rfl, hl0, hl1, rz⟩ := d5
  cases rz
  have l1n : H2 l ≠ none := by rw [hl1]; intro z; cases z
  have dget : ∀ {σ : L2.St} {G : Hp} {te : TE} {j : Nat}, σ[4]? = some (some v4) → Same H1 G → EvX te σ G (dD (.int (j : Nat))) → j < 7 → EvX (tOp (rIxL K) (tVar 4) te) σ G (dD (nI (ds.getD j 0))) := fun h4 s he hj => ed_ixL (el_var h4 (lL d4 s)) he (atI_nat (by rw [List.getElem?_map, getD_get (by omega)]; rfl))
  refine q_for (as := List.range (1 + ds.getD 0 0 % 6)) (H0 := H1) (ei_range1 (n := 1 + ds.getD 0 0 % 6) (dI_to (ed_op0 ed_int (ed_modN (j := 6) (ed_intI (dget (j := 0) rfl (Same.refl _) ed_int (by decide))) (ed_var (i := 3) rfl (.int _)) (by decide))) (by omega)) (by omega)) s2 fun H3 s3 => ?_
  refine ⟨fun i σ' G => ∃ v6 v7 v8 v9 zs fs, σ' = [some (.int cell), some (.int (cnt : Nat)), some v2, some (.int (6 : Nat)), some v4, some (.ref l), v6, v7, v8, v9] ∧ Kp H1 H2 H3 G ∧ G l = some (.lst zs) ∧ Dts G zs (fs.map encF) ∧ Trees rels cnt i fs ∧ (0 < i → fs ≠ []),
    ⟨none, none, none, none, [], [], rfl, kp_same (s2.trans s3) (Same.refl _), s3 _ _ hl1, .nil, ⟨(fun f h => by cases h), Nat.le_refl _⟩, fun h => by omega⟩, fun i σ' G _ ⟨_, _, _, _, _, _, _, k, _⟩ => k, ?_, ?_⟩
  · rintro i a x σ' G0 G hi ⟨v6, v7, v8, v9, zs, fs, rfl, kp, hl, rz, tr, ne⟩ sy dx
    obtain ⟨rfl, hin⟩ := range_get hi
    cases Dt.int_inv dx
    have kp' := kp.up sy
    have hlG := sy _ _ hl
    have rzG := rz.up sy
    refine q_asg (δ := dD (nI (ds.getD (1 + a) 0 % 12))) (ed_modN (ed_intI (dget (j := 1 + a) rfl kp'.1 (dI_to (ed_op0 ed_int (ed_var (i := 6) rfl (.int _))) (by omega)) (by omega))) ed_int (by decide)) (Same.refl _) fun v7' G1 t1 d7 => ?_
    cases Dt.int_inv d7
    refine q_asg (δ := dD (nI (ds.getD (1 + a) 0 / 12))) (ed_divN (ed_intI (dget (j := 1 + a) rfl (kp'.1.trans t1) (dI_to (ed_op0 ed_int (ed_var (i := 6) rfl (.int _))) (by omega)) (by omega))) ed_int (by decide) (by decide)) (Same.refl _) fun v8' G2 t2 d8 => ?_
    cases Dt.int_inv d8
    generalize hch : ds.getD (1 + a) 0 % 12 = ch
    have hch12 : ch < 12 := by rw [← hch]; exact Nat.mod_lt _ (by decide)
    generalize ds.getD (1 + a) 0 / 12 = rest
    have t12 := t1.trans t2
    have kp2 := kp'.up t12
    have hl2 := t12 _ _ hlG
    have rz2 := rzG.up t12
    have flen : fs.length ≤ a := Nat.le_trans (len_sum fs) tr.size
    have zl : zs.length = fs.length := by rw [rz2.length, List.length_map]
    have zlen : zs.length < sizeLine := small_lt (by omega)
    have lenT : ∀ {σ : L2.St} {G3 : Hp}, σ[5]? = some (some (.ref l)) → Same G2 G3 → EvX (tCB (rLenQ K) (tCons (tVar 5) tNil)) σ G3 (dD (nI fs.length)) := fun h s => (ed_lenV (ev_var h) (SqL.of (s _ _ hl2))).to (by rw [zl])
    -- one tree more
    have fin : ∀ (f : Fm) (v : V) (G3 : Hp), Same G2 G3 → Dt G3 v (encF f) → GoodF rels cnt f → sizeF f ≤ 1 → ∃ v6' v7' v8' v9' zs' fs', [some (.int cell), some (.int (cnt : Nat)), some v2, some (.int (6 : Nat)), some v4, some (.ref l), some (.int (a : Nat)), some (.int (ch : Nat)), some (.int (rest : Nat)), v9] = [some (.int cell), some (.int (cnt : Nat)), some v2, some (.int (6 : Nat)), some v4, some (.ref l), v6', v7', v8', v9'] ∧ Kp H1 H2 H3 (upd G3 l (.lst (zs ++ [v]))) ∧ (upd G3 l (.lst (zs ++ [v]))) l = some (.lst zs') ∧ Dts (upd G3 l (.lst (zs ++ [v]))) zs' (List.map encF fs') ∧ Trees rels cnt (a + 1) fs' ∧ (0 < a + 1 → fs' ≠ []) := fun f v G3 t3 dv gf sf => by
      have hl3 := t3 _ _ hl2
      have tk := tk_lst (o := .lst (zs ++ [v])) hl3
      refine ⟨_, _, _, _, zs ++ [v], fs ++ [f], rfl, (kp2.up t3).write hl0 l1n hl3, upd_same, ?_, tr.push gf sf, fun _ => by simp⟩
      rw [List.map_append]
      exact (rz2.mono ((tk_same t3).trans tk)).append (.cons (Dt.mono tk dv) .nil)
    refine s_if (b := decide (ch = 5)) (et_test (dB_to (ed_eqI (ed_var (i := 7) rfl (.int _)) ed_int) (dec_nat_eq ch 5))) (Same.refl _) (fun hb G3 t3 => ?_) fun hb5 G3 t3 => ?_
    · have h2 : rest % 2 < 2 := Nat.mod_lt _ (by decide)
      have e : ∃ f, GoodF rels cnt f ∧ sizeF f ≤ 1 ∧ EvX (tTup (tCons (tOp (rIxL K) (tLst (tCons (tC (.str "true")) (tCons (tC (.str "false")) tNil))) (tOp (rI (fun _ j => 0 < j) fun i j => .int (i % j)) (tCB rIntQ (tCons (tVar 8) tNil)) (tC (.int 2)))) tNil)) [some (.int cell), some (.int (cnt : Nat)), some v2, some (.int (6 : Nat)), some v4, some (.ref l), some (.int (a : Nat)), some (.int (ch : Nat)), some (.int (rest : Nat)), v9] G3 (dD (encF f)) := by
        have base : ∀ s : Str, [PyData.str "true", PyData.str "false"][rest % 2]? = some (.str s) → EvX (tTup (tCons (tOp (rIxL K) (tLst (tCons (tC (.str "true")) (tCons (tC (.str "false")) tNil))) (tOp (rI (fun _ j => 0 < j) fun i j => .int (i % j)) (tCB rIntQ (tCons (tVar 8) tNil)) (tC (.int 2)))) tNil)) [some (.int cell), some (.int (cnt : Nat)), some v2, some (.int (6 : Nat)), some v4, some (.ref l), some (.int (a : Nat)), some (.int (ch : Nat)), some (.int (rest : Nat)), v9] G3 (dD (.tuple [.str s])) := fun s hs =>
          ed_tup (ds := [.str s]) (ea_cons (ed_ixL (ds := [.str "true", .str "false"]) (i := ((rest % 2 : Nat) : Int)) (ev_l (em_lst (ds := [.str "true", .str "false"]) (ea_cons ed_str (ea_cons ed_str ea_nil)) (by decide))) (ed_modN (ed_intI (ed_var (i := 8) rfl (.int _))) ed_int (by decide)) (atI_nat hs)) ea_nil) (small_line (by simp))
        rcases Nat.lt_or_ge (rest % 2) 1 with h | h
        · exact ⟨.tt, True.intro, Nat.le_refl _, base "true" (by rw [show rest % 2 = 0 by omega]; rfl)⟩
        · exact ⟨.ff, True.intro, Nat.le_refl _, base "false" (by rw [show rest % 2 = 1 by omega]; rfl)⟩
      obtain ⟨f, gf, sf, ef⟩ := e
      exact s_append (j := 5) rfl (t3 _ _ hl2) ef (Same.refl _) zlen fun v G4 t4 dv => fin f v G4 (t3.trans t4) dv gf sf
    refine s_if (b := decide (ch < 5) || (decide (fs.length = 0) || (decide (7 < ch) && decide (fs.length = 1)))) (et_or (et_test (dB_to (ed_cmp (ed_var (i := 7) rfl (.int _)) ed_int) (dec_nat_lt ch 5))) fun _ => et_or (et_test (dB_to (ed_eqI (lenT rfl t3) ed_int) (dec_nat_eq _ 0))) fun _ => et_and (et_test (dB_to (ed_cmp (ed_var (i := 7) rfl (.int _)) ed_int) (dec_nat_lt 7 ch))) fun _ => et_test (dB_to (ed_eqI (lenT rfl t3) ed_int) (dec_nat_eq _ 1))) (Same.refl _) (fun hb G4 t4 => ?_) fun hb G4 t4 => ?_
    · have t34 := t3.trans t4
      refine s_append (j := 5) (δ := dFm rels cnt 1) rfl (t34 _ _ hl2) (ev_call (⟨rest, cnt, rels⟩ : AT) (ea_cons (ed_var (i := 8) rfl (.int _)) (ea_cons (ed_var (i := 1) rfl (.int _)) (ea_cons (el_var (i := 2) rfl (lL d2 ((s1.trans kp2.1).trans t34))) ea_nil))) fun _ _ => ⟨hg, hc4⟩) (Same.refl _) zlen fun v G5 t5 dv => ?_
      obtain ⟨f, ⟨gf, sf⟩, dv⟩ := dv
      exact fin f v G5 (t34.trans t5) dv gf sf
    · have hno : ¬ (ch < 5 ∨ fs.length = 0 ∨ (7 < ch ∧ fs.length = 1)) := by
        intro h
        have : (decide (ch < 5) || (decide (fs.length = 0) || (decide (7 < ch) && decide (fs.length = 1)))) = true := by simpa using h
        rw [hb] at this
        cases this
      have f0 : fs ≠ [] := fun e => hno (.inr (.inl (by rw [e]; rfl)))
      have hge : 5 ≤ ch := Nat.le_of_not_lt fun h => hno (.inl h)
      have t34 := t3.trans t4
      refine s_if (b := decide (ch < 8)) (et_test (dB_to (ed_cmp (ed_var (i := 7) rfl (.int _)) ed_int) (dec_nat_lt ch 8))) (Same.refl _) (fun hb8 G5 t5 => ?_) fun hb8 G5 t5 => ?_
      · obtain ⟨gs, g, rfl⟩ := last1 f0
        have t25 := t34.trans t5
        have hl5 := t25 _ _ hl2
        have rz5 := rz2.up t25
        rw [List.map_append] at rz5
        obtain ⟨ys, y, rfl, ry, dy⟩ := Dts.snoc_inv rz5
        have tk1 := tk_lst (o := .lst ys) hl5
        have kw := (kp2.up t25).write (o := .lst ys) hl0 l1n hl5
        refine ⟨_, rfl, .inl ⟨rfl, _, SqL.of hl5⟩, _, rfl, .inl ⟨rfl, _, SqL.of hl5⟩, l, _, y, rfl, rfl, hl5, pop_last, small_line (by simp), fun p hp => ?_⟩
        rw [pop_rest] at hp ⊢
        obtain ⟨k1, k2, k3⟩ := push_tup (items := [.str "not", y]) (es := [.str "not", encF g]) kw hl0 l1n upd_same hp (ry.mono tk1) (.cons (.str _) (.cons (Dt.mono tk1 dy) .nil))
        have nlp : l ≠ p := fun e => by rw [← e, upd_same] at hp; cases hp
        refine ⟨l, ys, .ref p, rfl, rfl, by rw [upd_ne nlp]; exact upd_same, small_lt (by rw [ry.length, List.length_map]; rw [List.length_append] at flen; omega), ?_⟩
        exact ⟨_, _, _, _, _, gs ++ [.not g], rfl, k1, k2, by rw [List.map_append]; exact k3, tr.not, fun _ => by simp⟩
      · have hge8 : 8 ≤ ch := Nat.le_of_not_lt (of_decide_eq_false hb8)
        have two : 2 ≤ fs.length := by
          have h1 : fs.length ≠ 1 := fun h => hno (.inr (.inr ⟨by omega, h⟩))
          have h0 : fs.length ≠ 0 := fun h => hno (.inr (.inl h))
          omega
        obtain ⟨gs, g, k, rfl⟩ := last2 two
        have t25 := t34.trans t5
        have hl5 := t25 _ _ hl2
        have rz5 := rz2.up t25
        rw [List.map_append, List.map_append] at rz5
        obtain ⟨ys1, y2, rfl, ry1, dy2⟩ := Dts.snoc_inv rz5
        obtain ⟨ys, y1, rfl, ry, dy1⟩ := Dts.snoc_inv ry1
        have tk1 := tk_lst (o := .lst (ys ++ [y1])) hl5
        have kw1 := (kp2.up t25).write (o := .lst (ys ++ [y1])) hl0 l1n hl5
        refine ⟨_, rfl, .inl ⟨rfl, _, SqL.of hl5⟩, l, _, y2, rfl, rfl, hl5, pop_last, ?_⟩
        rw [pop_rest]
        have hl6 : (upd G5 l (.lst (ys ++ [y1]))) l = some (.lst (ys ++ [y1])) := upd_same
        have dy1 := Dt.mono tk1 dy1
        have dy2 := Dt.mono tk1 dy2
        have ry := ry.mono tk1
        generalize upd G5 l (.lst (ys ++ [y1])) = G6 at kw1 hl6 dy1 dy2 ry ⊢
        refine ⟨_, rfl, .inl ⟨rfl, _, SqL.of hl6⟩, ?_⟩
        obtain ⟨o, eo⟩ := ed_op4 (K := K) (σ := [some (.int cell), some (.int (cnt : Nat)), some v2, some (.int (6 : Nat)), some v4, some (.ref l), some (.int (a : Nat)), some (.int (ch : Nat)), some (.int (rest : Nat)), some y2]) (H := G6) (i := ch - 8) (tb := tOp (rI0 fun i j => .int (i - j)) (tVar 7) (tC (.int 8))) (dI_to (ed_op0 (ed_var (i := 7) rfl (.int _)) ed_int) (by omega)) (by omega)
        refine eo G6 (Same.refl _) _ fun vo G7 t7 do_ => ?_
        cases Dt.str_inv do_
        have hl7 := t7 _ _ hl6
        have tk2 := tk_lst (o := .lst ys) hl7
        have tk27 := (tk_same t7).trans tk2
        have kw2 := (kw1.up t7).write (o := .lst ys) hl0 l1n hl7
        refine ⟨_, rfl, .inl ⟨rfl, _, SqL.of hl7⟩, l, _, y1, rfl, rfl, hl7, pop_last, _, rfl, small_line (by simp), fun p hp => ?_⟩
        rw [pop_rest] at hp ⊢
        obtain ⟨k1, k2, k3⟩ := push_tup (items := [.str (opS o), y1, y2]) (es := [.str (opS o), encF g, encF k]) kw2 hl0 l1n upd_same hp (ry.mono tk27) (.cons (.str _) (.cons (Dt.mono tk27 dy1) (.cons (Dt.mono tk27 dy2) .nil)))
        have nlp : l ≠ p := fun e => by rw [← e, upd_same] at hp; cases hp
        refine ⟨l, ys, .ref p, rfl, rfl, by rw [upd_ne nlp]; exact upd_same, small_lt (by rw [ry.length, List.length_map]; rw [List.length_append, List.length_append] at flen; omega), ?_⟩
        exact ⟨_, _, _, _, _, gs ++ [.bin o g k], rfl, k1, k2, by rw [List.map_append]; exact k3, tr.bin o, fun _ => by simp⟩
  · rintro σ' G ⟨v6, v7, v8, v9, zs, fs, rfl, kp, hl, rz, tr, ne⟩
    rw [List.length_range] at tr ne
    have ne := ne (by omega)
    have tr : Trees rels cnt 6 fs := ⟨tr.good, by have := tr.size; omega⟩
    have sG := kp.1
    refine q_asg (δ := dD (nI (ds.getD 0 0 / 6))) (ed_divN (j := 6) (ed_intI (dget (j := 0) rfl sG ed_int (by decide))) (ed_var (i := 3) rfl (.int _)) (by decide) (by decide)) (Same.refl _) fun v8' G1 t1 d8 => ?_
    cases Dt.int_inv d8
    generalize ds.getD 0 0 / 6 = rest0
    have hl1' := t1 _ _ hl
    have gl0 : G1 l ≠ none := by rw [hl1']; intro z; cases z
    refine q_for (as := List.range 6) (H0 := H1) (ei_range1 (n := 6) (ed_var (i := 3) rfl (.int _)) (by decide)) (sG.trans t1) fun G2 t2 => ?_
    refine ⟨fun i σ' G => ∃ v6 rest v9 zs fs, σ' = [some (.int cell), some (.int (cnt : Nat)), some v2, some (.int (6 : Nat)), some v4, some (.ref l), v6, v7, some (.int (rest : Nat)), v9] ∧ Kp H1 G1 G2 G ∧ G l = some (.lst zs) ∧ Dts G zs (fs.map encF) ∧ Trees rels cnt (6 + i) fs ∧ fs ≠ [],
      ⟨v6, rest0, v9, zs, fs, rfl, kp_same ((sG.trans t1).trans t2) (Same.refl _), t2 _ _ hl1', rz.up (t1.trans t2), tr, ne⟩, fun i σ' G _ ⟨_, _, _, _, _, _, k, _⟩ => k, ?_, ?_⟩
    · rintro i a x σ' G0 G5 hi ⟨v6, rest, v9, zs, fs, rfl, kp, hl, rz, tr, ne⟩ sy dx
      obtain ⟨rfl, hin⟩ := range_get hi
      have kp' := kp.up sy
      have hl5 := sy _ _ hl
      have rz5 := rz.up sy
      have flen : fs.length ≤ 12 := by have := len_sum fs; have := tr.size; omega
      have zl : zs.length = fs.length := by rw [rz5.length, List.length_map]
      refine s_if (b := decide (1 < fs.length)) (et_test (dB_to (ed_cmp ((ed_lenV (ev_var (i := 5) rfl) (SqL.of hl5)).to (by rw [zl])) ed_int) (dec_nat_lt 1 fs.length))) (Same.refl _) (fun hb G6 t6 => ?_) fun hb G6 t6 => ?_
      · obtain ⟨gs, g, k, rfl⟩ := last2 (fs := fs) (of_decide_eq_true hb)
        have hl6 := t6 _ _ hl5
        have rz6 := rz5.up t6
        rw [List.map_append, List.map_append] at rz6
        obtain ⟨ys1, y2, rfl, ry1, dy2⟩ := Dts.snoc_inv rz6
        obtain ⟨ys, y1, rfl, ry, dy1⟩ := Dts.snoc_inv ry1
        have tk1 := tk_lst (o := .lst (ys ++ [y1])) hl6
        have kw1 := (kp'.up t6).write (o := .lst (ys ++ [y1])) hl0 gl0 hl6
        refine ⟨_, rfl, .inl ⟨rfl, _, SqL.of hl6⟩, l, _, y2, rfl, rfl, hl6, pop_last, ?_⟩
        rw [pop_rest]
        have hl7 : (upd G6 l (.lst (ys ++ [y1]))) l = some (.lst (ys ++ [y1])) := upd_same
        have dy1 := Dt.mono tk1 dy1
        have dy2 := Dt.mono tk1 dy2
        have ry := ry.mono tk1
        generalize upd G6 l (.lst (ys ++ [y1])) = G7 at kw1 hl7 dy1 dy2 ry ⊢
        refine ⟨_, rfl, .inl ⟨rfl, _, SqL.of hl7⟩, ?_⟩
        obtain ⟨o, eo⟩ := ed_op4 (K := K) (σ := [some (.int cell), some (.int (cnt : Nat)), some v2, some (.int (6 : Nat)), some v4, some (.ref l), some x, v7, some (.int (rest : Nat)), some y2]) (H := G7) (i := rest % 4) (tb := tOp (rI (fun _ j => 0 < j) fun i j => .int (i % j)) (tCB rIntQ (tCons (tVar 8) tNil)) (tC (.int 4))) (ed_modN (ed_intI (ed_var (i := 8) rfl (.int _))) ed_int (by decide)) (Nat.mod_lt _ (by decide))
        refine eo G7 (Same.refl _) _ fun vo G8 t8 do_ => ?_
        cases Dt.str_inv do_
        have hl8 := t8 _ _ hl7
        have tk2 := tk_lst (o := .lst ys) hl8
        have tk28 := (tk_same t8).trans tk2
        have kw2 := (kw1.up t8).write (o := .lst ys) hl0 gl0 hl8
        refine ⟨_, rfl, .inl ⟨rfl, _, SqL.of hl8⟩, l, _, y1, rfl, rfl, hl8, pop_last, _, rfl, small_line (by simp), fun p hp => ?_⟩
        rw [pop_rest] at hp ⊢
        obtain ⟨k1, k2, k3⟩ := push_tup (items := [.str (opS o), y1, y2]) (es := [.str (opS o), encF g, encF k]) kw2 hl0 gl0 upd_same hp (ry.mono tk28) (.cons (.str _) (.cons (Dt.mono tk28 dy1) (.cons (Dt.mono tk28 dy2) .nil)))
        have nlp : l ≠ p := fun e => by rw [← e, upd_same] at hp; cases hp
        refine ⟨l, ys, .ref p, rfl, rfl, by rw [upd_ne nlp]; exact upd_same, small_lt (by rw [ry.length, List.length_map]; rw [List.length_append, List.length_append] at flen; omega), ?_⟩
        refine s_asg (δ := dD (nI (rest / 4))) (ed_divN (ed_var (i := 8) rfl (.int _)) ed_int (by decide) (by decide)) (Same.refl _) fun v8 G9 t9 d8 => ?_
        cases Dt.int_inv d8
        exact ⟨_, _, _, _, gs ++ [.bin o g k], rfl, k1.up t9, t9 _ _ k2, by rw [List.map_append]; exact k3.up t9, tr.bin o, by simp⟩
      · exact ⟨_, _, _, _, fs, rfl, kp'.up t6, t6 _ _ hl5, rz5.up t6, ⟨tr.good, by have := tr.size; omega⟩, ne⟩
    · rintro σ' G5 ⟨v6, rest, v9, zs, fs, rfl, kp, hl, rz, tr, ne⟩
      rw [List.length_range] at tr
      match fs, ne with
      | f :: fr, _ =>
        have sz := tr.size
        rw [List.map_cons, List.sum_cons] at sz
        exact s_ret (δ := dD (encF f)) (ed_ixL (ds := (f :: fr).map encF) (el_var (i := 5) rfl ⟨l, zs, rfl, SqL.of hl, rz⟩) ed_int (atI_natE (j := 0) rfl rfl)) (Same.refl _) fun v G6 t6 dv => hq v G6 ((s1.trans kp.1).trans t6) ⟨f, ⟨tr.good f (List.mem_cons_self ..), by omega⟩, dv⟩
abbrev sLsents : Stmt := topS 47
/-- a natural number up to m -/
def dNat (m : Nat) : De := fun _ _ v => ∃ n : Nat, v = .int n ∧ n ≤ m
instance {m : Nat} : Tks (dNat m) := ⟨fun h _ => h⟩
def okSs (rels : List Rel) (ss : List Sent) : Prop := ss.length ≤ 2 ∧ ∀ s ∈ ss, GoodS rels s
def dSs (rels : List Rel) : De := dE (okSs rels) (fun ss => dM (ss.map encSe))
instance {rels : List Rel} : Sta (dSs rels) := inferInstanceAs (Sta (dE _ _))
structure LS where
  ns : List Int
  st : Nat
  rels : List Rel
structure LS.Ok (x : LS) : Prop where
  n63 : x.ns.length ≤ 63
  st : x.st ≤ 100
  g : GoodRs x.rels
def spLsents (K : PySem.W.Frag) : Sp := spOf (R := LS) (fun x => [dL K (x.ns.map .int), dD (nI x.st), dL K (x.rels.map encR), dNat 2]) (fun x _ => x.Ok) (fun x => dSs x.rels)
theorem scLsents : FnScope ["_law_script", "_law_start", "_law_relations_here", "_law_many", "_law_sentences_here", "_law_k", "_law_cell_here", "_law_count_here"] ["_law_script", "_law_start", "_law_relations_here", "_law_many"] (defScope sLsents) := ⟨rfl, rfl, rfl, by decide +kernel, rfl, by decide +kernel, by decide +kernel⟩
theorem ok_Lsents {f : Addr} {fd : FuncData} (Fn : Fun K "_law_sentences" "_law_sentences" sLsents f fd) (T : Txt K mg) (h_Lcell : Dl P w K mg base "_law_cell" 1 ["_law_script", "_law_k"] (spLcell K)) (h_Lformula : Dl P w K mg base "_law_formula" 2 ["_law_cell_here", "_law_count_here", "_law_relations_here", "_law_most"] (spLformula K)) : FnOk P w K mg base CX0 3 f fd ["_law_script", "_law_start", "_law_relations_here", "_law_many"] (spLsents K) := by
  have nd := scLsents.nd
  refine okD Fn scLsents (fun _ => rfl) fun cdv A outer s H E hr => ⟨_, (pss_cons (ps_set (i := 4) nd rfl (by first | exact Or.inl rfl | exact Or.inr rfl) (pe_lst pa_nil))
    (pss_cons (ps_for PassesOwn.never rfl (pi_range1 rfl T.range (pa_cons (pv 3) pa_nil)) (pg_name (i := 5) nd rfl (by first | exact Or.inl rfl | exact Or.inr rfl))
      (pss_cons (ps_set (i := 6) nd rfl (by first | exact Or.inl rfl | exact Or.inr rfl) (pe_dl h_Lcell (hr.mono (by omega)) rfl (pa_cons (pv 0) (pa_cons (pe_op op_add (pv 1) (pv 5)) pa_nil))))
    (pss_cons (ps_set (i := 7) nd rfl (by first | exact Or.inl rfl | exact Or.inr rfl) (pe_op op_add pe_int (pe_op op_mod (pe_callTy call_int1K (by rfl) T.int (by decide +kernel) (pa_cons (pv 6) pa_nil)) pe_int)))
    (pss_one (ps_expr (pe_bmK (K := K) PySem.F.plainAttrs_list PySem.F.slot_list_append PySem.F.type_list_append mt_append (pv 4) (pa_cons (pe_tup (pa_cons (pv 7) (pa_cons (pe_dl h_Lformula (hr.mono (by omega)) rfl (pa_cons (pe_op op_fdivW (pv 6) pe_int) (pa_cons (pv 7) (pa_cons (pv 2) (pa_cons pe_int pa_nil))))) pa_nil))) pa_nil)))))))
    (pss_one (ps_ret (pv 4))))), ?_⟩
  rintro ⟨ns, st, rels⟩ vs D ha ⟨hn, hst, hg⟩ hq -
  have hn : ns.length ≤ 63 := hn
  have hst : st ≤ 100 := hst
  have hg : GoodRs rels := hg
  obtain ⟨v0, v1, v2, v3, rfl, d0, d1, d2, d3⟩ := all2_4 ha
  obtain ⟨many, rfl, hm⟩ := d3
  cases Dt.int_inv d1
  have d0 : dL K (ns.map .int) Hn H v0 := d0
  have d2 : dL K (rels.map encR) Hn H v2 := d2
  refine q_asg (δ := dM []) (em_lst (ds := []) ea_nil (Nat.zero_le _)) (Same.refl _) fun v4 H1 s1 d4 => ?_
  obtain ⟨l, zs, rfl, hl0, hl1, rz⟩ := d4
  cases rz
  refine q_for (as := List.range many) (H0 := H) (ei_range1 (n := many) (ed_var (i := 3) rfl (.int _)) (by omega)) s1 fun H2 s2 => ?_
  refine ⟨fun i σ' G => ∃ v5 v6 v7 zs ss, σ' = [some v0, some (.int (st : Nat)), some v2, some (.int (many : Nat)), some (.ref l), v5, v6, v7] ∧ Kp H H1 H2 G ∧ G l = some (.lst zs) ∧ Dts G zs (ss.map encSe) ∧ ss.length = i ∧ ∀ s ∈ ss, GoodS rels s,
    ⟨none, none, none, [], [], rfl, kp_same (s1.trans s2) (Same.refl _), s2 _ _ hl1, .nil, rfl, fun s h => by cases h⟩, fun i σ' G _ ⟨_, _, _, _, _, _, k, _⟩ => k, ?_, ?_⟩
  · rintro i a x σ' G0 G hi ⟨v5, v6, v7, zs, ss, rfl, kp, hl, rz, slen, sg⟩ sy dx
    obtain ⟨rfl, hin⟩ := range_get hi
    cases Dt.int_inv dx
    have kp' := kp.up sy
    have hlG := sy _ _ hl
    have rzG := rz.up sy
    refine q_asg (δ := dInt) (ev_call (ns, st + a) (ea_cons (el_var (i := 0) rfl (lL d0 kp'.1)) (ea_cons (dI_to (ed_op0 (ed_var (i := 1) rfl (.int _)) (ed_var (i := 5) rfl (.int _))) (by omega)) ea_nil)) fun _ _ => ⟨hn, by show st + a ≤ 1000; omega⟩) (Same.refl _) fun v6' G1 t1 d6 => ?_
    obtain ⟨c, rfl⟩ := d6
    have h4 : (c % 4).toNat < 4 := by omega
    refine q_asg (δ := dD (nI (1 + (c % 4).toNat))) (dI_to (ed_op0 ed_int (ed_opC (ed_intI (ed_var (i := 6) rfl (.int _))) ed_int (by decide))) (by omega)) (Same.refl _) fun v7' G2 t2 d7 => ?_
    cases Dt.int_inv d7
    generalize hcn : 1 + (c % 4).toNat = cn
    have t12 := t1.trans t2
    have hl2 := t12 _ _ hlG
    refine s_append (j := 4) (δ := dE (fun f : Fm => GoodF rels cn f ∧ sizeF f ≤ 12) (fun f => dD (.tuple [nI cn, encF f]))) rfl hl2 (ed_tup2E (ed_var (i := 7) rfl (.int _)) (ev_call (cn, rels) (ea_cons (ei_int (ed_opC (ed_var (i := 6) rfl (.int _)) ed_int (cdiv_s (by decide) (by decide)))) (ea_cons (ed_var (i := 7) rfl (.int _)) (ea_cons (el_var (i := 2) rfl (lL d2 (kp'.1.trans t12))) (ea_cons ed_int ea_nil)))) fun _ _ => ⟨hg, by show cn ≤ 4; omega⟩)) (Same.refl _) (small_lt (by rw [rzG.length, List.length_map]; omega)) fun v G3 t3 dv => ?_
    obtain ⟨f, ⟨gf, sf⟩, dv⟩ := dv
    have t13 := t12.trans t3
    have hl3 := t13 _ _ hlG
    have tk := tk_lst (o := .lst (zs ++ [v])) hl3
    refine ⟨_, _, _, zs ++ [v], ss ++ [(cn, f)], rfl, (kp'.up t13).write hl0 (by rw [hl1]; intro z; cases z) hl3, upd_same, ?_, ?_, ?_⟩
    · rw [List.map_append]
      exact (rzG.mono ((tk_same t13).trans tk)).append (.cons (Dt.mono tk dv) .nil)
    · rw [List.length_append, slen]; rfl
    · intro s hs
      rcases List.mem_append.mp hs with h | h
      · exact sg s h
      · rw [List.mem_singleton] at h
        subst h
        exact ⟨by show 1 ≤ cn; omega, by show cn ≤ 4; omega, gf, Nat.le_trans (depth_size f) sf⟩
  · rintro σ' G ⟨v5, v6, v7, zs, ss, rfl, kp, hl, rz, slen, sg⟩
    rw [List.length_range] at slen
    refine s_ret (ev_var (i := 4) rfl) (Same.refl _) fun v G2 t2 d => ?_
    cases d
    exact hq _ _ (kp.1.trans t2) ⟨ss, ⟨by omega, sg⟩, l, zs, rfl, hl0, t2 _ _ hl, rz.up t2⟩
end
end D18
set_option Elab.async false
set_option linter.all false
set_option maxRecDepth 100000
set_option maxHeartbeats 4000000
/-! Ma6: the indexed enumeration is the product of layers; levels and extensions. -/
namespace D18
open PySem L2
theorem flatMap_cg {α β : Type} {f g : α → List β} : ∀ {l : List α}, (∀ a ∈ l, f a = g a) → l.flatMap f = l.flatMap g
  | [], _ => rfl
  | a :: r, h => by rw [List.flatMap_cons, List.flatMap_cons, h a (List.mem_cons_self ..), flatMap_cg fun b hb => h b (List.mem_cons_of_mem _ hb)]
theorem range_mul {α : Type} (f : Nat → α) (v : Nat) : ∀ P : Nat, (List.range (P * v)).map f = (List.range P).flatMap fun y => (List.range v).map fun d => f (y * v + d)
  | 0 => by rw [Nat.zero_mul]; rfl
  | P + 1 => by
    rw [Nat.add_mul, Nat.one_mul, List.range_add, List.map_append, range_mul f v P, List.range_succ, List.flatMap_append, List.flatMap_singleton, List.map_map]
    rfl
def enumK (vl : FKey → Nat) : List FKey → List (List (FKey × Nat))
  | [] => [[]]
  | k :: r => (enumK vl r).flatMap fun e => (List.range (vl k)).map fun d => (k, d) :: e
def prodR (vl : FKey → Nat) (l : List FKey) : Nat := l.foldr (fun k c => c * vl k) 1
theorem prodR_cons (vl : FKey → Nat) (k : FKey) (r : List FKey) : prodR vl (k :: r) = prodR vl r * vl k := rfl
theorem enum_fac (vl : FKey → Nat) : ∀ l : List FKey, (List.range (prodR vl l)).map (facR vl l) = enumK vl l
  | [] => rfl
  | k :: r => by
    rw [prodR_cons, range_mul, enumK, ← enum_fac vl r, List.flatMap_map]
    congr 1
    funext y
    refine List.map_congr_left fun d hd => ?_
    have hd := List.mem_range.mp hd
    rw [facR]
    have e1 : (y * vl k + d) % vl k = d := by rw [Nat.mul_comm, Nat.mul_add_mod, Nat.mod_eq_of_lt hd]
    have e2 : (y * vl k + d) / vl k = y := by rw [Nat.mul_comm, Nat.mul_add_div (by omega), Nat.div_eq_of_lt hd, Nat.add_zero]
    rw [e1, e2]
theorem count_prod (rels : List Rel) (n : Nat) : countA rels n = prodR (vlOf rels) (keysF rels n).reverse := by
  unfold countA prodR
  rw [List.foldr_reverse]
theorem enum_app (vl : FKey → Nat) : ∀ (l1 l2 : List FKey), enumK vl (l1 ++ l2) = (enumK vl l2).flatMap fun e2 => (enumK vl l1).map fun e1 => e1 ++ e2
  | [], l2 => by
    show enumK vl l2 = (enumK vl l2).flatMap fun e2 => [[] ++ e2]
    simp
  | k :: r, l2 => by
    rw [List.cons_append, enumK, enum_app vl r l2, List.flatMap_assoc]
    congr 1
    funext e2
    rw [enumK, List.flatMap_map, List.map_flatMap]
    congr 1
    funext e1
    rw [List.map_map]
    rfl
theorem enum_keys (vl : FKey → Nat) : ∀ {l : List FKey} {e : List (FKey × Nat)}, e ∈ enumK vl l → e.map (·.1) = l
  | [], e, h => by rw [enumK, List.mem_singleton] at h; rw [h]; rfl
  | k :: r, e, h => by
    obtain ⟨e', h1, h2⟩ := List.mem_flatMap.mp h
    obtain ⟨d, _, rfl⟩ := List.mem_map.mp h2
    rw [List.map_cons, enum_keys vl h1]
theorem lk_app_out {k : FKey} : ∀ {e1 e2 : List (FKey × Nat)}, k ∉ e1.map (·.1) → (e1 ++ e2).lookup k = e2.lookup k
  | [], _, _ => rfl
  | (a, b) :: r, e2, h => by
    rw [List.map_cons, List.mem_cons, not_or] at h
    rw [List.cons_append, List.lookup_cons, beq_eq_false_iff_ne.mpr h.1]
    exact lk_app_out h.2
theorem lk_app_in {k : FKey} : ∀ {e1 e2 : List (FKey × Nat)}, k ∈ e1.map (·.1) → (e1 ++ e2).lookup k = e1.lookup k
  | [], _, h => by cases h
  | (a, b) :: r, e2, h => by
    by_cases e : k = a
    · subst e
      rw [List.cons_append, List.lookup_cons_self, List.lookup_cons_self]
    · rw [List.cons_append, List.lookup_cons, List.lookup_cons, beq_eq_false_iff_ne.mpr e]
      exact lk_app_in ((List.mem_cons.mp h).resolve_left e)
theorem fa_out {e1 e2 : List (FKey × Nat)} {i : Nat} {c : List Nat} (h : (i, c) ∉ e1.map (·.1)) : faOf (e1 ++ e2) i c = faOf e2 i c := by unfold faOf; rw [lk_app_out h]
theorem fa_in {e1 e2 : List (FKey × Nat)} {i : Nat} {c : List Nat} (h : (i, c) ∈ e1.map (·.1)) : faOf (e1 ++ e2) i c = faOf e1 i c := by unfold faOf; rw [lk_app_in h]
/-- one step of a product -/
def sn {α : Type} (A : List (List α)) (B : List α) : List (List α) := A.flatMap fun s => B.map fun x => s ++ [x]
/-- a row -/
theorem row_enum (vl : FKey → Nat) (i v : Nat) (hv : ∀ c, vl (i, c) = v) : ∀ (m : Nat) (pl : List (List Nat)), pl.length = m → pl.Nodup → (enumK vl (pl.map fun c => (i, c)).reverse).map (fun e => pl.map fun c => faOf e i c) = partsF v m
  | 0, pl, hm, _ => by
    have e := List.length_eq_zero_iff.mp hm
    subst e
    rfl
  | m + 1, pl, hm, nd => by
    obtain ⟨ps, c, rfl⟩ := last1 (fs := pl) (fun e => by rw [e] at hm; simp at hm)
    rw [List.length_append, List.length_singleton] at hm
    rw [List.nodup_append] at nd
    have hc : c ∉ ps := fun h => nd.2.2 c h c (List.mem_singleton.mpr rfl) rfl
    have ih := row_enum vl i v hv m ps (by omega) nd.1
    rw [List.map_append, List.map_singleton, List.reverse_append, List.reverse_singleton, List.singleton_append, enumK, List.map_flatMap]
    show _ = ptStep v (partsF v m)
    unfold ptStep
    rw [← ih, List.flatMap_map, hv]
    congr 1
    funext e
    rw [List.map_map]
    refine List.map_congr_left fun d _ => ?_
    show (ps ++ [c]).map (fun c' => faOf (((i, c), d) :: e) i c') = ps.map (fun c => faOf e i c) ++ [d]
    rw [List.map_append, List.map_singleton]
    congr 1
    · refine List.map_congr_left fun c' hc' => ?_
      have ne : (i, c') ∉ ([((i, c), d)] : List (FKey × Nat)).map (·.1) := fun h => by
        rw [List.map_singleton, List.mem_singleton] at h
        injection h with _ h
        subst h
        exact hc hc'
      exact fa_out (e1 := [((i, c), d)]) ne
    · unfold faOf
      rw [List.lookup_cons_self]; rfl
def keysZ (z : List (Rel × Nat)) (p : Nat) : List FKey := z.flatMap fun ri => (placesF ri.1 p).map fun c => (ri.2, c)
def layerZ (z : List (Rel × Nat)) (Φ : Fa) (p : Nat) : List (List Nat) := z.map fun ri => (placesF ri.1 p).map fun c => Φ ri.2 c
def layersZ (z : List (Rel × Nat)) (p : Nat) : List (List (List Nat)) := z.foldl (fun f ri => layStep p f ri.1) [[]]
theorem layer_enum (vl : FKey → Nat) (p : Nat) : ∀ (m : Nat) (z : List (Rel × Nat)), z.length = m → z.Pairwise (fun a b => a.2 ≠ b.2) → (∀ ri ∈ z, ∀ c, vl (ri.2, c) = ri.1.vals) →
    (enumK vl (keysZ z p).reverse).map (fun e => layerZ z (faOf e) p) = layersZ z p
  | 0, z, hm, _, _ => by
    have e := List.length_eq_zero_iff.mp hm
    subst e
    rfl
  | m + 1, z, hm, pw, hv => by
    obtain ⟨y, ri, rfl⟩ := last1 (fs := z) (fun e => by rw [e] at hm; simp at hm)
    rw [List.length_append, List.length_singleton] at hm
    rw [List.pairwise_append] at pw
    have hne : ∀ a ∈ y, a.2 ≠ ri.2 := fun a ha => pw.2.2 a ha ri (List.mem_singleton.mpr rfl)
    have ih := layer_enum vl p m y (by omega) pw.1 fun a ha => hv a (List.mem_append_left _ ha)
    have hrow := row_enum vl ri.2 ri.1.vals (hv ri (List.mem_append_right _ (List.mem_singleton.mpr rfl))) _ (placesF ri.1 p) rfl (places_nodup _ _)
    have ek : keysZ (y ++ [ri]) p = keysZ y p ++ (placesF ri.1 p).map fun c => (ri.2, c) := by unfold keysZ; rw [List.flatMap_append, List.flatMap_singleton]
    have el : layersZ (y ++ [ri]) p = layStep p (layersZ y p) ri.1 := by unfold layersZ; rw [List.foldl_append]; rfl
    rw [ek, el, List.reverse_append, enum_app, List.map_flatMap]
    unfold layStep
    rw [← ih, ← hrow, List.flatMap_map]
    refine flatMap_cg fun e2 h2 => ?_
    rw [List.map_map, List.map_map]
    refine List.map_congr_left fun e1 h1 => ?_
    have k1 := enum_keys vl h1
    show layerZ (y ++ [ri]) (faOf (e1 ++ e2)) p = layerZ y (faOf e2) p ++ [(placesF ri.1 p).map fun c => faOf e1 ri.2 c]
    unfold layerZ
    rw [List.map_append, List.map_singleton]
    congr 1
    · refine List.map_congr_left fun a ha => List.map_congr_left fun c _ => fa_out ?_
      rw [k1, List.mem_reverse]
      intro h
      obtain ⟨c', _, e⟩ := List.mem_map.mp h
      injection e with e _
      exact hne a ha e.symm
    · congr 1
      refine List.map_congr_left fun c hc => fa_in ?_
      rw [k1, List.mem_reverse]
      exact List.mem_map.mpr ⟨c, hc, rfl⟩
theorem layers_zip (rels : List Rel) (p : Nat) : layersZ rels.zipIdx p = layersF rels p := by
  unfold layersZ layersF
  have h := List.foldl_map (f := fun ri : Rel × Nat => ri.1) (g := layStep p) (l := rels.zipIdx) (init := [[]])
  rw [← h]
  congr 1
  exact List.zipIdx_map_fst 0 rels
/-- all structures of n points, by layers -/
def allS (rels : List Rel) : Nat → List (List (List (List Nat)))
  | 0 => [[]]
  | n + 1 => sn (allS rels n) (layersF rels n)
theorem vl_zip (rels : List Rel) : ∀ ri ∈ rels.zipIdx, ∀ c, vlOf rels (ri.2, c) = ri.1.vals := fun ri h c => by
  obtain ⟨r, i⟩ := ri
  have := List.mk_mem_zipIdx_iff_getElem?.mp h
  unfold vlOf
  show (match rels[i]? with | some r => r.vals | none => 1) = r.vals
  rw [this]
theorem all_enum (rels : List Rel) : ∀ n, (enumK (vlOf rels) (keysF rels n).reverse).map (fun e => structOf rels (faOf e) n) = allS rels n
  | 0 => rfl
  | n + 1 => by
    have ih := all_enum rels n
    have hl := layer_enum (vlOf rels) n _ rels.zipIdx rfl (zipIdx_pw rels) (vl_zip rels)
    rw [layers_zip] at hl
    have ek : keysF rels (n + 1) = keysF rels n ++ keysAt rels n := by unfold keysF; rw [List.range_succ, List.flatMap_append, List.flatMap_singleton]
    rw [ek, List.reverse_append, enum_app, List.map_flatMap]
    show _ = sn (allS rels n) (layersF rels n)
    unfold sn
    rw [← ih, ← hl, List.flatMap_map]
    refine flatMap_cg fun e2 h2 => ?_
    rw [List.map_map, List.map_map]
    refine List.map_congr_left fun e1 h1 => ?_
    have k1 : e1.map (·.1) = (keysAt rels n).reverse := enum_keys (vlOf rels) h1
    show structOf rels (faOf (e1 ++ e2)) (n + 1) = structOf rels (faOf e2) n ++ [layerZ rels.zipIdx (faOf e1) n]
    rw [struct_succ]
    congr 1
    · unfold structOf
      refine List.map_congr_left fun p hp => List.map_congr_left fun ri _ => List.map_congr_left fun c hc => fa_out ?_
      rw [k1, List.mem_reverse]
      intro h
      obtain ⟨r2, _, h2⟩ := keysAt_mem h
      have := place_max hc
      have := place_max h2
      have := List.mem_range.mp hp
      have e : maxN c = n := place_max h2
      omega
    · congr 1
      unfold layerOf layerZ
      refine List.map_congr_left fun ri hri => List.map_congr_left fun c hc => fa_in ?_
      rw [k1, List.mem_reverse]
      exact List.mem_flatMap.mpr ⟨ri, hri, List.mem_map.mpr ⟨c, hc, rfl⟩⟩
theorem all_index (rels : List Rel) (n : Nat) : (List.range (countA rels n)).map (fun x => structOf rels (phiX rels n x) n) = allS rels n := by
  rw [← all_enum, ← enum_fac, List.map_map, ← count_prod]
  rfl
end D18
set_option Elab.async false
set_option linter.all false
set_option maxRecDepth 100000
set_option maxHeartbeats 4000000
/-! Ma7: numbers of structures; levels; extensions. -/
namespace D18
open PySem L2
theorem sn_len {α : Type} (A : List (List α)) (B : List α) : (sn A B).length = A.length * B.length := flatMap_len _ _ _ fun a _ => List.length_map _
theorem snoc_inj {α : Type} {a b : List α} {x y : α} (h : a ++ [x] = b ++ [y]) : a = b ∧ x = y := by
  have := List.append_inj' h rfl
  exact ⟨this.1, by simpa using this.2⟩
theorem sn_nodup {α : Type} {A : List (List α)} {B : List α} (ha : A.Nodup) (hb : B.Nodup) : (sn A B).Nodup := by
  unfold sn List.Nodup
  rw [List.pairwise_flatMap]
  refine ⟨fun a _ => ?_, ha.imp fun {a b} hne x hx y hy e => ?_⟩
  · rw [List.pairwise_map]
    exact hb.imp fun h e => h (snoc_inj e).2
  · obtain ⟨u, _, rfl⟩ := List.mem_map.mp hx
    obtain ⟨v, _, rfl⟩ := List.mem_map.mp hy
    exact hne (snoc_inj e).1
theorem parts_nodup (c : Nat) : ∀ n, (partsF c n).Nodup
  | 0 => by simp [partsF]
  | n + 1 => sn_nodup (parts_nodup c n) (range_nodup c)
theorem layStep_sn (p : Nat) (f : List (List (List Nat))) (r : Rel) : layStep p f r = sn f (partsF r.vals (placesF r p).length) := rfl
theorem layers_nodup_aux (p : Nat) : ∀ (rels : List Rel) (f : List (List (List Nat))), f.Nodup → (rels.foldl (layStep p) f).Nodup
  | [], _, h => h
  | r :: rs, f, h => by
    rw [List.foldl_cons, layStep_sn]
    exact layers_nodup_aux p rs _ (sn_nodup h (parts_nodup _ _))
theorem layers_nodup (rels : List Rel) (p : Nat) : (layersF rels p).Nodup := layers_nodup_aux p rels [[]] (by simp)
theorem all_nodup (rels : List Rel) : ∀ n, (allS rels n).Nodup
  | 0 => by simp [allS]
  | n + 1 => sn_nodup (all_nodup rels n) (layers_nodup rels n)
theorem all_lens (rels : List Rel) : ∀ n, ∀ s ∈ allS rels n, s.length = n
  | 0, s, h => by rw [allS, List.mem_singleton] at h; rw [h]; rfl
  | n + 1, s, h => by
    obtain ⟨a, h1, h2⟩ := List.mem_flatMap.mp (show s ∈ sn (allS rels n) (layersF rels n) from h)
    obtain ⟨l, _, rfl⟩ := List.mem_map.mp h2
    rw [List.length_append, all_lens rels n a h1]; rfl
theorem count_all (rels : List Rel) (n : Nat) : (allS rels n).length = countA rels n := by rw [← all_index, List.length_map, List.length_range]
theorem lay_count (rels : List Rel) (n : Nat) : (layersF rels n).length = countF rels n := layers_len n rels [[]]
theorem count_succ (rels : List Rel) (n : Nat) : countA rels (n + 1) = countA rels n * countF rels n := by
  rw [← count_all, ← count_all, ← lay_count, ← sn_len]; rfl
theorem count_zero (rels : List Rel) : countA rels 0 = 1 := by rw [← count_all]; rfl
theorem countF_pos {rels : List Rel} (g : GoodRs rels) (n : Nat) : 1 ≤ countF rels n := cnt_grow n rels 1 fun r hr => (g.good r hr).v1
theorem count_mono {rels : List Rel} (g : GoodRs rels) {k n : Nat} (h : k ≤ n) : countA rels k ≤ countA rels n := by
  induction n with
  | zero => have : k = 0 := by omega
            rw [this]; exact Nat.le_refl _
  | succ n ih =>
    rcases Nat.lt_or_ge k (n + 1) with h' | h'
    · refine Nat.le_trans (ih (by omega)) ?_
      rw [count_succ]
      exact Nat.le_mul_of_pos_right _ (countF_pos g n)
    · have : k = n + 1 := by omega
      rw [this]; exact Nat.le_refl _
theorem count_pos {rels : List Rel} (g : GoodRs rels) (n : Nat) : 1 ≤ countA rels n := by
  have := count_mono g (Nat.zero_le n)
  rwa [count_zero] at this
theorem countF_le {rels : List Rel} (g : GoodRs rels) (n : Nat) : countF rels n ≤ countA rels (n + 1) := by
  rw [count_succ]
  exact Nat.le_mul_of_pos_left _ (count_pos g n)
/-! ### values of facts -/
theorem fac_val (vl : FKey → Nat) (hv : ∀ k, 1 ≤ vl k) : ∀ (l : List FKey) (x : Nat) (k : FKey) (m : Nat), (facR vl l x).lookup k = some m → m < vl k
  | [], _, _, _, h => by cases h
  | a :: r, x, k, m, h => by
    rw [facR] at h
    by_cases e : k = a
    · subst e
      rw [List.lookup_cons_self] at h
      cases h
      exact Nat.mod_lt _ (hv k)
    · rw [List.lookup_cons, beq_eq_false_iff_ne.mpr e] at h
      exact fac_val vl hv r _ k m h
theorem vl_pos {rels : List Rel} (g : GoodRs rels) (k : FKey) : 1 ≤ vlOf rels k := by
  unfold vlOf
  cases h : rels[k.1]? with
  | none => exact Nat.le_refl _
  | some r => exact (g.good r (List.mem_of_getElem? h)).v1
theorem phi_good {rels : List Rel} (g : GoodRs rels) (n x : Nat) : GoodV rels (phiX rels n x) n := fun p hp i r c hr hc => by
  obtain ⟨m, hm⟩ := kvs_covers rels n x (i, c) (mem_keysF hr hc hp)
  have h := fac_val (vlOf rels) (vl_pos g) _ _ _ _ hm
  have e : vlOf rels (i, c) = r.vals := by unfold vlOf; show (match rels[i]? with | some r => r.vals | none => 1) = _; rw [hr]
  unfold phiX faOf
  rw [hm, ← e]
  exact h
/-! ### truths lean on the values at places -/
def Agree (rels : List Rel) (n : Nat) (Φ Ψ : Fa) : Prop := ∀ i r c p, rels[i]? = some r → c ∈ placesF r p → p < n → Φ i c = Ψ i c
theorem valN_eq {rels : List Rel} {Φ : Fa} {name : Str} {r : Rel} {pts : List Nat} (h : rels[(rels.map (·.name)).idxOf name]? = some r) : valN rels Φ name pts = Φ ((rels.map (·.name)).idxOf name) (keyOf r pts) := by
  unfold valN
  simp only [h]
theorem evalF_cg {rels : List Rel} (g : GoodRs rels) {n : Nat} {Φ Ψ : Fa} (ag : Agree rels n Φ Ψ) {ch : List Nat} (nd : ch.Nodup) (lt : ∀ k ∈ ch, k < n) : ∀ {f : Fm}, GoodF rels ch.length f → evalF (valN rels Φ) ch f = evalF (valN rels Ψ) ch f
  | .tt, _ => rfl
  | .ff, _ => rfl
  | .is name vs v, ⟨hat, hxn, hxl⟩ => by
    obtain ⟨r, h1, h2, h3⟩ := name_idx g.nd hat
    have gr := g.good r (List.mem_of_getElem? h1)
    have pnd : (vs.map fun k => ch.getD k 0).Nodup := by
      unfold List.Nodup
      rw [List.pairwise_map]
      refine List.Pairwise.imp_of_mem ?_ hxn
      intro p q hp hq' hpq e
      have l1 := hxl p hp
      have l2 := hxl q hq'
      rw [List.getD_eq_getElem?_getD, List.getD_eq_getElem?_getD, List.getElem?_eq_getElem l1, List.getElem?_eq_getElem l2] at e
      exact hpq ((List.getElem?_inj l1 nd).mp (by rw [List.getElem?_eq_getElem l1, List.getElem?_eq_getElem l2]; exact congrArg some e))
    have plt : ∀ k ∈ (vs.map fun k => ch.getD k 0), k < n := fun k hk => by
      obtain ⟨j, hj, rfl⟩ := List.mem_map.mp hk
      have l1 := hxl j hj
      rw [List.getD_eq_getElem?_getD, List.getElem?_eq_getElem l1]
      exact lt _ (List.getElem_mem l1)
    have plen : (vs.map fun k => ch.getD k 0).length = r.ar := by rw [List.length_map]; exact h3
    have pne : (vs.map fun k => ch.getD k 0) ≠ [] := fun e => by rw [e] at plen; have := gr.ar1; simp at plen; omega
    show decide (valN rels Φ name _ = v) = decide (valN rels Ψ name _ = v)
    rw [valN_eq h1, valN_eq h1, ag _ r _ _ h1 (key_place plen pnd pne) (plt _ (maxN_mem pne))]
  | .not f, h => by
    show (!evalF _ ch f) = (!evalF _ ch f)
    rw [evalF_cg g ag nd lt (f := f) h]
  | .bin o f1 f2, h => by
    show opF o (evalF _ ch f1) (evalF _ ch f2) = opF o (evalF _ ch f1) (evalF _ ch f2)
    rw [evalF_cg g ag nd lt (f := f1) h.1, evalF_cg g ag nd lt (f := f2) h.2]
theorem all_cg {α : Type} {p q : α → Bool} : ∀ {l : List α}, (∀ a ∈ l, p a = q a) → l.all p = l.all q
  | [], _ => rfl
  | a :: r, h => by rw [List.all_cons, List.all_cons, h a (List.mem_cons_self ..), all_cg fun b hb => h b (List.mem_cons_of_mem _ hb)]
theorem holdsF_cg {rels : List Rel} (g : GoodRs rels) {n : Nat} {Φ Ψ : Fa} (ag : Agree rels n Φ Ψ) {s : Sent} (gs : GoodS rels s) : holdsF rels Φ n s = holdsF rels Ψ n s :=
  all_cg fun ch hch => by
    obtain ⟨l1, l2, l3⟩ := chosen_ok hch
    exact evalF_cg g ag l2 l3 (by rw [l1]; exact gs.f)
theorem fitsF_cg {rels : List Rel} (g : GoodRs rels) {n : Nat} {Φ Ψ : Fa} (ag : Agree rels n Φ Ψ) {ss : List Sent} (gs : ∀ s ∈ ss, GoodS rels s) : fitsF rels ss Φ n = fitsF rels ss Ψ n := all_cg fun s hs => holdsF_cg g ag (gs s hs)
/-- the values of a structure -/
def faS (rels : List Rel) (s : List (List (List Nat))) : Fa := fun i c => match rels[i]? with
  | some r => ((s.getD (maxN c) []).getD i []).getD ((placesF r (maxN c)).idxOf c) 0
  | none => 0
theorem faS_struct (rels : List Rel) (Φ : Fa) (n : Nat) : Agree rels n (faS rels (structOf rels Φ n)) Φ := fun i r c p hr hc hp => by
  have hm := place_max hc
  have e : faS rels (structOf rels Φ n) i c = (((structOf rels Φ n).getD (maxN c) []).getD i []).getD ((placesF r (maxN c)).idxOf c) 0 := by unfold faS; simp only [hr]
  have e1 : (structOf rels Φ n).getD p [] = layerOf rels Φ p := by
    unfold structOf
    rw [List.getD_eq_getElem?_getD, List.getElem?_map, List.getElem?_range hp]; rfl
  have e2 : (layerOf rels Φ p).getD i [] = (placesF r p).map fun c => Φ i c := by
    unfold layerOf
    rw [List.getD_eq_getElem?_getD, List.getElem?_map, List.getElem?_zipIdx, hr]
    simp
  have hidx : (placesF r p).idxOf c < (placesF r p).length := List.idxOf_lt_length_of_mem hc
  rw [e, hm, e1, e2, List.getD_eq_getElem?_getD, List.getElem?_map, List.getElem?_eq_getElem hidx, List.getElem_idxOf]
  rfl
def okS (rels : List Rel) (ss : List Sent) (n : Nat) (s : List (List (List Nat))) : Bool := fitsF rels ss (faS rels s) n
theorem okS_struct {rels : List Rel} (g : GoodRs rels) {ss : List Sent} (gs : ∀ s ∈ ss, GoodS rels s) (Φ : Fa) (n : Nat) : okS rels ss n (structOf rels Φ n) = fitsF rels ss Φ n := fitsF_cg g (faS_struct rels Φ n) gs
theorem level_all {rels : List Rel} (g : GoodRs rels) {ss : List Sent} (gs : ∀ s ∈ ss, GoodS rels s) (n : Nat) : levelF rels ss n = (allS rels n).filter (okS rels ss n) := by
  rw [← all_index, List.filter_map]
  unfold levelF
  congr 1
  refine List.filter_congr fun x _ => ?_
  exact (okS_struct g gs _ n).symm
/-! ### one layer more -/
theorem ext_agree (rels : List Rel) (Φ : Fa) (n : Nat) (l : List (List Nat)) : Agree rels n (extF rels Φ n l) Φ := fun i r c p hr hc hp => by
  have hle := (places_mem.mp hc).1.2.2.1
  have hn : n ∉ c := fun hx => by have := hle n hx; omega
  unfold extF
  rw [if_neg hn]
theorem holds_split (rels : List Rel) (Φ : Fa) (n : Nat) (s : Sent) : holdsF rels Φ (n + 1) s = (holdsF rels Φ n s && holdsLast rels Φ (n + 1) s) := by
  rw [Bool.eq_iff_iff, Bool.and_eq_true]
  unfold holdsF holdsLast
  rw [List.all_eq_true, List.all_eq_true, List.all_eq_true]
  constructor
  · intro h
    refine ⟨fun ch hch => h ch ?_, fun ch hch => ?_⟩
    · obtain ⟨h1, h2, h3⟩ := choices_mem.mp hch
      exact choices_mem.mpr ⟨h1, h2, fun x hx => List.mem_range.mpr (by have := List.mem_range.mp (h3 x hx); omega)⟩
    · rw [h ch hch]; simp
  · rintro ⟨ha, hb⟩ ch hch
    obtain ⟨h1, h2, h3⟩ := choices_mem.mp hch
    by_cases hn : n ∈ ch
    · have := hb ch hch
      rw [Nat.add_sub_cancel, decide_eq_true hn] at this
      simpa using this
    · refine ha ch (choices_mem.mpr ⟨h1, h2, fun x hx => List.mem_range.mpr ?_⟩)
      have := List.mem_range.mp (h3 x hx)
      have : x ≠ n := fun e => hn (e ▸ hx)
      omega
theorem ext_fits {rels : List Rel} (g : GoodRs rels) {ss : List Sent} (gs : ∀ s ∈ ss, GoodS rels s) {Φ : Fa} {n : Nat} (hf : fitsF rels ss Φ n = true) (l : List (List Nat)) : fitsF rels ss (extF rels Φ n l) (n + 1) = ss.all fun s => holdsLast rels (extF rels Φ n l) (n + 1) s := by
  unfold fitsF
  refine all_cg fun s hs => ?_
  have h1 : holdsF rels Φ n s = true := List.all_eq_true.mp hf s hs
  rw [holds_split, holdsF_cg g (ext_agree rels Φ n l) (gs s hs), h1, Bool.true_and]
theorem pre_filter {α : Type} [DecidableEq α] {n : Nat} {B : List α} {s : List α} : ∀ {A : List (List α)}, A.Nodup → s ∈ A → (∀ a ∈ A, a.length = n) → (sn A B).filter (fun o => decide (o.take n = s)) = B.map fun x => s ++ [x]
  | [], _, h, _ => by cases h
  | a :: A, nd, hs, hl => by
    have split : sn (a :: A) B = (B.map fun x => a ++ [x]) ++ sn A B := by unfold sn; rw [List.flatMap_cons]
    have ha := hl a (List.mem_cons_self ..)
    have tk : ∀ (x : α), (a ++ [x]).take n = a := fun x => by rw [← ha, List.take_left]
    rw [split, List.filter_append]
    by_cases e : a = s
    · subst e
      have f1 : (B.map fun x => a ++ [x]).filter (fun o => decide (o.take n = a)) = B.map fun x => a ++ [x] := List.filter_eq_self.mpr fun o ho => by
        obtain ⟨x, _, rfl⟩ := List.mem_map.mp ho
        rw [tk]; simp
      have f2 : (sn A B).filter (fun o => decide (o.take n = a)) = [] := List.filter_eq_nil_iff.mpr fun o ho => by
        obtain ⟨b, hb, ho⟩ := List.mem_flatMap.mp ho
        obtain ⟨x, _, rfl⟩ := List.mem_map.mp ho
        have hbl := hl b (List.mem_cons_of_mem _ hb)
        have : (b ++ [x]).take n = b := by rw [← hbl, List.take_left]
        rw [this]
        intro h
        have e := of_decide_eq_true h
        exact (List.nodup_cons.mp nd).1 (e ▸ hb)
      rw [f1, f2, List.append_nil]
    · have f1 : (B.map fun x => a ++ [x]).filter (fun o => decide (o.take n = s)) = [] := List.filter_eq_nil_iff.mpr fun o ho => by
        obtain ⟨x, _, rfl⟩ := List.mem_map.mp ho
        rw [tk]; simpa using e
      rw [f1, List.nil_append]
      exact pre_filter (List.nodup_cons.mp nd).2 ((List.mem_cons.mp hs).resolve_left fun h => e h.symm) fun b hb => hl b (List.mem_cons_of_mem _ hb)
theorem getD_last {α : Type} (s : List α) (x d : α) (n : Nat) (h : s.length = n) : (s ++ [x]).getD n d = x := by
  rw [List.getD_eq_getElem?_getD, List.getElem?_append_right (by omega), h, Nat.sub_self]; rfl
/-- THE LAW'S HEART: the longer structures that begin so give the extensions -/
theorem ext_eq {κ : Kd} (gk : GoodK κ) {Φ : Fa} {n : Nat} (hf : fitsF κ.rels κ.sents Φ n = true) (hm : structOf κ.rels Φ n ∈ allS κ.rels n) :
    (((levelF κ.rels κ.sents (n + 1)).filter fun o => decide (o.take n = structOf κ.rels Φ n)).map fun o => o.getD n []) = extsF κ Φ n := by
  have hl := struct_len κ.rels Φ n
  rw [level_all gk.rs gk.ss, List.filter_filter]
  have sw : (allS κ.rels (n + 1)).filter (fun a => decide (a.take n = structOf κ.rels Φ n) && okS κ.rels κ.sents (n + 1) a) = ((allS κ.rels (n + 1)).filter fun a => decide (a.take n = structOf κ.rels Φ n)).filter (okS κ.rels κ.sents (n + 1)) := by
    rw [List.filter_filter]
    refine List.filter_congr fun a _ => Bool.and_comm _ _
  rw [sw]
  have pf : (allS κ.rels (n + 1)).filter (fun a => decide (a.take n = structOf κ.rels Φ n)) = (layersF κ.rels n).map fun x => structOf κ.rels Φ n ++ [x] := pre_filter (all_nodup κ.rels n) hm (all_lens κ.rels n)
  rw [pf, List.filter_map, List.map_map]
  have id_ : ((fun o => o.getD n []) ∘ fun x => structOf κ.rels Φ n ++ [x]) = fun x : List (List Nat) => x := by
    funext x
    exact getD_last _ _ _ _ hl
  rw [id_, List.map_id']
  unfold extsF
  refine List.filter_congr fun l hlm => ?_
  have sh := (layers_mem hlm).1
  show okS κ.rels κ.sents (n + 1) (structOf κ.rels Φ n ++ [l]) = _
  rw [← structOf_ext sh, okS_struct gk.rs gk.ss, ext_fits gk.rs gk.ss hf]
theorem level_get {rels : List Rel} {ss : List Sent} {n : Nat} {s : List (List (List Nat))} (h : s ∈ levelF rels ss n) : ∃ x, x < countA rels n ∧ s = structOf rels (phiX rels n x) n ∧ fitsF rels ss (phiX rels n x) n = true := by
  obtain ⟨x, hx, rfl⟩ := List.mem_map.mp h
  obtain ⟨h1, h2⟩ := List.mem_filter.mp hx
  exact ⟨x, List.mem_range.mp h1, rfl, h2⟩
theorem struct_mem (rels : List Rel) {n x : Nat} (h : x < countA rels n) : structOf rels (phiX rels n x) n ∈ allS rels n := by
  rw [← all_index]
  exact List.mem_map.mpr ⟨x, List.mem_range.mpr h, rfl⟩
theorem level_mem {rels : List Rel} (g : GoodRs rels) {ss : List Sent} (gs : ∀ s ∈ ss, GoodS rels s) {n x : Nat} (h : x < countA rels n) : decide (structOf rels (phiX rels n x) n ∈ levelF rels ss n) = fitsF rels ss (phiX rels n x) n := by
  rw [Bool.eq_iff_iff, decide_eq_true_iff, level_all g gs, List.mem_filter, okS_struct g gs]
  exact ⟨fun h => h.2, fun h' => ⟨struct_mem rels h, h'⟩⟩
theorem level_len {rels : List Rel} {ss : List Sent} {n : Nat} (h : countA rels n ≤ 100) : (levelF rels ss n).length ≤ 100 := by
  unfold levelF
  rw [List.length_map]
  exact Nat.le_trans (List.length_filter_le _ _) (by rw [List.length_range]; exact h)
end D18
set_option Elab.async false
set_option linter.all false
set_option maxRecDepth 100000
set_option maxHeartbeats 8000000
/-! PgI: law. -/
namespace D18
open PySem L2
section
variable {K : PySem.W.Frag} {σ : L2.St} {H : Hp} {ta tb : TE}
theorem en_mod {m : Int} {k : Nat} (ha : EvX ta σ H dInt) (h0 : 0 < m) (hk : m ≤ k + 1) : EvX (tOp (rI (fun _ j => 0 < j) fun i j => .int (i % j)) (tCB rIntQ (tCons ta tNil)) (tC (.int m))) σ H (dNat k) := fun H1 e Q q =>
  ha H1 e _ fun x H2 s2 ⟨i, ei⟩ => by
    subst ei
    refine .inl ⟨i, rfl, ?_⟩
    have h1 := Int.emod_nonneg i (show m ≠ 0 by omega)
    have h2 := Int.emod_lt_of_pos i h0
    refine ⟨i, m, rfl, rfl, h0, q _ H2 s2 ⟨(i % m).toNat, ?_, by omega⟩⟩
    exact congrArg V.int (Int.toNat_of_nonneg h1).symm
theorem ei_div {m : Int} (ha : EvX ta σ H dInt) (h0 : 0 < m) (hk : m < 10000000000000000) : EvX (tOp (rI CDivW fun i j => .int (i / j)) ta (tC (.int m))) σ H dInt := fun H1 e Q q =>
  ha H1 e _ fun x H2 s2 ⟨i, ei⟩ => by
    subst ei
    exact ⟨i, m, rfl, rfl, cdiv_s h0 hk, q _ H2 s2 ⟨_, rfl⟩⟩
theorem ev_make {C : Addr} {t : TA} {κ : Kd} (gk : GoodK κ) (ha : EvA t σ H [dL K (κ.rels.map encR), dL K (κ.sents.map encSe)]) : EvX (tMake C (spInit K C) [] E0 t) σ H (dK C κ) := fun H1 e Q q =>
  ha H1 e _ fun vs H2 s2 d2 x dx hx hdx ne => by
    obtain ⟨v1, v2, rfl, d1, d2⟩ := all2_2 d2
    exact ⟨κ, H2, x, dx, v1, v2, rfl, same_mut (same_new hdx) hx, hx, upd_same, toHn d1, toHn d2, gk, fun H' s' dk => ⟨rfl, q _ H' (s2.trans s') dk⟩⟩
theorem any_eqv (l : List (List (List (List Nat)))) (s : List (List (List Nat))) : ((l.map encS).any fun z => PyData.eqv z (encS s)) = decide (s ∈ l) := by
  induction l with
  | nil => simp
  | cons a l ih =>
    rw [List.map_cons, List.any_cons, ih, eqv_encS]
    by_cases h : a = s
    · subst h; simp
    · have h' : ¬ s = a := fun e => h e.symm
      simp [h, h']
end
section
variable {P : Program} {w : World} {K : PySem.W.Frag} {mg : Str → Option Value} {base : Heap}
abbrev sLaw : Stmt := topS 53
def spLaw (K : PySem.W.Frag) : Sp := spOf (R := List Int) (fun ns => [dL K (ns.map .int)]) (fun ns _ => ns.length ≤ 63) (fun _ => dD (.bool true))
theorem scLaw : FnScope ["_law_script", "_law_relations_here", "_law_sentences_here", "_law_kind", "_law_size", "_law_k", "_law_levels", "_law_structure", "_law_keys", "_law_index"] ["_law_script"] (defScope sLaw) := ⟨rfl, rfl, rfl, by decide +kernel, rfl, by decide +kernel, by decide +kernel⟩
theorem ok_law {C : Addr} {f fI : Addr} {fd fdI : FuncData} (Fn : Fun K "law" "law" sLaw f fd) (T : Txt K mg) (MK : Mk K C fI) (GI : FnOk P w K mg base CX0 14 fI fdI ["self", "relations", "sentences"] (spInit K C)) (bI : Binds K fdI ["self", "relations", "sentences"] []) (mgC : mg "Kind" = some (.ref C))
    (h_Lcell : Dl P w K mg base "_law_cell" 1 ["_law_script", "_law_k"] (spLcell K)) (h_Lnames : Dl P w K mg base "_law_names" 2 ["_law_cell_here", "_law_count_here"] spLnames) (h_Lrelations : Dl P w K mg base "_law_relations" 2 ["_law_cell_here", "_law_names_here"] (spLrels K))
    (h_Lsentences : Dl P w K mg base "_law_sentences" 3 ["_law_script", "_law_start", "_law_relations_here", "_law_many"] (spLsents K)) (h_Lcount : Dl P w K mg base "_law_count" 4 ["_law_relations_here", "_law_size"] (spLcount K)) (h_Lall : Dl P w K mg base "_law_all" 17 ["_law_relations_here", "_law_sentences_here", "_law_size"] (spLall K))
    (h_Lextends : Dl P w K mg base "_law_extends" 17 ["_law_kind", "_law_structure", "_law_longer"] (spLextends K C)) (h_Lordered_keys : Dl P w K mg base "_law_ordered_keys" 3 ["_law_relations_here", "_law_size"] (spLkeys K)) (h_Lindexed : Dl P w K mg base "_law_indexed" 1 ["_law_relations_here", "_law_keys", "_law_index"] (spLindexed P w K))
    (h_Lpart : Dl P w K mg base "_law_part" 3 ["_law_relations_here", "_law_facts", "_law_points"] (spLpart P w K)) (h_Lequal : Dl P w K mg base "_law_equal" 4 ["_law_actual", "_law_expected"] (spLequal 4)) (h_is_of_kind : Dl P w K mg base "is_of_kind" 16 ["kind", "structure"] (spIsOfKind C)) :
    FnOk P w K mg base CX0 18 f fd ["_law_script"] (spLaw K) := by
  have nd := scLaw.nd
  refine okD Fn scLaw (fun _ => rfl) fun cdv A outer s H E hr => ⟨_, (pss_cons (ps_set (i := 1) nd rfl (by first | exact Or.inl rfl | exact Or.inr rfl) (pe_dl h_Lrelations (hr.mono (by omega)) rfl (pa_cons (pe_dl h_Lcell (hr.mono (by omega)) rfl (pa_cons (pv 0) (pa_cons pe_int pa_nil))) (pa_cons (pe_dl h_Lnames (hr.mono (by omega)) rfl (pa_cons (pe_dl h_Lcell (hr.mono (by omega)) rfl (pa_cons (pv 0) (pa_cons pe_int pa_nil))) (pa_cons pe_int pa_nil))) pa_nil))))
    (pss_cons (ps_set (i := 2) nd rfl (by first | exact Or.inl rfl | exact Or.inr rfl) (pe_dl h_Lsentences (hr.mono (by omega)) rfl (pa_cons (pv 0) (pa_cons pe_int (pa_cons (pv 1) (pa_cons (pe_op op_mod (pe_callTy call_int1K (by rfl) T.int (by decide +kernel) (pa_cons (pe_dl h_Lcell (hr.mono (by omega)) rfl (pa_cons (pv 0) (pa_cons pe_int pa_nil))) pa_nil)) pe_int) pa_nil))))))
    (pss_cons (ps_set (i := 3) nd rfl (by first | exact Or.inl rfl | exact Or.inr rfl) (pe_make MK GI (hr.mono (by omega)) rfl mgC bI .nil pass0 (pa_cons (pe_callTy (call_listK (K := K)) (by rfl) T.list (by decide +kernel) (pa_cons (pv 1) pa_nil)) (pa_cons (pe_callTy (call_listK (K := K)) (by rfl) T.list (by decide +kernel) (pa_cons (pv 2) pa_nil)) pa_nil))))
    (pss_cons (ps_set (i := 4) nd rfl (by first | exact Or.inl rfl | exact Or.inr rfl) (pe_op op_mod (pe_callTy call_int1K (by rfl) T.int (by decide +kernel) (pa_cons (pe_op op_fdivW (pe_dl h_Lcell (hr.mono (by omega)) rfl (pa_cons (pv 0) (pa_cons pe_int pa_nil))) pe_int) pa_nil)) pe_int))
    (pss_cons (ps_for PassesOwn.never rfl (pi_range1 rfl T.range (pa_cons pe_int pa_nil)) (pg_name (i := 5) nd rfl (by first | exact Or.inl rfl | exact Or.inr rfl))
      (pss_one (ps_if (pt_cmpR op_gt (pe_dl h_Lcount (hr.mono (by omega)) rfl (pa_cons (pv 1) (pa_cons (pv 4) pa_nil))) pe_int (nomark _)) (pss_one (ps_set (i := 4) nd rfl (by first | exact Or.inl rfl | exact Or.inr rfl) (pe_op op_sub (pv 4) pe_int))) pss_nil)))
    (pss_cons (ps_setLc (i := 6) (own := [("_law_k", 5)]) rfl nd rfl rfl (sw_true rfl rfl rfl (by decide +kernel)) (pi_range1 rfl T.range (pa_cons (pe_op op_add (pv 4) pe_int) pa_nil)) (blkOk_by (by kernel_rfl)) (fun _ _ _ _ _ => (pg_name (i := 5) nd rfl (by first | exact Or.inl rfl | exact Or.inr rfl))) (fun _ _ _ _ _ => pts_nil) (fun _ _ _ _ _ => (pe_dl h_Lall (hr.mono (by omega)) rfl (pa_cons (pv 1) (pa_cons (pv 2) (pa_cons (pv 5) pa_nil))))))
    (pss_cons (ps_for PassesOwn.never rfl (pi_range1 rfl T.range (pa_cons (pv 4) pa_nil)) (pg_name (i := 5) nd rfl (by first | exact Or.inl rfl | exact Or.inr rfl))
      (pss_one (ps_for PassesOwn.never rfl (pi_listK (K := K) (pe_ix (ix_listK (K := K)) (pv 6) (pv 5) (fun _ _ => rfl))) (pg_name (i := 7) nd rfl (by first | exact Or.inl rfl | exact Or.inr rfl))
      (pss_one (ps_if (pt_not (pt_val (pe_dl h_Lextends (hr.mono (by omega)) rfl (pa_cons (pv 3) (pa_cons (pv 7) (pa_cons (pe_ix (ix_listK (K := K)) (pv 6) (pe_op op_add (pv 5) pe_int) (fun _ _ => rfl)) pa_nil)))))) (pss_one (ps_ret pe_bl)) pss_nil)))))
    (pss_cons (ps_set (i := 8) nd rfl (by first | exact Or.inl rfl | exact Or.inr rfl) (pe_dl h_Lordered_keys (hr.mono (by omega)) rfl (pa_cons (pv 1) (pa_cons (pv 4) pa_nil))))
    (pss_cons (ps_for PassesOwn.never rfl (pi_range1 rfl T.range (pa_cons (pe_dl h_Lcount (hr.mono (by omega)) rfl (pa_cons (pv 1) (pa_cons (pv 4) pa_nil))) pa_nil)) (pg_name (i := 9) nd rfl (by first | exact Or.inl rfl | exact Or.inr rfl))
      (pss_cons (ps_set (i := 7) nd rfl (by first | exact Or.inl rfl | exact Or.inr rfl) (pe_dl h_Lpart (hr.mono (by omega)) rfl (pa_cons (pv 1) (pa_cons (pe_dl h_Lindexed (hr.mono (by omega)) rfl (pa_cons (pv 1) (pa_cons (pv 8) (pa_cons (pv 9) pa_nil)))) (pa_cons (pe_listRg rfl rfl T.list (prg_1 rfl T.range (pv 4))) pa_nil)))))
    (pss_one (ps_if (pt_not (pt_val (pe_dl h_Lequal (hr.mono (by omega)) rfl (pa_cons (pe_dl h_is_of_kind (hr.mono (by omega)) rfl (pa_cons (pv 3) (pa_cons (pv 7) pa_nil))) (pa_cons (pe_cmpR (op_inDK (K := K) (hu65 hr)) (pv 7) (pe_ix (ix_listK (K := K)) (pv 6) (pv 4) (fun _ _ => rfl)) (by rfl)) pa_nil))))) (pss_one (ps_ret pe_bl)) pss_nil))))
    (pss_one (ps_ret pe_bl))))))))))), ?_⟩
  rintro ns vs D ha hn hq -
  have hn : ns.length ≤ 63 := hn
  obtain ⟨v0, rfl, d0⟩ := all2_1 ha
  have d0 : dL K (ns.map .int) Hn H v0 := d0
  have cell : ∀ {σ : L2.St} {G : Hp} {k : Nat}, σ[0]? = some (some v0) → Same H G → k ≤ 1000 → EvX (tCall (spLcell K) [] E0 (tCons (tVar 0) (tCons (tC (.int (k : Nat))) tNil))) σ G dInt := fun {σ G k} h0 s hk =>
    ev_call (ns, k) (ea_cons (el_var h0 (lL d0 s)) (ea_cons ed_int ea_nil)) fun _ _ => ⟨hn, hk⟩
  -- relations
  have enm : EvX (tCall spLnames [] E0 (tCons (tCall (spLcell K) [] E0 (tCons (tVar 0) (tCons (tC (.int 0)) tNil))) (tCons (tC (.int 3)) tNil))) (start ["_law_script", "_law_relations_here", "_law_sentences_here", "_law_kind", "_law_size", "_law_k", "_law_levels", "_law_structure", "_law_keys", "_law_index"] [v0]) H (dNsL K) :=
    (ev_call () (ea_cons (cell (k := 0) rfl (Same.refl _) (by decide)) (ea_cons ed_int ea_nil)) (fun _ _ => True.intro) : EvX _ _ _ (dNs 3)).imp fun _ _ _ ⟨a, h, d⟩ => ⟨a, h, dL_of_dM d⟩
  refine q_asg (δ := dRs) (ev_call () (ea_cons (cell (k := 1) rfl (Same.refl _) (by decide)) (ea_cons enm ea_nil)) fun _ _ => True.intro) (Same.refl _) fun v1 H1 s1 d1 => ?_
  obtain ⟨rels, hg, d1⟩ := d1
  have d1 : dL K (rels.map encR) Hn H1 v1 := toHn (mL d1 (Same.refl _))
  -- sentences
  refine q_asg (δ := dSs rels) (ev_call (⟨ns, 4, rels⟩ : LS) (ea_cons (el_var (i := 0) rfl (lL d0 s1)) (ea_cons ed_int (ea_cons (el_var (i := 1) rfl (lL d1 (Same.refl _))) (ea_cons (en_mod (cell (k := 2) rfl s1 (by decide)) (by decide) (by decide)) ea_nil)))) fun _ _ => ⟨hn, by show 4 ≤ 100; decide, hg⟩) (Same.refl _) fun v2 H2 s2 d2 => ?_
  obtain ⟨sents, ⟨hfew, hss⟩, d2⟩ := d2
  have d2 : dL K (sents.map encSe) Hn H2 v2 := toHn (mL d2 (Same.refl _))
  have d1 : dL K (rels.map encR) Hn H2 v1 := up d1 s2
  have gk : GoodK ⟨rels, sents⟩ := ⟨hg, hfew, hss⟩
  have s02 := s1.trans s2
  -- the kind
  refine q_asg (δ := dK C ⟨rels, sents⟩) (ev_make gk (ea_cons (ev_l (em_listOf (el_var (i := 1) rfl (lL d1 (Same.refl _))))) (ea_cons (ev_l (em_listOf (el_var (i := 2) rfl (lL d2 (Same.refl _))))) ea_nil))) (Same.refl _) fun v3 H3 s3 d3 => ?_
  have d3 : dK C ⟨rels, sents⟩ Hn H3 v3 := toHn d3
  have d1 : dL K (rels.map encR) Hn H3 v1 := up d1 s3
  have d2 : dL K (sents.map encSe) Hn H3 v2 := up d2 s3
  have s03 := s02.trans s3
  -- the size
  refine q_asg (δ := dNat 4) (en_mod (ei_div (cell (k := 2) rfl s03 (by decide)) (by decide) (by decide)) (by decide) (by decide)) (Same.refl _) fun v4 H4 s4 d4 => ?_
  obtain ⟨sz0, rfl, hsz0⟩ := d4
  have d1 : dL K (rels.map encR) Hn H4 v1 := up d1 s4
  have d2 : dL K (sents.map encSe) Hn H4 v2 := up d2 s4
  have d3 : dK C ⟨rels, sents⟩ Hn H4 v3 := up d3 s4
  have s04 := s03.trans s4
  refine q_for (as := List.range 4) (ei_range1 (n := 4) ed_int (by decide)) (Same.refl _) fun H5 s5 => ?_
  refine ⟨fun i σ' G => ∃ v5 sz, σ' = [some v0, some v1, some v2, some v3, some (.int (sz : Nat)), v5, none, none, none, none] ∧ Same H5 G ∧ sz ≤ 4 ∧ (countA rels sz ≤ 100 ∨ sz + i ≤ 4),
    ⟨none, sz0, rfl, Same.refl _, hsz0, .inr (by omega)⟩, fun i σ' G _ ⟨_, _, _, s', _⟩ => kp_same s5 s', ?_, ?_⟩
  · rintro i a x σ' G0 G hi ⟨v5, sz, rfl, s', h4, hor⟩ sy dx
    have sG := (s5.trans s').trans sy
    refine s_if (b := decide (100 < countA rels sz)) (et_test (dB_to (ed_cmp (ev_call (rels, sz) (ea_cons (el_var (i := 1) rfl (lL d1 sG)) (ea_cons (ed_var (i := 4) rfl (.int _)) ea_nil)) fun _ _ => ⟨hg, by show sz ≤ 7; omega⟩) ed_int) (dec_nat_lt 100 _))) (Same.refl _) (fun hb G2 t2 => ?_) fun hb G2 t2 => ?_
    · have hgt : 100 < countA rels sz := of_decide_eq_true hb
      have hpos : 1 ≤ sz := by
        rcases Nat.eq_zero_or_pos sz with h | h
        · subst h; rw [count_zero] at hgt; omega
        · exact h
      refine s_asg (δ := dD (nI (sz - 1))) (dI_to (ed_op0 (ed_var (i := 4) rfl (.int _)) ed_int) (by omega)) (Same.refl _) fun v4' G3 t3 d4 => ?_
      cases Dt.int_inv d4
      exact ⟨_, sz - 1, rfl, (s'.trans sy).trans (t2.trans t3), by omega, .inr (by omega)⟩
    · have hle : countA rels sz ≤ 100 := Nat.le_of_not_lt (of_decide_eq_false hb)
      exact ⟨_, sz, rfl, (s'.trans sy).trans t2, h4, .inl hle⟩
  rintro σ' H6 ⟨v5, sz, rfl, s6, hsz, hor⟩
  have hcnt : countA rels sz ≤ 100 := by
    rcases hor with h | h
    · exact h
    · have h : sz + 4 ≤ 4 := h
      have : sz = 0 := by omega
      rw [this, count_zero]; decide
  have hck : ∀ k, k ≤ sz → countA rels k ≤ 100 := fun k hk => Nat.le_trans (count_mono hg hk) hcnt
  have s56 := s5.trans s6
  have s06 := s04.trans s56
  have d1 : dL K (rels.map encR) Hn H6 v1 := up d1 s56
  have d2 : dL K (sents.map encSe) Hn H6 v2 := up d2 s56
  have d3 : dK C ⟨rels, sents⟩ Hn H6 v3 := up d3 s56
  -- the levels
  refine q_asg (δ := dN (fun k => dM ((levelF rels sents k).map encS)) (List.range (sz + 1))) (ev_lcm (as := List.range (sz + 1)) (f := fun k => dM ((levelF rels sents k).map encS)) (ei_range1 (n := sz + 1) (dI_to (ed_op0 (ed_var (i := 4) rfl (.int _)) ed_int) (by omega)) (by omega)) (small_line (by rw [List.length_range]; omega)) fun k x G hk sG dx => ?_) (Same.refl _) fun v6 H7 s7 d6 => ?_
  · have hk' := List.mem_range.mp hk
    exact ev_call (⟨rels, sents, k⟩ : LA) (ea_cons (el_var (i := 1) rfl (lL d1 sG)) (ea_cons (el_var (i := 2) rfl (lL d2 sG)) (ea_cons (ed_var (i := 5) rfl dx) ea_nil))) fun _ _ => ⟨hg, hfew, hss, by show k ≤ 7; omega, hck k (by omega)⟩
  have d1 : dL K (rels.map encR) Hn H7 v1 := up d1 s7
  have d3 : dK C ⟨rels, sents⟩ Hn H7 v3 := up d3 s7
  have s07 := s06.trans s7
  have d6 : dN (fun k => dM ((levelF rels sents k).map encS)) (List.range (sz + 1)) Hn H7 v6 := toHn d6
  have d6' := d6
  obtain ⟨p6, w6, rfl, _, hp6, _⟩ := d6'
  have lev : ∀ k, k ≤ sz → ∃ u, atI w6 ((k : Nat) : Int) = some u ∧ dM ((levelF rels sents k).map encS) Hn H7 u := fun k hk => by
    obtain ⟨q, ws, u, e, hq', gu, du⟩ := dN_at (i := k) (a := k) d6 (by rw [List.getElem?_range (by omega)])
    cases e
    rw [hp6] at hq'
    cases hq'
    exact ⟨u, atI_nat gu, du⟩
  have elev : ∀ {σ : L2.St} {G : Hp} {te : TE} {k : Nat} {u : V}, σ[6]? = some (some (.ref p6)) → Same H7 G → EvX te σ G (dD (nI k)) → atI w6 ((k : Nat) : Int) = some u → EvX (tOp (rIxL K) (tVar 6) te) σ G (dV u) := fun h6 s he hu => ev_ixL (ev_var h6) he (SqL.of (s _ _ hp6)) hu
  -- extensions
  refine q_for (as := List.range sz) (ei_range1 (n := sz) (ed_var (i := 4) rfl (.int _)) (by omega)) (Same.refl _) fun H8 s8 => ?_
  refine ⟨fun i σ' G => (∃ v5 v7, σ' = [some v0, some v1, some v2, some v3, some (.int (sz : Nat)), v5, some (.ref p6), v7, none, none]) ∧ Same H8 G, ⟨⟨v5, none, rfl⟩, Same.refl _⟩, fun i σ' G _ h => kp_same s8 h.2, ?_, ?_⟩
  · rintro i a x σ' G0 G hi ⟨⟨v5, v7, rfl⟩, s'⟩ sy dx
    obtain ⟨rfl, hin⟩ := range_get hi
    cases Dt.int_inv dx
    have sG := (s8.trans s').trans sy
    obtain ⟨u, hu, du⟩ := lev a (by omega)
    obtain ⟨u', hu', du'⟩ := lev (a + 1) (by omega)
    show tFor _ _ _ _ [some v0, some v1, some v2, some v3, some (.int (sz : Nat)), some (.int (a : Nat)), some (.ref p6), v7, none, none] G
    refine s_for (as := levelF rels sents a) (ei_at (enc := encS) (elev rfl sG (ed_var (i := 5) rfl (.int _)) hu) (up du sG)) (Same.refl _) fun G1 t1 => ?_
    refine ⟨fun j σ' G2 => (∃ v7, σ' = [some v0, some v1, some v2, some v3, some (.int (sz : Nat)), some (.int (a : Nat)), some (.ref p6), v7, none, none]) ∧ Same G1 G2, ⟨⟨v7, rfl⟩, Same.refl _⟩, fun j σ' G2 _ h => kp_same t1 h.2, ?_, ?_⟩
    · rintro j o y σ' G2 G3 ho ⟨⟨v7, rfl⟩, t'⟩ ty dy
      obtain ⟨x, hx, rfl, hfit⟩ := level_get (List.mem_of_getElem? ho)
      have sG3 := sG.trans (t1.trans (t'.trans ty))
      have hc1 := hck (a + 1) (by omega)
      have hcF := countF_le hg a
      refine s_no (et_not (a := true) (et_B (ev_call (⟨⟨rels, sents⟩, phiX rels a x, a, levelF rels sents (a + 1)⟩ : EXT) (ea_cons (dK_var (i := 3) rfl (up d3 sG3)) (ea_cons (ed_var (i := 7) rfl dy) (ea_cons (el_at (elev (k := a + 1) rfl sG3 (dI_to (ed_op0 (ed_var (i := 5) rfl (.int _)) ed_int) (by omega)) hu') (up du' sG3)) ea_nil))) fun _ _ => ⟨gk, by show a ≤ 6; omega, phi_good hg a x, by show countF rels a ≤ 4096; omega, level_len hc1, fun o ho => ?_, ext_eq gk hfit (struct_mem rels hx)⟩))) (Same.refl _) fun G4 t4 => ?_
      · obtain ⟨z, _, rfl, _⟩ := level_get ho
        exact struct_len _ _ _
      · exact ⟨⟨_, rfl⟩, (t'.trans ty).trans t4⟩
    · rintro σ' G2 ⟨⟨v7, rfl⟩, t'⟩
      exact ⟨⟨_, _, rfl⟩, (s'.trans sy).trans (t1.trans t')⟩
  rintro σ' H9 ⟨⟨v5, v7, rfl⟩, s9⟩
  have s79 := s8.trans s9
  have s09 := s07.trans s79
  have d1 : dL K (rels.map encR) Hn H9 v1 := up d1 s79
  have d3 : dK C ⟨rels, sents⟩ Hn H9 v3 := up d3 s79
  -- is_of_kind
  refine q_asg (δ := dM ((keysF rels sz).map encKey)) (ev_call (rels, sz) (ea_cons (el_var (i := 1) rfl (lL d1 (Same.refl _))) (ea_cons (ed_var (i := 4) rfl (.int _)) ea_nil)) fun _ _ => ⟨hg, by show sz ≤ 7; omega⟩) (Same.refl _) fun v8 H10 s10 d8 => ?_
  have d8 : dL K ((keysF rels sz).map encKey) Hn H10 v8 := toHn (mL d8 (Same.refl _))
  have d1 : dL K (rels.map encR) Hn H10 v1 := up d1 s10
  have d3 : dK C ⟨rels, sents⟩ Hn H10 v3 := up d3 s10
  have s710 := s79.trans s10
  have klen := keysF_len hg (n := sz) (by omega)
  obtain ⟨u, hu, du⟩ := lev sz (Nat.le_refl _)
  refine q_for (as := List.range (countA rels sz)) (ei_range1 (n := countA rels sz) (ev_call (rels, sz) (ea_cons (el_var (i := 1) rfl (lL d1 (Same.refl _))) (ea_cons (ed_var (i := 4) rfl (.int _)) ea_nil)) fun _ _ => ⟨hg, by show sz ≤ 7; omega⟩) (by omega)) (Same.refl _) fun H11 s11 => ?_
  refine ⟨fun i σ' G => (∃ v7 v9, σ' = [some v0, some v1, some v2, some v3, some (.int (sz : Nat)), v5, some (.ref p6), v7, some v8, v9]) ∧ Same H11 G, ⟨⟨v7, none, rfl⟩, Same.refl _⟩, fun i σ' G _ h => kp_same s11 h.2, ?_, ?_⟩
  · rintro i a x σ' G0 G hi ⟨⟨v7, v9, rfl⟩, s'⟩ sy dx
    obtain ⟨ea, hin⟩ := range_get hi
    have hin : a < countA rels sz := by omega
    have dx : Dt G x (nI a) := dx
    have sG := (s11.trans s').trans sy
    show tSeq _ _ _ [some v0, some v1, some v2, some v3, some (.int (sz : Nat)), v5, some (.ref p6), v7, some v8, some x] G
    refine q_asg (δ := dD (encS (structOf rels (phiX rels sz a) sz))) (ev_call (⟨rels, kvsOf rels (keysF rels sz) a, sz⟩ : LP) (ea_cons (el_var (i := 1) rfl (lL d1 sG)) (ea_cons (ev_call (⟨rels, keysF rels sz, a⟩ : IX) (ea_cons (el_var (i := 1) rfl (lL d1 sG)) (ea_cons (el_var (i := 8) rfl (lL d8 sG)) (ea_cons (ed_var (i := 9) rfl dx) ea_nil))) fun _ _ => ⟨hg, keysF_nodup _ _, by show (keysF rels sz).length ≤ 60000; omega, keysF_at⟩) (ea_cons (ev_l (em_listRg (n := sz) (ed_var (i := 4) rfl (.int _)) (by omega))) ea_nil))) fun _ _ => ⟨hg, by show sz ≤ 7; omega, kvs_covers _ _ _⟩) (Same.refl _) fun v7' G1 t1 d7 => ?_
    have sG1 := sG.trans t1
    have d7 : Dt G1 v7' (encS (structOf rels (phiX rels sz a) sz)) := d7
    refine s_no (et_not (a := true) (et_B (ev_call (.inl (.bool (fitsF rels sents (phiX rels sz a) sz)) : PyData ⊕ List PyData) (ea_cons (ev_call (⟨⟨rels, sents⟩, phiX rels sz a, sz⟩ : KS) (ea_cons (dK_var (i := 3) rfl (up d3 sG1)) (ea_cons (ed_var (i := 7) rfl d7) ea_nil)) fun _ _ => ⟨gk, by show sz ≤ 6; omega, phi_good hg sz a⟩) (ea_cons (dB_to (ed_inD (ed_var (i := 7) rfl d7) (el_at (elev rfl (s710.trans sG1) (ed_var (i := 4) rfl (.int _)) hu) (up du (s710.trans sG1))) (ps_shaped (n := 3) (by decide) (ps_encS _)) (ps_shapedL (n := 3) (by decide) fun d hd => ?_)) ?_) ea_nil)) fun _ _ => ?_))) (Same.refl _) fun G2 t2 => ?_
    · obtain ⟨s, _, rfl⟩ := List.mem_map.mp hd
      exact ps_encS s
    · rw [any_eqv, level_mem hg hss hin]
    · exact .inr (.inl ⟨_, rfl⟩)
    · exact ⟨⟨_, _, rfl⟩, (s'.trans sy).trans (t1.trans t2)⟩
  · rintro σ' G ⟨⟨v7, v9, rfl⟩, s'⟩
    exact s_ret (δ := dD (.bool true)) ed_bl (Same.refl _) fun v G2 t2 dv => hq v G2 ((s09.trans s10).trans ((s11.trans s').trans t2)) dv
end
end D18
set_option Elab.async false
set_option linter.all false
set_option maxRecDepth 100000
set_option maxHeartbeats 8000000
/-! PgJ: what the top has written; each def's promise; the walk. -/
namespace D18
open PySem L2
/-- the defs stand there -/
structure Top (K : PySem.W.Frag) (mg : Str → Option Value) : Prop where
  t_choices : Df K mg "choices" sChoices
  t_is_ascending : Df K mg "is_ascending" sIsAsc
  t_places : Df K mg "places" sPlaces
  t_is_part : Df K mg "is_part" sIsPart
  t_is_layer : Df K mg "is_layer" sIsLayer
  t_has_shape : Df K mg "has_shape" sHasShape
  t_value_at : Df K mg "value_at" sValueAt
  t_value : Df K mg "value" sValue
  t_is_true : Df K mg "is_true" sIsTrue
  t_holds : Df K mg "holds" sHolds
  t_is_of_kind : Df K mg "is_of_kind" sIsOfKind
  t_count_layers : Df K mg "count_layers" sCount
  t_all_parts : Df K mg "all_parts" sAllParts
  t_ask_layers : Df K mg "ask_layers" sAsk
  t_layers : Df K mg "layers" sLayers
  t_holds_at_last : Df K mg "holds_at_last" sHoldsLast
  t_extensions : Df K mg "extensions" sExts
  t_atoms_of : Df K mg "atoms_of" sAtoms
  t_index_of : Df K mg "index_of" sIndexOf
  t_Lcell : Df K mg "_law_cell" sLcell
  t_Ldigits : Df K mg "_law_digits" sLdigits
  t_Lequal : Df K mg "_law_equal" sLequal
  t_Lnames : Df K mg "_law_names" sLnames
  t_Lchoices : Df K mg "_law_choices" sLchoices
  t_Lplaces : Df K mg "_law_places" sLplaces
  t_Lrelations : Df K mg "_law_relations" sLrels
  t_Lordered_keys : Df K mg "_law_ordered_keys" sLkeys
  t_Lcount : Df K mg "_law_count" sLcount
  t_Lindexed : Df K mg "_law_indexed" sLindexed
  t_Lvalue : Df K mg "_law_value" sLvalue
  t_Lpart : Df K mg "_law_part" sLpart
  t_Latom : Df K mg "_law_atom" sLatom
  t_Lformula : Df K mg "_law_formula" sLformula
  t_Lsentences : Df K mg "_law_sentences" sLsents
  t_Lis_true : Df K mg "_law_is_true" sLisTrue
  t_Lholds : Df K mg "_law_holds" sLholds
  t_Lfits : Df K mg "_law_fits" sLfits
  t_Lall : Df K mg "_law_all" sLall
  t_Lextends : Df K mg "_law_extends" sLextends
section
variable {P : Program} {w : World} {K : PySem.W.Frag} {mg : Str → Option Value} {base : Heap}
theorem dl_mk {x : Str} {st : Stmt} {ps : List Str} {k : Nat} {sp : Sp} (D : Df K mg x st) (ok : ∀ f fd, Fun K x x st f fd → FnOk P w K mg base CX0 k f fd ps sp) (b : ∀ f fd, Fun K x x st f fd → Binds K fd ps []) : Dl P w K mg base x k ps sp := by
  obtain ⟨f, fd, F, m⟩ := D
  exact ⟨f, fd, ok f fd F, m, F.kp, b f fd F⟩
theorem df_mk {h : Heap} (X : K.In h) (G : h.Ns mainGlobals mg) {x : Str} {st : Stmt} {f : Addr} {fd : FuncData} (a : PySem.W.nsIn K mainGlobals x = some (some (.ref f))) (F : Fun K x x st f fd) : Df K mg x st := ⟨f, fd, F, PySem.W.mg_of X G a⟩
theorem void_true {C : Addr} : ∀ vs H Q E, ¬ spIsTrue C 0 vs H Q E := fun vs H Q E h => by
  obtain ⟨r, _, hp, _⟩ := h
  have := hp.d
  have := depthF_pos r.f
  omega
theorem void_Ltrue : ∀ vs H Q E, ¬ spLisTrue P w K 0 vs H Q E := fun vs H Q E h => by
  obtain ⟨r, _, hp, _⟩ := h
  have := hp.d
  have := depthF_pos r.f
  omega
theorem void_atoms : ∀ vs H Q E, ¬ spAtoms 0 vs H Q E := fun vs H Q E h => by
  obtain ⟨r, _, hp, _⟩ := h
  have hp : depthF r ≤ 0 := hp
  have := depthF_pos r
  omega
theorem void_equal : ∀ vs H Q E, ¬ spLequal 0 vs H Q E := fun vs H Q E h => by
  obtain ⟨r, _, hp, _⟩ := h
  cases r with
  | inl x => exact hp
  | inr x => exact hp
theorem bd_choices {f : Addr} {fd : FuncData} (F : Fun K "choices" "choices" sChoices f fd) : Binds K fd ["points", "count"] [] := F.binds (ps := ["points", "count"]) fun _ _ _ _ _ _ us hl => match us, hl with | [_, _], _ => rfl
theorem bd_is_ascending {f : Addr} {fd : FuncData} (F : Fun K "is_ascending" "is_ascending" sIsAsc f fd) : Binds K fd ["choice"] [] := F.binds (ps := ["choice"]) fun _ _ _ _ _ _ us hl => match us, hl with | [_], _ => rfl
theorem bd_places {f : Addr} {fd : FuncData} (F : Fun K "places" "places" sPlaces f fd) : Binds K fd ["relation", "point"] [] := F.binds (ps := ["relation", "point"]) fun _ _ _ _ _ _ us hl => match us, hl with | [_, _], _ => rfl
theorem bd_is_part {f : Addr} {fd : FuncData} (F : Fun K "is_part" "is_part" sIsPart f fd) : Binds K fd ["values", "count", "length"] [] := F.binds (ps := ["values", "count", "length"]) fun _ _ _ _ _ _ us hl => match us, hl with | [_, _, _], _ => rfl
theorem bd_is_layer {f : Addr} {fd : FuncData} (F : Fun K "is_layer" "is_layer" sIsLayer f fd) : Binds K fd ["kind", "layer", "point"] [] := F.binds (ps := ["kind", "layer", "point"]) fun _ _ _ _ _ _ us hl => match us, hl with | [_, _, _], _ => rfl
theorem bd_has_shape {f : Addr} {fd : FuncData} (F : Fun K "has_shape" "has_shape" sHasShape f fd) : Binds K fd ["kind", "structure"] [] := F.binds (ps := ["kind", "structure"]) fun _ _ _ _ _ _ us hl => match us, hl with | [_, _], _ => rfl
theorem bd_value_at {f : Addr} {fd : FuncData} (F : Fun K "value_at" "value_at" sValueAt f fd) : Binds K fd ["kind", "structure", "number", "points"] [] := F.binds (ps := ["kind", "structure", "number", "points"]) fun _ _ _ _ _ _ us hl => match us, hl with | [_, _, _, _], _ => rfl
theorem bd_value {f : Addr} {fd : FuncData} (F : Fun K "value" "value" sValue f fd) : Binds K fd ["kind", "structure", "name", "points"] [] := F.binds (ps := ["kind", "structure", "name", "points"]) fun _ _ _ _ _ _ us hl => match us, hl with | [_, _, _, _], _ => rfl
theorem bd_is_true {f : Addr} {fd : FuncData} (F : Fun K "is_true" "is_true" sIsTrue f fd) : Binds K fd ["kind", "structure", "formula", "chosen"] [] := F.binds (ps := ["kind", "structure", "formula", "chosen"]) fun _ _ _ _ _ _ us hl => match us, hl with | [_, _, _, _], _ => rfl
theorem bd_holds {f : Addr} {fd : FuncData} (F : Fun K "holds" "holds" sHolds f fd) : Binds K fd ["kind", "structure", "sentence"] [] := F.binds (ps := ["kind", "structure", "sentence"]) fun _ _ _ _ _ _ us hl => match us, hl with | [_, _, _], _ => rfl
theorem bd_is_of_kind {f : Addr} {fd : FuncData} (F : Fun K "is_of_kind" "is_of_kind" sIsOfKind f fd) : Binds K fd ["kind", "structure"] [] := F.binds (ps := ["kind", "structure"]) fun _ _ _ _ _ _ us hl => match us, hl with | [_, _], _ => rfl
theorem bd_count_layers {f : Addr} {fd : FuncData} (F : Fun K "count_layers" "count_layers" sCount f fd) : Binds K fd ["kind", "point"] [] := F.binds (ps := ["kind", "point"]) fun _ _ _ _ _ _ us hl => match us, hl with | [_, _], _ => rfl
theorem bd_all_parts {f : Addr} {fd : FuncData} (F : Fun K "all_parts" "all_parts" sAllParts f fd) : Binds K fd ["count", "length"] [] := F.binds (ps := ["count", "length"]) fun _ _ _ _ _ _ us hl => match us, hl with | [_, _], _ => rfl
theorem bd_ask_layers {f : Addr} {fd : FuncData} (F : Fun K "ask_layers" "ask_layers" sAsk f fd) : Binds K fd ["kind", "point"] [] := F.binds (ps := ["kind", "point"]) fun _ _ _ _ _ _ us hl => match us, hl with | [_, _], _ => rfl
theorem bd_layers {f : Addr} {fd : FuncData} (F : Fun K "layers" "layers" sLayers f fd) : Binds K fd ["kind", "point"] [] := F.binds (ps := ["kind", "point"]) fun _ _ _ _ _ _ us hl => match us, hl with | [_, _], _ => rfl
theorem bd_holds_at_last {f : Addr} {fd : FuncData} (F : Fun K "holds_at_last" "holds_at_last" sHoldsLast f fd) : Binds K fd ["kind", "structure", "sentence"] [] := F.binds (ps := ["kind", "structure", "sentence"]) fun _ _ _ _ _ _ us hl => match us, hl with | [_, _, _], _ => rfl
theorem bd_extensions {f : Addr} {fd : FuncData} (F : Fun K "extensions" "extensions" sExts f fd) : Binds K fd ["kind", "structure"] [] := F.binds (ps := ["kind", "structure"]) fun _ _ _ _ _ _ us hl => match us, hl with | [_, _], _ => rfl
theorem bd_atoms_of {f : Addr} {fd : FuncData} (F : Fun K "atoms_of" "atoms_of" sAtoms f fd) : Binds K fd ["formula"] [] := F.binds (ps := ["formula"]) fun _ _ _ _ _ _ us hl => match us, hl with | [_], _ => rfl
theorem bd_index_of {f : Addr} {fd : FuncData} (F : Fun K "index_of" "index_of" sIndexOf f fd) : Binds K fd ["row"] [] := F.binds (ps := ["row"]) fun _ _ _ _ _ _ us hl => match us, hl with | [_], _ => rfl
theorem bd_Lcell {f : Addr} {fd : FuncData} (F : Fun K "_law_cell" "_law_cell" sLcell f fd) : Binds K fd ["_law_script", "_law_k"] [] := F.binds (ps := ["_law_script", "_law_k"]) fun _ _ _ _ _ _ us hl => match us, hl with | [_, _], _ => rfl
theorem bd_Ldigits {f : Addr} {fd : FuncData} (F : Fun K "_law_digits" "_law_digits" sLdigits f fd) : Binds K fd ["_law_cell_here", "_law_many", "_law_count_here"] [] := F.binds (ps := ["_law_cell_here", "_law_many", "_law_count_here"]) fun _ _ _ _ _ _ us hl => match us, hl with | [_, _, _], _ => rfl
theorem bd_Lequal {f : Addr} {fd : FuncData} (F : Fun K "_law_equal" "_law_equal" sLequal f fd) : Binds K fd ["_law_actual", "_law_expected"] [] := F.binds (ps := ["_law_actual", "_law_expected"]) fun _ _ _ _ _ _ us hl => match us, hl with | [_, _], _ => rfl
theorem bd_Lnames {f : Addr} {fd : FuncData} (F : Fun K "_law_names" "_law_names" sLnames f fd) : Binds K fd ["_law_cell_here", "_law_count_here"] [] := F.binds (ps := ["_law_cell_here", "_law_count_here"]) fun _ _ _ _ _ _ us hl => match us, hl with | [_, _], _ => rfl
theorem bd_Lchoices {f : Addr} {fd : FuncData} (F : Fun K "_law_choices" "_law_choices" sLchoices f fd) : Binds K fd ["_law_points", "_law_count_here"] [] := F.binds (ps := ["_law_points", "_law_count_here"]) fun _ _ _ _ _ _ us hl => match us, hl with | [_, _], _ => rfl
theorem bd_Lplaces {f : Addr} {fd : FuncData} (F : Fun K "_law_places" "_law_places" sLplaces f fd) : Binds K fd ["_law_relation", "_law_point"] [] := F.binds (ps := ["_law_relation", "_law_point"]) fun _ _ _ _ _ _ us hl => match us, hl with | [_, _], _ => rfl
theorem bd_Lrelations {f : Addr} {fd : FuncData} (F : Fun K "_law_relations" "_law_relations" sLrels f fd) : Binds K fd ["_law_cell_here", "_law_names_here"] [] := F.binds (ps := ["_law_cell_here", "_law_names_here"]) fun _ _ _ _ _ _ us hl => match us, hl with | [_, _], _ => rfl
theorem bd_Lordered_keys {f : Addr} {fd : FuncData} (F : Fun K "_law_ordered_keys" "_law_ordered_keys" sLkeys f fd) : Binds K fd ["_law_relations_here", "_law_size"] [] := F.binds (ps := ["_law_relations_here", "_law_size"]) fun _ _ _ _ _ _ us hl => match us, hl with | [_, _], _ => rfl
theorem bd_Lcount {f : Addr} {fd : FuncData} (F : Fun K "_law_count" "_law_count" sLcount f fd) : Binds K fd ["_law_relations_here", "_law_size"] [] := F.binds (ps := ["_law_relations_here", "_law_size"]) fun _ _ _ _ _ _ us hl => match us, hl with | [_, _], _ => rfl
theorem bd_Lindexed {f : Addr} {fd : FuncData} (F : Fun K "_law_indexed" "_law_indexed" sLindexed f fd) : Binds K fd ["_law_relations_here", "_law_keys", "_law_index"] [] := F.binds (ps := ["_law_relations_here", "_law_keys", "_law_index"]) fun _ _ _ _ _ _ us hl => match us, hl with | [_, _, _], _ => rfl
theorem bd_Lvalue {f : Addr} {fd : FuncData} (F : Fun K "_law_value" "_law_value" sLvalue f fd) : Binds K fd ["_law_relations_here", "_law_facts", "_law_number", "_law_points"] [] := F.binds (ps := ["_law_relations_here", "_law_facts", "_law_number", "_law_points"]) fun _ _ _ _ _ _ us hl => match us, hl with | [_, _, _, _], _ => rfl
theorem bd_Lpart {f : Addr} {fd : FuncData} (F : Fun K "_law_part" "_law_part" sLpart f fd) : Binds K fd ["_law_relations_here", "_law_facts", "_law_points"] [] := F.binds (ps := ["_law_relations_here", "_law_facts", "_law_points"]) fun _ _ _ _ _ _ us hl => match us, hl with | [_, _, _], _ => rfl
theorem bd_Latom {f : Addr} {fd : FuncData} (F : Fun K "_law_atom" "_law_atom" sLatom f fd) : Binds K fd ["_law_digit", "_law_count_here", "_law_relations_here"] [] := F.binds (ps := ["_law_digit", "_law_count_here", "_law_relations_here"]) fun _ _ _ _ _ _ us hl => match us, hl with | [_, _, _], _ => rfl
theorem bd_Lformula {f : Addr} {fd : FuncData} (F : Fun K "_law_formula" "_law_formula" sLformula f fd) : Binds K fd ["_law_cell_here", "_law_count_here", "_law_relations_here", "_law_most"] [] := F.binds (ps := ["_law_cell_here", "_law_count_here", "_law_relations_here", "_law_most"]) fun _ _ _ _ _ _ us hl => match us, hl with | [_, _, _, _], _ => rfl
theorem bd_Lsentences {f : Addr} {fd : FuncData} (F : Fun K "_law_sentences" "_law_sentences" sLsents f fd) : Binds K fd ["_law_script", "_law_start", "_law_relations_here", "_law_many"] [] := F.binds (ps := ["_law_script", "_law_start", "_law_relations_here", "_law_many"]) fun _ _ _ _ _ _ us hl => match us, hl with | [_, _, _, _], _ => rfl
theorem bd_Lis_true {f : Addr} {fd : FuncData} (F : Fun K "_law_is_true" "_law_is_true" sLisTrue f fd) : Binds K fd ["_law_relations_here", "_law_facts", "_law_formula_here", "_law_chosen"] [] := F.binds (ps := ["_law_relations_here", "_law_facts", "_law_formula_here", "_law_chosen"]) fun _ _ _ _ _ _ us hl => match us, hl with | [_, _, _, _], _ => rfl
theorem bd_Lholds {f : Addr} {fd : FuncData} (F : Fun K "_law_holds" "_law_holds" sLholds f fd) : Binds K fd ["_law_relations_here", "_law_facts", "_law_size", "_law_sentence"] [] := F.binds (ps := ["_law_relations_here", "_law_facts", "_law_size", "_law_sentence"]) fun _ _ _ _ _ _ us hl => match us, hl with | [_, _, _, _], _ => rfl
theorem bd_Lfits {f : Addr} {fd : FuncData} (F : Fun K "_law_fits" "_law_fits" sLfits f fd) : Binds K fd ["_law_relations_here", "_law_sentences_here", "_law_facts", "_law_size"] [] := F.binds (ps := ["_law_relations_here", "_law_sentences_here", "_law_facts", "_law_size"]) fun _ _ _ _ _ _ us hl => match us, hl with | [_, _, _, _], _ => rfl
theorem bd_Lall {f : Addr} {fd : FuncData} (F : Fun K "_law_all" "_law_all" sLall f fd) : Binds K fd ["_law_relations_here", "_law_sentences_here", "_law_size"] [] := F.binds (ps := ["_law_relations_here", "_law_sentences_here", "_law_size"]) fun _ _ _ _ _ _ us hl => match us, hl with | [_, _, _], _ => rfl
theorem bd_Lextends {f : Addr} {fd : FuncData} (F : Fun K "_law_extends" "_law_extends" sLextends f fd) : Binds K fd ["_law_kind", "_law_structure", "_law_longer"] [] := F.binds (ps := ["_law_kind", "_law_structure", "_law_longer"]) fun _ _ _ _ _ _ us hl => match us, hl with | [_, _, _], _ => rfl
theorem bd_init {f : Addr} {fd : FuncData} (F : Fun K "__init__" "Kind.__init__" sInit f fd) : Binds K fd ["self", "relations", "sentences"] [] := F.binds (ps := ["self", "relations", "sentences"]) fun _ _ _ _ _ _ us hl => match us, hl with | [_, _, _], _ => rfl
theorem bd_ask {f : Addr} {fd : FuncData} (F : Fun K "ask_atoms" "Kind.ask_atoms" sAskAt f fd) : Binds K fd ["self", "formula"] [] := F.binds (ps := ["self", "formula"]) fun _ _ _ _ _ _ us hl => match us, hl with | [_, _], _ => rfl
theorem ok_all {C fa fI fA : Addr} {fda fdI fdA : FuncData} (Fa : Fun K "law" "law" sLaw fa fda) (T : Txt K mg) (D : Top K mg) (KK : KC K C) (MK : Mk K C fI) (mgC : mg "Kind" = some (.ref C)) (FI : Fun K "__init__" "Kind.__init__" sInit fI fdI) (FA : Fun K "ask_atoms" "Kind.ask_atoms" sAskAt fA fdA) (mAsk : Meth K C "ask_atoms" fA) :
    FnOk P w K mg base CX0 18 fa fda ["_law_script"] (spLaw K) := by
  have h_choices : Dl P w K mg base "choices" 1 ["points", "count"] (spChoices K) := dl_mk D.t_choices (fun f fd F => ok_choices F T) fun f fd F => bd_choices F
  have h_is_ascending : Dl P w K mg base "is_ascending" 1 ["choice"] spIsAsc := dl_mk D.t_is_ascending (fun f fd F => ok_isAsc F T) fun f fd F => bd_is_ascending F
  have h_places : Dl P w K mg base "places" 2 ["relation", "point"] spPlaces := dl_mk D.t_places (fun f fd F => ok_places F T h_choices h_is_ascending) fun f fd F => bd_places F
  have h_is_part : Dl P w K mg base "is_part" 1 ["values", "count", "length"] spIsPart := dl_mk D.t_is_part (fun f fd F => ok_isPart F T) fun f fd F => bd_is_part F
  have h_is_layer : Dl P w K mg base "is_layer" 2 ["kind", "layer", "point"] (spIsLayer C) := dl_mk D.t_is_layer (fun f fd F => ok_isLayer F T KK h_is_part) fun f fd F => bd_is_layer F
  have h_has_shape : Dl P w K mg base "has_shape" 3 ["kind", "structure"] (spHasShape C) := dl_mk D.t_has_shape (fun f fd F => ok_hasShape F T h_is_layer) fun f fd F => bd_has_shape F
  have h_value_at : Dl P w K mg base "value_at" 1 ["kind", "structure", "number", "points"] (spValueAt K C) := dl_mk D.t_value_at (fun f fd F => ok_valueAt F T KK) fun f fd F => bd_value_at F
  have h_value : Dl P w K mg base "value" 2 ["kind", "structure", "name", "points"] (spValue K C) := dl_mk D.t_value (fun f fd F => ok_value F T KK h_value_at) fun f fd F => bd_value F
  have r_true : ∀ d, Dl P w K mg base "is_true" (d + 2) ["kind", "structure", "formula", "chosen"] (spIsTrue C d) := fun d => by
    induction d with
    | zero => exact dl_mk D.t_is_true (fun f fd F => fn_void void_true) fun f fd F => bd_is_true F
    | succ d ih => exact dl_mk D.t_is_true (fun f fd F => ok_isTrue F T h_value ih) fun f fd F => bd_is_true F
  have h_is_true := r_true 12
  have h_holds : Dl P w K mg base "holds" 15 ["kind", "structure", "sentence"] (spHolds C) := dl_mk D.t_holds (fun f fd F => ok_holds F T h_choices h_is_true) fun f fd F => bd_holds F
  have h_is_of_kind : Dl P w K mg base "is_of_kind" 16 ["kind", "structure"] (spIsOfKind C) := dl_mk D.t_is_of_kind (fun f fd F => ok_isOfKind F T KK h_has_shape h_holds) fun f fd F => bd_is_of_kind F
  have h_count_layers : Dl P w K mg base "count_layers" 3 ["kind", "point"] (spCount C) := dl_mk D.t_count_layers (fun f fd F => ok_count F T KK h_places) fun f fd F => bd_count_layers F
  have h_all_parts : Dl P w K mg base "all_parts" 1 ["count", "length"] spAllParts := dl_mk D.t_all_parts (fun f fd F => ok_allParts F T) fun f fd F => bd_all_parts F
  have h_ask_layers : Dl P w K mg base "ask_layers" 4 ["kind", "point"] (spAsk C) := dl_mk D.t_ask_layers (fun f fd F => ok_ask F T h_count_layers) fun f fd F => bd_ask_layers F
  have h_layers : Dl P w K mg base "layers" 5 ["kind", "point"] (spLayers C) := dl_mk D.t_layers (fun f fd F => ok_layers F T KK h_ask_layers h_all_parts) fun f fd F => bd_layers F
  have h_holds_at_last : Dl P w K mg base "holds_at_last" 15 ["kind", "structure", "sentence"] (spHoldsLast C) := dl_mk D.t_holds_at_last (fun f fd F => ok_holdsLast F T h_choices h_is_true) fun f fd F => bd_holds_at_last F
  have h_extensions : Dl P w K mg base "extensions" 16 ["kind", "structure"] (spExts C) := dl_mk D.t_extensions (fun f fd F => ok_exts F T KK h_layers h_holds_at_last) fun f fd F => bd_extensions F
  have r_atoms : ∀ d, d ≤ 12 → Dl P w K mg base "atoms_of" d ["formula"] (spAtoms d) := fun d => by
    induction d with
    | zero => exact fun _ => dl_mk D.t_atoms_of (fun f fd F => fn_void void_atoms) fun f fd F => bd_atoms_of F
    | succ d ih => exact fun hd => dl_mk D.t_atoms_of (fun f fd F => ok_atoms hd F T (ih (by omega))) fun f fd F => bd_atoms_of F
  have h_atoms_of := r_atoms 12 (Nat.le_refl _)
  have h_index_of : Dl P w K mg base "index_of" 1 ["row"] (spIndexOf K) := dl_mk D.t_index_of (fun f fd F => ok_indexOf F T) fun f fd F => bd_index_of F
  have h_Lcell : Dl P w K mg base "_law_cell" 1 ["_law_script", "_law_k"] (spLcell K) := dl_mk D.t_Lcell (fun f fd F => ok_Lcell F T) fun f fd F => bd_Lcell F
  have h_Ldigits : Dl P w K mg base "_law_digits" 1 ["_law_cell_here", "_law_many", "_law_count_here"] spLdigits := dl_mk D.t_Ldigits (fun f fd F => ok_Ldigits F T) fun f fd F => bd_Ldigits F
  have r_equal : ∀ d, Dl P w K mg base "_law_equal" d ["_law_actual", "_law_expected"] (spLequal d) := fun d => by
    induction d with
    | zero => exact dl_mk D.t_Lequal (fun f fd F => fn_void void_equal) fun f fd F => bd_Lequal F
    | succ d ih => exact dl_mk D.t_Lequal (fun f fd F => ok_Lequal F T ih) fun f fd F => bd_Lequal F
  have h_Lequal := r_equal 4
  have h_Lnames : Dl P w K mg base "_law_names" 2 ["_law_cell_here", "_law_count_here"] spLnames := dl_mk D.t_Lnames (fun f fd F => ok_Lnames F T h_Ldigits) fun f fd F => bd_Lnames F
  have h_Lchoices : Dl P w K mg base "_law_choices" 1 ["_law_points", "_law_count_here"] (spChoices K) := dl_mk D.t_Lchoices (fun f fd F => ok_Lchoices F T) fun f fd F => bd_Lchoices F
  have h_Lplaces : Dl P w K mg base "_law_places" 2 ["_law_relation", "_law_point"] spPlaces := dl_mk D.t_Lplaces (fun f fd F => ok_Lplaces F T h_Lchoices) fun f fd F => bd_Lplaces F
  have h_Lrelations : Dl P w K mg base "_law_relations" 2 ["_law_cell_here", "_law_names_here"] (spLrels K) := dl_mk D.t_Lrelations (fun f fd F => ok_Lrels F T h_Ldigits) fun f fd F => bd_Lrelations F
  have h_Lordered_keys : Dl P w K mg base "_law_ordered_keys" 3 ["_law_relations_here", "_law_size"] (spLkeys K) := dl_mk D.t_Lordered_keys (fun f fd F => ok_Lkeys F T h_Lplaces) fun f fd F => bd_Lordered_keys F
  have h_Lcount : Dl P w K mg base "_law_count" 4 ["_law_relations_here", "_law_size"] (spLcount K) := dl_mk D.t_Lcount (fun f fd F => ok_Lcount F T h_Lordered_keys) fun f fd F => bd_Lcount F
  have h_Lindexed : Dl P w K mg base "_law_indexed" 1 ["_law_relations_here", "_law_keys", "_law_index"] (spLindexed P w K) := dl_mk D.t_Lindexed (fun f fd F => ok_Lindexed F T) fun f fd F => bd_Lindexed F
  have h_Lvalue : Dl P w K mg base "_law_value" 1 ["_law_relations_here", "_law_facts", "_law_number", "_law_points"] (spLvalue P w K) := dl_mk D.t_Lvalue (fun f fd F => ok_Lvalue F T) fun f fd F => bd_Lvalue F
  have h_Lpart : Dl P w K mg base "_law_part" 3 ["_law_relations_here", "_law_facts", "_law_points"] (spLpart P w K) := dl_mk D.t_Lpart (fun f fd F => ok_Lpart F T h_Lplaces h_Lvalue) fun f fd F => bd_Lpart F
  have h_Latom : Dl P w K mg base "_law_atom" 1 ["_law_digit", "_law_count_here", "_law_relations_here"] (spLatom K) := dl_mk D.t_Latom (fun f fd F => ok_Latom F T) fun f fd F => bd_Latom F
  have h_Lformula : Dl P w K mg base "_law_formula" 2 ["_law_cell_here", "_law_count_here", "_law_relations_here", "_law_most"] (spLformula K) := dl_mk D.t_Lformula (fun f fd F => ok_Lformula F T h_Ldigits h_Latom) fun f fd F => bd_Lformula F
  have h_Lsentences : Dl P w K mg base "_law_sentences" 3 ["_law_script", "_law_start", "_law_relations_here", "_law_many"] (spLsents K) := dl_mk D.t_Lsentences (fun f fd F => ok_Lsents F T h_Lcell h_Lformula) fun f fd F => bd_Lsentences F
  have r_Ltrue : ∀ d, Dl P w K mg base "_law_is_true" (d + 2) ["_law_relations_here", "_law_facts", "_law_formula_here", "_law_chosen"] (spLisTrue P w K d) := fun d => by
    induction d with
    | zero => exact dl_mk D.t_Lis_true (fun f fd F => fn_void void_Ltrue) fun f fd F => bd_Lis_true F
    | succ d ih => exact dl_mk D.t_Lis_true (fun f fd F => ok_LisTrue F T h_Lvalue ih) fun f fd F => bd_Lis_true F
  have h_Lis_true := r_Ltrue 12
  have h_Lholds : Dl P w K mg base "_law_holds" 15 ["_law_relations_here", "_law_facts", "_law_size", "_law_sentence"] (spLholds P w K) := dl_mk D.t_Lholds (fun f fd F => ok_Lholds F T h_Lchoices h_Lis_true) fun f fd F => bd_Lholds F
  have h_Lfits : Dl P w K mg base "_law_fits" 16 ["_law_relations_here", "_law_sentences_here", "_law_facts", "_law_size"] (spLfits P w K) := dl_mk D.t_Lfits (fun f fd F => ok_Lfits F T h_Lholds) fun f fd F => bd_Lfits F
  have h_Lall : Dl P w K mg base "_law_all" 17 ["_law_relations_here", "_law_sentences_here", "_law_size"] (spLall K) := dl_mk D.t_Lall (fun f fd F => ok_Lall F T h_Lordered_keys h_Lcount h_Lindexed h_Lfits h_Lpart) fun f fd F => bd_Lall F
  have h_Lextends : Dl P w K mg base "_law_extends" 17 ["_law_kind", "_law_structure", "_law_longer"] (spLextends K C) := dl_mk D.t_Lextends (fun f fd F => ok_Lextends F T h_extensions h_Lequal) fun f fd F => bd_Lextends F
  have GA : FnOk P w K mg base CX0 13 fA fdA ["self", "formula"] (spAskAt C) := ok_askAt FA T KK h_atoms_of
  have GI : FnOk P w K mg base CX0 14 fI fdI ["self", "relations", "sentences"] (spInit K C) := ok_init FI T KK mAsk GA (bd_ask FA) h_places h_index_of
  exact ok_law Fa T MK GI (bd_init FI) mgC h_Lcell h_Lnames h_Lrelations h_Lsentences h_Lcount h_Lall h_Lextends h_Lordered_keys h_Lindexed h_Lpart h_Lequal h_is_of_kind
end
theorem all_mk {l : PySem.W.OpenLaw} {w : World} {K : PySem.W.Frag} {h : Heap} {mg : Str → Option Value} {fa C f1 f2 f3 f4 f5 f6 f7 f8 f9 f10 f11 f12 f13 f14 f15 f16 f17 f18 f19 f20 f21 f22 f23 f24 f25 f26 f27 f28 f29 f30 f31 f32 f33 f34 f35 f36 f37 f38 f39 f40 f41 f42 : Addr} (X : K.In h) (G : h.Ns mainGlobals mg) (hfa : mg "law" = some (.ref fa))
    {od1 an1 od2 an2 od3 an3 od4 an4 od5 an5 od6 an6 od7 an7 od8 an8 od9 an9 od10 an10 od11 an11 od12 an12 od13 an13 od14 an14 od15 an15 od16 an16 od17 an17 od18 an18 od19 an19 od20 an20 od21 an21 od22 an22 od23 an23 od24 an24 od25 an25 od26 an26 od27 an27 od28 an28 od29 an29 od30 an30 od31 an31 od32 an32 od33 an33 od34 an34 od35 an35 od36 an36 od37 an37 od38 an38 od39 an39 od40 an40 od41 an41 od42 an42 : Option Addr} {sl1 sl2 sl3 sl4 sl5 sl6 sl7 sl8 sl9 sl10 sl11 sl12 sl13 sl14 sl15 sl16 sl17 sl18 sl19 sl20 sl21 sl22 sl23 sl24 sl25 sl26 sl27 sl28 sl29 sl30 sl31 sl32 sl33 sl34 sl35 sl36 sl37 sl38 sl39 sl40 sl41 sl42 : Array (Option Value)} {oc1 kV1 dc1 pm1 cd1 ct1 oc2 kV2 dc2 pm2 cd2 ct2 oc3 kV3 dc3 pm3 cd3 ct3 oc4 kV4 dc4 pm4 cd4 ct4 oc5 kV5 dc5 pm5 cd5 ct5 oc6 kV6 dc6 pm6 cd6 ct6 oc7 kV7 dc7 pm7 cd7 ct7 oc8 kV8 dc8 pm8 cd8 ct8 oc9 kV9 dc9 pm9 cd9 ct9 oc10 kV10 dc10 pm10 cd10 ct10 oc11 kV11 dc11 pm11 cd11 ct11 oc12 kV12 dc12 pm12 cd12 ct12 oc13 kV13 dc13 pm13 cd13 ct13 oc14 kV14 dc14 pm14 cd14 ct14 oc15 kV15 dc15 pm15 cd15 ct15 oc16 kV16 dc16 pm16 cd16 ct16 oc17 kV17 dc17 pm17 cd17 ct17 oc18 kV18 dc18 pm18 cd18 ct18 oc19 kV19 dc19 pm19 cd19 ct19 oc20 kV20 dc20 pm20 cd20 ct20 oc21 kV21 dc21 pm21 cd21 ct21 oc22 kV22 dc22 pm22 cd22 ct22 oc23 kV23 dc23 pm23 cd23 ct23 oc24 kV24 dc24 pm24 cd24 ct24 oc25 kV25 dc25 pm25 cd25 ct25 oc26 kV26 dc26 pm26 cd26 ct26 oc27 kV27 dc27 pm27 cd27 ct27 oc28 kV28 dc28 pm28 cd28 ct28 oc29 kV29 dc29 pm29 cd29 ct29 oc30 kV30 dc30 pm30 cd30 ct30 oc31 kV31 dc31 pm31 cd31 ct31 oc32 kV32 dc32 pm32 cd32 ct32 oc33 kV33 dc33 pm33 cd33 ct33 oc34 kV34 dc34 pm34 cd34 ct34 oc35 kV35 dc35 pm35 cd35 ct35 oc36 kV36 dc36 pm36 cd36 ct36 oc37 kV37 dc37 pm37 cd37 ct37 oc38 kV38 dc38 pm38 cd38 ct38 oc39 kV39 dc39 pm39 cd39 ct39 oc40 kV40 dc40 pm40 cd40 ct40 oc41 kV41 dc41 pm41 cd41 ct41 oc42 kV42 dc42 pm42 cd42 ct42 : Value} {tMP tML : Nat}
    (aC : PySem.W.nsIn K mainGlobals "Kind" = some (some (.ref C)))
    (a1 : PySem.W.nsIn K mainGlobals "choices" = some (some (.ref f1))) (l1 : K.lookup f1 = some ⟨oc1, od1, .func (PySem.W.fnOf "choices" "choices" (defArgs sChoices) (defBody sChoices) (defScope sChoices) .none kV1 dc1 pm1 an1 cd1 ct1), sl1⟩) (c1 : PySem.W.codeIn K cd1 "choices" = true) (k1 : PySem.W.keepIn K (.ref f1) = true)
    (a2 : PySem.W.nsIn K mainGlobals "is_ascending" = some (some (.ref f2))) (l2 : K.lookup f2 = some ⟨oc2, od2, .func (PySem.W.fnOf "is_ascending" "is_ascending" (defArgs sIsAsc) (defBody sIsAsc) (defScope sIsAsc) .none kV2 dc2 pm2 an2 cd2 ct2), sl2⟩) (c2 : PySem.W.codeIn K cd2 "is_ascending" = true) (k2 : PySem.W.keepIn K (.ref f2) = true)
    (a3 : PySem.W.nsIn K mainGlobals "places" = some (some (.ref f3))) (l3 : K.lookup f3 = some ⟨oc3, od3, .func (PySem.W.fnOf "places" "places" (defArgs sPlaces) (defBody sPlaces) (defScope sPlaces) .none kV3 dc3 pm3 an3 cd3 ct3), sl3⟩) (c3 : PySem.W.codeIn K cd3 "places" = true) (k3 : PySem.W.keepIn K (.ref f3) = true)
    (a4 : PySem.W.nsIn K mainGlobals "is_part" = some (some (.ref f4))) (l4 : K.lookup f4 = some ⟨oc4, od4, .func (PySem.W.fnOf "is_part" "is_part" (defArgs sIsPart) (defBody sIsPart) (defScope sIsPart) .none kV4 dc4 pm4 an4 cd4 ct4), sl4⟩) (c4 : PySem.W.codeIn K cd4 "is_part" = true) (k4 : PySem.W.keepIn K (.ref f4) = true)
    (a5 : PySem.W.nsIn K mainGlobals "is_layer" = some (some (.ref f5))) (l5 : K.lookup f5 = some ⟨oc5, od5, .func (PySem.W.fnOf "is_layer" "is_layer" (defArgs sIsLayer) (defBody sIsLayer) (defScope sIsLayer) .none kV5 dc5 pm5 an5 cd5 ct5), sl5⟩) (c5 : PySem.W.codeIn K cd5 "is_layer" = true) (k5 : PySem.W.keepIn K (.ref f5) = true)
    (a6 : PySem.W.nsIn K mainGlobals "has_shape" = some (some (.ref f6))) (l6 : K.lookup f6 = some ⟨oc6, od6, .func (PySem.W.fnOf "has_shape" "has_shape" (defArgs sHasShape) (defBody sHasShape) (defScope sHasShape) .none kV6 dc6 pm6 an6 cd6 ct6), sl6⟩) (c6 : PySem.W.codeIn K cd6 "has_shape" = true) (k6 : PySem.W.keepIn K (.ref f6) = true)
    (a7 : PySem.W.nsIn K mainGlobals "value_at" = some (some (.ref f7))) (l7 : K.lookup f7 = some ⟨oc7, od7, .func (PySem.W.fnOf "value_at" "value_at" (defArgs sValueAt) (defBody sValueAt) (defScope sValueAt) .none kV7 dc7 pm7 an7 cd7 ct7), sl7⟩) (c7 : PySem.W.codeIn K cd7 "value_at" = true) (k7 : PySem.W.keepIn K (.ref f7) = true)
    (a8 : PySem.W.nsIn K mainGlobals "value" = some (some (.ref f8))) (l8 : K.lookup f8 = some ⟨oc8, od8, .func (PySem.W.fnOf "value" "value" (defArgs sValue) (defBody sValue) (defScope sValue) .none kV8 dc8 pm8 an8 cd8 ct8), sl8⟩) (c8 : PySem.W.codeIn K cd8 "value" = true) (k8 : PySem.W.keepIn K (.ref f8) = true)
    (a9 : PySem.W.nsIn K mainGlobals "is_true" = some (some (.ref f9))) (l9 : K.lookup f9 = some ⟨oc9, od9, .func (PySem.W.fnOf "is_true" "is_true" (defArgs sIsTrue) (defBody sIsTrue) (defScope sIsTrue) .none kV9 dc9 pm9 an9 cd9 ct9), sl9⟩) (c9 : PySem.W.codeIn K cd9 "is_true" = true) (k9 : PySem.W.keepIn K (.ref f9) = true)
    (a10 : PySem.W.nsIn K mainGlobals "holds" = some (some (.ref f10))) (l10 : K.lookup f10 = some ⟨oc10, od10, .func (PySem.W.fnOf "holds" "holds" (defArgs sHolds) (defBody sHolds) (defScope sHolds) .none kV10 dc10 pm10 an10 cd10 ct10), sl10⟩) (c10 : PySem.W.codeIn K cd10 "holds" = true) (k10 : PySem.W.keepIn K (.ref f10) = true)
    (a11 : PySem.W.nsIn K mainGlobals "is_of_kind" = some (some (.ref f11))) (l11 : K.lookup f11 = some ⟨oc11, od11, .func (PySem.W.fnOf "is_of_kind" "is_of_kind" (defArgs sIsOfKind) (defBody sIsOfKind) (defScope sIsOfKind) .none kV11 dc11 pm11 an11 cd11 ct11), sl11⟩) (c11 : PySem.W.codeIn K cd11 "is_of_kind" = true) (k11 : PySem.W.keepIn K (.ref f11) = true)
    (a12 : PySem.W.nsIn K mainGlobals "count_layers" = some (some (.ref f12))) (l12 : K.lookup f12 = some ⟨oc12, od12, .func (PySem.W.fnOf "count_layers" "count_layers" (defArgs sCount) (defBody sCount) (defScope sCount) .none kV12 dc12 pm12 an12 cd12 ct12), sl12⟩) (c12 : PySem.W.codeIn K cd12 "count_layers" = true) (k12 : PySem.W.keepIn K (.ref f12) = true)
    (a13 : PySem.W.nsIn K mainGlobals "all_parts" = some (some (.ref f13))) (l13 : K.lookup f13 = some ⟨oc13, od13, .func (PySem.W.fnOf "all_parts" "all_parts" (defArgs sAllParts) (defBody sAllParts) (defScope sAllParts) .none kV13 dc13 pm13 an13 cd13 ct13), sl13⟩) (c13 : PySem.W.codeIn K cd13 "all_parts" = true) (k13 : PySem.W.keepIn K (.ref f13) = true)
    (a14 : PySem.W.nsIn K mainGlobals "ask_layers" = some (some (.ref f14))) (l14 : K.lookup f14 = some ⟨oc14, od14, .func (PySem.W.fnOf "ask_layers" "ask_layers" (defArgs sAsk) (defBody sAsk) (defScope sAsk) .none kV14 dc14 pm14 an14 cd14 ct14), sl14⟩) (c14 : PySem.W.codeIn K cd14 "ask_layers" = true) (k14 : PySem.W.keepIn K (.ref f14) = true)
    (a15 : PySem.W.nsIn K mainGlobals "layers" = some (some (.ref f15))) (l15 : K.lookup f15 = some ⟨oc15, od15, .func (PySem.W.fnOf "layers" "layers" (defArgs sLayers) (defBody sLayers) (defScope sLayers) .none kV15 dc15 pm15 an15 cd15 ct15), sl15⟩) (c15 : PySem.W.codeIn K cd15 "layers" = true) (k15 : PySem.W.keepIn K (.ref f15) = true)
    (a16 : PySem.W.nsIn K mainGlobals "holds_at_last" = some (some (.ref f16))) (l16 : K.lookup f16 = some ⟨oc16, od16, .func (PySem.W.fnOf "holds_at_last" "holds_at_last" (defArgs sHoldsLast) (defBody sHoldsLast) (defScope sHoldsLast) .none kV16 dc16 pm16 an16 cd16 ct16), sl16⟩) (c16 : PySem.W.codeIn K cd16 "holds_at_last" = true) (k16 : PySem.W.keepIn K (.ref f16) = true)
    (a17 : PySem.W.nsIn K mainGlobals "extensions" = some (some (.ref f17))) (l17 : K.lookup f17 = some ⟨oc17, od17, .func (PySem.W.fnOf "extensions" "extensions" (defArgs sExts) (defBody sExts) (defScope sExts) .none kV17 dc17 pm17 an17 cd17 ct17), sl17⟩) (c17 : PySem.W.codeIn K cd17 "extensions" = true) (k17 : PySem.W.keepIn K (.ref f17) = true)
    (a18 : PySem.W.nsIn K mainGlobals "atoms_of" = some (some (.ref f18))) (l18 : K.lookup f18 = some ⟨oc18, od18, .func (PySem.W.fnOf "atoms_of" "atoms_of" (defArgs sAtoms) (defBody sAtoms) (defScope sAtoms) .none kV18 dc18 pm18 an18 cd18 ct18), sl18⟩) (c18 : PySem.W.codeIn K cd18 "atoms_of" = true) (k18 : PySem.W.keepIn K (.ref f18) = true)
    (a19 : PySem.W.nsIn K mainGlobals "index_of" = some (some (.ref f19))) (l19 : K.lookup f19 = some ⟨oc19, od19, .func (PySem.W.fnOf "index_of" "index_of" (defArgs sIndexOf) (defBody sIndexOf) (defScope sIndexOf) .none kV19 dc19 pm19 an19 cd19 ct19), sl19⟩) (c19 : PySem.W.codeIn K cd19 "index_of" = true) (k19 : PySem.W.keepIn K (.ref f19) = true)
    (a20 : PySem.W.nsIn K mainGlobals "_law_cell" = some (some (.ref f20))) (l20 : K.lookup f20 = some ⟨oc20, od20, .func (PySem.W.fnOf "_law_cell" "_law_cell" (defArgs sLcell) (defBody sLcell) (defScope sLcell) .none kV20 dc20 pm20 an20 cd20 ct20), sl20⟩) (c20 : PySem.W.codeIn K cd20 "_law_cell" = true) (k20 : PySem.W.keepIn K (.ref f20) = true)
    (a21 : PySem.W.nsIn K mainGlobals "_law_digits" = some (some (.ref f21))) (l21 : K.lookup f21 = some ⟨oc21, od21, .func (PySem.W.fnOf "_law_digits" "_law_digits" (defArgs sLdigits) (defBody sLdigits) (defScope sLdigits) .none kV21 dc21 pm21 an21 cd21 ct21), sl21⟩) (c21 : PySem.W.codeIn K cd21 "_law_digits" = true) (k21 : PySem.W.keepIn K (.ref f21) = true)
    (a22 : PySem.W.nsIn K mainGlobals "_law_equal" = some (some (.ref f22))) (l22 : K.lookup f22 = some ⟨oc22, od22, .func (PySem.W.fnOf "_law_equal" "_law_equal" (defArgs sLequal) (defBody sLequal) (defScope sLequal) .none kV22 dc22 pm22 an22 cd22 ct22), sl22⟩) (c22 : PySem.W.codeIn K cd22 "_law_equal" = true) (k22 : PySem.W.keepIn K (.ref f22) = true)
    (a23 : PySem.W.nsIn K mainGlobals "_law_names" = some (some (.ref f23))) (l23 : K.lookup f23 = some ⟨oc23, od23, .func (PySem.W.fnOf "_law_names" "_law_names" (defArgs sLnames) (defBody sLnames) (defScope sLnames) .none kV23 dc23 pm23 an23 cd23 ct23), sl23⟩) (c23 : PySem.W.codeIn K cd23 "_law_names" = true) (k23 : PySem.W.keepIn K (.ref f23) = true)
    (a24 : PySem.W.nsIn K mainGlobals "_law_choices" = some (some (.ref f24))) (l24 : K.lookup f24 = some ⟨oc24, od24, .func (PySem.W.fnOf "_law_choices" "_law_choices" (defArgs sLchoices) (defBody sLchoices) (defScope sLchoices) .none kV24 dc24 pm24 an24 cd24 ct24), sl24⟩) (c24 : PySem.W.codeIn K cd24 "_law_choices" = true) (k24 : PySem.W.keepIn K (.ref f24) = true)
    (a25 : PySem.W.nsIn K mainGlobals "_law_places" = some (some (.ref f25))) (l25 : K.lookup f25 = some ⟨oc25, od25, .func (PySem.W.fnOf "_law_places" "_law_places" (defArgs sLplaces) (defBody sLplaces) (defScope sLplaces) .none kV25 dc25 pm25 an25 cd25 ct25), sl25⟩) (c25 : PySem.W.codeIn K cd25 "_law_places" = true) (k25 : PySem.W.keepIn K (.ref f25) = true)
    (a26 : PySem.W.nsIn K mainGlobals "_law_relations" = some (some (.ref f26))) (l26 : K.lookup f26 = some ⟨oc26, od26, .func (PySem.W.fnOf "_law_relations" "_law_relations" (defArgs sLrels) (defBody sLrels) (defScope sLrels) .none kV26 dc26 pm26 an26 cd26 ct26), sl26⟩) (c26 : PySem.W.codeIn K cd26 "_law_relations" = true) (k26 : PySem.W.keepIn K (.ref f26) = true)
    (a27 : PySem.W.nsIn K mainGlobals "_law_ordered_keys" = some (some (.ref f27))) (l27 : K.lookup f27 = some ⟨oc27, od27, .func (PySem.W.fnOf "_law_ordered_keys" "_law_ordered_keys" (defArgs sLkeys) (defBody sLkeys) (defScope sLkeys) .none kV27 dc27 pm27 an27 cd27 ct27), sl27⟩) (c27 : PySem.W.codeIn K cd27 "_law_ordered_keys" = true) (k27 : PySem.W.keepIn K (.ref f27) = true)
    (a28 : PySem.W.nsIn K mainGlobals "_law_count" = some (some (.ref f28))) (l28 : K.lookup f28 = some ⟨oc28, od28, .func (PySem.W.fnOf "_law_count" "_law_count" (defArgs sLcount) (defBody sLcount) (defScope sLcount) .none kV28 dc28 pm28 an28 cd28 ct28), sl28⟩) (c28 : PySem.W.codeIn K cd28 "_law_count" = true) (k28 : PySem.W.keepIn K (.ref f28) = true)
    (a29 : PySem.W.nsIn K mainGlobals "_law_indexed" = some (some (.ref f29))) (l29 : K.lookup f29 = some ⟨oc29, od29, .func (PySem.W.fnOf "_law_indexed" "_law_indexed" (defArgs sLindexed) (defBody sLindexed) (defScope sLindexed) .none kV29 dc29 pm29 an29 cd29 ct29), sl29⟩) (c29 : PySem.W.codeIn K cd29 "_law_indexed" = true) (k29 : PySem.W.keepIn K (.ref f29) = true)
    (a30 : PySem.W.nsIn K mainGlobals "_law_value" = some (some (.ref f30))) (l30 : K.lookup f30 = some ⟨oc30, od30, .func (PySem.W.fnOf "_law_value" "_law_value" (defArgs sLvalue) (defBody sLvalue) (defScope sLvalue) .none kV30 dc30 pm30 an30 cd30 ct30), sl30⟩) (c30 : PySem.W.codeIn K cd30 "_law_value" = true) (k30 : PySem.W.keepIn K (.ref f30) = true)
    (a31 : PySem.W.nsIn K mainGlobals "_law_part" = some (some (.ref f31))) (l31 : K.lookup f31 = some ⟨oc31, od31, .func (PySem.W.fnOf "_law_part" "_law_part" (defArgs sLpart) (defBody sLpart) (defScope sLpart) .none kV31 dc31 pm31 an31 cd31 ct31), sl31⟩) (c31 : PySem.W.codeIn K cd31 "_law_part" = true) (k31 : PySem.W.keepIn K (.ref f31) = true)
    (a32 : PySem.W.nsIn K mainGlobals "_law_atom" = some (some (.ref f32))) (l32 : K.lookup f32 = some ⟨oc32, od32, .func (PySem.W.fnOf "_law_atom" "_law_atom" (defArgs sLatom) (defBody sLatom) (defScope sLatom) .none kV32 dc32 pm32 an32 cd32 ct32), sl32⟩) (c32 : PySem.W.codeIn K cd32 "_law_atom" = true) (k32 : PySem.W.keepIn K (.ref f32) = true)
    (a33 : PySem.W.nsIn K mainGlobals "_law_formula" = some (some (.ref f33))) (l33 : K.lookup f33 = some ⟨oc33, od33, .func (PySem.W.fnOf "_law_formula" "_law_formula" (defArgs sLformula) (defBody sLformula) (defScope sLformula) .none kV33 dc33 pm33 an33 cd33 ct33), sl33⟩) (c33 : PySem.W.codeIn K cd33 "_law_formula" = true) (k33 : PySem.W.keepIn K (.ref f33) = true)
    (a34 : PySem.W.nsIn K mainGlobals "_law_sentences" = some (some (.ref f34))) (l34 : K.lookup f34 = some ⟨oc34, od34, .func (PySem.W.fnOf "_law_sentences" "_law_sentences" (defArgs sLsents) (defBody sLsents) (defScope sLsents) .none kV34 dc34 pm34 an34 cd34 ct34), sl34⟩) (c34 : PySem.W.codeIn K cd34 "_law_sentences" = true) (k34 : PySem.W.keepIn K (.ref f34) = true)
    (a35 : PySem.W.nsIn K mainGlobals "_law_is_true" = some (some (.ref f35))) (l35 : K.lookup f35 = some ⟨oc35, od35, .func (PySem.W.fnOf "_law_is_true" "_law_is_true" (defArgs sLisTrue) (defBody sLisTrue) (defScope sLisTrue) .none kV35 dc35 pm35 an35 cd35 ct35), sl35⟩) (c35 : PySem.W.codeIn K cd35 "_law_is_true" = true) (k35 : PySem.W.keepIn K (.ref f35) = true)
    (a36 : PySem.W.nsIn K mainGlobals "_law_holds" = some (some (.ref f36))) (l36 : K.lookup f36 = some ⟨oc36, od36, .func (PySem.W.fnOf "_law_holds" "_law_holds" (defArgs sLholds) (defBody sLholds) (defScope sLholds) .none kV36 dc36 pm36 an36 cd36 ct36), sl36⟩) (c36 : PySem.W.codeIn K cd36 "_law_holds" = true) (k36 : PySem.W.keepIn K (.ref f36) = true)
    (a37 : PySem.W.nsIn K mainGlobals "_law_fits" = some (some (.ref f37))) (l37 : K.lookup f37 = some ⟨oc37, od37, .func (PySem.W.fnOf "_law_fits" "_law_fits" (defArgs sLfits) (defBody sLfits) (defScope sLfits) .none kV37 dc37 pm37 an37 cd37 ct37), sl37⟩) (c37 : PySem.W.codeIn K cd37 "_law_fits" = true) (k37 : PySem.W.keepIn K (.ref f37) = true)
    (a38 : PySem.W.nsIn K mainGlobals "_law_all" = some (some (.ref f38))) (l38 : K.lookup f38 = some ⟨oc38, od38, .func (PySem.W.fnOf "_law_all" "_law_all" (defArgs sLall) (defBody sLall) (defScope sLall) .none kV38 dc38 pm38 an38 cd38 ct38), sl38⟩) (c38 : PySem.W.codeIn K cd38 "_law_all" = true) (k38 : PySem.W.keepIn K (.ref f38) = true)
    (a39 : PySem.W.nsIn K mainGlobals "_law_extends" = some (some (.ref f39))) (l39 : K.lookup f39 = some ⟨oc39, od39, .func (PySem.W.fnOf "_law_extends" "_law_extends" (defArgs sLextends) (defBody sLextends) (defScope sLextends) .none kV39 dc39 pm39 an39 cd39 ct39), sl39⟩) (c39 : PySem.W.codeIn K cd39 "_law_extends" = true) (k39 : PySem.W.keepIn K (.ref f39) = true)
    (a40 : PySem.W.nsIn K mainGlobals "law" = some (some (.ref f40))) (l40 : K.lookup f40 = some ⟨oc40, od40, .func (PySem.W.fnOf "law" "law" (defArgs sLaw) (defBody sLaw) (defScope sLaw) .none kV40 dc40 pm40 an40 cd40 ct40), sl40⟩) (c40 : PySem.W.codeIn K cd40 "law" = true) (k40 : PySem.W.keepIn K (.ref f40) = true)
    (a41 : PySem.W.findIn K (.ref C) "__init__" = some (some (.ref f41))) (i41 : PySem.W.isFn K (.ref f41) = true) (l41 : K.lookup f41 = some ⟨oc41, od41, .func (PySem.W.fnOf "__init__" "Kind.__init__" (defArgs sInit) (defBody sInit) (defScope sInit) .none kV41 dc41 pm41 an41 cd41 ct41), sl41⟩) (c41 : PySem.W.codeIn K cd41 "Kind.__init__" = true) (k41 : PySem.W.keepIn K (.ref f41) = true)
    (a42 : PySem.W.findIn K (.ref C) "ask_atoms" = some (some (.ref f42))) (i42 : PySem.W.isFn K (.ref f42) = true) (l42 : K.lookup f42 = some ⟨oc42, od42, .func (PySem.W.fnOf "ask_atoms" "Kind.ask_atoms" (defArgs sAskAt) (defBody sAskAt) (defScope sAskAt) .none kV42 dc42 pm42 an42 cd42 ct42), sl42⟩) (c42 : PySem.W.codeIn K cd42 "Kind.ask_atoms" = true) (k42 : PySem.W.keepIn K (.ref f42) = true)
    (pg : PySem.W.plainGet K C Str.empty = true) (hd : PySem.W.hasDictIn K C = true) (po : PySem.W.plainOver K C = true) (sa : PySem.W.findIn K (.ref C) "__setattr__" = some (some (.builtin "object.__setattr__"))) (mk : PySem.W.makesIn K C = true) (kc : PySem.W.keepIn K (.ref C) = true)
    (nrelations : PySem.W.findIn K (.ref C) "relations" = some none)
    (nsentences : PySem.W.findIn K (.ref C) "sentences" = some none)
    (narities : PySem.W.findIn K (.ref C) "arities" = some none)
    (nnames : PySem.W.findIn K (.ref C) "names" = some none)
    (nplaces : PySem.W.findIn K (.ref C) "places" = some none)
    (nindexes : PySem.W.findIn K (.ref C) "indexes" = some none)
    (zlen : PySem.W.nsIn K mainGlobals "len" = some none)
    (zrange : PySem.W.nsIn K mainGlobals "range" = some none)
    (zlist : PySem.W.nsIn K mainGlobals "list" = some none)
    (ztuple : PySem.W.nsIn K mainGlobals "tuple" = some none)
    (zsorted : PySem.W.nsIn K mainGlobals "sorted" = some none)
    (zmax : PySem.W.nsIn K mainGlobals "max" = some none)
    (zall : PySem.W.nsIn K mainGlobals "all" = some none)
    (zint : PySem.W.nsIn K mainGlobals "int" = some none)
    (zbool : PySem.W.nsIn K mainGlobals "bool" = some none)
    (zstr : PySem.W.nsIn K mainGlobals "str" = some none)
    (zisinstance : PySem.W.nsIn K mainGlobals "isinstance" = some none)
    (zzip : PySem.W.nsIn K mainGlobals "zip" = some none)
    (zenumerate : PySem.W.nsIn K mainGlobals "enumerate" = some none)
    (zMP : PySem.W.nsIn K mainGlobals "MOST_POINTS" = some (some (.int 7 tMP))) (zML : PySem.W.nsIn K mainGlobals "MOST_LAYERS" = some (some (.int 4096 tML))) :
    ∃ fd : FuncData, (∀ (s : Shared) (v : Value), BindsTo s fd ⟨[v], []⟩ [("_law_script", v)]) ∧ ∀ base : Heap, K.In base → base.Ns mainGlobals mg → FnOk l.prog w K mg base CX0 18 fa fd ["_law_script"] (spLaw K) := by
  have e := hfa.symm.trans (PySem.W.mg_of X G a40)
  cases e
  have T : Txt K mg := ⟨PySem.W.mg_none_of X G zlen, PySem.W.mg_none_of X G zrange, PySem.W.mg_none_of X G zlist, PySem.W.mg_none_of X G ztuple, PySem.W.mg_none_of X G zsorted, PySem.W.mg_none_of X G zmax, PySem.W.mg_none_of X G zall, PySem.W.mg_none_of X G zint, PySem.W.mg_none_of X G zbool, PySem.W.mg_none_of X G zstr, PySem.W.mg_none_of X G zisinstance, PySem.W.mg_none_of X G zzip, PySem.W.mg_none_of X G zenumerate, ⟨_, PySem.W.mg_of X G zMP⟩, ⟨_, PySem.W.mg_of X G zML⟩⟩
  have D : Top K mg := ⟨df_mk X G a1 (fun_mk (st := sChoices) l1 c1 k1), df_mk X G a2 (fun_mk (st := sIsAsc) l2 c2 k2), df_mk X G a3 (fun_mk (st := sPlaces) l3 c3 k3), df_mk X G a4 (fun_mk (st := sIsPart) l4 c4 k4), df_mk X G a5 (fun_mk (st := sIsLayer) l5 c5 k5), df_mk X G a6 (fun_mk (st := sHasShape) l6 c6 k6), df_mk X G a7 (fun_mk (st := sValueAt) l7 c7 k7), df_mk X G a8 (fun_mk (st := sValue) l8 c8 k8), df_mk X G a9 (fun_mk (st := sIsTrue) l9 c9 k9), df_mk X G a10 (fun_mk (st := sHolds) l10 c10 k10), df_mk X G a11 (fun_mk (st := sIsOfKind) l11 c11 k11), df_mk X G a12 (fun_mk (st := sCount) l12 c12 k12), df_mk X G a13 (fun_mk (st := sAllParts) l13 c13 k13), df_mk X G a14 (fun_mk (st := sAsk) l14 c14 k14), df_mk X G a15 (fun_mk (st := sLayers) l15 c15 k15), df_mk X G a16 (fun_mk (st := sHoldsLast) l16 c16 k16), df_mk X G a17 (fun_mk (st := sExts) l17 c17 k17), df_mk X G a18 (fun_mk (st := sAtoms) l18 c18 k18), df_mk X G a19 (fun_mk (st := sIndexOf) l19 c19 k19), df_mk X G a20 (fun_mk (st := sLcell) l20 c20 k20), df_mk X G a21 (fun_mk (st := sLdigits) l21 c21 k21), df_mk X G a22 (fun_mk (st := sLequal) l22 c22 k22), df_mk X G a23 (fun_mk (st := sLnames) l23 c23 k23), df_mk X G a24 (fun_mk (st := sLchoices) l24 c24 k24), df_mk X G a25 (fun_mk (st := sLplaces) l25 c25 k25), df_mk X G a26 (fun_mk (st := sLrels) l26 c26 k26), df_mk X G a27 (fun_mk (st := sLkeys) l27 c27 k27), df_mk X G a28 (fun_mk (st := sLcount) l28 c28 k28), df_mk X G a29 (fun_mk (st := sLindexed) l29 c29 k29), df_mk X G a30 (fun_mk (st := sLvalue) l30 c30 k30), df_mk X G a31 (fun_mk (st := sLpart) l31 c31 k31), df_mk X G a32 (fun_mk (st := sLatom) l32 c32 k32), df_mk X G a33 (fun_mk (st := sLformula) l33 c33 k33), df_mk X G a34 (fun_mk (st := sLsents) l34 c34 k34), df_mk X G a35 (fun_mk (st := sLisTrue) l35 c35 k35), df_mk X G a36 (fun_mk (st := sLholds) l36 c36 k36), df_mk X G a37 (fun_mk (st := sLfits) l37 c37 k37), df_mk X G a38 (fun_mk (st := sLall) l38 c38 k38), df_mk X G a39 (fun_mk (st := sLextends) l39 c39 k39)⟩
  have KK : KC K C := ⟨⟨pg, hd, po, sa⟩, nrelations, nsentences, narities, nnames, nplaces, nindexes⟩
  exact ⟨PySem.W.fnOf "law" "law" (defArgs sLaw) (defBody sLaw) (defScope sLaw) .none kV40 dc40 pm40 an40 cd40 ct40, fun s v => .of_eq rfl, fun base _ _ =>
    ok_all (fun_mk (st := sLaw) l40 c40 k40) T D KK ⟨mk, a41, i41, kc⟩ (PySem.W.mg_of X G aC) (fun_mk (st := sInit) l41 c41 k41) (fun_mk (st := sAskAt) l42 c42 k42) ⟨a42, i42, k42⟩⟩
theorem walk {l : PySem.W.OpenLaw} {q : Program} {loose : List Str} {XP : (Str → Option Value) → Heap → Prop} {YP : World → Heap → Prop} {d : DefRec} {K : Params → PySem.W.Frag} (hn : l.most = some 63) (hdf : d.params.defaults = [])
    (hY : ∀ (w : World) (h : Heap), YP w h → (K w.params).In h)
    (F : ∀ (w : World) (mg : Str → Option Value) (fa : Addr) (h : Heap), (K w.params).In h → h.Ns mainGlobals mg → mg d.name = some (.ref fa) →
      ∃ fd : FuncData, (∀ (s : Shared) (u : Value), BindsTo s fd ⟨[u], []⟩ [("_law_script", u)]) ∧ ∀ base : Heap, (K w.params).In base → base.Ns mainGlobals mg → FnOk l.prog w (K w.params) mg base CX0 18 fa fd ["_law_script"] (spLaw (K w.params))) :
    PySem.W.WalkO q loose XP YP l.row.toRowW d [] (fun f vs => PySem.call f vs) :=
  L2.walk_of (n := 63) (k := 18) (x := "_law_script") (CX := fun _ => CX0) (sp := fun w => spLaw (K w.params)) hn (by decide) hdf ⟨rfl, by decide, by decide⟩ hY F (fun _ _ a ns hl _ hS => ⟨ns, ⟨⟨a, _, rfl, hS, dts_ints ns⟩, True.intro⟩, hl, fun v H' _ d => Dt.bl_inv d⟩) fun _ _ _ _ _ z => z
end D18
open PySem PySem.W PyProof.Rows in
set_option maxRecDepth 100000 in
set_option maxHeartbeats 0 in
theorem PySem.Challenge.cw_oneofeach_k18_whole_structures_layer_by_holds : PySem.Challenge.rw_oneofeach_k18_whole_structures_layer_by.Holds := by
  w_on; o_law; k_head; (case hw => w_witness2)
  k_fill
  refine D18.walk (l := PySem.Challenge.rw_oneofeach_k18_whole_structures_layer_by) rfl rfl (fun w h Y => PySem.W.kIn_of Y) ?F
  case F =>
    intro w mg fa h KX G hmg
    refine' D18.all_mk KX G hmg ?aC ?a1 ?l1 ?c1 ?k1 ?a2 ?l2 ?c2 ?k2 ?a3 ?l3 ?c3 ?k3 ?a4 ?l4 ?c4 ?k4 ?a5 ?l5 ?c5 ?k5 ?a6 ?l6 ?c6 ?k6 ?a7 ?l7 ?c7 ?k7 ?a8 ?l8 ?c8 ?k8 ?a9 ?l9 ?c9 ?k9 ?a10 ?l10 ?c10 ?k10 ?a11 ?l11 ?c11 ?k11 ?a12 ?l12 ?c12 ?k12 ?a13 ?l13 ?c13 ?k13 ?a14 ?l14 ?c14 ?k14 ?a15 ?l15 ?c15 ?k15 ?a16 ?l16 ?c16 ?k16 ?a17 ?l17 ?c17 ?k17 ?a18 ?l18 ?c18 ?k18 ?a19 ?l19 ?c19 ?k19 ?a20 ?l20 ?c20 ?k20 ?a21 ?l21 ?c21 ?k21 ?a22 ?l22 ?c22 ?k22 ?a23 ?l23 ?c23 ?k23 ?a24 ?l24 ?c24 ?k24 ?a25 ?l25 ?c25 ?k25 ?a26 ?l26 ?c26 ?k26 ?a27 ?l27 ?c27 ?k27 ?a28 ?l28 ?c28 ?k28 ?a29 ?l29 ?c29 ?k29 ?a30 ?l30 ?c30 ?k30 ?a31 ?l31 ?c31 ?k31 ?a32 ?l32 ?c32 ?k32 ?a33 ?l33 ?c33 ?k33 ?a34 ?l34 ?c34 ?k34 ?a35 ?l35 ?c35 ?k35 ?a36 ?l36 ?c36 ?k36 ?a37 ?l37 ?c37 ?k37 ?a38 ?l38 ?c38 ?k38 ?a39 ?l39 ?c39 ?k39 ?a40 ?l40 ?c40 ?k40 ?a41 ?i41 ?l41 ?c41 ?k41 ?a42 ?i42 ?l42 ?c42 ?k42 ?pg ?hd ?po ?sa ?mk ?kc ?nrelations ?nsentences ?narities ?nnames ?nplaces ?nindexes ?zlen ?zrange ?zlist ?ztuple ?zsorted ?zmax ?zall ?zint ?zbool ?zstr ?zisinstance ?zzip ?zenumerate ?zMP ?zML
    (case aC => k_is)
    (case a1 => k_is)
    (case l1 => k_is)
    (case c1 => k_is)
    (case k1 => k_is)
    (case a2 => k_is)
    (case l2 => k_is)
    (case c2 => k_is)
    (case k2 => k_is)
    (case a3 => k_is)
    (case l3 => k_is)
    (case c3 => k_is)
    (case k3 => k_is)
    (case a4 => k_is)
    (case l4 => k_is)
    (case c4 => k_is)
    (case k4 => k_is)
    (case a5 => k_is)
    (case l5 => k_is)
    (case c5 => k_is)
    (case k5 => k_is)
    (case a6 => k_is)
    (case l6 => k_is)
    (case c6 => k_is)
    (case k6 => k_is)
    (case a7 => k_is)
    (case l7 => k_is)
    (case c7 => k_is)
    (case k7 => k_is)
    (case a8 => k_is)
    (case l8 => k_is)
    (case c8 => k_is)
    (case k8 => k_is)
    (case a9 => k_is)
    (case l9 => k_is)
    (case c9 => k_is)
    (case k9 => k_is)
    (case a10 => k_is)
    (case l10 => k_is)
    (case c10 => k_is)
    (case k10 => k_is)
    (case a11 => k_is)
    (case l11 => k_is)
    (case c11 => k_is)
    (case k11 => k_is)
    (case a12 => k_is)
    (case l12 => k_is)
    (case c12 => k_is)
    (case k12 => k_is)
    (case a13 => k_is)
    (case l13 => k_is)
    (case c13 => k_is)
    (case k13 => k_is)
    (case a14 => k_is)
    (case l14 => k_is)
    (case c14 => k_is)
    (case k14 => k_is)
    (case a15 => k_is)
    (case l15 => k_is)
    (case c15 => k_is)
    (case k15 => k_is)
    (case a16 => k_is)
    (case l16 => k_is)
    (case c16 => k_is)
    (case k16 => k_is)
    (case a17 => k_is)
    (case l17 => k_is)
    (case c17 => k_is)
    (case k17 => k_is)
    (case a18 => k_is)
    (case l18 => k_is)
    (case c18 => k_is)
    (case k18 => k_is)
    (case a19 => k_is)
    (case l19 => k_is)
    (case c19 => k_is)
    (case k19 => k_is)
    (case a20 => k_is)
    (case l20 => k_is)
    (case c20 => k_is)
    (case k20 => k_is)
    (case a21 => k_is)
    (case l21 => k_is)
    (case c21 => k_is)
    (case k21 => k_is)
    (case a22 => k_is)
    (case l22 => k_is)
    (case c22 => k_is)
    (case k22 => k_is)
    (case a23 => k_is)
    (case l23 => k_is)
    (case c23 => k_is)
    (case k23 => k_is)
    (case a24 => k_is)
    (case l24 => k_is)
    (case c24 => k_is)
    (case k24 => k_is)
    (case a25 => k_is)
    (case l25 => k_is)
    (case c25 => k_is)
    (case k25 => k_is)
    (case a26 => k_is)
    (case l26 => k_is)
    (case c26 => k_is)
    (case k26 => k_is)
    (case a27 => k_is)
    (case l27 => k_is)
    (case c27 => k_is)
    (case k27 => k_is)
    (case a28 => k_is)
    (case l28 => k_is)
    (case c28 => k_is)
    (case k28 => k_is)
    (case a29 => k_is)
    (case l29 => k_is)
    (case c29 => k_is)
    (case k29 => k_is)
    (case a30 => k_is)
    (case l30 => k_is)
    (case c30 => k_is)
    (case k30 => k_is)
    (case a31 => k_is)
    (case l31 => k_is)
    (case c31 => k_is)
    (case k31 => k_is)
    (case a32 => k_is)
    (case l32 => k_is)
    (case c32 => k_is)
    (case k32 => k_is)
    (case a33 => k_is)
    (case l33 => k_is)
    (case c33 => k_is)
    (case k33 => k_is)
    (case a34 => k_is)
    (case l34 => k_is)
    (case c34 => k_is)
    (case k34 => k_is)
    (case a35 => k_is)
    (case l35 => k_is)
    (case c35 => k_is)
    (case k35 => k_is)
    (case a36 => k_is)
    (case l36 => k_is)
    (case c36 => k_is)
    (case k36 => k_is)
    (case a37 => k_is)
    (case l37 => k_is)
    (case c37 => k_is)
    (case k37 => k_is)
    (case a38 => k_is)
    (case l38 => k_is)
    (case c38 => k_is)
    (case k38 => k_is)
    (case a39 => k_is)
    (case l39 => k_is)
    (case c39 => k_is)
    (case k39 => k_is)
    (case a40 => k_is)
    (case l40 => k_is)
    (case c40 => k_is)
    (case k40 => k_is)
    (case a41 => k_is)
    (case i41 => k_is)
    (case l41 => k_is)
    (case c41 => k_is)
    (case k41 => k_is)
    (case a42 => k_is)
    (case i42 => k_is)
    (case l42 => k_is)
    (case c42 => k_is)
    (case k42 => k_is)
    (case pg => k_is)
    (case hd => k_is)
    (case po => k_is)
    (case sa => k_is)
    (case mk => k_is)
    (case kc => k_is)
    (case nrelations => k_is)
    (case nsentences => k_is)
    (case narities => k_is)
    (case nnames => k_is)
    (case nplaces => k_is)
    (case nindexes => k_is)
    (case zlen => k_is)
    (case zrange => k_is)
    (case zlist => k_is)
    (case ztuple => k_is)
    (case zsorted => k_is)
    (case zmax => k_is)
    (case zall => k_is)
    (case zint => k_is)
    (case zbool => k_is)
    (case zstr => k_is)
    (case zisinstance => k_is)
    (case zzip => k_is)
    (case zenumerate => k_is)
    (case zMP => k_is)
    (case zML => k_is)
