import PyProof.Rows.All
import Wide.All
import OpenK.AllK
import Wide.FinOn
import HandS.ForMost
import HandS.Evl
import HandS.Flow
import HandS.Style
import HandS.TupAny
import HandS.TupLe
import HandS.Conv
import HandS.IsInst
import HandS.Property
import HandS.MakeKw
import HandS.MakeKwOnly
import HandS.Defaults
import HandS.FStr
import PyProof.ReprRoads
import HandS.RaiseMore
import HandS.SortInts
import KE.KFmtOwn
import HandS.Small
import KE.KStateDown
import HandS.Head2
import HandS.HeadEnd
import HandS.HeadHook2
import HandS.Words
import PyProof.ReprLen
import HandS.Head0
import HandS.Head1
import HandS.HeadHook1
import PySem.Challenge.RW_owntimes_k12_stations_and_links_made
set_option Elab.async false
set_option linter.all false
set_option maxRecDepth 100000
set_option maxHeartbeats 4000000
/-! DV1: deep values, how the abstract heap bears them, the states of a def's slots -/
namespace Dv
open PySem L2

/-- a deep value: data without addresses -/
inductive D where
  | non
  | bl (b : Bool)
  | int (i : Int)
  | str (x : Str)
  | tup (l : List D)
  | lst (l : List D)
  | scr (l : List Int)
  | obj (c : Nat) (ds : List D)

/-- the classes whose instances are data: their names, their attributes in the order in which they are set -/
def clsName : Nat → Str
  | 0 => "Lags"
  | 1 => "FormedLags"
  | 2 => "Station"
  | 3 => "Link"
  | 4 => "Line"
  | _ => ""
def clsFlds : Nat → List Str
  | 0 => ["form"]
  | 1 => ["form"]
  | 2 => ["sides"]
  | 3 => ["sides"]
  | 4 => ["sides"]
  | _ => []

/-- the abstract heap without some addresses -/
def cut (H : Hp) (O : List Addr) : Hp := fun a => if a ∈ O then none else H a
theorem cut_some {H : Hp} {O : List Addr} {a : Addr} {o : HO} (h : cut H O a = some o) : a ∉ O ∧ H a = some o := by
  unfold cut at h
  by_cases q : a ∈ O
  · rw [if_pos q] at h; cases h
  · rw [if_neg q] at h; exact ⟨q, h⟩
theorem cut_of {H : Hp} {O : List Addr} {a : Addr} {o : HO} (n : a ∉ O) (h : H a = some o) : cut H O a = some o := by
  unfold cut; rw [if_neg n]; exact h
theorem cut_nil (H : Hp) : cut H [] = H := by funext a; unfold cut; rw [if_neg (by simp)]

/-- all that the one has, the other has -/
def Grow (H H' : Hp) : Prop := ∀ a o, H a = some o → H' a = some o
theorem Grow.refl (H : Hp) : Grow H H := fun _ _ h => h
theorem Grow.trans {H H1 H2 : Hp} (a : Grow H H1) (b : Grow H1 H2) : Grow H H2 := fun c o h => b c o (a c o h)
theorem Grow.new {H : Hp} {p : Addr} {o : HO} (h : H p = none) : Grow H (upd H p o) := fun a u e => by
  rw [upd_ne (ne_of_none e h)]; exact e
theorem Grow.cut {H H' : Hp} (g : Grow H H') (O : List Addr) : Grow (cut H O) (cut H' O) := fun a o h => by
  obtain ⟨n, e⟩ := cut_some h
  exact cut_of n (g a o e)
theorem Grow.ofCut (H : Hp) (O : List Addr) : Grow (Dv.cut H O) H := fun _ _ h => (cut_some h).2
theorem Grow.less {H : Hp} {O O' : List Addr} (s : ∀ a ∈ O', a ∈ O) : Grow (Dv.cut H O) (Dv.cut H O') := fun _ _ h => by
  obtain ⟨n, e⟩ := cut_some h
  exact cut_of (fun z => n (s _ z)) e
theorem Grow.back {H H' : Hp} (g : Grow H H') {p : Addr} (h : H' p = none) : H p = none := by
  cases q : H p with
  | none => rfl
  | some o => rw [g p o q] at h; cases h

theorem SqT.grow {K : PySem.W.Frag} {H H' : Hp} {a : Addr} {xs : List V} (g : Grow H H') (h : SqT K H a xs) : SqT K H' a xs := by
  rcases h with (h | ⟨o, h⟩) | h
  · exact .inl (.inl (g _ _ h))
  · exact .inl (.inr ⟨o, g _ _ h⟩)
  · exact .inr h
theorem SqL.grow {K : PySem.W.Frag} {H H' : Hp} {a : Addr} {xs : List V} (g : Grow H H') (h : SqL K H a xs) : SqL K H' a xs := by
  rcases h with (h | ⟨o, h⟩) | h
  · exact .inl (.inl (g _ _ h))
  · exact .inl (.inr ⟨o, g _ _ h⟩)
  · exact .inr h

section
variable (K : PySem.W.Frag) (mg : Str → Option Value)
mutual
/-- the value v bears the data d -/
inductive Rep (H : Hp) : V → D → Prop
  | non : Rep H .non .non
  | bl (b : Bool) : Rep H (.bl b) (.bl b)
  | int (i : Int) : Rep H (.int i) (.int i)
  | str (x : Str) : Rep H (.str x) (.str x)
  | tup {a : Addr} {xs : List V} {ds : List D} : SqT K H a xs → RepL H xs ds → Rep H (.ref a) (.tup ds)
  | lst {a : Addr} {xs : List V} {ds : List D} : H a = some (.lst xs) → RepL H xs ds → Rep H (.ref a) (.lst ds)
  | scr {a : Addr} {ns : List Int} : SqL K H a (ns.map V.int) → Rep H (.ref a) (.scr ns)
  | obj {a C dx : Addr} {c : Nat} {xs : List V} {ds : List D} : mg (clsName c) = some (.ref C) → H a = some (.ins C dx ((clsFlds c).zip xs)) → (clsFlds c).length = xs.length → RepL H xs ds → Rep H (.ref a) (.obj c ds)
inductive RepL (H : Hp) : List V → List D → Prop
  | nil : RepL H [] []
  | cons {v : V} {d : D} {vs : List V} {ds : List D} : Rep H v d → RepL H vs ds → RepL H (v :: vs) (d :: ds)
end
end

section
variable {K : PySem.W.Frag} {mg : Str → Option Value} {H H' : Hp}
mutual
theorem Rep.grow (g : Grow H H') : ∀ {v : V} {d : D}, Rep K mg H v d → Rep K mg H' v d
  | _, _, .non => .non
  | _, _, .bl b => .bl b
  | _, _, .int i => .int i
  | _, _, .str x => .str x
  | _, _, .tup h r => .tup (SqT.grow g h) (RepL.grow g r)
  | _, _, .lst h r => .lst (g _ _ h) (RepL.grow g r)
  | _, _, .scr h => .scr (SqL.grow g h)
  | _, _, .obj h1 h2 h3 r => .obj h1 (g _ _ h2) h3 (RepL.grow g r)
theorem RepL.grow (g : Grow H H') : ∀ {vs : List V} {ds : List D}, RepL K mg H vs ds → RepL K mg H' vs ds
  | _, _, .nil => .nil
  | _, _, .cons r t => .cons (Rep.grow g r) (RepL.grow g t)
end
theorem RepL.length : ∀ {vs : List V} {ds : List D}, RepL K mg H vs ds → vs.length = ds.length
  | _, _, .nil => rfl
  | _, _, .cons _ t => by simp [RepL.length t]
theorem RepL.append : ∀ {vs vs' : List V} {ds ds' : List D}, RepL K mg H vs ds → RepL K mg H vs' ds' → RepL K mg H (vs ++ vs') (ds ++ ds')
  | _, _, _, _, .nil, s => s
  | _, _, _, _, .cons r t, s => .cons r (RepL.append t s)
theorem RepL.get : ∀ {vs : List V} {ds : List D} {i : Nat} {d : D}, RepL K mg H vs ds → ds[i]? = some d → ∃ v, vs[i]? = some v ∧ Rep K mg H v d
  | _, _, _, _, .nil, e => by simp at e
  | _, _, 0, _, .cons r _, e => by simp at e; subst e; exact ⟨_, rfl, r⟩
  | _, _, i + 1, d, .cons _ t, e => by
    obtain ⟨v, h1, h2⟩ := RepL.get (i := i) (d := d) t (by simpa using e)
    exact ⟨v, by simpa using h1, h2⟩
theorem RepL.get' : ∀ {vs : List V} {ds : List D} {i : Nat} {v : V}, RepL K mg H vs ds → vs[i]? = some v → ∃ d, ds[i]? = some d ∧ Rep K mg H v d
  | _, _, _, _, .nil, e => by simp at e
  | _, _, 0, _, .cons r _, e => by simp at e; subst e; exact ⟨_, rfl, r⟩
  | _, _, i + 1, v, .cons _ t, e => by
    obtain ⟨d, h1, h2⟩ := RepL.get' (i := i) (v := v) t (by simpa using e)
    exact ⟨d, by simpa using h1, h2⟩
theorem RepL.take : ∀ {vs : List V} {ds : List D} (n : Nat), RepL K mg H vs ds → RepL K mg H (vs.take n) (ds.take n)
  | _, _, 0, _ => by simpa using .nil
  | _, _, _ + 1, .nil => by simpa using .nil
  | _, _, n + 1, .cons r t => by simpa using .cons r (RepL.take n t)
theorem RepL.drop : ∀ {vs : List V} {ds : List D} (n : Nat), RepL K mg H vs ds → RepL K mg H (vs.drop n) (ds.drop n)
  | _, _, 0, r => by simpa using r
  | _, _, _ + 1, .nil => by simpa using .nil
  | _, _, n + 1, .cons _ t => by simpa using RepL.drop n t
theorem RepL.set {v : V} {d : D} (r : Rep K mg H v d) : ∀ {vs : List V} {ds : List D} (i : Nat), RepL K mg H vs ds → RepL K mg H (vs.set i v) (ds.set i d)
  | _, _, _, .nil => by simpa using .nil
  | _, _, 0, .cons _ t => by simpa using .cons r t
  | _, _, i + 1, .cons q t => by simpa using .cons q (RepL.set r i t)
theorem RepL.reverse : ∀ {vs : List V} {ds : List D}, RepL K mg H vs ds → RepL K mg H vs.reverse ds.reverse
  | _, _, .nil => by simpa using .nil
  | _, _, .cons r t => by simpa using RepL.append (RepL.reverse t) (.cons r .nil)
end

/-- what a slot holds: data that no one changes; a list of this def's own; an instance in the making -/
inductive Sl where
  | val (d : D)
  | own (l : List D)
  | ob (c : Nat) (ns : List Str) (ds : List D)
abbrev Sd := List (Option Sl)
/-- what a slot owns -/
def Sl.isOwn : Sl → Bool
  | .val _ => false
  | _ => true

/-- the ground of a def's run: the heap at its entry, what it may write there, what it may not touch -/
structure Gx where
  H0 : Hp
  W : List Addr
  B : List Addr
  /-- where the list (the instance) of the first slot stands -/
  pin : Option Addr := none

section
variable (K : PySem.W.Frag) (mg : Str → Option Value)
/-- a slot's value and what it is said to hold -/
def SlOk (G : Gx) (H : Hp) (O : List Addr) (v : V) : Sl → Prop
  | .val d => Rep K mg (cut H O) v d
  | .own l => ∃ p xs, v = .ref p ∧ p ∈ O ∧ p ∉ G.B ∧ (G.H0 p = none ∨ p ∈ G.W) ∧ H p = some (.lst xs) ∧ RepL K mg (cut H O) xs l
  | .ob c ns ds => ∃ p C dx xs, v = .ref p ∧ p ∈ O ∧ p ∉ G.B ∧ (G.H0 p = none ∨ p ∈ G.W) ∧ mg (clsName c) = some (.ref C) ∧ H p = some (.ins C dx (ns.zip xs)) ∧ ns.length = xs.length ∧ RepL K mg (cut H O) xs ds
/-- what is owned stands: lists and instances alone -/
def Live (H : Hp) (O : List Addr) : Prop := ∀ p ∈ O, (∃ xs, H p = some (.lst xs)) ∨ ∃ C dx fs, H p = some (.ins C dx fs)
structure SR (G : Gx) (H : Hp) (O : List Addr) (σ : St) (τ : Sd) : Prop where
  len : σ.length = τ.length
  keep : ∀ a o, G.H0 a = some o → a ∉ G.W → H a = some o
  base : ∀ p ∈ G.B, p ∈ O
  own0 : ∀ p ∈ O, p ∈ G.B ∨ G.H0 p = none ∨ p ∈ G.W
  live : Live H O
  slot : ∀ (i : Nat) (s : Sl), τ[i]? = some (some s) → ∃ v, σ[i]? = some (some v) ∧ SlOk K mg G H O v s
  inj : ∀ (i j : Nat) (s t : Sl) (v : V), τ[i]? = some (some s) → s.isOwn = true → τ[j]? = some (some t) → t.isOwn = true → σ[i]? = some (some v) → σ[j]? = some (some v) → i = j
  pin : ∀ (p : Addr) (s : Sl), G.pin = some p → τ[0]? = some (some s) → s.isOwn = true → σ[0]? = some (some (.ref p))
end
/-- what was not owned stands as it was, and is not owned -/
def Le (H : Hp) (O : List Addr) (H' : Hp) (O' : List Addr) : Prop := Grow (cut H O) (cut H' O')
theorem Le.refl (H : Hp) (O : List Addr) : Le H O H O := Grow.refl _
theorem Le.trans {H H1 H2 : Hp} {O O1 O2 : List Addr} (a : Le H O H1 O1) (b : Le H1 O1 H2 O2) : Le H O H2 O2 := Grow.trans a b
theorem Live.ne {H : Hp} {O : List Addr} (l : Live H O) {p : Addr} (h : H p = none) : p ∉ O := fun z => by
  rcases l p z with ⟨xs, e⟩ | ⟨C, dx, fs, e⟩ <;> (rw [h] at e; cases e)
theorem Live.grow {H H' : Hp} {O : List Addr} (l : Live H O) (g : Grow H H') : Live H' O := fun p z => by
  rcases l p z with ⟨xs, e⟩ | ⟨C, dx, fs, e⟩
  · exact .inl ⟨xs, g _ _ e⟩
  · exact .inr ⟨C, dx, fs, g _ _ e⟩
theorem Live.nil (H : Hp) : Live H [] := fun _ z => absurd z (by simp)

section
variable {K : PySem.W.Frag} {mg : Str → Option Value} {G : Gx} {H H' : Hp} {O O' : List Addr} {σ : St} {τ : Sd}
theorem SlOk.grow {v : V} {s : Sl} (h : SlOk K mg G H O v s) (g : Grow H H') : SlOk K mg G H' O v s := by
  cases s with
  | val d => exact Rep.grow (g.cut O) h
  | own l =>
    obtain ⟨p, xs, e, h1, h2, h3, h4, h5⟩ := h
    exact ⟨p, xs, e, h1, h2, h3, g _ _ h4, RepL.grow (g.cut O) h5⟩
  | ob c ns ds =>
    obtain ⟨p, C, dx, xs, e, h1, h2, h3, h4, h5, h6, h7⟩ := h
    exact ⟨p, C, dx, xs, e, h1, h2, h3, h4, g _ _ h5, h6, RepL.grow (g.cut O) h7⟩
/-- the heap has grown -/
theorem SR.grow (R : SR K mg G H O σ τ) (g : Grow H H') : SR K mg G H' O σ τ :=
  ⟨R.len, fun a o h n => g _ _ (R.keep a o h n), R.base, R.own0, R.live.grow g, fun i s h => let ⟨v, e, q⟩ := R.slot i s h; ⟨v, e, q.grow g⟩, R.inj, R.pin⟩
theorem Le.grow (g : Grow H H') : Le H O H' O := g.cut O
end
end Dv
set_option Elab.async false
set_option linter.all false
set_option maxRecDepth 100000
set_option maxHeartbeats 4000000
/-! DV2: what an expression, a test, an argument list, a statement does to data; rules for the plain constructs -/
namespace Dv
open PySem L2

abbrev M (α : Type) := Sd → Option (α × Sd)
def mPure {α : Type} (a : α) : M α := fun τ => some (a, τ)
def mBind {α β : Type} (f : M α) (g : α → M β) : M β := fun τ => match f τ with
  | some (a, τ1) => g a τ1
  | none => none
/-- a partial function of data, the state as it is -/
def mLift {α : Type} (o : Option α) : M α := fun τ => match o with
  | some a => some (a, τ)
  | none => none

section
variable (K : PySem.W.Frag) (mg : Str → Option Value) (G : Gx)
def tD (f : M D) : TE := fun σ H Q => ∃ O τ d τ', SR K mg G H O σ τ ∧ f τ = some (d, τ') ∧ ∀ v H' O', Le H O H' O' → SR K mg G H' O' σ τ' → Rep K mg (cut H' O') v d → Q v H'
def tDT (f : M Bool) : TT := fun σ H Q => ∃ O τ b τ', SR K mg G H O σ τ ∧ f τ = some (b, τ') ∧ ∀ H' O', Le H O H' O' → SR K mg G H' O' σ τ' → Q b H'
def tDA (f : M (List D)) : TA := fun σ H Q => ∃ O τ ds τ', SR K mg G H O σ τ ∧ f τ = some (ds, τ') ∧ ∀ vs H' O', Le H O H' O' → SR K mg G H' O' σ τ' → RepL K mg (cut H' O') vs ds → Q vs H'
/-- a new list -/
def tDF (f : M (List D)) : TE := fun σ H Q => ∃ O τ l τ', SR K mg G H O σ τ ∧ f τ = some (l, τ') ∧
  ∀ p xs H1 O', H1 p = none → Le H O H1 O' → SR K mg G H1 O' σ τ' → RepL K mg (cut H1 O') xs l → Q (.ref p) (upd H1 p (.lst xs))
end
def DE (X : Cx) (G : Gx) (e : Expr) (f : M D) : Prop := PE X e (tD X.K X.mg G f)
def DT (X : Cx) (G : Gx) (e : Expr) (f : M Bool) : Prop := PT X e (tDT X.K X.mg G f)
def DA (X : Cx) (G : Gx) (es : List Expr) (f : M (List D)) : Prop := PA X es (tDA X.K X.mg G f)
def DF (X : Cx) (G : Gx) (e : Expr) (f : M (List D)) : Prop := PE X e (tDF X.K X.mg G f)

theorem pe_imp {X : Cx} {e : Expr} {t t' : TE} (h : PE X e t) (i : ∀ σ H Q, t' σ H Q → t σ H Q) : PE X e t' := ⟨fun pins s σ H Q I q => h.run pins s σ H Q I (i σ H Q q)⟩
theorem pt_imp {X : Cx} {e : Expr} {t t' : TT} (h : PT X e t) (i : ∀ σ H Q, t' σ H Q → t σ H Q) : PT X e t' := ⟨fun pins s σ H Q I q => h.run pins s σ H Q I (i σ H Q q)⟩
theorem pa_imp {X : Cx} {es : List Expr} {t t' : TA} (h : PA X es t) (i : ∀ σ H Q, t' σ H Q → t σ H Q) : PA X es t' := ⟨fun pos pins s σ H Q I q => h.run pos pins s σ H Q I (i σ H Q q)⟩
theorem ps_imp {X : Cx} {st : Stmt} {t t' : TS} (h : PS X st t) (i : ∀ D σ H, t' D σ H → t D σ H) : PS X st t' := ⟨fun pins s σ H D I q => h.run pins s σ H D I (i D σ H q)⟩
theorem pss_imp {X : Cx} {st : List Stmt} {t t' : TS} (h : PSs X st t) (i : ∀ D σ H, t' D σ H → t D σ H) : PSs X st t' := ⟨fun pins s σ H D I q => h.run pins s σ H D I (i D σ H q)⟩
theorem pe_both {X : Cx} {e : Expr} {t u : TE} (h : PE X e t) (h' : PE X e u) : PE X e (fun σ H Q => t σ H Q ∨ u σ H Q) := ⟨fun pins s σ H Q I q => q.elim (h.run pins s σ H Q I) (h'.run pins s σ H Q I)⟩

/-! ### values by values -/
/-- two operands: r is met wherever g gives a value -/
def V2 (X : Cx) (r : R2) (g : D → D → Option D) : Prop := ∀ H O x y a b z Q, Live H O → Rep X.K X.mg (cut H O) x a → Rep X.K X.mg (cut H O) y b → g a b = some z →
  (∀ v H', Grow H H' → Rep X.K X.mg (cut H' O) v z → Q v H') → r x y H Q
def V1 (X : Cx) (r : V → Hp → VK → Prop) (g : D → Option D) : Prop := ∀ H O x a z Q, Live H O → Rep X.K X.mg (cut H O) x a → g a = some z →
  (∀ v H', Grow H H' → Rep X.K X.mg (cut H' O) v z → Q v H') → r x H Q
def VN (X : Cx) (r : List V → Hp → VK → Prop) (g : List D → Option D) : Prop := ∀ H O xs ds z Q, Live H O → RepL X.K X.mg (cut H O) xs ds → g ds = some z →
  (∀ v H', Grow H H' → Rep X.K X.mg (cut H' O) v z → Q v H') → r xs H Q
/-- the same where a new list comes -/
def V2F (X : Cx) (r : R2) (g : D → D → Option (List D)) : Prop := ∀ H O x y a b l Q, Live H O → Rep X.K X.mg (cut H O) x a → Rep X.K X.mg (cut H O) y b → g a b = some l →
  (∀ p xs, H p = none → RepL X.K X.mg (cut H O) xs l → Q (.ref p) (upd H p (.lst xs))) → r x y H Q
def VNF (X : Cx) (r : List V → Hp → VK → Prop) (g : List D → Option (List D)) : Prop := ∀ H O xs ds l Q, Live H O → RepL X.K X.mg (cut H O) xs ds → g ds = some l →
  (∀ p ys, H p = none → RepL X.K X.mg (cut H O) ys l → Q (.ref p) (upd H p (.lst ys))) → r xs H Q

section
variable {X : Cx} {G : Gx} {H : Hp} {O : List Addr}
theorem new_list {K : PySem.W.Frag} {mg : Str → Option Value} {p : Addr} {xs : List V} {l : List D} (lv : Live H O) (h : H p = none) (r : RepL K mg (cut H O) xs l) : Rep K mg (cut (upd H p (.lst xs)) O) (.ref p) (.lst l) :=
  .lst (cut_of (lv.ne h) upd_same) (RepL.grow ((Grow.new h).cut O) r)
theorem new_tup {K : PySem.W.Frag} {mg : Str → Option Value} {p : Addr} {xs : List V} {l : List D} (lv : Live H O) (h : H p = none) (r : RepL K mg (cut H O) xs l) : Rep K mg (cut (upd H p (.tup xs)) O) (.ref p) (.tup l) :=
  .tup (.inl (.inl (cut_of (lv.ne h) upd_same))) (RepL.grow ((Grow.new h).cut O) r)
theorem V2F.v2 {r : R2} {g : D → D → Option (List D)} (h : V2F X r g) : V2 X r (fun a b => (g a b).map D.lst) := fun H O x y a b z Q lv ra rb e q => by
  cases e1 : g a b with
  | none => simp [e1] at e
  | some l =>
    simp [e1] at e; subst e
    exact h H O x y a b l Q lv ra rb e1 fun p xs hp rl => q _ _ (Grow.new hp) (new_list lv hp rl)
theorem VNF.vn {r : List V → Hp → VK → Prop} {g : List D → Option (List D)} (h : VNF X r g) : VN X r (fun ds => (g ds).map D.lst) := fun H O xs ds z Q lv rl e q => by
  cases e1 : g ds with
  | none => simp [e1] at e
  | some l =>
    simp [e1] at e; subst e
    exact h H O xs ds l Q lv rl e1 fun p ys hp ry => q _ _ (Grow.new hp) (new_list lv hp ry)
/-- a new list as a value -/
theorem DF.de {e : Expr} {f : M (List D)} (h : DF X G e f) : DE X G e (mBind f fun l => mPure (.lst l)) := pe_imp h fun σ H Q q => by
  obtain ⟨O, τ, d, τ', R, e1, q⟩ := q
  unfold mBind at e1
  cases e2 : f τ with
  | none => simp [e2] at e1
  | some p =>
    obtain ⟨l, τ1⟩ := p
    simp [e2, mPure] at e1
    obtain ⟨rfl, rfl⟩ := e1
    exact ⟨O, τ, l, _, R, e2, fun p xs H1 O' hp le R1 rl => q _ _ O' (le.trans (Le.grow (Grow.new hp))) (R1.grow (Grow.new hp)) (new_list R1.live hp rl)⟩

/-! ### names, constants -/
/-- a slot that no one changes -/
def vR (i : Nat) : M D := fun τ => match τ[i]? with
  | some (some (.val d)) => some (d, τ)
  | _ => none
theorem vR_some {i : Nat} {τ τ' : Sd} {d : D} (h : vR i τ = some (d, τ')) : τ' = τ ∧ τ[i]? = some (some (.val d)) := by
  unfold vR at h
  split at h
  · rename_i d' e
    cases h
    exact ⟨rfl, e⟩
  · cases h
theorem de_v {e : Expr} (i : Nat) (h : PE X e (tVar i)) : DE X G e (vR i) := pe_imp h fun σ H Q q => by
  obtain ⟨O, τ, d, τ', R, e1, q⟩ := q
  obtain ⟨rfl, e2⟩ := vR_some e1
  obtain ⟨v, ev, r⟩ := R.slot i _ e2
  exact ⟨v, ev, q v H O (Le.refl _ _) R r⟩
theorem de_c {e : Expr} {v : V} {d : D} (h : PE X e (tC v)) (r : ∀ H, Rep X.K X.mg H v d) : DE X G e (mPure d) := pe_imp h fun σ H Q q => by
  obtain ⟨O, τ, d', τ', R, e1, q⟩ := q
  unfold mPure at e1; cases e1
  exact q v H O (Le.refl _ _) R (r _)
theorem de_int {i j pos} : DE X G (.Constant (.int i) j pos) (mPure (.int i)) := de_c pe_int fun _ => .int i
theorem de_bl {b j pos} : DE X G (.Constant (.bool b) j pos) (mPure (.bl b)) := de_c pe_bl fun _ => .bl b
theorem de_non {j pos} : DE X G (.Constant .none j pos) (mPure .non) := de_c pe_non fun _ => .non
theorem de_str {x j pos} : DE X G (.Constant (.str x) j pos) (mPure (.str x)) := de_c pe_str fun _ => .str x

/-! ### operators -/
def m2 (g : D → D → Option D) (fa fb : M D) : M D := mBind fa fun a => mBind fb fun b => mLift (g a b)
theorem m2_some {g : D → D → Option D} {fa fb : M D} {τ τ' : Sd} {z : D} (h : m2 g fa fb τ = some (z, τ')) : ∃ a b τ1, fa τ = some (a, τ1) ∧ fb τ1 = some (b, τ') ∧ g a b = some z := by
  unfold m2 mBind at h
  cases e1 : fa τ with
  | none => simp [e1] at h
  | some p =>
    obtain ⟨a, τ1⟩ := p
    simp only [e1] at h
    cases e2 : fb τ1 with
    | none => simp [e2] at h
    | some p2 =>
      obtain ⟨b, τ2⟩ := p2
      simp only [e2, mLift] at h
      cases e3 : g a b with
      | none => simp [e3] at h
      | some z' =>
        simp [e3] at h
        obtain ⟨rfl, rfl⟩ := h
        exact ⟨a, b, τ1, rfl, e2, e3⟩
theorem tOp_of {r : R2} {g : D → D → Option D} {fa fb : M D} (hr : V2 X r g) : ∀ σ H Q, tD X.K X.mg G (m2 g fa fb) σ H Q → tOp r (tD X.K X.mg G fa) (tD X.K X.mg G fb) σ H Q := fun σ H Q q => by
  obtain ⟨O, τ, z, τ', R, e, q⟩ := q
  obtain ⟨a, b, τ1, e1, e2, e3⟩ := m2_some e
  refine ⟨O, τ, a, τ1, R, e1, fun x H1 O1 l1 R1 r1 => ?_⟩
  refine ⟨O1, τ1, b, τ', R1, e2, fun y H2 O2 l2 R2 r2 => ?_⟩
  refine hr H2 O2 x y a b z Q R2.live (Rep.grow l2 r1) r2 e3 fun v H' g' rz => ?_
  exact q v H' O2 ((l1.trans l2).trans (Le.grow g')) (R2.grow g') rz
theorem de_op {a b : Expr} {op : Operator} {pos : Pos} {r : R2} {g : D → D → Option D} {fa fb : M D} (ho : OpR X (binaryOp op) r) (hr : V2 X r g) (ha : DE X G a fa) (hb : DE X G b fb) : DE X G (.BinOp a op b pos) (m2 g fa fb) :=
  pe_imp (pe_op ho ha hb) (tOp_of hr)
theorem de_cmp {a b : Expr} {op : CmpOp} {pos : Pos} {r : R2} {g : D → D → Option D} {fa fb : M D} (ho : OpR X (compareOp op) r) (hr : V2 X r g) (ha : DE X G a fa) (hb : DE X G b fb) (hm : behindInMarks op b = false) : DE X G (.Compare a [op] [b] pos) (m2 g fa fb) :=
  pe_imp (pe_cmpR ho ha hb hm) (tOp_of hr)
def m1 (g : D → Option D) (fa : M D) : M D := mBind fa fun a => mLift (g a)
theorem m1_some {α : Type} {g : D → Option α} {fa : M D} {τ τ' : Sd} {z : α} (h : mBind fa (fun a => mLift (g a)) τ = some (z, τ')) : ∃ a, fa τ = some (a, τ') ∧ g a = some z := by
  unfold mBind at h
  cases e1 : fa τ with
  | none => simp [e1] at h
  | some p =>
    obtain ⟨a, τ1⟩ := p
    simp only [e1, mLift] at h
    cases e3 : g a with
    | none => simp [e3] at h
    | some z' =>
      simp [e3] at h
      obtain ⟨rfl, rfl⟩ := h
      exact ⟨a, rfl, e3⟩
theorem de_un {a : Expr} {op : UnaryOp} {pos : Pos} {r : V → Hp → VK → Prop} {g : D → Option D} {fa : M D} (ho : UnR X (unaryOp op) r) (hr : V1 X r g) (ha : DE X G a fa) : DE X G (.UnaryOp op a pos) (m1 g fa) :=
  pe_imp (pe_un ho ha) fun σ H Q q => by
    obtain ⟨O, τ, z, τ', R, e, q⟩ := q
    obtain ⟨a, e1, e2⟩ := m1_some e
    refine ⟨O, τ, a, τ', R, e1, fun x H1 O1 l1 R1 r1 => ?_⟩
    exact hr H1 O1 x a z Q R1.live r1 e2 fun v H' g' rz => q v H' O1 (l1.trans (Le.grow g')) (R1.grow g') rz

/-! ### argument lists, displays -/
def aNil : M (List D) := mPure []
def aCons (fa : M D) (fr : M (List D)) : M (List D) := mBind fa fun a => mBind fr fun r => mPure (a :: r)
theorem aCons_some {fa : M D} {fr : M (List D)} {τ τ' : Sd} {z : List D} (h : aCons fa fr τ = some (z, τ')) : ∃ a r τ1, fa τ = some (a, τ1) ∧ fr τ1 = some (r, τ') ∧ z = a :: r := by
  unfold aCons mBind at h
  cases e1 : fa τ with
  | none => simp [e1] at h
  | some p =>
    obtain ⟨a, τ1⟩ := p
    simp only [e1] at h
    cases e2 : fr τ1 with
    | none => simp [e2] at h
    | some p2 =>
      obtain ⟨b, τ2⟩ := p2
      simp only [e2, mPure] at h
      cases h
      exact ⟨a, b, τ1, rfl, e2, rfl⟩
theorem da_nil : DA X G [] aNil := pa_imp pa_nil fun σ H Q q => by
  obtain ⟨O, τ, z, τ', R, e, q⟩ := q
  unfold aNil mPure at e; cases e
  exact q [] H O (Le.refl _ _) R .nil
theorem da_cons {e : Expr} {es : List Expr} {fa : M D} {fr : M (List D)} (ha : DE X G e fa) (hr : DA X G es fr) (hs : starEach (e :: es) X.env = (false, eval e X.env) :: starEach es X.env := by rfl) : DA X G (e :: es) (aCons fa fr) :=
  pa_imp (pa_cons ha hr hs) fun σ H Q q => by
    obtain ⟨O, τ, z, τ', R, e, q⟩ := q
    obtain ⟨a, r, τ1, e1, e2, rfl⟩ := aCons_some e
    refine ⟨O, τ, a, τ1, R, e1, fun x H1 O1 l1 R1 r1 => ?_⟩
    refine ⟨O1, τ1, r, τ', R1, e2, fun xs H2 O2 l2 R2 r2 => ?_⟩
    exact q (x :: xs) H2 O2 (l1.trans l2) R2 (.cons (Rep.grow l2 r1) r2)
/-- short enough to be laid -/
def fit {α : Type} (l : List α) : Option (List α) := if l.length ≤ sizeLine then some l else none
theorem fit_some {α : Type} {l m : List α} (h : fit l = some m) : m = l ∧ l.length ≤ sizeLine := by
  unfold fit at h
  split at h
  · cases h; exact ⟨rfl, by assumption⟩
  · cases h
def mTup (f : M (List D)) : M D := mBind f fun l => mLift ((fit l).map D.tup)
def mLst (f : M (List D)) : M (List D) := mBind f fun l => mLift (fit l)
theorem mL_some {α β : Type} {f : M α} {g : α → Option β} {τ τ' : Sd} {z : β} (h : mBind f (fun a => mLift (g a)) τ = some (z, τ')) : ∃ a, f τ = some (a, τ') ∧ g a = some z := by
  unfold mBind at h
  cases e1 : f τ with
  | none => simp [e1] at h
  | some p =>
    obtain ⟨a, τ1⟩ := p
    simp only [e1, mLift] at h
    cases e3 : g a with
    | none => simp [e3] at h
    | some z' =>
      simp [e3] at h
      obtain ⟨rfl, rfl⟩ := h
      exact ⟨a, rfl, e3⟩
theorem de_tup {es : List Expr} {x1} {pos : Pos} {f : M (List D)} (h : DA X G es f) : DE X G (.Tuple es x1 pos) (mTup f) := pe_imp (pe_tup h) fun σ H Q q => by
  obtain ⟨O, τ, z, τ', R, e, q⟩ := q
  obtain ⟨l, e1, e2⟩ := mL_some e
  cases e3 : fit l with
  | none => simp [e3] at e2
  | some m =>
    obtain ⟨rfl, hl⟩ := fit_some e3
    simp [e3] at e2; subst e2
    refine ⟨O, τ, m, τ', R, e1, fun vs H1 O1 l1 R1 r1 => ⟨by rw [r1.length]; exact hl, fun p hp => ?_⟩⟩
    exact q _ _ O1 (l1.trans (Le.grow (Grow.new hp))) (R1.grow (Grow.new hp)) (new_tup R1.live hp r1)
theorem df_lst {es : List Expr} {pos : Pos} {f : M (List D)} (h : DA X G es f) : DF X G (.List es pos) (mLst f) := pe_imp (pe_lst h) fun σ H Q q => by
  obtain ⟨O, τ, z, τ', R, e, q⟩ := q
  obtain ⟨l, e1, e2⟩ := mL_some e
  obtain ⟨rfl, hl⟩ := fit_some e2
  refine ⟨O, τ, z, τ', R, e1, fun vs H1 O1 l1 R1 r1 => ⟨by rw [r1.length]; exact hl, fun p hp => ?_⟩⟩
  exact q p vs H1 O1 hp l1 R1 r1
/-- operators that make a new list -/
def m2F (g : D → D → Option (List D)) (fa fb : M D) : M (List D) := mBind fa fun a => mBind fb fun b => mLift (g a b)
theorem df_op {a b : Expr} {op : Operator} {pos : Pos} {r : R2} {g : D → D → Option (List D)} {fa fb : M D} (ho : OpR X (binaryOp op) r) (hr : V2F X r g) (ha : DE X G a fa) (hb : DE X G b fb) : DF X G (.BinOp a op b pos) (m2F g fa fb) :=
  pe_imp (pe_op ho ha hb) fun σ H Q q => by
    obtain ⟨O, τ, z, τ', R, e, q⟩ := q
    unfold m2F mBind at e
    cases e1 : fa τ with
    | none => simp [e1] at e
    | some p =>
      obtain ⟨a, τ1⟩ := p
      simp only [e1] at e
      obtain ⟨b, e2, e3⟩ := mL_some (f := fb) (g := g a) e
      refine ⟨O, τ, a, τ1, R, e1, fun x H1 O1 l1 R1 r1 => ?_⟩
      refine ⟨O1, τ1, b, τ', R1, e2, fun y H2 O2 l2 R2 r2 => ?_⟩
      exact hr H2 O2 x y a b z Q R2.live (Rep.grow l2 r1) r2 e3 fun p xs hp rl => q p xs H2 O2 hp (l1.trans l2) R2 rl

/-! ### calls of built-in functions and types -/
def mCall (g : List D → Option D) (f : M (List D)) : M D := mBind f fun l => mLift (g l)
theorem tCB_of {r : List V → Hp → VK → Prop} {g : List D → Option D} {f : M (List D)} (hr : VN X r g) : ∀ σ H Q, tD X.K X.mg G (mCall g f) σ H Q → tCB r (tDA X.K X.mg G f) σ H Q := fun σ H Q q => by
  obtain ⟨O, τ, z, τ', R, e, q⟩ := q
  obtain ⟨l, e1, e2⟩ := mL_some e
  refine ⟨O, τ, l, τ', R, e1, fun xs H1 O1 l1 R1 r1 => ?_⟩
  exact hr H1 O1 xs l z Q R1.live r1 e2 fun v H' g' rz => q v H' O1 (l1.trans (Le.grow g')) (R1.grow g') rz
theorem de_callB {x : Str} {p pos : Pos} {e : Expr} {es : List Expr} {id : String} {r : List V → Hp → VK → Prop} {g : List D → Option D} {f : M (List D)} (hc : CallR X (.builtin id) r) (hr : VN X r g) (hg : Gl X x) (hm : X.mg x = none) (hv : bootBuiltins x = some (.builtin id)) (ha : DA X G (e :: es) f) (hn : x ≠ "__name__" := by decide) (hdb : (x == ("__debug__" : Str)) = false := by decide)
    (he : starEach (e :: es) X.env = (false, eval e X.env) :: starEach es X.env := by rfl) (hpl : (backTo pos (starEach es X.env)).any (·.1) = false := by rfl) : DE X G (.Call (.Name x p) (e :: es) [] pos) (mCall g f) :=
  pe_imp (pe_callB hc hg hm hv ha hn hdb he hpl) (tCB_of hr)
theorem de_callTy {x : Str} {p pos : Pos} {e : Expr} {es : List Expr} {T : String} {r : List V → Hp → VK → Prop} {g : List D → Option D} {f : M (List D)} (hc : CallR X (.type T) r) (hr : VN X r g) (hg : Gl X x) (hm : X.mg x = none) (hv : bootBuiltins x = some (.type T)) (ha : DA X G (e :: es) f) (hn : x ≠ "__name__" := by decide) (hdb : (x == ("__debug__" : Str)) = false := by decide)
    (he : starEach (e :: es) X.env = (false, eval e X.env) :: starEach es X.env := by rfl) (hpl : (backTo pos (starEach es X.env)).any (·.1) = false := by rfl) : DE X G (.Call (.Name x p) (e :: es) [] pos) (mCall g f) :=
  pe_imp (pe_callTy hc hg hm hv ha hn hdb he hpl) (tCB_of hr)
def mCallF (g : List D → Option (List D)) (f : M (List D)) : M (List D) := mBind f fun l => mLift (g l)
theorem tCBF_of {r : List V → Hp → VK → Prop} {g : List D → Option (List D)} {f : M (List D)} (hr : VNF X r g) : ∀ σ H Q, tDF X.K X.mg G (mCallF g f) σ H Q → tCB r (tDA X.K X.mg G f) σ H Q := fun σ H Q q => by
  obtain ⟨O, τ, z, τ', R, e, q⟩ := q
  obtain ⟨l, e1, e2⟩ := mL_some e
  refine ⟨O, τ, l, τ', R, e1, fun xs H1 O1 l1 R1 r1 => ?_⟩
  exact hr H1 O1 xs l z Q R1.live r1 e2 fun p ys hp rz => q p ys H1 O1 hp l1 R1 rz
theorem df_callB {x : Str} {p pos : Pos} {e : Expr} {es : List Expr} {id : String} {r : List V → Hp → VK → Prop} {g : List D → Option (List D)} {f : M (List D)} (hc : CallR X (.builtin id) r) (hr : VNF X r g) (hg : Gl X x) (hm : X.mg x = none) (hv : bootBuiltins x = some (.builtin id)) (ha : DA X G (e :: es) f) (hn : x ≠ "__name__" := by decide) (hdb : (x == ("__debug__" : Str)) = false := by decide)
    (he : starEach (e :: es) X.env = (false, eval e X.env) :: starEach es X.env := by rfl) (hpl : (backTo pos (starEach es X.env)).any (·.1) = false := by rfl) : DF X G (.Call (.Name x p) (e :: es) [] pos) (mCallF g f) :=
  pe_imp (pe_callB hc hg hm hv ha hn hdb he hpl) (tCBF_of hr)
theorem df_callTy {x : Str} {p pos : Pos} {e : Expr} {es : List Expr} {T : String} {r : List V → Hp → VK → Prop} {g : List D → Option (List D)} {f : M (List D)} (hc : CallR X (.type T) r) (hr : VNF X r g) (hg : Gl X x) (hm : X.mg x = none) (hv : bootBuiltins x = some (.type T)) (ha : DA X G (e :: es) f) (hn : x ≠ "__name__" := by decide) (hdb : (x == ("__debug__" : Str)) = false := by decide)
    (he : starEach (e :: es) X.env = (false, eval e X.env) :: starEach es X.env := by rfl) (hpl : (backTo pos (starEach es X.env)).any (·.1) = false := by rfl) : DF X G (.Call (.Name x p) (e :: es) [] pos) (mCallF g f) :=
  pe_imp (pe_callTy hc hg hm hv ha hn hdb he hpl) (tCBF_of hr)
end
end Dv
set_option Elab.async false
set_option linter.all false
set_option maxRecDepth 100000
set_option maxHeartbeats 4000000
/-! DV3: tests, and | or, conditional expressions; statements; loops -/
namespace Dv
open PySem L2
section
variable {X : Cx} {G : Gx}

/-! ### truth -/
def truthD : D → Option Bool
  | .non => some false
  | .bl b => some b
  | .int i => some (i != 0)
  | .str x => if x.length ≤ sizeLine then some ((x.length : Int) != 0) else none
  | .tup l => some (!l.isEmpty)
  | .lst l => some (!l.isEmpty)
  | _ => none
theorem RepL.isEmpty {K : PySem.W.Frag} {mg : Str → Option Value} {H : Hp} {vs : List V} {ds : List D} (r : RepL K mg H vs ds) : vs.isEmpty = ds.isEmpty := by cases r <;> rfl
theorem truth_ok {K : PySem.W.Frag} {mg : Str → Option Value} {H : Hp} {O : List Addr} {x : V} {a : D} {b : Bool} (r : Rep K mg (cut H O) x a) (h : truthD a = some b) : TruV K x H b := by
  cases r with
  | non => simp [truthD] at h; subst h; exact rfl
  | bl c => simp [truthD] at h; subst h; exact rfl
  | int i => simp [truthD] at h; subst h; exact rfl
  | str z =>
    simp only [truthD] at h
    split at h
    · cases h; exact ⟨by assumption, rfl⟩
    · cases h
  | tup hq rl =>
    simp only [truthD] at h; cases h
    exact .inr (.inl ⟨_, SqT.grow (Grow.ofCut H O) hq, by rw [rl.isEmpty]⟩)
  | lst hq rl =>
    simp only [truthD] at h; cases h
    exact .inl ⟨_, .inl (.inl (Grow.ofCut H O _ _ hq)), by rw [rl.isEmpty]⟩
  | scr hq => simp [truthD] at h
  | obj h1 h2 h3 rl => simp [truthD] at h
def mTru (f : M D) : M Bool := mBind f fun a => mLift (truthD a)
theorem dt_of {e : Expr} {f : M D} (h : DE X G e f) (he : ∀ whole, isTrue e X.env whole = (do let v ← whole; standAt e.pos; holding [v] (truthy v)) := by intro _; rfl) : DT X G e (mTru f) := pt_imp (pt_truth h he) fun σ H Q q => by
  obtain ⟨O, τ, b, τ', R, e1, q⟩ := q
  obtain ⟨a, e2, e3⟩ := mL_some e1
  exact ⟨O, τ, a, τ', R, e2, fun x H1 O1 l1 R1 r1 => ⟨b, truth_ok r1 e3, q H1 O1 l1 R1⟩⟩
/-- a comparison as a test: its answer is a truth value -/
def asB : D → Option Bool
  | .bl b => some b
  | _ => none
def mB (f : M D) : M Bool := mBind f fun a => mLift (asB a)
theorem asB_some {d : D} {b : Bool} (h : asB d = some b) : d = .bl b := by cases d <;> simp [asB] at h; subst h; rfl
theorem rep_bl {K : PySem.W.Frag} {mg : Str → Option Value} {H : Hp} {v : V} {b : Bool} (r : Rep K mg H v (.bl b)) : v = .bl b := by cases r; rfl
theorem rep_int {K : PySem.W.Frag} {mg : Str → Option Value} {H : Hp} {v : V} {i : Int} (r : Rep K mg H v (.int i)) : v = .int i := by cases r; rfl
theorem rep_str {K : PySem.W.Frag} {mg : Str → Option Value} {H : Hp} {v : V} {x : Str} (r : Rep K mg H v (.str x)) : v = .str x := by cases r; rfl
theorem dt_cmp {a b : Expr} {op : CmpOp} {pos : Pos} {r : R2} {g : D → D → Option D} {fa fb : M D} (ho : OpR X (compareOp op) r) (hr : V2 X r g) (ha : DE X G a fa) (hb : DE X G b fb) (hm : behindInMarks op b = false) : DT X G (.Compare a [op] [b] pos) (mB (m2 g fa fb)) :=
  pt_imp (pt_cmpR ho ha hb hm) fun σ H Q q => by
    obtain ⟨O, τ, b, τ', R, e1, q⟩ := q
    obtain ⟨d, e2, e3⟩ := mL_some e1
    refine tOp_of hr σ H _ ⟨O, τ, d, τ', R, e2, fun v H1 O1 l1 R1 r1 => ⟨b, ?_, q H1 O1 l1 R1⟩⟩
    have := asB_some e3; subst this
    exact rep_bl r1
def mAnd (fa fb : M Bool) : M Bool := mBind fa fun a => if a = true then fb else mPure false
def mOr (fa fb : M Bool) : M Bool := mBind fa fun a => if a = true then mPure true else fb
def mNot (fa : M Bool) : M Bool := mBind fa fun a => mPure (!a)
def DW (X : Cx) (G : Gx) (e : Expr) (f : M Bool) : Prop := PW X e (tDT X.K X.mg G f)
theorem DW.dt {e : Expr} {f : M Bool} (h : DW X G e f) : DT X G e f := PW.pt h
theorem pw_imp {e : Expr} {t t' : TT} (h : PW X e t) (i : ∀ σ H Q, t' σ H Q → t σ H Q) : PW X e t' := ⟨fun wh pins s σ H Q I q => h.run wh pins s σ H Q I (i σ H Q q)⟩
theorem dw_and1 {a : Expr} {pos : Pos} {f : M Bool} (h : DT X G a f) : DW X G (.BoolOp .And [a] pos) f := pw_and1 h
theorem dw_or1 {a : Expr} {pos : Pos} {f : M Bool} (h : DT X G a f) : DW X G (.BoolOp .Or [a] pos) f := pw_or1 h
theorem mBind_some {α β : Type} {f : M α} {g : α → M β} {τ τ' : Sd} {z : β} (h : mBind f g τ = some (z, τ')) : ∃ a τ1, f τ = some (a, τ1) ∧ g a τ1 = some (z, τ') := by
  unfold mBind at h
  cases e1 : f τ with
  | none => simp [e1] at h
  | some p =>
    obtain ⟨a, τ1⟩ := p
    simp only [e1] at h
    exact ⟨a, τ1, rfl, h⟩
theorem dw_and {a b : Expr} {rest : List Expr} {pos : Pos} {fa fb : M Bool} (ha : DT X G a fa) (hb : DW X G (.BoolOp .And (b :: rest) pos) fb) : DW X G (.BoolOp .And (a :: b :: rest) pos) (mAnd fa fb) :=
  pw_imp (pw_and ha hb) fun σ H Q q => by
    obtain ⟨O, τ, c, τ', R, e1, q⟩ := q
    obtain ⟨x, τ1, e2, e3⟩ := mBind_some e1
    refine ⟨O, τ, x, τ1, R, e2, fun H1 O1 l1 R1 => ?_⟩
    cases x with
    | true => exact ⟨O1, τ1, c, τ', R1, e3, fun H2 O2 l2 R2 => q H2 O2 (l1.trans l2) R2⟩
    | false => cases e3; exact q H1 O1 l1 R1
theorem dw_or {a b : Expr} {rest : List Expr} {pos : Pos} {fa fb : M Bool} (ha : DT X G a fa) (hb : DW X G (.BoolOp .Or (b :: rest) pos) fb) : DW X G (.BoolOp .Or (a :: b :: rest) pos) (mOr fa fb) :=
  pw_imp (pw_or ha hb) fun σ H Q q => by
    obtain ⟨O, τ, c, τ', R, e1, q⟩ := q
    obtain ⟨x, τ1, e2, e3⟩ := mBind_some e1
    refine ⟨O, τ, x, τ1, R, e2, fun H1 O1 l1 R1 => ?_⟩
    cases x with
    | false => exact ⟨O1, τ1, c, τ', R1, e3, fun H2 O2 l2 R2 => q H2 O2 (l1.trans l2) R2⟩
    | true => cases e3; exact q H1 O1 l1 R1
theorem dt_not {a : Expr} {pos : Pos} {fa : M Bool} (ha : DT X G a fa) : DT X G (.UnaryOp .Not a pos) (mNot fa) := pt_imp (pt_not ha) fun σ H Q q => by
  obtain ⟨O, τ, c, τ', R, e1, q⟩ := q
  obtain ⟨x, τ1, e2, e3⟩ := mBind_some e1
  cases e3
  exact ⟨O, τ, x, _, R, e2, q⟩
/-- and, or, not as values: by truth -/
def mAndV (fa fb : M D) : M D := mBind fa fun a => mBind (mLift (truthD a)) fun b => if b = true then fb else mPure a
def mOrV (fa fb : M D) : M D := mBind fa fun a => mBind (mLift (truthD a)) fun b => if b = true then mPure a else fb
theorem de_one {op} {a : Expr} {pos : Pos} {f : M D} (h : DE X G a f) : DE X G (.BoolOp op [a] pos) f := pe_one h
theorem de_and {a b : Expr} {rest : List Expr} {pos : Pos} {fa fb : M D} (ha : DE X G a fa) (hb : DE X G (.BoolOp .And (b :: rest) pos) fb) : DE X G (.BoolOp .And (a :: b :: rest) pos) (mAndV fa fb) :=
  pe_imp (pe_andT ha hb) fun σ H Q q => by
    obtain ⟨O, τ, c, τ', R, e1, q⟩ := q
    obtain ⟨x, τ1, e2, e3⟩ := mBind_some e1
    obtain ⟨k, τ2, e4, e5⟩ := mBind_some e3
    refine ⟨O, τ, x, τ1, R, e2, fun v H1 O1 l1 R1 r1 => ?_⟩
    unfold mLift at e4
    cases e6 : truthD x with
    | none => simp [e6] at e4
    | some k' =>
      simp [e6] at e4
      obtain ⟨rfl, rfl⟩ := e4
      refine ⟨k', truth_ok r1 e6, ?_⟩
      cases k' with
      | true => exact ⟨O1, τ1, c, τ', R1, e5, fun v H2 O2 l2 R2 r2 => q v H2 O2 (l1.trans l2) R2 r2⟩
      | false => cases e5; exact q v H1 O1 l1 R1 r1
theorem de_or {a b : Expr} {rest : List Expr} {pos : Pos} {fa fb : M D} (ha : DE X G a fa) (hb : DE X G (.BoolOp .Or (b :: rest) pos) fb) : DE X G (.BoolOp .Or (a :: b :: rest) pos) (mOrV fa fb) :=
  pe_imp (pe_orT ha hb) fun σ H Q q => by
    obtain ⟨O, τ, c, τ', R, e1, q⟩ := q
    obtain ⟨x, τ1, e2, e3⟩ := mBind_some e1
    obtain ⟨k, τ2, e4, e5⟩ := mBind_some e3
    refine ⟨O, τ, x, τ1, R, e2, fun v H1 O1 l1 R1 r1 => ?_⟩
    unfold mLift at e4
    cases e6 : truthD x with
    | none => simp [e6] at e4
    | some k' =>
      simp [e6] at e4
      obtain ⟨rfl, rfl⟩ := e4
      refine ⟨k', truth_ok r1 e6, ?_⟩
      cases k' with
      | false => exact ⟨O1, τ1, c, τ', R1, e5, fun v H2 O2 l2 R2 r2 => q v H2 O2 (l1.trans l2) R2 r2⟩
      | true => cases e5; exact q v H1 O1 l1 R1 r1
def mNotV (fa : M D) : M D := mBind fa fun a => mLift ((truthD a).map fun b => .bl (!b))
theorem de_not {a : Expr} {pos : Pos} {fa : M D} (ha : DE X G a fa) : DE X G (.UnaryOp .Not a pos) (mNotV fa) := pe_imp (pe_notT ha) fun σ H Q q => by
  obtain ⟨O, τ, c, τ', R, e1, q⟩ := q
  obtain ⟨x, e2, e3⟩ := mL_some e1
  cases e6 : truthD x with
  | none => simp [e6] at e3
  | some k =>
    simp [e6] at e3; subst e3
    exact ⟨O, τ, x, τ', R, e2, fun v H1 O1 l1 R1 r1 => ⟨k, truth_ok r1 e6, q _ H1 O1 l1 R1 (.bl _)⟩⟩
def mIf {α : Type} (t : M Bool) (fa fb : M α) : M α := mBind t fun c => if c = true then fa else fb
theorem de_if {c a b : Expr} {pos : Pos} {t : M Bool} {fa fb : M D} (hc : DT X G c t) (ha : DE X G a fa) (hb : DE X G b fb) : DE X G (.IfExp c a b pos) (mIf t fa fb) := pe_imp (pe_ifExp hc ha hb) fun σ H Q q => by
  obtain ⟨O, τ, d, τ', R, e1, q⟩ := q
  obtain ⟨x, τ1, e2, e3⟩ := mBind_some e1
  refine ⟨O, τ, x, τ1, R, e2, fun H1 O1 l1 R1 => ?_⟩
  cases x with
  | true => exact ⟨O1, τ1, d, τ', R1, e3, fun v H2 O2 l2 R2 r2 => q v H2 O2 (l1.trans l2) R2 r2⟩
  | false => exact ⟨O1, τ1, d, τ', R1, e3, fun v H2 O2 l2 R2 r2 => q v H2 O2 (l1.trans l2) R2 r2⟩
theorem df_if {c a b : Expr} {pos : Pos} {t : M Bool} {fa fb : M (List D)} (hc : DT X G c t) (ha : DF X G a fa) (hb : DF X G b fb) : DF X G (.IfExp c a b pos) (mIf t fa fb) := pe_imp (pe_ifExp hc ha hb) fun σ H Q q => by
  obtain ⟨O, τ, d, τ', R, e1, q⟩ := q
  obtain ⟨x, τ1, e2, e3⟩ := mBind_some e1
  refine ⟨O, τ, x, τ1, R, e2, fun H1 O1 l1 R1 => ?_⟩
  cases x with
  | true => exact ⟨O1, τ1, d, τ', R1, e3, fun p xs H2 O2 hp l2 R2 r2 => q p xs H2 O2 hp (l1.trans l2) R2 r2⟩
  | false => exact ⟨O1, τ1, d, τ', R1, e3, fun p xs H2 O2 hp l2 R2 r2 => q p xs H2 O2 hp (l1.trans l2) R2 r2⟩
/-- a < b < c: one chain -/
def mCh (g g' : D → D → Option D) (fa fb fc : M D) : M D := mBind fa fun a => mBind fb fun b => mBind (mLift ((g a b).bind asB)) fun k => if k = true then mBind fc fun c => mLift (g' b c) else mPure (.bl false)
theorem tChain_of {r r' : R2} {g g' : D → D → Option D} {fa fb fc : M D} (hr : V2 X r g) (hr' : V2 X r' g') : ∀ σ H Q, tD X.K X.mg G (mCh g g' fa fb fc) σ H Q → tChain r r' (tD X.K X.mg G fa) (tD X.K X.mg G fb) (tD X.K X.mg G fc) σ H Q := fun σ H Q q => by
  obtain ⟨O, τ, z, τ', R, e, q⟩ := q
  obtain ⟨a, τ1, e1, e⟩ := mBind_some e
  obtain ⟨b, τ2, e2, e⟩ := mBind_some e
  obtain ⟨k, τ3, e3, e⟩ := mBind_some e
  unfold mLift at e3
  cases e4 : (g a b).bind asB with
  | none => simp [e4] at e3
  | some k' =>
    simp only [e4] at e3
    cases e3
    obtain ⟨d, e5, e6⟩ := Option.bind_eq_some_iff.mp e4
    have := asB_some e6; subst this
    refine ⟨O, τ, a, τ1, R, e1, fun x H1 O1 l1 R1 r1 => ?_⟩
    refine ⟨O1, τ1, b, τ2, R1, e2, fun y H2 O2 l2 R2 r2 => ?_⟩
    refine hr H2 O2 x y a b _ _ R2.live (Rep.grow l2 r1) r2 e5 fun v H3 g3 r3 => ⟨k, rep_bl r3, ?_⟩
    cases k with
    | true =>
      rw [if_pos rfl]
      rw [if_pos rfl] at e
      obtain ⟨c, e7, e8⟩ := mL_some e
      refine ⟨O2, τ2, c, τ', R2.grow g3, e7, fun w H4 O4 l4 R4 r4 => ?_⟩
      refine hr' H4 O4 y w b c z Q R4.live (Rep.grow l4 (Rep.grow (g3.cut O2) r2)) r4 e8 fun v' H5 g5 r5 => ?_
      exact q v' H5 O4 ((((l1.trans l2).trans (Le.grow g3)).trans l4).trans (Le.grow g5)) (R4.grow g5) r5
    | false =>
      rw [if_neg Bool.false_ne_true]
      rw [if_neg Bool.false_ne_true] at e
      cases e
      exact q _ H3 O2 ((l1.trans l2).trans (Le.grow g3)) (R2.grow g3) (.bl false)
theorem de_chain {op op' : CmpOp} {a b c : Expr} {pos : Pos} {r r' : R2} {g g' : D → D → Option D} {fa fb fc : M D} (ho : OpR X (compareOp op) r) (hr : V2 X r g) (ho' : OpR X (compareOp op') r') (hr' : V2 X r' g') (ha : DE X G a fa) (hb : DE X G b fb) (hc : DE X G c fc)
    (hm : lastMarks [op, op'] [b, c] = false := by with_unfolding_all rfl) : DE X G (.Compare a [op, op'] [b, c] pos) (mCh g g' fa fb fc) := pe_imp (pe_chain ho ho' ha hb hc hm) (tChain_of hr hr')
theorem dt_chain {op op' : CmpOp} {a b c : Expr} {pos : Pos} {r r' : R2} {g g' : D → D → Option D} {fa fb fc : M D} (ho : OpR X (compareOp op) r) (hr : V2 X r g) (ho' : OpR X (compareOp op') r') (hr' : V2 X r' g') (ha : DE X G a fa) (hb : DE X G b fb) (hc : DE X G c fc)
    (hm : lastMarks [op, op'] [b, c] = false := by with_unfolding_all rfl) : DT X G (.Compare a [op, op'] [b, c] pos) (mB (mCh g g' fa fb fc)) := pt_imp (pt_chain ho ho' ha hb hc hm) fun σ H Q q => by
  obtain ⟨O, τ, b, τ', R, e1, q⟩ := q
  obtain ⟨d, e2, e3⟩ := mL_some e1
  refine tChain_of hr hr' σ H _ ⟨O, τ, d, τ', R, e2, fun v H1 O1 l1 R1 r1 => ⟨b, ?_, q H1 O1 l1 R1⟩⟩
  have := asB_some e3; subst this
  exact rep_bl r1

/-! ### statements -/
inductive Fl where
  | nx | rt (d : D) | bk | ct
  /-- a new list is handed back -/
  | rf (l : List D)
end
section
variable (K : PySem.W.Frag) (mg : Str → Option Value) (G : Gx)
/-- what is wanted behind a statement, of data -/
def FlOk (N : Ends) (H : Hp) (O : List Addr) (τ' : Sd) : Fl → Prop
  | .nx => ∀ σ' H' O', Le H O H' O' → SR K mg G H' O' σ' τ' → N.nx σ' H'
  | .bk => ∀ σ' H' O', Le H O H' O' → SR K mg G H' O' σ' τ' → N.bk σ' H'
  | .ct => ∀ σ' H' O', Le H O H' O' → SR K mg G H' O' σ' τ' → N.ct σ' H'
  | .rt d => ∀ v σ' H' O', Le H O H' O' → SR K mg G H' O' σ' τ' → Rep K mg (cut H' O') v d → N.rt v H'
  | .rf l => ∀ p xs σ' H1 O', Le H O H1 O' → H1 p = none → SR K mg G H1 O' σ' τ' → RepL K mg (cut H1 O') xs l → N.rt (.ref p) (upd H1 p (.lst xs))
def tDS (f : M Fl) : TS := fun N σ H => ∃ O τ fl τ', SR K mg G H O σ τ ∧ f τ = some (fl, τ') ∧ FlOk K mg G N H O τ' fl
end
def DS (X : Cx) (G : Gx) (st : Stmt) (f : M Fl) : Prop := PS X st (tDS X.K X.mg G f)
def DSs (X : Cx) (G : Gx) (st : List Stmt) (f : M Fl) : Prop := PSs X st (tDS X.K X.mg G f)
section
variable {X : Cx} {G : Gx}
def sNil : M Fl := mPure .nx
def sSeq (f g : M Fl) : M Fl := mBind f fun fl => match fl with
  | .nx => g
  | fl => mPure fl
theorem dss_nil : DSs X G [] sNil := pss_imp pss_nil fun N σ H q => by
  obtain ⟨O, τ, fl, τ', R, e, q⟩ := q
  cases e
  exact q σ H O (Le.refl _ _) R
theorem FlOk.le {K : PySem.W.Frag} {mg : Str → Option Value} {N : Ends} {H H1 : Hp} {O O1 : List Addr} {τ' : Sd} {fl : Fl} (l : Le H O H1 O1) (q : FlOk K mg G N H O τ' fl) : FlOk K mg G N H1 O1 τ' fl := by
  cases fl with
  | nx => exact fun σ' H' O' l' => q σ' H' O' (l.trans l')
  | bk => exact fun σ' H' O' l' => q σ' H' O' (l.trans l')
  | ct => exact fun σ' H' O' l' => q σ' H' O' (l.trans l')
  | rt d => exact fun v σ' H' O' l' => q v σ' H' O' (l.trans l')
  | rf d => exact fun p xs σ' H' O' l' => q p xs σ' H' O' (l.trans l')
theorem dss_cons {st : Stmt} {rest : List Stmt} {f g : M Fl} (h1 : DS X G st f) (h2 : DSs X G rest g) : DSs X G (st :: rest) (sSeq f g) := pss_imp (pss_cons h1 h2) fun N σ H q => by
  obtain ⟨O, τ, fl, τ', R, e, q⟩ := q
  obtain ⟨fl1, τ1, e1, e2⟩ := mBind_some e
  refine ⟨O, τ, fl1, τ1, R, e1, ?_⟩
  cases fl1 with
  | nx => exact fun σ' H' O' l' R' => ⟨O', τ1, fl, τ', R', e2, q.le l'⟩
  | bk => cases e2; exact q
  | ct => cases e2; exact q
  | rt d => cases e2; exact q
  | rf d => cases e2; exact q
theorem dss_one {st : Stmt} {f : M Fl} (h1 : DS X G st f) : DSs X G [st] f := pss_one h1
theorem ds_pass {pos : Pos} : DS X G (.Pass pos) sNil := ps_imp ps_pass fun N σ H q => by
  obtain ⟨O, τ, fl, τ', R, e, q⟩ := q
  cases e
  exact q σ H O (Le.refl _ _) R
def sBrk : M Fl := mPure .bk
def sCnt : M Fl := mPure .ct
theorem ds_break {pos : Pos} : DS X G (.Break pos) sBrk := ps_imp ps_break fun N σ H q => by
  obtain ⟨O, τ, fl, τ', R, e, q⟩ := q
  cases e
  exact q σ H O (Le.refl _ _) R
theorem ds_continue {pos : Pos} : DS X G (.Continue pos) sCnt := ps_imp ps_continue fun N σ H q => by
  obtain ⟨O, τ, fl, τ', R, e, q⟩ := q
  cases e
  exact q σ H O (Le.refl _ _) R
/-- not asked: a raise, a statement that is never come to -/
def sNo : M Fl := fun _ => none
theorem ds_no {st : Stmt} : DS X G st sNo := ps_imp ps_never fun N σ H q => by
  obtain ⟨O, τ, fl, τ', R, e, q⟩ := q
  cases e
theorem dss_no {st : List Stmt} : DSs X G st sNo := pss_imp pss_never fun N σ H q => by
  obtain ⟨O, τ, fl, τ', R, e, q⟩ := q
  cases e
def sRet (f : M D) : M Fl := mBind f fun d => mPure (.rt d)
theorem ds_ret {e : Expr} {pos : Pos} {f : M D} (h : DE X G e f) : DS X G (.Return (some e) pos) (sRet f) := ps_imp (ps_ret h) fun N σ H q => by
  obtain ⟨O, τ, fl, τ', R, e, q⟩ := q
  obtain ⟨d, τ1, e1, e2⟩ := mBind_some e
  cases e2
  exact ⟨O, τ, d, _, R, e1, fun v H' O' l R' r => q v σ H' O' l R' r⟩
def sRetF (f : M (List D)) : M Fl := mBind f fun d => mPure (.rf d)
theorem ds_retF {e : Expr} {pos : Pos} {f : M (List D)} (h : DF X G e f) : DS X G (.Return (some e) pos) (sRetF f) := ps_imp (ps_ret h) fun N σ H q => by
  obtain ⟨O, τ, fl, τ', R, e, q⟩ := q
  obtain ⟨d, τ1, e1, e2⟩ := mBind_some e
  cases e2
  exact ⟨O, τ, d, _, R, e1, fun p xs H' O' hp l R' r => q p xs σ H' O' l hp R' r⟩
theorem ds_retN {pos : Pos} : DS X G (.Return none pos) (mPure (.rt .non)) := ps_imp ps_retN fun N σ H q => by
  obtain ⟨O, τ, fl, τ', R, e, q⟩ := q
  cases e
  exact q .non σ H O (Le.refl _ _) R .non
def sExpr {α : Type} (f : M α) : M Fl := mBind f fun _ => mPure .nx
theorem ds_expr {e : Expr} {pos : Pos} {f : M D} (h : DE X G e f) (hs : swapsWith e none pos.line X.env = pure false := by rfl) : DS X G (.Expr e pos) (sExpr f) := ps_imp (ps_expr h hs) fun N σ H q => by
  obtain ⟨O, τ, fl, τ', R, e, q⟩ := q
  obtain ⟨d, τ1, e1, e2⟩ := mBind_some e
  cases e2
  exact ⟨O, τ, d, _, R, e1, fun v H' O' l R' r => q σ H' O' l R'⟩
def sIf (t : M Bool) (f g : M Fl) : M Fl := mIf t f g
theorem ds_if {c : Expr} {a b : List Stmt} {pos : Pos} {t : M Bool} {f g : M Fl} (hc : DT X G c t) (ha : DSs X G a f) (hb : DSs X G b g) : DS X G (.If c a b pos) (sIf t f g) := ps_imp (ps_if hc ha hb) fun N σ H q => by
  obtain ⟨O, τ, fl, τ', R, e, q⟩ := q
  obtain ⟨x, τ1, e1, e2⟩ := mBind_some e
  refine ⟨O, τ, x, τ1, R, e1, fun H1 O1 l1 R1 => ?_⟩
  cases x with
  | true => exact ⟨O1, τ1, fl, τ', R1, e2, q.le l1⟩
  | false => exact ⟨O1, τ1, fl, τ', R1, e2, q.le l1⟩

/-! ### stores -/
/-- a slot is given data -/
theorem SR.setV {K : PySem.W.Frag} {mg : Str → Option Value} {H : Hp} {O : List Addr} {σ : St} {τ : Sd} {i : Nat} {v : V} {d : D} (R : SR K mg G H O σ τ) (r : Rep K mg (cut H O) v d) : SR K mg G H O (σ.set i (some v)) (τ.set i (some (.val d))) where
  len := by simp [R.len]
  keep := R.keep
  base := R.base
  own0 := R.own0
  live := R.live
  slot := fun j s h => by
    by_cases e : i = j
    · subst e
      have hl : i < τ.length := by
        by_cases q : i < τ.length
        · exact q
        · rw [List.getElem?_eq_none (by simpa using q)] at h; cases h
      rw [List.getElem?_set_self hl] at h
      cases h
      exact ⟨v, List.getElem?_set_self (by rw [R.len]; exact hl), r⟩
    · rw [List.getElem?_set_ne e] at h
      obtain ⟨w, e1, e2⟩ := R.slot j s h
      exact ⟨w, by rw [List.getElem?_set_ne e]; exact e1, e2⟩
  inj := fun j k s t w h1 o1 h2 o2 e1 e2 => by
    have nj : ∀ {j : Nat} {s : Sl}, (τ.set i (some (Sl.val d)))[j]? = some (some s) → s.isOwn = true → i ≠ j := fun {j s} h o e => by
      subst e
      by_cases q : i < τ.length
      · rw [List.getElem?_set_self q] at h; cases h; cases o
      · rw [List.getElem?_eq_none (by simpa using q)] at h; cases h
    have a := nj h1 o1
    have b := nj h2 o2
    rw [List.getElem?_set_ne a] at h1 e1
    rw [List.getElem?_set_ne b] at h2 e2
    exact R.inj j k s t w h1 o1 h2 o2 e1 e2
  pin := fun p s hp h o => by
    by_cases e : i = 0
    · subst e
      by_cases q : 0 < τ.length
      · rw [List.getElem?_set_self q] at h; cases h; cases o
      · rw [List.getElem?_eq_none (by simpa using q)] at h; cases h
    · rw [List.getElem?_set_ne e] at h ⊢
      exact R.pin p s hp h o
/-- a slot is forgotten -/
theorem SR.setN {K : PySem.W.Frag} {mg : Str → Option Value} {H : Hp} {O : List Addr} {σ : St} {τ : Sd} {i : Nat} {w : Option V} (R : SR K mg G H O σ τ) : SR K mg G H O (σ.set i w) (τ.set i none) where
  len := by simp [R.len]
  keep := R.keep
  base := R.base
  own0 := R.own0
  live := R.live
  slot := fun j s h => by
    by_cases e : i = j
    · subst e
      by_cases q : i < τ.length
      · rw [List.getElem?_set_self q] at h; cases h
      · rw [List.getElem?_eq_none (by simpa using q)] at h; cases h
    · rw [List.getElem?_set_ne e] at h ⊢
      exact R.slot j s h
  inj := fun j k s t w h1 o1 h2 o2 e1 e2 => by
    have nj : ∀ {j : Nat} {s : Sl}, (τ.set i none)[j]? = some (some s) → i ≠ j := fun {j s} h e => by
      subst e
      by_cases q : i < τ.length
      · rw [List.getElem?_set_self q] at h; cases h
      · rw [List.getElem?_eq_none (by simpa using q)] at h; cases h
    have a := nj h1
    have b := nj h2
    rw [List.getElem?_set_ne a] at h1 e1
    rw [List.getElem?_set_ne b] at h2 e2
    exact R.inj j k s t w h1 o1 h2 o2 e1 e2
  pin := fun p s hp h o => by
    by_cases e : i = 0
    · subst e
      by_cases q : 0 < τ.length
      · rw [List.getElem?_set_self q] at h; cases h
      · rw [List.getElem?_eq_none (by simpa using q)] at h; cases h
    · rw [List.getElem?_set_ne e] at h ⊢
      exact R.pin p s hp h o
/-- a new list of this def's own is laid and kept in a slot -/
theorem SR.setO {K : PySem.W.Frag} {mg : Str → Option Value} {H : Hp} {O : List Addr} {σ : St} {τ : Sd} {i : Nat} {p : Addr} {xs : List V} {l : List D} (R : SR K mg G H O σ τ) (hp : H p = none) (r : RepL K mg (cut H O) xs l) (hi0 : i ≠ 0) :
    SR K mg G (upd H p (.lst xs)) (p :: O) (σ.set i (some (.ref p))) (τ.set i (some (.own l))) ∧ Le H O (upd H p (.lst xs)) (p :: O) := by
  have ec : Grow (cut H O) (cut (upd H p (.lst xs)) (p :: O)) := fun a o h => by
    obtain ⟨n, e⟩ := cut_some h
    have na : a ≠ p := ne_of_none e hp
    exact cut_of (by simp [na, n]) (by rw [upd_ne na]; exact e)
  have h0 : G.H0 p = none ∨ p ∈ G.W := by
    cases q : G.H0 p with
    | none => exact .inl rfl
    | some o =>
      by_cases z : p ∈ G.W
      · exact .inr z
      · rw [R.keep p o q z] at hp; cases hp
  have gr : Grow H (upd H p (.lst xs)) := Grow.new hp
  have nb : p ∉ G.B := fun z => R.live.ne hp (R.base p z)
  have old : ∀ {v : V} {s : Sl}, SlOk K mg G H O v s → SlOk K mg G (upd H p (.lst xs)) (p :: O) v s := fun {v s} h => by
    cases s with
    | val d => exact Rep.grow ec h
    | own l' =>
      obtain ⟨q, ys, e, h1, h2, h3, h4, h5⟩ := h
      exact ⟨q, ys, e, List.mem_cons_of_mem _ h1, h2, h3, gr _ _ h4, RepL.grow ec h5⟩
    | ob c ns ds =>
      obtain ⟨q, C, dx, ys, e, h1, h2, h3, h4, h5, h6, h7⟩ := h
      exact ⟨q, C, dx, ys, e, List.mem_cons_of_mem _ h1, h2, h3, h4, gr _ _ h5, h6, RepL.grow ec h7⟩
  have ownp : ∀ {v : V} {s : Sl}, s.isOwn = true → SlOk K mg G H O v s → v ≠ .ref p := fun {v s} o h z => by
    subst z
    cases s with
    | val d => cases o
    | own l' => obtain ⟨q, ys, e, h1, h2, h3, h4, h5⟩ := h; cases e; rw [hp] at h4; cases h4
    | ob c ns ds => obtain ⟨q, C, dx, ys, e, h1, h2, h3, h4, h5, h6, h7⟩ := h; cases e; rw [hp] at h5; cases h5
  refine ⟨⟨by simp [R.len], fun a o h n => gr _ _ (R.keep a o h n), fun q z => List.mem_cons_of_mem _ (R.base q z), fun q z => ?_, fun q z => ?_, fun j s h => ?_, fun j k s t w h1 o1 h2 o2 e1 e2 => ?_, fun q s hq h o => ?_⟩, ec⟩
  · rcases List.mem_cons.mp z with z | z
    · subst z; exact .inr h0
    · exact R.own0 q z
  · rcases List.mem_cons.mp z with z | z
    · subst z; exact .inl ⟨xs, upd_same⟩
    · exact R.live.grow gr q z
  · by_cases e : i = j
    · subst e
      have hl : i < τ.length := by
        by_cases q : i < τ.length
        · exact q
        · rw [List.getElem?_eq_none (by simpa using q)] at h; cases h
      rw [List.getElem?_set_self hl] at h
      cases h
      exact ⟨.ref p, List.getElem?_set_self (by rw [R.len]; exact hl), p, xs, rfl, List.mem_cons_self, nb, h0, upd_same, RepL.grow ec r⟩
    · rw [List.getElem?_set_ne e] at h
      obtain ⟨w, e1, e2⟩ := R.slot j s h
      exact ⟨w, by rw [List.getElem?_set_ne e]; exact e1, old e2⟩
  · have at_ : ∀ {j : Nat} {s : Sl} {w : V}, (τ.set i (some (Sl.own l)))[j]? = some (some s) → s.isOwn = true → (σ.set i (some (V.ref p)))[j]? = some (some w) → (i = j ∧ w = .ref p) ∨ (i ≠ j ∧ τ[j]? = some (some s) ∧ σ[j]? = some (some w) ∧ w ≠ .ref p) := fun {j s w} h o e => by
      by_cases q : i = j
      · subst q
        have hl : i < τ.length := by
          by_cases q : i < τ.length
          · exact q
          · rw [List.getElem?_eq_none (by simpa using q)] at h; cases h
        rw [List.getElem?_set_self (by rw [R.len]; exact hl)] at e
        cases e
        exact .inl ⟨rfl, rfl⟩
      · rw [List.getElem?_set_ne q] at h e
        obtain ⟨w', e1, e2⟩ := R.slot j s h
        rw [e] at e1; cases e1
        exact .inr ⟨q, h, e, ownp o e2⟩
    rcases at_ h1 o1 e1 with ⟨a1, a2⟩ | ⟨a1, a2, a3, a4⟩
    · rcases at_ h2 o2 e2 with ⟨b1, b2⟩ | ⟨b1, b2, b3, b4⟩
      · exact a1.symm.trans b1
      · exact absurd a2 b4
    · rcases at_ h2 o2 e2 with ⟨b1, b2⟩ | ⟨b1, b2, b3, b4⟩
      · exact absurd b2 a4
      · exact R.inj j k s t w a2 o1 b2 o2 a3 b3
  · rw [List.getElem?_set_ne hi0] at h ⊢
    exact R.pin q s hq h o
def sSet (i : Nat) (f : M D) : M Fl := mBind f fun d => fun τ => some (.nx, τ.set i (some (.val d)))
def sOwn (i : Nat) (f : M (List D)) : M Fl := mBind f fun l => fun τ => some (.nx, τ.set i (some (.own l)))
theorem ds_set {x : Str} {e : Expr} {pos pos' : Pos} {f : M D} (i : Nat) (hN : X.N.Nodup) (hi : X.N[i]? = some x) (hx : Loc X.env.scope x) (h : DE X G e f) (hs : swapsWith e (some (.Name x pos')) pos.line X.env = pure false := by rfl) (hf : X.fn x = true ∨ X.env.scope.names.lookup x = some .local := by first | exact .inl rfl | exact .inr rfl) :
    DS X G (.Assign [.Name x pos'] e pos) (sSet i f) := ps_imp (ps_set hN hi hx h hs hf) fun N σ H q => by
  obtain ⟨O, τ, fl, τ', R, e, q⟩ := q
  obtain ⟨d, τ1, e1, e2⟩ := mBind_some e
  cases e2
  exact ⟨O, τ, d, τ1, R, e1, fun v H' O' l R' r => q _ H' O' l (R'.setV r)⟩
theorem ds_own {x : Str} {e : Expr} {pos pos' : Pos} {f : M (List D)} (i : Nat) (hi0 : i ≠ 0) (hN : X.N.Nodup) (hi : X.N[i]? = some x) (hx : Loc X.env.scope x) (h : DF X G e f) (hs : swapsWith e (some (.Name x pos')) pos.line X.env = pure false := by rfl) (hf : X.fn x = true ∨ X.env.scope.names.lookup x = some .local := by first | exact .inl rfl | exact .inr rfl) :
    DS X G (.Assign [.Name x pos'] e pos) (sOwn i f) := ps_imp (ps_set hN hi hx h hs hf) fun N σ H q => by
  obtain ⟨O, τ, fl, τ', R, e, q⟩ := q
  obtain ⟨d, τ1, e1, e2⟩ := mBind_some e
  cases e2
  refine ⟨O, τ, d, τ1, R, e1, fun p xs H1 O' hp l R' r => ?_⟩
  obtain ⟨R2, l2⟩ := R'.setO (i := i) hp r hi0
  exact q _ _ _ (l.trans l2) R2
end
end Dv
set_option Elab.async false
set_option linter.all false
set_option maxRecDepth 100000
set_option maxHeartbeats 4000000
/-! DV4: lists of a def's own: looked at, given up, written; targets; loops; comprehensions -/
namespace Dv
open PySem L2
section
variable {K : PySem.W.Frag} {mg : Str → Option Value} {G : Gx} {H H' : Hp} {O O' : List Addr} {σ : St} {τ τ' : Sd}

theorem getElem?_lt {α : Type} {l : List α} {i : Nat} {x : α} (h : l[i]? = some x) : i < l.length := (List.getElem?_eq_some_iff.mp h).1

/-! ### data in which no list stands -/
mutual
def LF : D → Bool
  | .non => true
  | .bl _ => true
  | .int _ => true
  | .str _ => true
  | .tup l => LFs l
  | _ => false
def LFs : List D → Bool
  | [] => true
  | d :: ds => LF d && LFs ds
end
mutual
theorem LF.ok (lv : Live H O) : ∀ {v : V} {d : D}, LF d = true → Rep K mg H v d → Rep K mg (cut H O) v d
  | _, _, _, .non => .non
  | _, _, _, .bl b => .bl b
  | _, _, _, .int i => .int i
  | _, _, _, .str x => .str x
  | _, _, h, .tup q r => by
    refine .tup ?_ (LFs.ok lv (by simpa [LF] using h) r)
    rcases q with (q | ⟨o, q⟩) | q
    · exact .inl (.inl (cut_of (fun z => by rcases lv _ z with ⟨xs, e⟩ | ⟨C, dx, fs, e⟩ <;> (rw [q] at e; cases e)) q))
    · exact .inl (.inr ⟨o, cut_of (fun z => by rcases lv _ z with ⟨xs, e⟩ | ⟨C, dx, fs, e⟩ <;> (rw [q] at e; cases e)) q⟩)
    · exact .inr q
  | _, _, h, .lst _ _ => by simp [LF] at h
  | _, _, h, .scr _ => by simp [LF] at h
  | _, _, h, .obj _ _ _ _ => by simp [LF] at h
theorem LFs.ok (lv : Live H O) : ∀ {vs : List V} {ds : List D}, LFs ds = true → RepL K mg H vs ds → RepL K mg (cut H O) vs ds
  | _, _, _, .nil => .nil
  | _, _, h, .cons r t => by
    simp [LFs] at h
    exact .cons (LF.ok lv h.1 r) (LFs.ok lv h.2 t)
end

/-! ### a look at the lists of one's own: nothing is written meanwhile -/
def viewS : Sl → Option Sl
  | .val d => some (.val d)
  | .own l => some (.val (.lst l))
  | .ob c ns ds => if ns = clsFlds c then some (.val (.obj c ds)) else none
def view (τ : Sd) : Sd := τ.map fun s => s.bind viewS
theorem view_get {i : Nat} {s : Sl} (h : (view τ)[i]? = some (some s)) : ∃ s0, τ[i]? = some (some s0) ∧ viewS s0 = some s := by
  unfold view at h
  rw [List.getElem?_map] at h
  cases e : τ[i]? with
  | none => rw [e] at h; cases h
  | some o =>
    rw [e] at h
    cases o with
    | none => cases h
    | some s0 => exact ⟨s0, rfl, by simpa using h⟩
theorem SR.view (R : SR K mg G H O σ τ) : SR K mg ⟨H, [], G.B, none⟩ H G.B σ (view τ) where
  len := by unfold Dv.view; simp [R.len]
  keep := fun a o h _ => h
  base := fun _ z => z
  own0 := fun _ z => .inl z
  live := fun p z => R.live p (R.base p z)
  slot := fun i s h => by
    obtain ⟨s0, e, hv⟩ := view_get h
    obtain ⟨v, ev, ok⟩ := R.slot i s0 e
    have g : Grow (cut H O) (cut H G.B) := Grow.less R.base
    refine ⟨v, ev, ?_⟩
    cases s0 with
    | val d => cases hv; exact Rep.grow g ok
    | own l =>
      cases hv
      obtain ⟨p, xs, rfl, h1, h2, h3, h4, h5⟩ := ok
      exact .lst (cut_of h2 h4) (RepL.grow g h5)
    | ob c ns ds =>
      simp only [viewS] at hv
      split at hv
      · rename_i en
        cases hv
        obtain ⟨p, C, dx, xs, rfl, h1, h2, h3, h4, h5, h6, h7⟩ := ok
        subst en
        exact .obj h4 (cut_of h2 h5) h6 (RepL.grow g h7)
      · cases hv
  inj := fun i j s t v h1 o1 _ _ _ _ => by
    obtain ⟨s0, e, hv⟩ := view_get h1
    cases s0 with
    | val d => cases hv; cases o1
    | own l => cases hv; cases o1
    | ob c ns ds =>
      simp only [viewS] at hv
      split at hv
      · cases hv; cases o1
      · cases hv
  pin := fun p s hp => by cases hp
def bor (f : M D) : M D := fun τ => match f (view τ) with
  | some (d, _) => if LF d = true then some (d, τ) else none
  | none => none
theorem de_bor {X : Cx} {e : Expr} {f : M D} (h : ∀ G, DE X G e f) : DE X G e (bor f) := ⟨fun pins s σ H Q I q => by
  obtain ⟨O, τ, d, τ', R, e1, q⟩ := q
  unfold bor at e1
  cases e2 : f (Dv.view τ) with
  | none => simp [e2] at e1
  | some p =>
    obtain ⟨d', τ2⟩ := p
    simp only [e2] at e1
    split at e1
    · cases e1
      rename_i lf
      refine (h ⟨H, [], G.B, none⟩).run pins s σ H Q I ⟨G.B, Dv.view τ, d, τ2, R.view, e2, fun v H' O' l R' r => ?_⟩
      have g : Grow H H' := fun a o ha => R'.keep a o ha (by simp)
      exact q v H' O (Le.grow g) (R.grow g) (LF.ok (R.live.grow g) lf (Rep.grow (Grow.ofCut H' O') r))
    · cases e1⟩
def borT (f : M Bool) : M Bool := fun τ => match f (view τ) with
  | some (b, _) => some (b, τ)
  | none => none
theorem dt_bor {X : Cx} {e : Expr} {f : M Bool} (h : ∀ G, DT X G e f) : DT X G e (borT f) := ⟨fun pins s σ H Q I q => by
  obtain ⟨O, τ, d, τ', R, e1, q⟩ := q
  unfold borT at e1
  cases e2 : f (Dv.view τ) with
  | none => simp [e2] at e1
  | some p =>
    obtain ⟨d', τ2⟩ := p
    simp only [e2] at e1
    cases e1
    refine (h ⟨H, [], G.B, none⟩).run pins s σ H Q I ⟨G.B, Dv.view τ, d, τ2, R.view, e2, fun H' O' l R' => ?_⟩
    have g : Grow H H' := fun a o ha => R'.keep a o ha (by simp)
    exact q H' O (Le.grow g) (R.grow g)⟩

/-! ### a list of one's own is given up: from then on it is data -/
def froze (i : Nat) (τ : Sd) : Sd := match τ[i]? with
  | some (some (.own l)) => τ.set i (some (.val (.lst l)))
  | _ => τ
theorem SR.froze (i : Nat) (R : SR K mg G H O σ τ) : ∃ O', SR K mg G H O' σ (froze i τ) ∧ Le H O H O' := by
  unfold Dv.froze
  split
  · rename_i l e
    obtain ⟨v, ev, p, xs, rfl, h1, h2, h3, h4, h5⟩ := R.slot i _ e
    have sub : ∀ a ∈ O.filter (· ≠ p), a ∈ O := fun a z => (List.mem_filter.mp z).1
    have g : Grow (cut H O) (cut H (O.filter (· ≠ p))) := Grow.less sub
    have np : p ∉ O.filter (· ≠ p) := fun z => by simpa using (List.mem_filter.mp z).2
    refine ⟨O.filter (· ≠ p), ⟨by simp [R.len], R.keep, fun q z => ?_, fun q z => R.own0 q (sub q z), fun q z => R.live q (sub q z), fun j s h => ?_, fun j k s t w h1' o1 h2' o2 e1 e2 => ?_, fun q s hq h o => ?_⟩, g⟩
    · exact List.mem_filter.mpr ⟨R.base q z, by simp; intro e'; subst e'; exact h2 z⟩
    · by_cases ej : i = j
      · subst ej
        rw [List.getElem?_set_self (getElem?_lt e)] at h
        cases h
        exact ⟨_, ev, .lst (cut_of np h4) (RepL.grow g h5)⟩
      · rw [List.getElem?_set_ne ej] at h
        obtain ⟨w, ew, ok⟩ := R.slot j s h
        refine ⟨w, ew, ?_⟩
        cases s with
        | val d => exact Rep.grow g ok
        | own l' =>
          obtain ⟨q, ys, rfl, k1, k2, k3, k4, k5⟩ := ok
          refine ⟨q, ys, rfl, List.mem_filter.mpr ⟨k1, ?_⟩, k2, k3, k4, RepL.grow g k5⟩
          simp only [ne_eq, decide_not, Bool.not_eq_eq_eq_not, Bool.not_true, decide_eq_false_iff_not]
          intro eq; subst eq
          exact ej (R.inj i j _ _ _ e rfl h rfl ev ew)
        | ob c ns ds =>
          obtain ⟨q, C, dx, ys, rfl, k1, k2, k3, k4, k5, k6, k7⟩ := ok
          refine ⟨q, C, dx, ys, rfl, List.mem_filter.mpr ⟨k1, ?_⟩, k2, k3, k4, k5, k6, RepL.grow g k7⟩
          simp only [ne_eq, decide_not, Bool.not_eq_eq_eq_not, Bool.not_true, decide_eq_false_iff_not]
          intro eq; subst eq
          exact ej (R.inj i j _ _ _ e rfl h rfl ev ew)
    · have nj : ∀ {j : Nat} {s : Sl}, (τ.set i (some (Sl.val (.lst l))))[j]? = some (some s) → s.isOwn = true → i ≠ j := fun {j s} h o e' => by
        subst e'
        rw [List.getElem?_set_self (getElem?_lt e)] at h; cases h; cases o
      have a := nj h1' o1
      have b := nj h2' o2
      rw [List.getElem?_set_ne a] at h1'
      rw [List.getElem?_set_ne b] at h2'
      exact R.inj j k s t w h1' o1 h2' o2 e1 e2
    · by_cases ei : i = 0
      · subst ei
        rw [List.getElem?_set_self (getElem?_lt e)] at h; cases h; cases o
      · rw [List.getElem?_set_ne ei] at h
        exact R.pin q s hq h o
  · exact ⟨O, R, Le.refl _ _⟩
def frz {α : Type} (i : Nat) (f : M α) : M α := fun τ => f (froze i τ)
theorem de_frz {X : Cx} {e : Expr} {f : M D} (i : Nat) (h : DE X G e f) : DE X G e (frz i f) := pe_imp h fun σ H Q q => by
  obtain ⟨O, τ, d, τ', R, e1, q⟩ := q
  obtain ⟨O1, R1, l1⟩ := R.froze i
  exact ⟨O1, froze i τ, d, τ', R1, e1, fun v H' O' l => q v H' O' (l1.trans l)⟩
theorem ds_frz {X : Cx} {st : Stmt} {f : M Fl} (i : Nat) (h : DS X G st f) : DS X G st (frz i f) := ps_imp h fun N σ H q => by
  obtain ⟨O, τ, fl, τ', R, e1, q⟩ := q
  obtain ⟨O1, R1, l1⟩ := R.froze i
  exact ⟨O1, froze i τ, fl, τ', R1, e1, q.le l1⟩

/-! ### a list of one's own is written -/
theorem SR.write {i : Nat} {p : Addr} {l l' : List D} {xs xs' : List V} (R : SR K mg G H O σ τ) (e : τ[i]? = some (some (.own l))) (ev : σ[i]? = some (some (.ref p))) (hp : H p = some (.lst xs)) (hO : p ∈ O) (r : RepL K mg (cut H O) xs' l') :
    SR K mg G (upd H p (.lst xs')) O σ (τ.set i (some (.own l'))) ∧ Le H O (upd H p (.lst xs')) O := by
  have ec : cut (upd H p (.lst xs')) O = cut H O := by
    funext a
    unfold cut
    by_cases z : a ∈ O
    · rw [if_pos z, if_pos z]
    · rw [if_neg z, if_neg z, upd_ne (fun q => by subst q; exact z hO)]
  obtain ⟨v, ev', p', ys, rfl, h1, h2, h3, h4, h5⟩ := R.slot i _ e
  rw [ev] at ev'; cases ev'
  refine ⟨⟨by simp [R.len], fun a o h n => ?_, R.base, R.own0, fun q z => ?_, fun j s h => ?_, fun j k s t w h1' o1 h2' o2 e1 e2 => ?_, fun q s hq h o => ?_⟩, by unfold Le; rw [ec]; exact Grow.refl _⟩
  · have : a ≠ p := fun q => by
      subst q
      rcases h3 with z | z
      · rw [z] at h; cases h
      · exact n z
    rw [upd_ne this]; exact R.keep a o h n
  · by_cases eq : q = p
    · subst eq; exact .inl ⟨xs', upd_same⟩
    · rcases R.live q z with ⟨ys, e'⟩ | ⟨C, dx, fs, e'⟩
      · exact .inl ⟨ys, by rw [upd_ne eq]; exact e'⟩
      · exact .inr ⟨C, dx, fs, by rw [upd_ne eq]; exact e'⟩
  · by_cases ej : i = j
    · subst ej
      rw [List.getElem?_set_self (getElem?_lt e)] at h
      cases h
      exact ⟨_, ev, p, xs', rfl, hO, h2, h3, upd_same, by rw [ec]; exact r⟩
    · rw [List.getElem?_set_ne ej] at h
      obtain ⟨w, ew, ok⟩ := R.slot j s h
      refine ⟨w, ew, ?_⟩
      cases s with
      | val d => show Rep K mg (cut _ O) w d; rw [ec]; exact ok
      | own l'' =>
        obtain ⟨q, ys', rfl, k1, k2, k3, k4, k5⟩ := ok
        have nq : q ≠ p := fun eq => by subst eq; exact ej (R.inj i j _ _ _ e rfl h rfl ev ew)
        exact ⟨q, ys', rfl, k1, k2, k3, by rw [upd_ne nq]; exact k4, by rw [ec]; exact k5⟩
      | ob c ns ds =>
        obtain ⟨q, C, dx, ys', rfl, k1, k2, k3, k4, k5, k6, k7⟩ := ok
        have nq : q ≠ p := fun eq => by subst eq; exact ej (R.inj i j _ _ _ e rfl h rfl ev ew)
        exact ⟨q, C, dx, ys', rfl, k1, k2, k3, k4, by rw [upd_ne nq]; exact k5, k6, by rw [ec]; exact k7⟩
  · have at_ : ∀ {j : Nat} {s : Sl}, (τ.set i (some (Sl.own l')))[j]? = some (some s) → s.isOwn = true → ∃ s', τ[j]? = some (some s') ∧ s'.isOwn = true := fun {j s} h o => by
      by_cases q : i = j
      · subst q; exact ⟨_, e, rfl⟩
      · rw [List.getElem?_set_ne q] at h; exact ⟨s, h, o⟩
    obtain ⟨s', a1, a2⟩ := at_ h1' o1
    obtain ⟨t', b1, b2⟩ := at_ h2' o2
    exact R.inj j k s' t' w a1 a2 b1 b2 e1 e2
  · by_cases ei : i = 0
    · subst ei
      exact R.pin q _ hq e rfl
    · rw [List.getElem?_set_ne ei] at h
      exact R.pin q s hq h o
/-- where an own slot stands -/
theorem SR.ownAt {i : Nat} {l : List D} (R : SR K mg G H O σ τ) (e : τ[i]? = some (some (.own l))) : ∃ p xs, σ[i]? = some (some (.ref p)) ∧ p ∈ O ∧ H p = some (.lst xs) ∧ RepL K mg (cut H O) xs l := by
  obtain ⟨v, ev, p, xs, rfl, h1, h2, h3, h4, h5⟩ := R.slot i _ e
  exact ⟨p, xs, ev, h1, h4, h5⟩
/-- the list of one's own in a slot -/
def ownOf (i : Nat) (τ : Sd) : Option (List D) := match τ[i]? with
  | some (some (.own l)) => some l
  | _ => none
theorem ownOf_some {i : Nat} {l : List D} (h : ownOf i τ = some l) : τ[i]? = some (some (.own l)) := by
  unfold ownOf at h
  split at h
  · cases h; assumption
  · cases h
def setAt (l : List D) (i d : D) : Option (List D) := match i with
  | .int k => (ixN l.length k).map fun j => l.set j d
  | _ => none
def sSetItem (i : Nat) (fi fv : M D) : M Fl := mBind fv fun d => fun τ1 => match ownOf i τ1 with
  | none => none
  | some _ => mBind fi (fun k => fun τ => match (ownOf i τ).bind fun l => setAt l k d with
    | some l' => some (.nx, τ.set i (some (.own l')))
    | none => none) τ1
theorem ds_setItem {X : Cx} {o k e : Expr} {pos p2 : Pos} {fi fv : M D} (i : Nat) (ho : PE X o (tVar i)) (hi : DE X G k fi) (he : DE X G e fv) (ha : ∀ v, assign (.Subscript o k p2) X.env v = (do
      let ov ← holding [v] (eval o X.env)
      let iv ← holding [v, ov] (eval k X.env)
      standAt p2
      holding [v, ov, iv] (setItem ov iv v)
      release [v, ov, iv] []) := by intro _; rfl) (hs : swapsWithSole [.Subscript o k p2] e pos.line X.env = pure false := by rfl) (hw : swappedStores [.Subscript o k p2] e X.env = pure none := by rfl)
    (h1 : (assignEach [.Subscript o k p2] X.env).map (·.2) = [assign (.Subscript o k p2) X.env] := by rfl) : DS X G (.Assign [.Subscript o k p2] e pos) (sSetItem i fi fv) :=
  ps_imp (ps_asg he (pg_sub ho hi set_list ha) hs hw h1) fun N σ H q => by
    obtain ⟨O, τ, fl, τ', R, e1, q⟩ := q
    obtain ⟨d, τ1, e2, e1⟩ := mBind_some e1
    cases e0 : ownOf i τ1 with
    | none => simp [e0] at e1
    | some l0 =>
      simp only [e0] at e1
      obtain ⟨kd, τ2, e3, e1⟩ := mBind_some e1
      cases e4 : (ownOf i τ2).bind fun l => setAt l kd d with
      | none => simp [e4] at e1
      | some l' =>
        simp only [e4] at e1
        cases e1
        obtain ⟨l, e5, e6⟩ := Option.bind_eq_some_iff.mp e4
        have e7 := ownOf_some e5
        refine ⟨O, τ, d, τ1, R, e2, fun v H1 O1 l1 R1 r1 => ?_⟩
        obtain ⟨p0, xs0, ep0, _⟩ := R1.ownAt (ownOf_some e0)
        refine ⟨.ref p0, ep0, O1, τ1, kd, τ2, R1, e3, fun w H2 O2 l2 R2 r2 => ?_⟩
        obtain ⟨p, xs, ep, hO, hp, rl⟩ := R2.ownAt e7
        rw [ep] at ep0; cases ep0
        cases kd with
        | int k =>
          simp only [setAt] at e6
          cases e8 : ixN l.length k with
          | none => simp [e8] at e6
          | some j =>
            simp [e8] at e6; subst e6
            cases rep_int r2
            refine ⟨p0, xs, k, j, rfl, rfl, hp, by rw [rl.length]; exact e8, ?_⟩
            obtain ⟨R3, l3⟩ := R2.write e7 ep hp hO (RepL.set (Rep.grow l2 r1) j rl)
            exact q _ _ _ ((l1.trans l2).trans l3) R3
        | _ => simp [setAt] at e6
def sAppend (i : Nat) (fv : M D) : M Fl := fun τ0 => match ownOf i τ0 with
  | none => none
  | some _ => mBind fv (fun d => fun τ => match ownOf i τ with
    | some l => if l.length < sizeLine then some (.nx, τ.set i (some (.own (l ++ [d])))) else none
    | none => none) τ0
theorem ds_append {X : Cx} {o e : Expr} {apos cpos pos : Pos} {fv : M D} (i : Nat) (ho : PE X o (tVar i)) (he : DE X G e fv) (hs : swapsWith (.Call (.Attribute o "append" apos) [e] [] cpos) none pos.line X.env = pure false := by rfl)
    (hq : PE X (.Call (.Attribute o "append" apos) [e] [] cpos) (tBM X.K "list" rAppend (tVar i) (tDA X.K X.mg G (aCons fv aNil)))) : DS X G (.Expr (.Call (.Attribute o "append" apos) [e] [] cpos) pos) (sAppend i fv) :=
  ps_imp (ps_expr hq hs) fun N σ H q => by
    obtain ⟨O, τ, fl, τ', R, e1, q⟩ := q
    unfold sAppend at e1
    cases e0 : ownOf i τ with
    | none => simp [e0] at e1
    | some l0 =>
      simp only [e0] at e1
      obtain ⟨d, τ1, e2, e1⟩ := mBind_some e1
      cases e4 : ownOf i τ1 with
      | none => simp [e4] at e1
      | some l =>
        simp only [e4] at e1
        split at e1
        · rename_i hl
          cases e1
          obtain ⟨p0, xs0, ep0, hO0, hp0, rl0⟩ := R.ownAt (ownOf_some e0)
          have e7 := ownOf_some e4
          refine ⟨.ref p0, ep0, .inl ⟨rfl, _, SqL.of hp0⟩, O, τ, [d], τ1, R, ?_, fun vs H1 O1 l1 R1 r1 => ?_⟩
          · unfold aCons aNil mBind mPure; simp [e2]
          · obtain ⟨p, xs, ep, hO, hp, rl⟩ := R1.ownAt e7
            rw [ep] at ep0; cases ep0
            cases r1 with
            | cons ra rr =>
              cases rr
              refine ⟨p0, xs, _, rfl, rfl, hp, by rw [rl.length]; exact hl, ?_⟩
              obtain ⟨R3, l3⟩ := R1.write e7 ep hp hO (RepL.append rl (.cons ra .nil))
              exact q _ _ _ (l1.trans l3) R3
        · cases e1

/-! ### targets -/
/-- the slots outside is stay as they are -/
def SameBut (is : List Nat) (σ σ' : St) : Prop := σ'.length = σ.length ∧ ∀ j, j ∉ is → σ'[j]? = σ[j]?
end
section
variable (K : PySem.W.Frag) (mg : Str → Option Value) (G : Gx)
def tDG (is : List Nat) (g : D → Sd → Option Sd) : TG := fun v σ H Q => ∃ O τ d τ', SR K mg G H O σ τ ∧ Rep K mg (cut H O) v d ∧ g d τ = some τ' ∧ ∀ σ' H' O', SameBut is σ σ' → Le H O H' O' → SR K mg G H' O' σ' τ' → Q σ' H'
def tDGs (is : List Nat) (g : List D → Sd → Option Sd) : TGs := fun vs σ H Q => ∃ O τ ds τ', SR K mg G H O σ τ ∧ RepL K mg (cut H O) vs ds ∧ g ds τ = some τ' ∧ ∀ σ' H' O', SameBut is σ σ' → Le H O H' O' → SR K mg G H' O' σ' τ' → Q σ' H'
end
def DG (X : Cx) (G : Gx) (tg : Expr) (is : List Nat) (g : D → Sd → Option Sd) : Prop := PG X tg (tDG X.K X.mg G is g)
def DGs (X : Cx) (G : Gx) (tg : List Expr) (is : List Nat) (g : List D → Sd → Option Sd) : Prop := PGs X tg (tDGs X.K X.mg G is g)
section
variable {X : Cx} {G : Gx}
theorem pg_imp {tg : Expr} {t t' : TG} (h : PG X tg t) (i : ∀ v σ H Q, t' v σ H Q → t v σ H Q) : PG X tg t' := ⟨fun pins s σ H v u Q I r q => h.run pins s σ H v u Q I r (i v σ H Q q)⟩
theorem pgs_imp {tg : List Expr} {t t' : TGs} (h : PGs X tg t) (i : ∀ v σ H Q, t' v σ H Q → t v σ H Q) : PGs X tg t' := ⟨fun pins s σ H v u Q I r q => h.run pins s σ H v u Q I r (i v σ H Q q)⟩
def gN (i : Nat) : D → Sd → Option Sd := fun d τ => some (τ.set i (some (.val d)))
theorem dg_name {x : Str} {pos : Pos} (i : Nat) (hN : X.N.Nodup) (hi : X.N[i]? = some x) (hx : Loc X.env.scope x) (hf : X.fn x = true ∨ X.env.scope.names.lookup x = some .local := by first | exact .inl rfl | exact .inr rfl) : DG X G (.Name x pos) [i] (gN i) :=
  pg_imp (pg_name hN hi hx hf) fun v σ H Q q => by
    obtain ⟨O, τ, d, τ', R, r, e, q⟩ := q
    cases e
    exact q _ H O ⟨by simp, fun j hj => List.getElem?_set_ne (by simpa [eq_comm] using hj)⟩ (Le.refl _ _) (R.setV r)
def gsNil : List D → Sd → Option Sd := fun ds τ => match ds with
  | [] => some τ
  | _ => none
def gsCons (g : D → Sd → Option Sd) (h : List D → Sd → Option Sd) : List D → Sd → Option Sd := fun ds τ => match ds with
  | d :: r => (g d τ).bind (h r)
  | [] => none
theorem dgs_nil : DGs X G [] [] gsNil := pgs_imp pgs_nil fun vs σ H Q q => by
  obtain ⟨O, τ, ds, τ', R, r, e, q⟩ := q
  cases r with
  | nil => cases e; exact ⟨rfl, q σ H O ⟨rfl, fun _ _ => rfl⟩ (Le.refl _ _) R⟩
  | cons a b => cases e
theorem dgs_cons {e : Expr} {es : List Expr} {i1 i2 : List Nat} {g : D → Sd → Option Sd} {h : List D → Sd → Option Sd} (h1 : DG X G e i1 g) (h2 : DGs X G es i2 h) (hs : (assignEach (e :: es) X.env).map (·.2) = assign e X.env :: (assignEach es X.env).map (·.2) := by rfl) : DGs X G (e :: es) (i1 ++ i2) (gsCons g h) :=
  pgs_imp (pgs_cons h1 h2 hs) fun vs σ H Q q => by
    obtain ⟨O, τ, ds, τ', R, r, e, q⟩ := q
    cases r with
    | nil => cases e
    | @cons v d vs ds ra rr =>
      simp only [gsCons] at e
      obtain ⟨τ1, e1, e2⟩ := Option.bind_eq_some_iff.mp e
      refine ⟨v, vs, rfl, O, τ, d, τ1, R, ra, e1, fun σ1 H1 O1 sb l1 R1 => ?_⟩
      refine ⟨O1, τ1, ds, τ', R1, RepL.grow l1 rr, e2, fun σ2 H2 O2 sb2 l2 R2 => ?_⟩
      refine q σ2 H2 O2 ⟨sb2.1.trans sb.1, fun j hj => ?_⟩ (l1.trans l2) R2
      simp only [List.mem_append, not_or] at hj
      rw [sb2.2 j hj.2, sb.2 j hj.1]
def gT (n : Nat) (h : List D → Sd → Option Sd) : D → Sd → Option Sd := fun d τ => match d with
  | .tup l => if l.length = n then h l τ else none
  | _ => none
theorem dg_tup {es : List Expr} {k : Nat} {pos : Pos} {is : List Nat} {h : List D → Sd → Option Sd} {n : Nat} (hc : X.calm = true) (hh : DGs X G es is h) (hn : (assignEach es X.env).length = n := by rfl) (hst : (assignEach es X.env).findIdx? (·.1) = none := by rfl) : DG X G (.Tuple es k pos) is (gT n h) :=
  pg_imp (pg_tup hc hh hn hst) fun v σ H Q q => by
    obtain ⟨O, τ, d, τ', R, r, e, q⟩ := q
    cases r with
    | @tup a xs ds hq rl =>
      simp only [gT] at e
      split at e
      · rename_i hl
        exact ⟨a, xs, rfl, SqT.grow (Grow.ofCut H O) hq, by rw [rl.length]; exact hl, O, τ, ds, τ', R, rl, e, q⟩
      · cases e
    | _ => simp [gT] at e
/-- target = value -/
def sAsg (f : M D) (g : D → Sd → Option Sd) : M Fl := mBind f fun d => fun τ => (g d τ).map fun τ' => (.nx, τ')
theorem ds_asg {tg e : Expr} {pos : Pos} {is : List Nat} {f : M D} {g : D → Sd → Option Sd} (he : DE X G e f) (hg : DG X G tg is g) (hs : swapsWithSole [tg] e pos.line X.env = pure false := by rfl) (hw : swappedStores [tg] e X.env = pure none := by rfl)
    (h1 : (assignEach [tg] X.env).map (·.2) = [assign tg X.env] := by rfl) : DS X G (.Assign [tg] e pos) (sAsg f g) := ps_imp (ps_asg he hg hs hw h1) fun N σ H q => by
  obtain ⟨O, τ, fl, τ', R, e1, q⟩ := q
  obtain ⟨d, τ1, e2, e1⟩ := mBind_some e1
  cases e3 : g d τ1 with
  | none => simp [e3] at e1
  | some τ2 =>
    simp [e3] at e1
    obtain ⟨rfl, rfl⟩ := e1
    exact ⟨O, τ, d, τ1, R, e2, fun v H' O' l R' r => ⟨O', τ1, d, τ2, R', r, e3, fun σ2 H2 O2 _ l2 R2 => q σ2 H2 O2 (l.trans l2) R2⟩⟩
/-- a, b = x, y -/
def sPar (i j : Nat) (f : M (List D)) : M Fl := mBind f fun ds => fun τ => match ds with
  | [a, b] => some (.nx, (τ.set i (some (.val a))).set j (some (.val b)))
  | _ => none
theorem ds_par {x y : Str} {a b : Expr} {px py pt pos : Pos} {kt k2 pt2} {f : M (List D)} (i j : Nat) (hc : X.calm = true) (hN : X.N.Nodup) (hi : X.N[i]? = some x) (hj : X.N[j]? = some y) (hij : i ≠ j)
    (hx : X.env.scope.names.lookup x = some .local) (hy : X.env.scope.names.lookup y = some .local) (ha : DA X G [a, b] f)
    (hw : swappedStores [.Tuple [.Name x px, .Name y py] kt pt] (.Tuple [a, b] k2 pt2) X.env = pure (some [x, y]))
    (hs : swapsWithSole [.Tuple [.Name x px, .Name y py] kt pt] (.Tuple [a, b] k2 pt2) pos.line X.env = pure false := by rfl) :
    DS X G (.Assign [.Tuple [.Name x px, .Name y py] kt pt] (.Tuple [a, b] k2 pt2) pos) (sPar i j f) := ps_imp (ps_par hc hN hi hj hij hx hy ha hw hs) fun N σ H q => by
  obtain ⟨O, τ, fl, τ', R, e1, q⟩ := q
  obtain ⟨ds, τ1, e2, e1⟩ := mBind_some e1
  refine ⟨O, τ, ds, τ1, R, e2, fun vs H' O' l R' r => ?_⟩
  match ds, e1, r with
  | [a, b], e1, .cons ra (.cons rb .nil) =>
    cases e1
    exact ⟨_, _, rfl, q _ H' O' l ((R'.setV ra).setV rb)⟩
end
end Dv
set_option Elab.async false
set_option linter.all false
set_option maxRecDepth 100000
set_option maxHeartbeats 4000000
/-! DV5: what is walked; for, while, list comprehensions -/
namespace Dv
open PySem L2
/-- the iterator J hands out the items, while Bs stands -/
structure Wk (K : PySem.W.Frag) (mg : Str → Option Value) (J : It) (items : List D) (Bs : Hp → List Addr → Prop) : Prop where
  mono : ∀ H O H' O', Bs H O → Le H O H' O' → Bs H' O'
  go : ∀ (i : Nat) d H O, Live H O → Bs H O → items[i]? = some d → J.go i H ∧ ∀ x H', J.yld i H x H' → Grow H H' ∧ Rep K mg (cut H' O) x d
  stop : ∀ H O, Bs H O → J.stop items.length H
section
variable (K : PySem.W.Frag) (mg : Str → Option Value) (G : Gx)
def tDI (f : M (List D)) : TI := fun σ H R => ∃ O τ items τ', SR K mg G H O σ τ ∧ f τ = some (items, τ') ∧
  ∀ J H' O' Bs, Le H O H' O' → SR K mg G H' O' σ τ' → Wk K mg J items Bs → Bs H' O' → R J H'
end
def DI (X : Cx) (G : Gx) (tg iter : Expr) (f : M (List D)) : Prop := PI X tg iter (tDI X.K X.mg G f)
section
variable {X : Cx} {G : Gx} {tg : Expr}
theorem pi_imp {iter : Expr} {t t' : TI} (h : PI X tg iter t) (i : ∀ σ H Q, t' σ H Q → t σ H Q) : PI X tg iter t' := ⟨fun pins s σ H R I q => h.run pins s σ H R I (i σ H R q)⟩
theorem pi_both {iter : Expr} {t u : TI} (h : PI X tg iter t) (h' : PI X tg iter u) : PI X tg iter (fun σ H R => t σ H R ∨ u σ H R) := ⟨fun pins s σ H R I q => q.elim (h.run pins s σ H R I) (h'.run pins s σ H R I)⟩
theorem wk_list {K : PySem.W.Frag} {mg : Str → Option Value} (a : Addr) (ds : List D) : Wk K mg (Itl K a) ds fun H O => ∃ xs, cut H O a = some (.lst xs) ∧ RepL K mg (cut H O) xs ds where
  mono := fun H O H' O' ⟨xs, h, r⟩ l => ⟨xs, l _ _ h, RepL.grow l r⟩
  go := fun i d H O lv ⟨xs, h, r⟩ e => by
    obtain ⟨v, e1, r1⟩ := r.get e
    refine ⟨⟨xs, v, SqL.of (cut_some h).2, e1⟩, fun x H' y => ?_⟩
    obtain ⟨rfl, y⟩ := y
    have e2 := y xs (SqL.of (cut_some h).2)
    rw [e1] at e2; cases e2
    exact ⟨Grow.refl _, r1⟩
  stop := fun H O ⟨xs, h, r⟩ => ⟨xs, SqL.of (cut_some h).2, Nat.le_of_eq r.length⟩
theorem wk_tup {K : PySem.W.Frag} {mg : Str → Option Value} (a : Addr) (ds : List D) : Wk K mg (Itt K a) ds fun H O => ∃ xs, SqT K (cut H O) a xs ∧ RepL K mg (cut H O) xs ds where
  mono := fun H O H' O' ⟨xs, h, r⟩ l => ⟨xs, SqT.grow l h, RepL.grow l r⟩
  go := fun i d H O lv ⟨xs, h, r⟩ e => by
    have h' := SqT.grow (Grow.ofCut H O) h
    obtain ⟨v, e1, r1⟩ := r.get e
    refine ⟨⟨xs, v, h', e1⟩, fun x H' y => ?_⟩
    obtain ⟨rfl, y⟩ := y
    have e2 := y xs h'
    rw [e1] at e2; cases e2
    exact ⟨Grow.refl _, r1⟩
  stop := fun H O ⟨xs, h, r⟩ => ⟨xs, SqT.grow (Grow.ofCut H O) h, Nat.le_of_eq r.length⟩
theorem wk_scr {K : PySem.W.Frag} {mg : Str → Option Value} (a : Addr) (ns : List Int) : Wk K mg (Itl K a) (ns.map D.int) fun H O => SqL K (cut H O) a (ns.map V.int) where
  mono := fun H O H' O' h l => SqL.grow l h
  go := fun i d H O lv h e => by
    have h' := SqL.grow (Grow.ofCut H O) h
    rw [List.getElem?_map] at e
    cases e1 : ns[i]? with
    | none => rw [e1] at e; cases e
    | some n =>
      rw [e1] at e; cases e
      have e2 : (ns.map V.int)[i]? = some (V.int n) := by rw [List.getElem?_map, e1]; rfl
      refine ⟨⟨_, _, h', e2⟩, fun x H' y => ?_⟩
      obtain ⟨rfl, y⟩ := y
      have e3 := y _ h'
      rw [e2] at e3; cases e3
      exact ⟨Grow.refl _, .int n⟩
  stop := fun H O h => ⟨_, SqL.grow (Grow.ofCut H O) h, by simp⟩
/-- the items of a list, a tuple, the script -/
def itemsD : D → Option (List D)
  | .lst l => some l
  | .tup l => some l
  | .scr ns => some (ns.map D.int)
  | _ => none
theorem di_seq {e : Expr} {f : M D} (h : DE X G e f) : DI X G tg e (mBind f fun d => mLift (itemsD d)) := pi_imp (pi_both (pi_list h) (pi_tup h)) fun σ H R q => by
  obtain ⟨O, τ, items, τ', SRr, e1, q⟩ := q
  obtain ⟨d, e2, e3⟩ := mL_some e1
  cases d with
  | lst l =>
    cases e3
    refine .inl ⟨O, τ, _, τ', SRr, e2, fun v H' O' l' R' r => ?_⟩
    cases r with
    | @lst a xs _ hq rl => exact ⟨a, rfl, ⟨xs, SqL.of (cut_some hq).2⟩, q _ H' O' _ l' R' (wk_list a items) ⟨xs, hq, rl⟩⟩
  | tup l =>
    cases e3
    refine .inr ⟨O, τ, _, τ', SRr, e2, fun v H' O' l' R' r => ?_⟩
    cases r with
    | @tup a xs _ hq rl => exact ⟨a, rfl, ⟨xs, SqT.grow (Grow.ofCut H' O') hq⟩, q _ H' O' _ l' R' (wk_tup a items) ⟨xs, hq, rl⟩⟩
  | scr ns =>
    cases e3
    refine .inl ⟨O, τ, _, τ', SRr, e2, fun v H' O' l' R' r => ?_⟩
    cases r with
    | @scr a _ hq => exact ⟨a, rfl, ⟨_, SqL.grow (Grow.ofCut H' O') hq⟩, q _ H' O' _ l' R' (wk_scr a ns) hq⟩
  | _ => cases e3
/-! ### ranges -/
def rangeD (lo : Int) (n : Nat) (c : Int) : List D := (List.range n).map fun (i : Nat) => D.int (lo + (i : Int) * c)
theorem wk_range {K : PySem.W.Frag} {mg : Str → Option Value} (lo : Int) (n : Nat) : Wk K mg (Itr lo n) (rangeD lo n 1) fun _ _ => True where
  mono := fun _ _ _ _ _ _ => trivial
  go := fun i d H O lv _ e => by
    unfold rangeD at e
    rw [List.getElem?_map] at e
    by_cases h : i < n
    · rw [List.getElem?_range h] at e
      cases e
      refine ⟨h, fun x H' y => ?_⟩
      obtain ⟨rfl, rfl⟩ := y
      refine ⟨Grow.refl _, ?_⟩
      show Rep K mg _ (V.int _) (D.int (lo + (i : Int) * 1))
      rw [Int.mul_one]
      exact .int _
    · rw [List.getElem?_eq_none (by simpa using h)] at e; cases e
  stop := fun H O _ => by unfold rangeD; simp; exact Nat.le_refl _
def rng1 : List D → Option (List D)
  | [.int j] => if -(2 ^ 62) ≤ j ∧ j < 2 ^ 62 then some (rangeD 0 j.toNat 1) else none
  | _ => none
def rng2 : List D → Option (List D)
  | [.int i, .int j] => if -(2 ^ 62) ≤ i ∧ i < 2 ^ 62 ∧ -(2 ^ 62) ≤ j ∧ j < 2 ^ 62 then some (rangeD i (j - i).toNat 1) else none
  | _ => none
theorem di_range1 {a : Expr} {p pos : Pos} {f : M (List D)} (hg : Gl X "range") (hm : X.mg "range" = none) (ha : DA X G [a] f) (hs : starEach [a] X.env = [(false, eval a X.env)] := by rfl) : DI X G tg (.Call (.Name "range" p) [a] [] pos) (mBind f fun l => mLift (rng1 l)) :=
  pi_imp (pi_range1 hg hm ha hs) fun σ H R q => by
    obtain ⟨O, τ, items, τ', SRr, e1, q⟩ := q
    obtain ⟨d, e2, e3⟩ := mL_some e1
    refine ⟨O, τ, d, τ', SRr, e2, fun vs H' O' l' R' r => ?_⟩
    match d, e3, r with
    | [.int j], e3, .cons (.int _) .nil =>
      simp only [rng1] at e3
      split at e3
      · rename_i hb
        cases e3
        exact ⟨j, rfl, hb.1, hb.2, q _ H' O' _ l' R' (wk_range 0 j.toNat) trivial⟩
      · cases e3
theorem di_range2 {a b : Expr} {p pos : Pos} {f : M (List D)} (hg : Gl X "range") (hm : X.mg "range" = none) (ha : DA X G [a, b] f) (hs : starEach [a, b] X.env = [(false, eval a X.env), (false, eval b X.env)] := by rfl) (hs2 : starEach [b] X.env = [(false, eval b X.env)] := by rfl) :
    DI X G tg (.Call (.Name "range" p) [a, b] [] pos) (mBind f fun l => mLift (rng2 l)) :=
  pi_imp (pi_range2 hg hm ha hs hs2) fun σ H R q => by
    obtain ⟨O, τ, items, τ', SRr, e1, q⟩ := q
    obtain ⟨d, e2, e3⟩ := mL_some e1
    refine ⟨O, τ, d, τ', SRr, e2, fun vs H' O' l' R' r => ?_⟩
    match d, e3, r with
    | [.int i, .int j], e3, .cons (.int _) (.cons (.int _) .nil) =>
      simp only [rng2] at e3
      split at e3
      · rename_i hb
        cases e3
        exact ⟨i, j, rfl, hb, q _ H' O' _ l' R' (wk_range i (j - i).toNat) trivial⟩
      · cases e3
/-- how many turns range(i, j, c) has -/
def rgN (i j c : Int) : Nat := if 0 < c then ((j - i + c - 1) / c).toNat else ((i - j - c - 1) / (-c)).toNat
def RgOk3 (i j c : Int) : Prop := c ≠ 0 ∧ c.natAbs < 1073741824 ∧ Builtin.Range.small i j c = true ∧ 0 ≤ Builtin.Range.rangeSize i j c
instance (i j c : Int) : Decidable (RgOk3 i j c) := by unfold RgOk3; infer_instance
theorem wk_rangeC {K : PySem.W.Frag} {mg : Str → Option Value} (lo c : Int) (n : Nat) : Wk K mg (Itc lo c n) (rangeD lo n c) fun _ _ => True where
  mono := fun _ _ _ _ _ _ => trivial
  go := fun i d H O lv _ e => by
    unfold rangeD at e
    rw [List.getElem?_map] at e
    by_cases h : i < n
    · rw [List.getElem?_range h] at e
      cases e
      refine ⟨h, fun x H' y => ?_⟩
      obtain ⟨rfl, rfl⟩ := y
      exact ⟨Grow.refl _, .int _⟩
    · rw [List.getElem?_eq_none (by simpa using h)] at e; cases e
  stop := fun H O _ => by unfold rangeD; simp; exact Nat.le_refl _
def rng3 : List D → Option (List D)
  | [.int i, .int j, .int c] => if RgOk3 i j c then some (rangeD i (Builtin.Range.rangeSize i j c).toNat c) else none
  | _ => none
theorem di_range3 {a b c : Expr} {p pos : Pos} {f : M (List D)} (hg : Gl X "range") (hm : X.mg "range" = none) (ha : DA X G [a, b, c] f)
    (hs : starEach [a, b, c] X.env = (false, eval a X.env) :: starEach [b, c] X.env := by rfl) (hpl : (backTo pos (starEach [b, c] X.env)).any (·.1) = false := by rfl) : DI X G tg (.Call (.Name "range" p) [a, b, c] [] pos) (mBind f fun l => mLift (rng3 l)) :=
  pi_imp (pi_range3 hg hm ha hs hpl) fun σ H R q => by
    obtain ⟨O, τ, items, τ', SRr, e1, q⟩ := q
    obtain ⟨d, e2, e3⟩ := mL_some e1
    refine ⟨O, τ, d, τ', SRr, e2, fun vs H' O' l' R' r => ?_⟩
    match d, e3, r with
    | [.int i, .int j, .int c], e3, .cons (.int _) (.cons (.int _) (.cons (.int _) .nil)) =>
      simp only [rng3] at e3
      split at e3
      · rename_i hb
        cases e3
        exact ⟨i, j, c, _, rfl, ⟨hb.1, hb.2.1, hb.2.2.1, (Int.toNat_of_nonneg hb.2.2.2).symm⟩, q _ H' O' _ l' R' (wk_rangeC i c _) trivial⟩
      · cases e3

/-! ### for -/
def forL (g : D → Sd → Option Sd) (b : M Fl) : List D → M Fl
  | [] => mPure .nx
  | d :: ds => fun τ => match g d τ with
    | none => none
    | some τ1 => match b τ1 with
      | some (.nx, τ2) => forL g b ds τ2
      | some (.ct, τ2) => forL g b ds τ2
      | some (.bk, τ2) => some (.nx, τ2)
      | some (.rt d, τ2) => some (.rt d, τ2)
      | some (.rf d, τ2) => some (.rf d, τ2)
      | none => none
def sFor (f : M (List D)) (g : D → Sd → Option Sd) (b : M Fl) : M Fl := mBind f fun items => forL g b items
theorem ds_for {iter : Expr} {body : List Stmt} {pos : Pos} {is : List Nat} {f : M (List D)} {g : D → Sd → Option Sd} {b : M Fl} (hp : PassesOwn (model X.prog X.w) X.A X.env X.xe) (hc : X.calm = true) (hi : DI X G tg iter f) (hg : DG X G tg is g) (hb : DSs X G body b)
    (hs : ∀ x, foldedSetIterable iter X.env x = pure x := by intro _; rfl) : DS X G (.For tg iter body [] pos) (sFor f g b) := ps_imp (ps_for hp hc hi hg hb hs) fun N σ H q => by
  obtain ⟨O, τ, fl, τ', R, e1, q⟩ := q
  obtain ⟨items, τ1, e2, e1⟩ := mBind_some e1
  refine ⟨O, τ, items, τ1, R, e2, fun J H1 O1 Bs l1 R1 wk bs => ?_⟩
  have q1 := q.le l1
  refine ⟨fun i m σ H => m = items.length - i ∧ i ≤ items.length ∧ ∃ Oi τi, SR X.K X.mg G H Oi σ τi ∧ Le H1 O1 H Oi ∧ Bs H Oi ∧ forL g b (items.drop i) τi = some (fl, τ'), ⟨items.length, by simp, Nat.zero_le _, O1, τ1, R1, Le.refl _ _, bs, by simpa using e1⟩, ?_⟩
  rintro i m σ2 H2 ⟨rfl, hi', O2, τ2, R2, l2, bs2, e3⟩
  by_cases hlt : i < items.length
  · have ed : items.drop i = items[i] :: items.drop (i + 1) := List.drop_eq_getElem_cons hlt
    rw [ed] at e3
    simp only [forL] at e3
    obtain ⟨hgo, hy⟩ := wk.go i items[i] H2 O2 R2.live bs2 (List.getElem?_eq_getElem hlt)
    refine .inr ⟨hgo, fun σ' H' => ∃ Oi τi, SR X.K X.mg G H' Oi σ' τi ∧ Le H1 O1 H' Oi ∧ Bs H' Oi ∧ forL g b (items.drop (i + 1)) τi = some (fl, τ'), fun σ' H' ⟨Oi, τi, a1, a2, a3, a4⟩ => ⟨items.length - (i + 1), by omega, rfl, hlt, Oi, τi, a1, a2, a3, a4⟩, fun x H3 y3 => ?_⟩
    obtain ⟨g3, r3⟩ := hy x H3 y3
    have l3 : Le H2 O2 H3 O2 := Le.grow g3
    cases e4 : g items[i] τ2 with
    | none => simp [e4] at e3
    | some τ3 =>
      simp only [e4] at e3
      refine ⟨O2, τ2, items[i], τ3, R2.grow g3, r3, e4, fun σ4 H4 O4 _ l4 R4 => ?_⟩
      have l04 := ((l2.trans l3).trans l4)
      have bs4 := wk.mono _ _ _ _ bs2 (l3.trans l4)
      cases e5 : b τ3 with
      | none => simp [e5] at e3
      | some pr =>
        obtain ⟨fl5, τ5⟩ := pr
        simp only [e5] at e3
        refine ⟨O4, τ3, fl5, τ5, R4, e5, ?_⟩
        cases fl5 with
        | nx => exact fun σ6 H6 O6 l6 R6 => ⟨O6, τ5, R6, l04.trans l6, wk.mono _ _ _ _ bs4 l6, e3⟩
        | ct => exact fun σ6 H6 O6 l6 R6 => ⟨O6, τ5, R6, l04.trans l6, wk.mono _ _ _ _ bs4 l6, e3⟩
        | bk => cases e3; exact fun σ6 H6 O6 l6 R6 => q1 σ6 H6 O6 (l04.trans l6) R6
        | rt d => cases e3; exact fun v σ6 H6 O6 l6 R6 r6 => q1 v σ6 H6 O6 (l04.trans l6) R6 r6
        | rf d => cases e3; exact fun p xs σ6 H6 O6 l6 => q1 p xs σ6 H6 O6 (l04.trans l6)
  · have e : i = items.length := by omega
    subst e
    rw [List.drop_length] at e3
    cases e3
    exact .inl ⟨wk.stop H2 O2 bs2, q1 σ2 H2 O2 l2 R2⟩

/-! ### while -/
def whF (t : M Bool) (b : M Fl) : Nat → M Fl
  | 0 => fun _ => none
  | n + 1 => fun τ => match t τ with
    | none => none
    | some (false, τ1) => some (.nx, τ1)
    | some (true, τ1) => match b τ1 with
      | some (.nx, τ2) => whF t b n τ2
      | some (.ct, τ2) => whF t b n τ2
      | some (.bk, τ2) => some (.nx, τ2)
      | some (.rt d, τ2) => some (.rt d, τ2)
      | some (.rf d, τ2) => some (.rf d, τ2)
      | none => none
theorem whF_succ {t : M Bool} {b : M Fl} : ∀ {n : Nat} {τ : Sd} {r : Fl × Sd}, whF t b n τ = some r → whF t b (n + 1) τ = some r
  | 0, _, _, h => by cases h
  | n + 1, τ, r, h => by
    unfold whF at h ⊢
    cases e1 : t τ with
    | none => simp [e1] at h
    | some p =>
      obtain ⟨c, τ1⟩ := p
      simp only [e1] at h ⊢
      cases c with
      | false => exact h
      | true =>
        simp only at h ⊢
        cases e2 : b τ1 with
        | none => simp [e2] at h
        | some p2 =>
          obtain ⟨fl, τ2⟩ := p2
          simp only [e2] at h ⊢
          cases fl with
          | nx => exact whF_succ h
          | ct => exact whF_succ h
          | bk => exact h
          | rt d => exact h
          | rf d => exact h
theorem whF_le {t : M Bool} {b : M Fl} {n m : Nat} {τ : Sd} {r : Fl × Sd} (hnm : n ≤ m) (h : whF t b n τ = some r) : whF t b m τ = some r := by
  induction hnm with
  | refl => exact h
  | step _ ih => exact whF_succ ih
open Classical in
noncomputable def sWhile (t : M Bool) (b : M Fl) : M Fl := fun τ => if h : ∃ n r, whF t b n τ = some r then some h.choose_spec.choose else none
theorem sWhile_of {t : M Bool} {b : M Fl} {n : Nat} {τ : Sd} {r : Fl × Sd} (h : whF t b n τ = some r) : sWhile t b τ = some r := by
  unfold sWhile
  have hx : ∃ n r, whF t b n τ = some r := ⟨n, r, h⟩
  rw [dif_pos hx]
  have h2 := hx.choose_spec.choose_spec
  have a := whF_le (Nat.le_max_left n hx.choose) h
  have b := whF_le (Nat.le_max_right n hx.choose) h2
  rw [a] at b
  exact b.symm
theorem sWhile_some {t : M Bool} {b : M Fl} {τ : Sd} {r : Fl × Sd} (h : sWhile t b τ = some r) : ∃ n, whF t b n τ = some r := by
  unfold sWhile at h
  split at h
  · rename_i hx
    cases h
    exact ⟨hx.choose, hx.choose_spec.choose_spec⟩
  · cases h
theorem ds_while {c : Expr} {body : List Stmt} {pos : Pos} {t : M Bool} {b : M Fl} (hp : PassesOwn (model X.prog X.w) X.A X.env X.xe) (hc : DT X G c t) (hb : DSs X G body b) : DS X G (.While c body [] pos) (sWhile t b) := ps_imp (ps_while hp hc hb) fun N σ H q => by
  obtain ⟨O, τ, fl, τ', R, e1, q⟩ := q
  obtain ⟨n, e1⟩ := sWhile_some e1
  refine ⟨fun m σ2 H2 => ∃ O2 τ2, SR X.K X.mg G H2 O2 σ2 τ2 ∧ Le H O H2 O2 ∧ whF t b m τ2 = some (fl, τ'), ⟨n, O, τ, R, Le.refl _ _, e1⟩, ?_⟩
  rintro m σ2 H2 ⟨O2, τ2, R2, l2, e2⟩
  cases m with
  | zero => cases e2
  | succ m =>
    unfold whF at e2
    cases e3 : t τ2 with
    | none => simp [e3] at e2
    | some pr =>
      obtain ⟨k, τ3⟩ := pr
      simp only [e3] at e2
      refine ⟨O2, τ2, k, τ3, R2, e3, fun H3 O3 l3 R3 => ?_⟩
      cases k with
      | false => cases e2; exact q σ2 H3 O3 (l2.trans l3) R3
      | true =>
        rw [if_pos rfl]
        refine ⟨fun σ' H' => ∃ O4 τ4, SR X.K X.mg G H' O4 σ' τ4 ∧ Le H O H' O4 ∧ whF t b m τ4 = some (fl, τ'), fun σ' H' h => ⟨m, Nat.lt_succ_self _, h⟩, ?_⟩
        simp only at e2
        cases e5 : b τ3 with
        | none => simp [e5] at e2
        | some p5 =>
          obtain ⟨fl5, τ5⟩ := p5
          simp only [e5] at e2
          refine ⟨O3, τ3, fl5, τ5, R3, e5, ?_⟩
          have l03 := l2.trans l3
          cases fl5 with
          | nx => exact fun σ6 H6 O6 l6 R6 => ⟨O6, τ5, R6, l03.trans l6, e2⟩
          | ct => exact fun σ6 H6 O6 l6 R6 => ⟨O6, τ5, R6, l03.trans l6, e2⟩
          | bk => cases e2; exact fun σ6 H6 O6 l6 R6 => q σ6 H6 O6 (l03.trans l6) R6
          | rt d => cases e2; exact fun v σ6 H6 O6 l6 R6 r6 => q v σ6 H6 O6 (l03.trans l6) R6 r6
          | rf d => cases e2; exact fun p xs σ6 H6 O6 l6 => q p xs σ6 H6 O6 (l03.trans l6)
end
end Dv
set_option Elab.async false
set_option linter.all false
set_option maxRecDepth 100000
set_option maxHeartbeats 4000000
/-! DV6: list comprehensions -/
namespace Dv
open PySem L2
/-- the heap without one address -/
def hid (H : Hp) (p : Addr) : Hp := fun a => if a = p then none else H a
theorem hid_some {H : Hp} {p a : Addr} {o : HO} (h : hid H p a = some o) : a ≠ p ∧ H a = some o := by
  unfold hid at h
  by_cases q : a = p
  · rw [if_pos q] at h; cases h
  · rw [if_neg q] at h; exact ⟨q, h⟩
theorem hid_of {H : Hp} {p a : Addr} {o : HO} (n : a ≠ p) (h : H a = some o) : hid H p a = some o := by unfold hid; rw [if_neg n]; exact h
theorem hid_self (H : Hp) (p : Addr) : hid H p p = none := by unfold hid; rw [if_pos rfl]
theorem hid_upd (H : Hp) (p : Addr) (o : HO) : hid (upd H p o) p = hid H p := by
  funext a; unfold hid
  by_cases q : a = p
  · rw [if_pos q, if_pos q]
  · rw [if_neg q, if_neg q, upd_ne q]
theorem upd_hid {H : Hp} {p : Addr} {o : HO} (h : H p = some o) : upd (hid H p) p o = H := by
  funext a
  by_cases q : a = p
  · subst q; rw [upd_same, h]
  · rw [upd_ne q]; unfold hid; rw [if_neg q]
theorem hid_new {H : Hp} {p : Addr} {o : HO} (h : H p = none) : hid (upd H p o) p = H := by
  rw [hid_upd]; funext a; unfold hid
  by_cases q : a = p
  · subst q; rw [if_pos rfl, h]
  · rw [if_neg q]
theorem cut_hid (H : Hp) (p : Addr) (O : List Addr) : cut H (p :: O) = cut (hid H p) O := by
  funext a; unfold cut hid
  by_cases q : a = p
  · subst q; simp
  · by_cases z : a ∈ O
    · simp [z]
    · simp [q, z]
theorem cut_hid' {H : Hp} {p : Addr} {O : List Addr} (h : p ∈ O) : cut (hid H p) (O.filter (· ≠ p)) = cut H O := by
  funext a; unfold cut hid
  by_cases q : a = p
  · subst q; simp [h]
  · by_cases z : a ∈ O
    · simp [z, q]
    · simp [q, z]
section
variable {K : PySem.W.Frag} {mg : Str → Option Value} {G : Gx} {H H' : Hp} {O O' : List Addr} {σ : St} {τ τ' : Sd} {p : Addr} {o : HO}
/-- the ground of what runs while an object at p is held by no slot -/
def within (G : Gx) (H : Hp) (O : List Addr) (p : Addr) : Gx := ⟨H, O.filter (· ∉ G.B), p :: G.B, G.pin⟩
theorem SR.into (R : SR K mg G (hid H p) O σ τ) (hp : Live H [p]) : SR K mg (within G H O p) H (p :: O) σ τ where
  len := R.len
  keep := fun a o h _ => h
  base := fun q z => by
    rcases List.mem_cons.mp z with z | z
    · subst z; exact List.mem_cons_self
    · exact List.mem_cons_of_mem _ (R.base q z)
  own0 := fun q z => by
    rcases List.mem_cons.mp z with z | z
    · subst z; exact .inl List.mem_cons_self
    · by_cases hb : q ∈ G.B
      · exact .inl (List.mem_cons_of_mem _ hb)
      · exact .inr (.inr (List.mem_filter.mpr ⟨z, by simpa using hb⟩))
  live := fun q z => by
    rcases List.mem_cons.mp z with z | z
    · subst z; exact hp q List.mem_cons_self
    · rcases R.live q z with ⟨xs, e⟩ | ⟨C, dx, fs, e⟩
      · exact .inl ⟨xs, (hid_some e).2⟩
      · exact .inr ⟨C, dx, fs, (hid_some e).2⟩
  slot := fun i s h => by
    obtain ⟨v, ev, ok⟩ := R.slot i s h
    refine ⟨v, ev, ?_⟩
    cases s with
    | val d => show Rep K mg (cut H (p :: O)) v d; rw [cut_hid]; exact ok
    | own l =>
      obtain ⟨q, xs, rfl, h1, h2, h3, h4, h5⟩ := ok
      obtain ⟨n, h4⟩ := hid_some h4
      exact ⟨q, xs, rfl, List.mem_cons_of_mem _ h1, by show q ∉ p :: G.B; simp [n, h2], .inr (List.mem_filter.mpr ⟨h1, by simpa using h2⟩), h4, by rw [cut_hid]; exact h5⟩
    | ob c ns ds =>
      obtain ⟨q, C, dx, xs, rfl, h1, h2, h3, h4, h5, h6, h7⟩ := ok
      obtain ⟨n, h5⟩ := hid_some h5
      exact ⟨q, C, dx, xs, rfl, List.mem_cons_of_mem _ h1, by show q ∉ p :: G.B; simp [n, h2], .inr (List.mem_filter.mpr ⟨h1, by simpa using h2⟩), h4, h5, h6, by rw [cut_hid]; exact h7⟩
  inj := R.inj
  pin := R.pin
theorem SR.out {σ' : St} (R : SR K mg G (hid H p) O σ τ) (R' : SR K mg (within G H O p) H' O' σ' τ') (hp : H p = some o) : H' p = some o ∧ SR K mg G (hid H' p) (O'.filter (· ≠ p)) σ' τ' ∧ cut (hid H' p) (O'.filter (· ≠ p)) = cut H' O' := by
  have hpO : p ∈ O' := R'.base p List.mem_cons_self
  have npW : p ∉ O := fun z => by
    rcases R.live p z with ⟨xs, e⟩ | ⟨C, dx, fs, e⟩ <;> exact (hid_some e).1 rfl
  have kp : ∀ a u, H a = some u → (a ∉ O ∨ a ∈ G.B) → H' a = some u := fun a u h z => R'.keep a u h fun w => by
    obtain ⟨w1, w2⟩ := List.mem_filter.mp w
    rcases z with z | z
    · exact z w1
    · have w3 : a ∉ G.B := by simpa using w2
      exact w3 z
  have ec := cut_hid' (H := H') hpO
  have sl : ∀ q, H q = none ∨ q ∈ O.filter (· ∉ G.B) → q ≠ p → G.H0 q = none ∨ q ∈ G.W := fun q h n => by
    rcases h with h | h
    · cases e : G.H0 q with
      | none => exact .inl rfl
      | some u =>
        by_cases w : q ∈ G.W
        · exact .inr w
        · have := (hid_some (R.keep q u e w)).2
          rw [h] at this; cases this
    · obtain ⟨w1, w2⟩ := List.mem_filter.mp h
      rcases R.own0 q w1 with z | z
      · exact absurd z (by simpa using w2)
      · exact z
  refine ⟨kp p o hp (.inl npW), ⟨R'.len, fun a u h n => ?_, fun q z => ?_, fun q z => ?_, fun q z => ?_, fun i s h => ?_, R'.inj, R'.pin⟩, ec⟩
  · obtain ⟨na, e⟩ := hid_some (R.keep a u h n)
    refine hid_of na (kp a u e ?_)
    by_cases z : a ∈ O
    · rcases R.own0 a z with b | b | b
      · exact .inr b
      · rw [b] at h; cases h
      · exact absurd b n
    · exact .inl z
  · have nq : q ≠ p := fun e => by subst e; exact npW (R.base q z)
    exact List.mem_filter.mpr ⟨R'.base q (List.mem_cons_of_mem _ z), by simpa using nq⟩
  · obtain ⟨z1, z2⟩ := List.mem_filter.mp z
    have nq : q ≠ p := by simpa using z2
    rcases R'.own0 q z1 with b | b
    · rcases List.mem_cons.mp b with b | b
      · exact absurd b nq
      · exact .inl b
    · exact .inr (sl q b nq)
  · obtain ⟨z1, z2⟩ := List.mem_filter.mp z
    have nq : q ≠ p := by simpa using z2
    rcases R'.live q z1 with ⟨xs, e⟩ | ⟨C, dx, fs, e⟩
    · exact .inl ⟨xs, hid_of nq e⟩
    · exact .inr ⟨C, dx, fs, hid_of nq e⟩
  · obtain ⟨v, ev, ok⟩ := R'.slot i s h
    refine ⟨v, ev, ?_⟩
    cases s with
    | val d => show Rep K mg (cut _ _) v d; rw [ec]; exact ok
    | own l =>
      obtain ⟨q, xs, rfl, h1, h2, h3, h4, h5⟩ := ok
      have h2' : q ∉ p :: G.B := h2
      simp only [List.mem_cons, not_or] at h2'
      exact ⟨q, xs, rfl, List.mem_filter.mpr ⟨h1, by simpa using h2'.1⟩, h2'.2, sl q h3 h2'.1, hid_of h2'.1 h4, by rw [ec]; exact h5⟩
    | ob c ns ds =>
      obtain ⟨q, C, dx, xs, rfl, h1, h2, h3, h4, h5, h6, h7⟩ := ok
      have h2' : q ∉ p :: G.B := h2
      simp only [List.mem_cons, not_or] at h2'
      exact ⟨q, C, dx, xs, rfl, List.mem_filter.mpr ⟨h1, by simpa using h2'.1⟩, h2'.2, sl q h3 h2'.1, h4, hid_of h2'.1 h5, h6, by rw [ec]; exact h7⟩

/-! ### slots forgotten -/
def wipeD (τ : Sd) : List Nat → Sd
  | [] => τ
  | v :: vs => (wipeD τ vs).set v none
theorem SR.wipe (R : SR K mg G H O σ τ) : ∀ vs : List Nat, SR K mg G H O (L2.wipe σ vs) (wipeD τ vs)
  | [] => R
  | _ :: vs => (SR.wipe R vs).setN
theorem wipeD_some {i : Nat} {s : Sl} : ∀ {vs : List Nat}, (wipeD τ vs)[i]? = some (some s) → τ[i]? = some (some s) ∧ i ∉ vs
  | [], h => ⟨h, by simp⟩
  | v :: vs, h => by
    unfold wipeD at h
    by_cases hi : v = i
    · subst hi
      by_cases hv : v < (wipeD τ vs).length
      · rw [List.getElem?_set_self hv] at h; cases h
      · rw [List.getElem?_eq_none (by simpa using hv)] at h; cases h
    · rw [List.getElem?_set_ne hi] at h
      obtain ⟨h1, h2⟩ := wipeD_some h
      exact ⟨h1, by simp only [List.mem_cons, not_or]; exact ⟨fun e => hi e.symm, h2⟩⟩
theorem wipe_get {i : Nat} : ∀ {vs : List Nat}, i ∉ vs → (L2.wipe σ vs)[i]? = σ[i]?
  | [], _ => rfl
  | v :: vs, h => by
    simp only [List.mem_cons, not_or] at h
    unfold L2.wipe
    rw [List.getElem?_set_ne (Ne.symm h.1), wipe_get h.2]
theorem SR.unwipe {vs : List Nat} (R : SR K mg G H O (L2.wipe σ vs) (wipeD τ vs)) : SR K mg G H O σ (wipeD τ vs) where
  len := by rw [← R.len, wipe_length]
  keep := R.keep
  base := R.base
  own0 := R.own0
  live := R.live
  slot := fun i s h => by
    obtain ⟨v, e, ok⟩ := R.slot i s h
    rw [wipe_get (wipeD_some h).2] at e
    exact ⟨v, e, ok⟩
  inj := fun i j s t v h1 o1 h2 o2 e1 e2 => R.inj i j s t v h1 o1 h2 o2 (by rw [wipe_get (wipeD_some h1).2]; exact e1) (by rw [wipe_get (wipeD_some h2).2]; exact e2)
  pin := fun p s hp h o => by
    have := R.pin p s hp h o
    rw [wipe_get (wipeD_some h).2] at this
    exact this
theorem wipe_same {is vs : List Nat} {σ σ' : St} (hs : ∀ i ∈ is, i ∈ vs) (sb : SameBut is (L2.wipe σ vs) σ') : L2.wipe σ' vs = L2.wipe σ vs := by
  apply List.ext_getElem?
  intro i
  by_cases hi : i ∈ vs
  · have none_at : ∀ (l : St) (vs : List Nat), i ∈ vs → i < l.length → (L2.wipe l vs)[i]? = some none := fun l vs => by
      induction vs with
      | nil => intro h; simp at h
      | cons v vs ih =>
        intro h hl
        unfold L2.wipe
        by_cases e : v = i
        · subst e; rw [List.getElem?_set_self (by rw [wipe_length]; exact hl)]
        · rw [List.getElem?_set_ne e]
          rcases List.mem_cons.mp h with h | h
          · exact absurd h.symm e
          · exact ih h hl
    have ln : σ'.length = σ.length := by rw [sb.1, wipe_length]
    by_cases hl : i < σ.length
    · rw [none_at σ vs hi hl, none_at σ' vs hi (by rw [ln]; exact hl)]
    · rw [List.getElem?_eq_none (by rw [wipe_length, ln]; omega), List.getElem?_eq_none (by rw [wipe_length]; omega)]
  · rw [wipe_get hi, wipe_get hi, sb.2 i (fun z => hi (hs i z)), wipe_get hi]
end

def lcL (g : D → Sd → Option Sd) (tt : M Bool) (te : M D) (vs : List Nat) : List D → M (List D)
  | [] => mPure []
  | d :: ds => fun τ => match g d τ with
    | none => none
    | some τ1 => match tt τ1 with
      | none => none
      | some (false, τ2) => lcL g tt te vs ds (wipeD τ2 vs)
      | some (true, τ2) => match te τ2 with
        | none => none
        | some (y, τ3) => match lcL g tt te vs ds (wipeD τ3 vs) with
          | none => none
          | some (ys, τ4) => some (y :: ys, τ4)
def mLc (f : M (List D)) (g : D → Sd → Option Sd) (tt : M Bool) (te : M D) (vs : List Nat) : M (List D) := mBind f fun items => fun τ => if items.length ≤ sizeLine then lcL g tt te vs items (wipeD τ vs) else none
theorem lcL_wiped {g : D → Sd → Option Sd} {tt : M Bool} {te : M D} {vs : List Nat} : ∀ {ds : List D} {τ : Sd} {ys : List D} {τ' : Sd}, lcL g tt te vs ds (wipeD τ vs) = some (ys, τ') → ∃ τ'', τ' = wipeD τ'' vs
  | [], τ, _, _, h => by cases h; exact ⟨τ, rfl⟩
  | d :: ds, τ, ys, τ', h => by
    simp only [lcL] at h
    split at h
    · cases h
    · split at h
      · cases h
      · exact lcL_wiped h
      · split at h
        · cases h
        · split at h
          · cases h
          · rename_i h5
            cases h
            exact lcL_wiped h5
section
variable {X : Cx} {G : Gx} {tg : Expr}
/-- the tests of a comprehension's clause -/
def DTs (X : Cx) (G : Gx) (ifs : List Expr) (f : M Bool) : Prop := PTs X ifs (tDT X.K X.mg G f)
theorem dts_nil : DTs X G [] (mPure true) := ⟨fun pins s σ H Q I q => pts_nil.run pins s σ H Q I (by
  obtain ⟨O, τ, b, τ', R, e, q⟩ := q
  cases e
  exact q H O (Le.refl _ _) R)⟩
theorem dts_one {c : Expr} {f : M Bool} (h : DT X G c f) : DTs X G [c] f := pts_one h
/-- what a comprehension's parts are read as, whatever the ground -/
def tAnyG (K : PySem.W.Frag) (mg : Str → Option Value) (is : List Nat) (g : D → Sd → Option Sd) : TG := fun v σ H Q => ∃ G, tDG K mg G is g v σ H Q
def tAnyT (K : PySem.W.Frag) (mg : Str → Option Value) (tt : M Bool) : TT := fun σ H Q => ∃ G, tDT K mg G tt σ H Q
def tAnyE (K : PySem.W.Frag) (mg : Str → Option Value) (te : M D) : TE := fun σ H Q => ∃ G, tD K mg G te σ H Q
theorem lc_of {vs is : List Nat} {f : M (List D)} {g : D → Sd → Option Sd} {tt : M Bool} {te : M D} (his : ∀ i ∈ is, i ∈ vs) (σ : St) (H : Hp) (Q : VK) (q : tDF X.K X.mg G (mLc f g tt te vs) σ H Q) :
    tLc (tDI X.K X.mg G f) (tAnyG X.K X.mg is g) (tAnyT X.K X.mg tt) (tAnyE X.K X.mg te) vs σ H Q := by
  obtain ⟨O, τ, l, τ', R, e1, q⟩ := q
  obtain ⟨items, τ1, e2, e1⟩ := mBind_some e1
  split at e1
  · rename_i hlen
    refine ⟨O, τ, items, τ1, R, e2, fun J H1 O1 Bs l1 R1 wk bs p hp => ?_⟩
    refine ⟨fun i m Hc => m = items.length - i ∧ i ≤ items.length ∧ ∃ acc ya Oi τi rest, Hc p = some (.lst acc) ∧ SR X.K X.mg G (hid Hc p) Oi (L2.wipe σ vs) (wipeD τi vs) ∧ Le H1 O1 (hid Hc p) Oi ∧ Bs (hid Hc p) Oi ∧ RepL X.K X.mg (cut (hid Hc p) Oi) acc ya ∧ acc.length ≤ i ∧ lcL g tt te vs (items.drop i) (wipeD τi vs) = some (rest, τ') ∧ l = ya ++ rest,
      ⟨items.length, by simp, Nat.zero_le _, [], [], O1, τ1, l, upd_same, ?_, ?_, ?_, ?_, Nat.le_refl _, by simpa using e1, rfl⟩, ?_⟩
    · rw [hid_new hp]; exact R1.wipe vs
    · rw [hid_new hp]; exact Le.refl _ _
    · rw [hid_new hp]; exact bs
    · exact .nil
    · rintro i m Hc ⟨rfl, hi', acc, ya, Oi, τi, rest, hacc, Ri, li, bsi, racc, hal, e3, el⟩
      by_cases hlt : i < items.length
      · have ed : items.drop i = items[i] :: items.drop (i + 1) := List.drop_eq_getElem_cons hlt
        rw [ed] at e3
        simp only [lcL] at e3
        have Rin := Ri.into (fun q z => by
          have : q = p := by simpa using z
          subst this; exact .inl ⟨acc, hacc⟩)
        have lin : Le (hid Hc p) Oi Hc (p :: Oi) := by unfold Le; rw [cut_hid]; exact Grow.refl _
        have bsin : Bs Hc (p :: Oi) := wk.mono _ _ _ _ bsi lin
        obtain ⟨hgo, hy⟩ := wk.go i items[i] Hc (p :: Oi) Rin.live bsin (List.getElem?_eq_getElem hlt)
        refine .inr ⟨hgo, fun H' => i + 1 ≤ items.length ∧ ∃ acc ya Oi τi rest, H' p = some (.lst acc) ∧ SR X.K X.mg G (hid H' p) Oi (L2.wipe σ vs) (wipeD τi vs) ∧ Le H1 O1 (hid H' p) Oi ∧ Bs (hid H' p) Oi ∧ RepL X.K X.mg (cut (hid H' p) Oi) acc ya ∧ acc.length ≤ i + 1 ∧ lcL g tt te vs (items.drop (i + 1)) (wipeD τi vs) = some (rest, τ') ∧ l = ya ++ rest, fun H' ⟨h0, a, b, c, d, e, h1⟩ => ⟨items.length - (i + 1), by omega, rfl, h0, a, b, c, d, e, h1⟩, fun x H3 y3 => ?_⟩
        obtain ⟨g3, r3⟩ := hy x H3 y3
        cases e4 : g items[i] (wipeD τi vs) with
        | none => simp [e4] at e3
        | some τ3 =>
          simp only [e4] at e3
          refine ⟨within G Hc Oi p, p :: Oi, wipeD τi vs, items[i], τ3, Rin.grow g3, r3, e4, fun σ4 H4 O4 sb l4 R4 => ⟨wipe_same his sb, ?_⟩⟩
          cases e5 : tt τ3 with
          | none => simp [e5] at e3
          | some pr =>
            obtain ⟨k, τ5⟩ := pr
            simp only [e5] at e3
            refine ⟨within G Hc Oi p, O4, τ3, k, τ5, R4, e5, fun H5 O5 l5 R5 => ?_⟩
            have l05 : Le Hc (p :: Oi) H5 O5 := ((Le.grow g3).trans l4).trans l5
            cases k with
            | false =>
              refine iteF ?_
              obtain ⟨hp5, R5', ec5⟩ := Ri.out R5 hacc
              have lw : Le (hid Hc p) Oi (hid H5 p) (O5.filter (· ≠ p)) := by
                have := lin.trans l05
                unfold Le at this ⊢
                rw [ec5]; exact this
              refine ⟨hlt, acc, ya, O5.filter (· ≠ p), τ5, rest, hp5, ?_, li.trans lw, wk.mono _ _ _ _ bsi lw, RepL.grow lw racc, Nat.le_succ_of_le hal, e3, el⟩
              have := R5'.wipe vs
              rw [wipe_same his sb] at this
              exact this
            | true =>
              refine iteT ?_
              simp only at e3
              cases e6 : te τ5 with
              | none => simp [e6] at e3
              | some p6 =>
                obtain ⟨y, τ6⟩ := p6
                simp only [e6] at e3
                cases e7 : lcL g tt te vs (items.drop (i + 1)) (wipeD τ6 vs) with
                | none => simp [e7] at e3
                | some p7 =>
                  obtain ⟨ys, τ7⟩ := p7
                  simp only [e7] at e3
                  cases e3
                  refine ⟨within G Hc Oi p, O5, τ5, y, τ6, R5, e6, fun v H6 O6 l6 R6 r6 => ?_⟩
                  obtain ⟨hp6, R6', ec6⟩ := Ri.out R6 hacc
                  have lw : Le (hid Hc p) Oi (hid H6 p) (O6.filter (· ≠ p)) := by
                    have := (lin.trans l05).trans l6
                    unfold Le at this ⊢
                    rw [ec6]; exact this
                  refine ⟨acc, hp6, by omega, hlt, acc ++ [v], ya ++ [y], O6.filter (· ≠ p), τ6, ys, upd_same, ?_, ?_, ?_, ?_, by simp; omega, e7, by simp [el]⟩
                  · rw [hid_upd]
                    have := R6'.wipe vs
                    rw [wipe_same his sb] at this
                    exact this
                  · rw [hid_upd]; exact li.trans lw
                  · rw [hid_upd]; exact wk.mono _ _ _ _ bsi lw
                  · rw [hid_upd]
                    refine RepL.append (RepL.grow lw racc) (.cons ?_ .nil)
                    rw [ec6]; exact r6
      · have e : i = items.length := by omega
        subst e
        rw [List.drop_length] at e3
        have e3' : (([] : List D), wipeD τi vs) = (rest, τ') := by simpa [lcL, mPure] using e3
        cases e3'
        have lin : Le (hid Hc p) Oi Hc (p :: Oi) := by unfold Le; rw [cut_hid]; exact Grow.refl _
        refine .inl ⟨wk.stop Hc (p :: Oi) (wk.mono _ _ _ _ bsi lin), ?_⟩
        have := q p acc (hid Hc p) Oi (hid_self _ _) (l1.trans li) Ri.unwipe (by rw [el, List.append_nil]; exact racc)
        rw [upd_hid hacc] at this
        exact this
  · cases e1
section
variable {elt iter : Expr} {ifs : List Expr} {scope : Scope} {pos : Pos} {own : List (Str × Nat)} {is : List Nat} {f : M (List D)} {g : D → Sd → Option Sd} {tt : M Bool} {te : M D}
/-- the parts of a comprehension in its block, whatever the ground -/
abbrev BlkG (X : Cx) (scope : Scope) (tg : Expr) (is : List Nat) (g : D → Sd → Option Sd) : Prop := ∀ (s : Shared) (H : Hp) (C : Addr) (cl : List (Str × Addr)) (fp : List Addr) (G : Gx), DG (X.blk s H scope (compEnvC scope cl C X.env) fp) G tg is g
abbrev BlkT (X : Cx) (scope : Scope) (ifs : List Expr) (tt : M Bool) : Prop := ∀ (s : Shared) (H : Hp) (C : Addr) (cl : List (Str × Addr)) (fp : List Addr) (G : Gx), DTs (X.blk s H scope (compEnvC scope cl C X.env) fp) G ifs tt
abbrev BlkE (X : Cx) (scope : Scope) (elt : Expr) (te : M D) : Prop := ∀ (s : Shared) (H : Hp) (C : Addr) (cl : List (Str × Addr)) (fp : List Addr) (G : Gx), DE (X.blk s H scope (compEnvC scope cl C X.env) fp) G elt te
theorem df_lc (hc : X.calm = true) (hN : X.N.Nodup) (hi : DI X G tg iter f) (ok : BlkOk X.N X.env.scope scope own) (his : ∀ i ∈ is, i ∈ own.map (·.2)) (hg : BlkG X scope tg is g) (ht : BlkT X scope ifs tt) (he : BlkE X scope elt te) (hs : ∀ x, foldedSetIterable iter X.env x = pure x := by intro _; rfl) :
    DF X G (.ListComp elt [⟨tg, iter, ifs, 0⟩] scope pos) (mLc f g tt te (own.map (·.2))) :=
  pe_imp (pe_lc (g := tAnyG X.K X.mg is g) (tt := tAnyT X.K X.mg tt) (te := tAnyE X.K X.mg te) hc hN hi ok
    (fun s H C cl fp => ⟨fun pins s' σ H' v u Q I r ⟨G, q⟩ => (hg s H C cl fp G).run pins s' σ H' v u Q I r q⟩)
    (fun s H C cl fp => ⟨fun pins s' σ H' Q I ⟨G, q⟩ => (ht s H C cl fp G).run pins s' σ H' Q I q⟩)
    (fun s H C cl fp => ⟨fun pins s' σ H' Q I ⟨G, q⟩ => (he s H C cl fp G).run pins s' σ H' Q I q⟩) hs) (lc_of his)
theorem ds_lcAny {y : Str} {py spos : Pos} (i : Nat) (hc : X.calm = true) (hN : X.N.Nodup) (hy : X.N[i]? = some y) (hyl : X.env.scope.names.lookup y = some .local)
    (hsw : swapsWith (.ListComp elt [⟨tg, iter, ifs, 0⟩] scope pos) (some (.Name y py)) spos.line X.env = pure true) (hi : DI X G tg iter f) (ok : BlkOk X.N X.env.scope scope own) (his : ∀ i ∈ is, i ∈ own.map (·.2)) (hg : BlkG X scope tg is g) (ht : BlkT X scope ifs tt) (he : BlkE X scope elt te) (hs : ∀ x, foldedSetIterable iter X.env x = pure x := by intro _; rfl) :
    PS X (.Assign [.Name y py] (.ListComp elt [⟨tg, iter, ifs, 0⟩] scope pos) spos) (tAsg (tDF X.K X.mg G (mLc f g tt te (own.map (·.2)))) (gName i)) :=
  ps_imp (ps_setLc (g := tAnyG X.K X.mg is g) (tt := tAnyT X.K X.mg tt) (te := tAnyE X.K X.mg te) hc hN hy hyl hsw hi ok
    (fun s H C cl fp => ⟨fun pins s' σ H' v u Q I r ⟨G, q⟩ => (hg s H C cl fp G).run pins s' σ H' v u Q I r q⟩)
    (fun s H C cl fp => ⟨fun pins s' σ H' Q I ⟨G, q⟩ => (ht s H C cl fp G).run pins s' σ H' Q I q⟩)
    (fun s H C cl fp => ⟨fun pins s' σ H' Q I ⟨G, q⟩ => (he s H C cl fp G).run pins s' σ H' Q I q⟩) hs) fun N σ H q => lc_of his σ H _ q
theorem ds_ownLc {y : Str} {py spos : Pos} (i : Nat) (hi0 : i ≠ 0) (hc : X.calm = true) (hN : X.N.Nodup) (hy : X.N[i]? = some y) (hyl : X.env.scope.names.lookup y = some .local)
    (hsw : swapsWith (.ListComp elt [⟨tg, iter, ifs, 0⟩] scope pos) (some (.Name y py)) spos.line X.env = pure true) (hi : DI X G tg iter f) (ok : BlkOk X.N X.env.scope scope own) (his : ∀ i ∈ is, i ∈ own.map (·.2)) (hg : BlkG X scope tg is g) (ht : BlkT X scope ifs tt) (he : BlkE X scope elt te) (hs : ∀ x, foldedSetIterable iter X.env x = pure x := by intro _; rfl) :
    DS X G (.Assign [.Name y py] (.ListComp elt [⟨tg, iter, ifs, 0⟩] scope pos) spos) (sOwn i (mLc f g tt te (own.map (·.2)))) :=
  ps_imp (ds_lcAny i hc hN hy hyl hsw hi ok his hg ht he hs) fun N σ H q => by
    obtain ⟨O, τ, fl, τ', R, e, q⟩ := q
    obtain ⟨d, τ1, e1, e2⟩ := mBind_some e
    cases e2
    refine ⟨O, τ, d, τ1, R, e1, fun p xs H1 O' hp l R' r => ?_⟩
    obtain ⟨R2, l2⟩ := R'.setO (i := i) hp r hi0
    exact q _ _ _ (l.trans l2) R2
/-- y = [..], a list that no one changes any more -/
def sSetL (i : Nat) (f : M (List D)) : M Fl := mBind f fun l => fun τ => some (.nx, τ.set i (some (.val (.lst l))))
theorem ds_setLc {y : Str} {py spos : Pos} (i : Nat) (hc : X.calm = true) (hN : X.N.Nodup) (hy : X.N[i]? = some y) (hyl : X.env.scope.names.lookup y = some .local)
    (hsw : swapsWith (.ListComp elt [⟨tg, iter, ifs, 0⟩] scope pos) (some (.Name y py)) spos.line X.env = pure true) (hi : DI X G tg iter f) (ok : BlkOk X.N X.env.scope scope own) (his : ∀ i ∈ is, i ∈ own.map (·.2)) (hg : BlkG X scope tg is g) (ht : BlkT X scope ifs tt) (he : BlkE X scope elt te) (hs : ∀ x, foldedSetIterable iter X.env x = pure x := by intro _; rfl) :
    DS X G (.Assign [.Name y py] (.ListComp elt [⟨tg, iter, ifs, 0⟩] scope pos) spos) (sSetL i (mLc f g tt te (own.map (·.2)))) :=
  ps_imp (ds_lcAny i hc hN hy hyl hsw hi ok his hg ht he hs) fun N σ H q => by
    obtain ⟨O, τ, fl, τ', R, e, q⟩ := q
    obtain ⟨d, τ1, e1, e2⟩ := mBind_some e
    cases e2
    refine ⟨O, τ, d, τ1, R, e1, fun p xs H1 O' hp l R' r => ?_⟩
    exact q _ _ O' (l.trans (Le.grow (Grow.new hp))) ((R'.grow (Grow.new hp)).setV (new_list R'.live hp r))
end
end
end Dv
set_option Elab.async false
set_option linter.all false
set_option maxRecDepth 100000
set_option maxHeartbeats 4000000
/-! DV7: defs: what they do to data; their calls -/
namespace Dv
open PySem L2
/-- a def keeps its promise where nothing is being shown further out -/
structure FnG (P : Program) (w : World) (K : PySem.W.Frag) (mg : Str → Option Value) (base : Heap) (k : Nat) (f : Addr) (fd : FuncData) (ps : List Str) (sp : Sp) : Prop where
  len : ∀ vs H Q E, sp vs H Q E → vs.length = ps.length
  run : ∀ (A : Around) (outer : List Env) (s : Shared) (H : Hp) (args : Args) (us : List Value) (vs : List V) (Q : VK) (E : XK), Room k A → A.guards = some [] → Env0 P w K mg base A outer s H → BindsTo s fd args (ps.zip us) → Vals vs us → sp vs H Q E →
    codeAny (model P w) A (.call (.ref f) args) (CR CX0 outer P w H s Q E) s
section
variable {P : Program} {w : World} {K : PySem.W.Frag} {mg : Str → Option Value} {base : Heap}
theorem FnG.mono {j k : Nat} {f : Addr} {fd : FuncData} {ps : List Str} {sp : Sp} (F : FnG P w K mg base j f fd ps sp) (h : j ≤ k) : FnG P w K mg base k f fd ps sp :=
  ⟨F.len, fun A outer s H args us vs Q E hr => F.run A outer s H args us vs Q E (hr.mono h)⟩
/-- from a def's body to its promise -/
theorem fnG_of {x qual : Str} {params : Arguments} {body : List Stmt} {scope : Scope} {dvs : List V} {kws : List (Str × V)} {f : Addr} {fd : FuncData} {N ps : List Str} {k : Nat} {sp : Sp} (F : FunD K x qual params body scope dvs kws f fd) (S : FnScope N ps scope)
    (len : ∀ vs H Q E, sp vs H Q E → vs.length = ps.length)
    (hb : ∀ (cdv : Value) (A : Around) (outer : List Env) (s : Shared) (H : Hp) (vs : List V) (Q : VK) (E : XK), Room k (A.deeper (PyProof.Rows.envOfC qual scope s.heap.objs.size f cdv)) → A.guards = some [] → sp vs H Q E →
      ∃ t, PSs (cxOf CX0 P w K mg base N qual scope f cdv A outer s H E).nox body t ∧ t { nx := fun _ H' => Q .non H', rt := Q } (L2.start N vs) H) : FnG P w K mg base (k + 1) f fd ps sp := by
  obtain ⟨oc, od, dV, kV, doc, pm, an, cdv, ct, osl, rfl, lk, hcd, _, _⟩ := F.ex
  refine ⟨len, ?_⟩
  intro A outer s H args us vs Q E hr hgd e0 hbd r hsp
  have hIn : K.In s.heap := e0.mod.kin.keeps fun b o e => (e0.bs b o e).1
  have hLim : s.heap.NoLimit := e0.mod.nolimit.keeps fun b o e => (e0.bs b o e).1
  refine codeAny_call_function hr.depth (hIn _ _ lk) rfl S.co S.gen rfl (PySem.W.codeRec_of hIn hcd) (hbd _ _ _ _ ?_)
  refine wpAny_newFunctionEnv_cells S.kind ?_ ?_
  · rintro ⟨n, v⟩ hy
    rcases S.par n (List.of_mem_zip hy).1 with q | q
    · exact .inl q
    · exact .inr ⟨q, PySem.W.cellsFrom_some _ _ _ (.inl q)⟩
  · rintro env rfl s1 ic
    refine ⟨hLim.keeps ic.toInCall.keep, codeAny_func ?_⟩
    obtain ⟨t, ht, hq⟩ := hb cdv A outer s H vs Q E (hr.deeper _) hgd hsp
    have inv0 := inv_start (CX := CX0) (E := E) S hr.hd e0 (len _ _ _ _ hsp) r ic
    refine wpAny_mono (ht.nox.run [] s1 (L2.start N vs) H _ inv0 hq) ?_ fun _ _ hs => hs
    intro fl s' hs
    cases fl with
    | ret u => obtain ⟨v, σ', H', J, rv, q⟩ := hs; exact ⟨v, H', J.os, J.bare, J.base, J.hok, rv, q⟩
    | next => obtain ⟨σ', H', J, q⟩ := hs; exact ⟨.non, H', J.os, J.bare, J.base, J.hok, rfl, q⟩
    | brk => obtain ⟨_, _, _, q⟩ := hs; exact q.elim
    | cont => obtain ⟨_, _, _, q⟩ := hs; exact q.elim
end

/-! ### promises of data -/
section
variable (K : PySem.W.Frag) (mg : Str → Option Value)
/-- the def's value is F of its arguments' data -/
def spD (n : Nat) (F : List D → Option D) : Sp := fun vs H Q _ => ∃ O ds d, vs.length = n ∧ Live H O ∧ RepL K mg (cut H O) vs ds ∧ F ds = some d ∧ ∀ v H', Grow H H' → Rep K mg (cut H' O) v d → Q v H'
/-- its value is a new list -/
def spF (n : Nat) (F : List D → Option (List D)) : Sp := fun vs H Q _ => ∃ O ds l, vs.length = n ∧ Live H O ∧ RepL K mg (cut H O) vs ds ∧ F ds = some l ∧ ∀ p xs H1, Grow H H1 → H1 p = none → RepL K mg (cut H1 O) xs l → Q (.ref p) (upd H1 p (.lst xs))
/-- its first argument is a list that it writes -/
def spW (n : Nat) (F : List D → List D → Option (D × List D)) : Sp := fun vs H Q _ => ∃ O p xs vs' l ds d l', vs = .ref p :: vs' ∧ vs.length = n ∧ Live H O ∧ p ∈ O ∧ H p = some (.lst xs) ∧ RepL K mg (cut H O) xs l ∧ RepL K mg (cut H O) vs' ds ∧ F l ds = some (d, l') ∧
  ∀ v H' xs', (∀ a o, a ≠ p → H a = some o → H' a = some o) → H' p = some (.lst xs') → RepL K mg (cut H' O) xs' l' → Rep K mg (cut H' O) v d → Q v H'
/-- __init__: a new instance gets its attributes -/
def spI (n : Nat) (c : Nat) (F : List D → Option (List D)) : Sp := fun vs H Q _ => ∃ O p C dx vs' ds fs, vs = .ref p :: vs' ∧ vs.length = n ∧ Live H O ∧ p ∈ O ∧ mg (clsName c) = some (.ref C) ∧ H p = some (.ins C dx []) ∧ RepL K mg (cut H O) vs' ds ∧ F ds = some fs ∧
  ∀ H' dx' xs', (∀ a o, a ≠ p → H a = some o → H' a = some o) → H' p = some (.ins C dx' ((clsFlds c).zip xs')) → (clsFlds c).length = xs'.length → RepL K mg (cut H' O) xs' fs → Q .non H'
end
/-- the slots at a def's entry -/
def start0 (n : Nat) (ds : List D) : Sd := ds.map (fun d => some (.val d)) ++ List.replicate (n - ds.length) none
def retD : Option (Fl × Sd) → Option D
  | some (.rt d, _) => some d
  | some (.rf l, _) => some (.lst l)
  | some (.nx, _) => some .non
  | _ => none
def runD (n : Nat) (f : M Fl) (ds : List D) : Option D := retD (f (start0 n ds))
def retF : Option (Fl × Sd) → Option (List D)
  | some (.rf l, _) => some l
  | _ => none
def runF (n : Nat) (f : M Fl) (ds : List D) : Option (List D) := retF (f (start0 n ds))
def retW : Option (Fl × Sd) → Option (D × List D)
  | some (.rt d, τ) => (ownOf 0 τ).map fun l => (d, l)
  | some (.rf d, τ) => (ownOf 0 τ).map fun l => (.lst d, l)
  | some (.nx, τ) => (ownOf 0 τ).map fun l => (.non, l)
  | _ => none
def runW (n : Nat) (f : M Fl) (l : List D) (ds : List D) : Option (D × List D) := retW (f (some (.own l) :: start0 (n - 1) ds))
def obOf (c : Nat) (τ : Sd) : Option (List D) := match τ[0]? with
  | some (some (Sl.ob c' ns ds)) => if c' = c ∧ ns = clsFlds c then some ds else none
  | _ => none
def retI (c : Nat) : Option (Fl × Sd) → Option (List D)
  | some (.rt .non, τ) => obOf c τ
  | some (.nx, τ) => obOf c τ
  | _ => none
def runI (n : Nat) (c : Nat) (f : M Fl) (ds : List D) : Option (List D) := retI c (f (some (.ob c [] []) :: start0 (n - 1) ds))

section
variable {K : PySem.W.Frag} {mg : Str → Option Value} {H : Hp} {O : List Addr}
theorem start0_get {n : Nat} {ds : List D} {i : Nat} {s : Sl} (h : (start0 n ds)[i]? = some (some s)) : ∃ d, ds[i]? = some d ∧ s = .val d := by
  unfold start0 at h
  by_cases hi : i < ds.length
  · rw [List.getElem?_append_left (by simpa using hi), List.getElem?_map] at h
    cases e : ds[i]? with
    | none => rw [e] at h; cases h
    | some d => rw [e] at h; cases h; exact ⟨d, rfl, rfl⟩
  · rw [List.getElem?_append_right (by simpa using hi), List.getElem?_replicate] at h
    split at h <;> cases h
theorem start_get {N : List Str} {vs : List V} {i : Nat} {v : V} (h : vs[i]? = some v) : (L2.start N vs)[i]? = some (some v) := by
  unfold L2.start
  have hi := getElem?_lt h
  rw [List.getElem?_append_left (by simpa using hi), List.getElem?_map, h]; rfl
theorem SR.start {N : List Str} {vs : List V} {ds : List D} (lv : Live H O) (r : RepL K mg (cut H O) vs ds) (hN : vs.length ≤ N.length) : SR K mg ⟨H, [], O, none⟩ H O (L2.start N vs) (start0 N.length ds) where
  len := by unfold L2.start start0; simp [r.length]
  keep := fun a o h _ => h
  base := fun _ z => z
  own0 := fun _ z => .inl z
  live := lv
  slot := fun i s h => by
    obtain ⟨d, e, rfl⟩ := start0_get h
    obtain ⟨v, e1, r1⟩ := r.get e
    exact ⟨v, start_get e1, r1⟩
  inj := fun i j s t v h1 o1 _ _ _ _ => by
    obtain ⟨d, e, rfl⟩ := start0_get h1
    cases o1
  pin := fun p s hp => by cases hp
/-- a first slot that is owned -/
theorem SR.startO {N : List Str} {p : Addr} {vs : List V} {ds : List D} {s0 : Sl} (lv : Live H O) (hp : p ∈ O) (r : RepL K mg (cut H O) vs ds) (hN : vs.length + 1 ≤ N.length) (hs : s0.isOwn = true) (ok : SlOk K mg ⟨H, [p], O.filter (· ≠ p), some p⟩ H O (.ref p) s0) :
    SR K mg ⟨H, [p], O.filter (· ≠ p), some p⟩ H O (L2.start N (.ref p :: vs)) (some s0 :: start0 (N.length - 1) ds) where
  len := by unfold L2.start start0; simp [r.length]; omega
  keep := fun a o h _ => h
  base := fun q z => (List.mem_filter.mp z).1
  own0 := fun q z => by
    by_cases e : q = p
    · subst e; exact .inr (.inr (by simp))
    · exact .inl (List.mem_filter.mpr ⟨z, by simpa using e⟩)
  live := lv
  slot := fun i s h => by
    cases i with
    | zero => simp at h; subst h; exact ⟨.ref p, start_get rfl, ok⟩
    | succ i =>
      rw [List.getElem?_cons_succ] at h
      obtain ⟨d, e, rfl⟩ := start0_get h
      obtain ⟨v, e1, r1⟩ := r.get e
      exact ⟨v, start_get (by simpa using e1), r1⟩
  inj := fun i j s t v h1 o1 h2 o2 _ _ => by
    have z : ∀ {i : Nat} {s : Sl}, (some s0 :: start0 (N.length - 1) ds)[i]? = some (some s) → s.isOwn = true → i = 0 := fun {i s} h o => by
      cases i with
      | zero => rfl
      | succ i =>
        rw [List.getElem?_cons_succ] at h
        obtain ⟨d, e, rfl⟩ := start0_get h
        cases o
    rw [z h1 o1, z h2 o2]
  pin := fun q s hq h o => by cases hq; exact start_get rfl
end
section
variable {P : Program} {w : World} {K : PySem.W.Frag} {mg : Str → Option Value} {base : Heap}
variable {x qual : Str} {params : Arguments} {body : List Stmt} {scope : Scope} {dvs : List V} {kws : List (Str × V)} {f : Addr} {fd : FuncData} {N ps : List Str} {k : Nat} {m : M Fl}
/-- the context of a def's body -/
abbrev cxD (P : Program) (w : World) (K : PySem.W.Frag) (mg : Str → Option Value) (base : Heap) (N : List Str) (qual : Str) (scope : Scope) (f : Addr) (cdv : Value) (A : Around) (outer : List Env) (s : Shared) (H : Hp) (E : XK) : Cx := (cxOf CX0 P w K mg base N qual scope f cdv A outer s H E).nox
/-- a body's reading, wherever the def is called -/
abbrev BodyD (P : Program) (w : World) (K : PySem.W.Frag) (mg : Str → Option Value) (base : Heap) (N : List Str) (qual : Str) (scope : Scope) (f : Addr) (k : Nat) (body : List Stmt) (m : M Fl) : Prop :=
  ∀ (cdv : Value) (A : Around) (outer : List Env) (s : Shared) (H : Hp) (E : XK), Room k (cxD P w K mg base N qual scope f cdv A outer s H E).A → (cxD P w K mg base N qual scope f cdv A outer s H E).A.guards = some [] → ∀ G, DSs (cxD P w K mg base N qual scope f cdv A outer s H E) G body m
theorem fnD (F : FunD K x qual params body scope dvs kws f fd) (S : FnScope N ps scope) (hb : BodyD P w K mg base N qual scope f k body m) : FnG P w K mg base (k + 1) f fd ps (spD K mg ps.length (runD N.length m)) := by
  have hpl : ps.length ≤ N.length := by have := congrArg List.length S.pre; rw [List.length_take] at this; omega
  refine fnG_of F S (fun vs H Q E h => ?_) (fun cdv A outer s H vs Q E hr hg h => ?_)
  · obtain ⟨O, ds, d, h1, _⟩ := h; exact h1
  · obtain ⟨O, ds, d, h1, lv, r, e, q⟩ := h
    refine ⟨_, hb cdv A outer s H E hr hg ⟨H, [], O, none⟩, ?_⟩
    have R := SR.start (N := N) lv r (by omega)
    unfold runD at e
    cases e1 : m (start0 N.length ds) with
    | none => rw [e1] at e; cases e
    | some pr =>
      obtain ⟨fl, τ'⟩ := pr
      rw [e1] at e
      refine ⟨O, start0 N.length ds, fl, τ', R, e1, ?_⟩
      have fin : ∀ {v : V} {σ' : St} {H' : Hp} {O' : List Addr} {d : D}, SR K mg ⟨H, [], O, none⟩ H' O' σ' τ' → Rep K mg (cut H' O') v d → (∀ v H', Grow H H' → Rep K mg (cut H' O) v d → Q v H') → Q v H' := fun {v σ' H' O' d} R' r' q' =>
        q' v H' (fun a o h => R'.keep a o h (by simp)) (Rep.grow (Grow.less R'.base) r')
      cases fl with
      | nx => cases e; exact fun σ' H' O' l R' => fin R' .non q
      | rt d' => cases e; exact fun v σ' H' O' l R' r' => fin R' r' q
      | rf d' => cases e; exact fun p xs σ' H' O' l hp R' r' => fin (R'.grow (Grow.new hp)) (new_list R'.live hp r') q
      | bk => cases e
      | ct => cases e
theorem fnF (F : FunD K x qual params body scope dvs kws f fd) (S : FnScope N ps scope) (hb : BodyD P w K mg base N qual scope f k body m) : FnG P w K mg base (k + 1) f fd ps (spF K mg ps.length (runF N.length m)) := by
  have hpl : ps.length ≤ N.length := by have := congrArg List.length S.pre; rw [List.length_take] at this; omega
  refine fnG_of F S (fun vs H Q E h => ?_) (fun cdv A outer s H vs Q E hr hg h => ?_)
  · obtain ⟨O, ds, d, h1, _⟩ := h; exact h1
  · obtain ⟨O, ds, d, h1, lv, r, e, q⟩ := h
    refine ⟨_, hb cdv A outer s H E hr hg ⟨H, [], O, none⟩, ?_⟩
    have R := SR.start (N := N) lv r (by omega)
    unfold runF at e
    cases e1 : m (start0 N.length ds) with
    | none => rw [e1] at e; cases e
    | some pr =>
      obtain ⟨fl, τ'⟩ := pr
      rw [e1] at e
      refine ⟨O, start0 N.length ds, fl, τ', R, e1, ?_⟩
      cases fl with
      | rf l => cases e; exact fun p xs σ' H' O' _ hp R' r' => q p xs H' (fun a o h => R'.keep a o h (by simp)) hp (RepL.grow (Grow.less R'.base) r')
      | _ => cases e
theorem fnW (F : FunD K x qual params body scope dvs kws f fd) (S : FnScope N ps scope) (hb : BodyD P w K mg base N qual scope f k body m) : FnG P w K mg base (k + 1) f fd ps (spW K mg ps.length (runW N.length m)) := by
  have hpl : ps.length ≤ N.length := by have := congrArg List.length S.pre; rw [List.length_take] at this; omega
  refine fnG_of F S (fun vs H Q E h => ?_) (fun cdv A outer s H vs Q E hr hg h => ?_)
  · obtain ⟨O, p, xs, vs', l, ds, d, l', _, h1, _⟩ := h; exact h1
  · obtain ⟨O, p, xs, vs', l, ds, d, l', rfl, h1, lv, hpO, hp, rx, r, e, q⟩ := h
    refine ⟨_, hb cdv A outer s H E hr hg ⟨H, [p], O.filter (· ≠ p), some p⟩, ?_⟩
    have R := SR.startO (N := N) (s0 := .own l) lv hpO r (by simp at h1; omega) rfl ⟨p, xs, rfl, hpO, fun z => by simpa using (List.mem_filter.mp z).2, .inr (by simp), hp, rx⟩
    unfold runW at e
    cases e1 : m (some (.own l) :: start0 (N.length - 1) ds) with
    | none => rw [e1] at e; cases e
    | some pr =>
      obtain ⟨fl, τ'⟩ := pr
      rw [e1] at e
      refine ⟨O, _, fl, τ', R, e1, ?_⟩
      have fin : ∀ {v : V} {σ' : St} {H' : Hp} {O' : List Addr} {d' : D}, SR K mg ⟨H, [p], O.filter (· ≠ p), some p⟩ H' O' σ' τ' → Rep K mg (cut H' O') v d' → (ownOf 0 τ').map (fun l => (d', l)) = some (d, l') → Q v H' := fun {v σ' H' O' d'} R' r' eo => by
        cases e2 : ownOf 0 τ' with
        | none => rw [e2] at eo; cases eo
        | some l2 =>
          rw [e2] at eo; cases eo
          obtain ⟨p', xs', ep, hO', hp', rx'⟩ := R'.ownAt (ownOf_some e2)
          have e0 := R'.pin p _ rfl (ownOf_some e2) rfl
          rw [ep] at e0; cases e0
          have sub : ∀ a ∈ O, a ∈ O' := fun a z => by
            by_cases ea : a = p
            · subst ea; exact hO'
            · exact R'.base a (List.mem_filter.mpr ⟨z, by simpa using ea⟩)
          exact q v H' xs' (fun a o na h => R'.keep a o h (by simpa using na)) hp' (RepL.grow (Grow.less sub) rx') (Rep.grow (Grow.less sub) r')
      cases fl with
      | nx => exact fun σ' H' O' _ R' => fin R' .non e
      | rt d' => exact fun v σ' H' O' _ R' r' => fin R' r' e
      | rf d' => exact fun p xs σ' H' O' _ hp R' r' => fin (R'.grow (Grow.new hp)) (new_list R'.live hp r') e
      | bk => cases e
      | ct => cases e
theorem fnI {c : Nat} (F : FunD K x qual params body scope dvs kws f fd) (S : FnScope N ps scope) (hb : BodyD P w K mg base N qual scope f k body m) : FnG P w K mg base (k + 1) f fd ps (spI K mg ps.length c (runI N.length c m)) := by
  have hpl : ps.length ≤ N.length := by have := congrArg List.length S.pre; rw [List.length_take] at this; omega
  refine fnG_of F S (fun vs H Q E h => ?_) (fun cdv A outer s H vs Q E hr hg h => ?_)
  · obtain ⟨O, p, C, dx, vs', ds, fs, _, h1, _⟩ := h; exact h1
  · obtain ⟨O, p, C, dx, vs', ds, fs, rfl, h1, lv, hpO, hC, hp, r, e, q⟩ := h
    refine ⟨_, hb cdv A outer s H E hr hg ⟨H, [p], O.filter (· ≠ p), some p⟩, ?_⟩
    have R := SR.startO (N := N) (s0 := .ob c [] []) lv hpO r (by simp at h1; omega) rfl ⟨p, C, dx, [], rfl, hpO, fun z => by simpa using (List.mem_filter.mp z).2, .inr (by simp), hC, hp, rfl, .nil⟩
    unfold runI at e
    cases e1 : m (some (.ob c [] []) :: start0 (N.length - 1) ds) with
    | none => rw [e1] at e; cases e
    | some pr =>
      obtain ⟨fl, τ'⟩ := pr
      rw [e1] at e
      refine ⟨O, _, fl, τ', R, e1, ?_⟩
      have fin : ∀ {σ' : St} {H' : Hp} {O' : List Addr}, Le H O H' O' → SR K mg ⟨H, [p], O.filter (· ≠ p), some p⟩ H' O' σ' τ' → obOf c τ' = some fs → Q .non H' := fun {σ' H' O'} le R' eo => by
        unfold obOf at eo
        split at eo
        · rename_i c' ns' ds' e2
          split at eo
          case isFalse => cases eo
          rename_i ec
          cases eo
          obtain ⟨v, ev, p', C', dx', xs', rfl, hO', k2, k3, k4, k5, k6, k7⟩ := R'.slot 0 _ e2
          have e0 := R'.pin p _ rfl e2 rfl
          rw [ev] at e0; cases e0
          have sub : ∀ a ∈ O, a ∈ O' := fun a z => by
            by_cases ea : a = p
            · subst ea; exact hO'
            · exact R'.base a (List.mem_filter.mpr ⟨z, by simpa using ea⟩)
          obtain ⟨ec, en⟩ := ec
          subst en
          rw [ec, hC] at k4
          cases k4
          exact q H' dx' xs' (fun a o na h => R'.keep a o h (by simpa using na)) k5 k6 (RepL.grow (Grow.less sub) k7)
        · cases eo
      cases fl with
      | nx => exact fun σ' H' O' le R' => fin le R' e
      | rt d' =>
        intro v σ' H' O' le R' r'
        cases d' with
        | non => cases r'; exact fin le R' e
        | _ => cases e
      | rf d' => cases e
      | bk => cases e
      | ct => cases e
end
end Dv
set_option Elab.async false
set_option linter.all false
set_option maxRecDepth 100000
set_option maxHeartbeats 4000000
/-! DV8: calls of defs, of classes, of methods; properties -/
namespace Dv
open PySem L2
/-- how a call's values come to the parameters, of values and of data -/
structure KB (K : PySem.W.Frag) (mg : Str → Option Value) (fd : FuncData) (ps : List Str) (n : Nat) (ks : List Str) (gD : List D → List D → List D) : Prop where
  b : ∃ g gV, KBn K fd ps n ks g gV ∧ ∀ H vs zs ds es, RepL K mg H vs ds → RepL K mg H zs es → vs.length = n → zs.length = ks.length → RepL K mg H (gV vs zs) (gD ds es) ∧ (gV vs zs).length = ps.length
/-- every parameter is written, by place -/
theorem KB.all {K : PySem.W.Frag} {mg : Str → Option Value} {fd : FuncData} {ps : List Str} (h : Binds K fd ps []) : KB K mg fd ps ps.length [] fun ds _ => ds :=
  ⟨⟨fun us _ => us, fun vs _ => vs, ⟨fun s us ws X l1 l2 => by
    have := h s us X (by simpa using l1)
    simpa using this, fun r _ => r⟩, fun H vs zs ds es r _ h1 _ => ⟨r, h1⟩⟩⟩
section
variable {X : Cx} {k n : Nat} {f C : Addr} {fd : FuncData} {ps ks : List Str} {sp : Sp}
theorem run_G {pins : List (Addr × Obj)} {σ : St} {H : Hp} {s : Shared} {Q : VK} {us ws : List Value} {vs zs : List V} {g : List Value → List Value → List Value} {gV : List V → List V → List V} (F : FnG X.prog X.w X.K X.mg X.base k f fd ps sp) (hr : Room k X.A) (hgd : X.A.guards = some [])
    (hb : KBn X.K fd ps n ks g gV) (I : Inv X pins σ H s) (r : Vals vs us) (rz : Vals zs ws) (l1 : vs.length = n) (l2 : zs.length = ks.length) (h : sp (gV vs zs) H Q E0) : wpAny (model X.prog X.w) X.A (call (.ref f) us (ks.zip ws)) (EP X pins σ Q) X.xe s := by
  have r2 := hb.rel r rz
  refine wpAny_call (codeAny_mono (F.run X.A X.stack s H ⟨us, ks.zip ws⟩ (g us ws) (gV vs zs) Q E0 hr hgd I.env0 (hb.to s us ws I.kIn (r.length.symm.trans l1) (rz.length.symm.trans l2)) r2 h) ?_)
  intro res s' hq
  match res, hq with
  | .ok (.ret u), hq => exact I.after hq
/-- the same where a new instance is made -/
theorem run_mkG {pins : List (Addr × Obj)} {σ : St} {H : Hp} {s : Shared} {Q : VK} {us ws : List Value} {vs zs : List V} {g : List Value → List Value → List Value} {gV : List V → List V → List V} (Mc : Mk X.K C f) (F : FnG X.prog X.w X.K X.mg X.base k f fd ps sp) (hr : Room (k + 1) X.A) (hgd : X.A.guards = some [])
    (hb : KBn X.K fd ps (n + 1) ks g gV) (I : Inv X pins σ H s) (r : Vals vs us) (rz : Vals zs ws) (l1 : vs.length = n) (l2 : zs.length = ks.length)
    (h : ∀ x dx, H x = none → H dx = none → dx ≠ x → sp (gV (.ref x :: vs) zs) (upd (upd H dx (.own x)) x (.ins C dx [])) (fun v H2 => v = .non ∧ Q (.ref x) H2) E0) :
    wpAny (model X.prog X.w) X.A (call (.ref C) us (ks.zip ws)) (EP X pins σ Q) X.xe s := by
  have nx : s.heap.objs.size ≠ s.heap.objs.size + 1 := Nat.ne_of_lt (Nat.lt_succ_self _)
  have hq := h (s.heap.objs.size + 1) s.heap.objs.size (I.hok.fresh (Nat.le_succ _)) (I.hok.fresh (Nat.le_refl _)) nx
  have J := Inv.made (C := C) I
  have n1 : (Value.ref (s.heap.objs.size + 1) :: us).length = n + 1 := by simp [← r.length, l1]
  have r1 : Vals (V.ref (s.heap.objs.size + 1) :: vs) (Value.ref (s.heap.objs.size + 1) :: us) := .cons rfl r
  have gd : (X.A.under (.builtin "type.__call__" ⟨.ref C :: us, ks.zip ws⟩)).guards = some [] := by
    simp [Around.under, pushGuards, Code.guards, Code.isGuard, guardIds, hgd]
  refine wpAny_call (make_map (f := f) I.kIn Mc.makes Mc.init (beq_iff_eq.mp Mc.fn) (codeAny_mono (F.run _ X.stack _ _ ⟨_ :: us, ks.zip ws⟩ (g (_ :: us) ws) _ _ E0 (hr.make C us (ks.zip ws)) gd (J.env0.make C us (ks.zip ws)) (hb.to _ _ ws J.kIn n1 (rz.length.symm.trans l2)) (hb.rel r1 rz) hq) ?_))
  intro res s' hq'
  match res, hq' with
  | .ok (.ret u), hq' =>
    obtain ⟨v, H', I3, rv, ev, q3⟩ := J.after hq'
    subst ev
    exact ⟨rv, ⟨V.ref (s.heap.objs.size + 1), H', I3, rfl, q3⟩⟩
end
/-- the keywords' values as data -/
def DK (X : Cx) (G : Gx) (kws : List Keyword) (f : M (List D)) : Prop := PK X kws (tDA X.K X.mg G f)
section
variable {X : Cx} {G : Gx}
theorem pk_imp {kws : List Keyword} {t t' : TA} (h : PK X kws t) (i : ∀ σ H Q, t' σ H Q → t σ H Q) : PK X kws t' := ⟨fun pos pins s σ H Q I q => h.run pos pins s σ H Q I (i σ H Q q)⟩
theorem dk_nil : DK X G [] aNil := pk_imp pk_nil fun σ H Q q => by
  obtain ⟨O, τ, z, τ', R, e, q⟩ := q
  cases e
  exact q [] H O (Le.refl _ _) R .nil
theorem dk_cons {nm : Option Str} {e : Expr} {kpos : Pos} {kws : List Keyword} {fa : M D} {fr : M (List D)} (ha : DE X G e fa) (hr : DK X G kws fr) : DK X G (⟨nm, e, kpos⟩ :: kws) (aCons fa fr) := pk_imp (pk_cons ha hr) fun σ H Q q => by
  obtain ⟨O, τ, z, τ', R, e, q⟩ := q
  obtain ⟨a, r, τ1, e1, e2, rfl⟩ := aCons_some e
  refine ⟨O, τ, a, τ1, R, e1, fun x H1 O1 l1 R1 r1 => ?_⟩
  refine ⟨O1, τ1, r, τ', R1, e2, fun xs H2 O2 l2 R2 r2 => ?_⟩
  exact q (x :: xs) H2 O2 (l1.trans l2) R2 (.cons (Rep.grow l2 r1) r2)

/-! ### f(a, .., k = b, ..) -/
def mFn {α : Type} (n m : Nat) (gD : List D → List D → List D) (F : List D → Option α) (fa fk : M (List D)) : M α := mBind fa fun ds => mBind fk fun es => mLift (if ds.length = n ∧ es.length = m then F (gD ds es) else none)
theorem mFn_some {α : Type} {n m : Nat} {gD : List D → List D → List D} {F : List D → Option α} {fa fk : M (List D)} {τ τ' : Sd} {d : α} (h : mFn n m gD F fa fk τ = some (d, τ')) : ∃ ds es τ1, fa τ = some (ds, τ1) ∧ fk τ1 = some (es, τ') ∧ ds.length = n ∧ es.length = m ∧ F (gD ds es) = some d := by
  obtain ⟨ds, τ1, e1, e⟩ := mBind_some h
  obtain ⟨es, e2, e3⟩ := mL_some (f := fk) e
  split at e3
  · rename_i hl
    exact ⟨ds, es, τ1, e1, e2, hl.1, hl.2, e3⟩
  · cases e3
section
variable {k n : Nat} {f C : Addr} {fd : FuncData} {ps ks : List Str} {x : Str} {p pos : Pos} {e : Expr} {es : List Expr} {kws : List Keyword} {fa fk : M (List D)} {gD : List D → List D → List D} {nn : Nat}
/-- the promise's side of a call -/
theorem call_D {F : List D → Option D} {gV : List V → List V → List V} {σ : St} {H2 : Hp} {O2 : List Addr} {τ' : Sd} {vs zs : List V} {ds es : List D} {d : D} {Q : VK} {H : Hp} {O : List Addr} (hn : (gV vs zs).length = nn) (hrep : RepL X.K X.mg (cut H2 O2) (gV vs zs) (gD ds es)) (l : Le H O H2 O2) (R2 : SR X.K X.mg G H2 O2 σ τ') (e3 : F (gD ds es) = some d)
    (q : ∀ v H' O', Le H O H' O' → SR X.K X.mg G H' O' σ τ' → Rep X.K X.mg (cut H' O') v d → Q v H') : spD X.K X.mg nn F (gV vs zs) H2 Q E0 :=
  ⟨O2, gD ds es, d, hn, R2.live, hrep, e3, fun v H' g r => q v H' O2 (l.trans (Le.grow g)) (R2.grow g) r⟩
theorem de_call {F : List D → Option D} (Fn : FnG X.prog X.w X.K X.mg X.base k f fd ps (spD X.K X.mg ps.length F)) (hr : Room k X.A) (hgd : X.A.guards = some []) (hg : Gl X x) (hm : X.mg x = some (.ref f)) (hk : PySem.W.keepIn X.K (.ref f) = true) (hb : KB X.K X.mg fd ps n ks gD)
    (ha : DA X G (e :: es) fa) (hkw : DK X G kws fk) (hall : (backToKw pos (keywordEach kws X.env)).all (·.1.isSome) = true := by rfl) (hks : (backToKw pos (keywordEach kws X.env)).filterMap (·.1) = ks := by rfl)
    (hdb : (x == ("__debug__" : Str)) = false := by decide) (he : starEach (e :: es) X.env = (false, eval e X.env) :: starEach es X.env := by rfl)
    (hpl : ((backTo pos (starEach (e :: es) X.env)).any (·.1) || (backToKw pos (keywordEach kws X.env)).any (·.1.isNone)) = false := by rfl) :
    DE X G (.Call (.Name x p) (e :: es) kws pos) (mFn n ks.length gD F fa fk) := ⟨fun pins s σ H Q I q => by
  obtain ⟨O, τ, d, τ', R, e1, q⟩ := q
  obtain ⟨ds, es', τ1, e2, e3, n1, n2, e4⟩ := mFn_some e1
  obtain ⟨g, gV, kb, rep⟩ := hb.b
  refine wpAny_Call_Name_kw (ld_glob I hg hm ?_ hdb)
  refine PySem.W.callWith_KW (h₀ := X.base) I.ok.mod.kin hk hall (thn (ha.run pos pins s σ H (fun vs H1 => ∃ O1, Le H O H1 O1 ∧ SR X.K X.mg G H1 O1 σ τ1 ∧ RepL X.K X.mg (cut H1 O1) vs ds) I ⟨O, τ, ds, τ1, R, e2, fun vs H1 O1 l1 R1 r1 => ⟨O1, l1, R1, r1⟩⟩) ?_) hpl he
  rintro us s1 ⟨vs, H1, I1, r, O1, l1, R1, r1⟩
  refine thn (hkw.run pos pins s1 σ H1 (fun zs H2 => ∃ O2, Le H1 O1 H2 O2 ∧ SR X.K X.mg G H2 O2 σ τ' ∧ RepL X.K X.mg (cut H2 O2) zs es') I1 ⟨O1, τ1, es', τ', R1, e3, fun zs H2 O2 l2 R2 r2 => ⟨O2, l2, R2, r2⟩⟩) ?_
  rintro ws s2 ⟨zs, H2, I2, rz, O2, l2, R2, r2⟩
  refine ⟨I2.kIn, ?_⟩
  rw [hks]
  have m1 : vs.length = n := r1.length.trans n1
  have m2 : zs.length = ks.length := r2.length.trans n2
  obtain ⟨rg, hl⟩ := rep _ vs zs ds es' (RepL.grow l2 r1) r2 m1 m2
  exact run_G Fn hr hgd kb I2 r rz m1 m2 (call_D (gV := gV) (gD := gD) hl rg (l1.trans l2) R2 e4 q)⟩
theorem df_callF {F : List D → Option (List D)} (Fn : FnG X.prog X.w X.K X.mg X.base k f fd ps (spF X.K X.mg ps.length F)) (hr : Room k X.A) (hgd : X.A.guards = some []) (hg : Gl X x) (hm : X.mg x = some (.ref f)) (hk : PySem.W.keepIn X.K (.ref f) = true) (hb : KB X.K X.mg fd ps n ks gD)
    (ha : DA X G (e :: es) fa) (hkw : DK X G kws fk) (hall : (backToKw pos (keywordEach kws X.env)).all (·.1.isSome) = true := by rfl) (hks : (backToKw pos (keywordEach kws X.env)).filterMap (·.1) = ks := by rfl)
    (hdb : (x == ("__debug__" : Str)) = false := by decide) (he : starEach (e :: es) X.env = (false, eval e X.env) :: starEach es X.env := by rfl)
    (hpl : ((backTo pos (starEach (e :: es) X.env)).any (·.1) || (backToKw pos (keywordEach kws X.env)).any (·.1.isNone)) = false := by rfl) :
    DF X G (.Call (.Name x p) (e :: es) kws pos) (mFn n ks.length gD F fa fk) := ⟨fun pins s σ H Q I q => by
  obtain ⟨O, τ, d, τ', R, e1, q⟩ := q
  obtain ⟨ds, es', τ1, e2, e3, n1, n2, e4⟩ := mFn_some e1
  obtain ⟨g, gV, kb, rep⟩ := hb.b
  refine wpAny_Call_Name_kw (ld_glob I hg hm ?_ hdb)
  refine PySem.W.callWith_KW (h₀ := X.base) I.ok.mod.kin hk hall (thn (ha.run pos pins s σ H (fun vs H1 => ∃ O1, Le H O H1 O1 ∧ SR X.K X.mg G H1 O1 σ τ1 ∧ RepL X.K X.mg (cut H1 O1) vs ds) I ⟨O, τ, ds, τ1, R, e2, fun vs H1 O1 l1 R1 r1 => ⟨O1, l1, R1, r1⟩⟩) ?_) hpl he
  rintro us s1 ⟨vs, H1, I1, r, O1, l1, R1, r1⟩
  refine thn (hkw.run pos pins s1 σ H1 (fun zs H2 => ∃ O2, Le H1 O1 H2 O2 ∧ SR X.K X.mg G H2 O2 σ τ' ∧ RepL X.K X.mg (cut H2 O2) zs es') I1 ⟨O1, τ1, es', τ', R1, e3, fun zs H2 O2 l2 R2 r2 => ⟨O2, l2, R2, r2⟩⟩) ?_
  rintro ws s2 ⟨zs, H2, I2, rz, O2, l2, R2, r2⟩
  refine ⟨I2.kIn, ?_⟩
  rw [hks]
  have m1 : vs.length = n := r1.length.trans n1
  have m2 : zs.length = ks.length := r2.length.trans n2
  obtain ⟨rg, hl⟩ := rep _ vs zs ds es' (RepL.grow l2 r1) r2 m1 m2
  exact run_G Fn hr hgd kb I2 r rz m1 m2 ⟨O2, gD ds es', d, hl, R2.live, rg, e4, fun pp xs H3 g3 hp r3 => q pp xs H3 O2 hp ((l1.trans l2).trans (Le.grow g3)) (R2.grow g3) r3⟩⟩

/-! ### f(xs, ..) that writes the list xs of one's own -/
def mFnW (i n : Nat) (F : List D → List D → Option (D × List D)) (fa : M (List D)) : M D := fun τ0 => match ownOf i τ0 with
  | none => none
  | some _ => match fa τ0 with
    | none => none
    | some (ds, τ1) => match ownOf i τ1 with
      | none => none
      | some l => if ds.length + 1 = n then (match F l ds with
        | none => none
        | some (d, l') => some (d, τ1.set i (some (.own l')))) else none
theorem mFnW_some {i n : Nat} {F : List D → List D → Option (D × List D)} {fa : M (List D)} {τ τ' : Sd} {d : D} (h : mFnW i n F fa τ = some (d, τ')) : ∃ l0 ds τ1 l l', τ[i]? = some (some (.own l0)) ∧ fa τ = some (ds, τ1) ∧ τ1[i]? = some (some (.own l)) ∧ ds.length + 1 = n ∧ F l ds = some (d, l') ∧ τ' = τ1.set i (some (.own l')) := by
  unfold mFnW at h
  split at h
  · cases h
  · rename_i l0 e0
    split at h
    · cases h
    · rename_i ds τ1 e1
      split at h
      · cases h
      · rename_i l e2
        split at h
        · rename_i hl
          split at h
          · cases h
          · rename_i d' l' e3
            cases h
            exact ⟨l0, ds, τ1, l, l', ownOf_some e0, e1, ownOf_some e2, hl, e3, rfl⟩
        · cases h
/-- behind a call that wrote the list at p -/
theorem SR.wrote {K : PySem.W.Frag} {mg : Str → Option Value} {H H' : Hp} {O : List Addr} {σ : St} {τ : Sd} {i : Nat} {p : Addr} {l l' : List D} {xs xs' : List V} (R : SR K mg G H O σ τ) (e : τ[i]? = some (some (.own l))) (ev : σ[i]? = some (some (.ref p))) (hp : H p = some (.lst xs)) (hO : p ∈ O)
    (kp : ∀ a o, a ≠ p → H a = some o → H' a = some o) (hp' : H' p = some (.lst xs')) (r : RepL K mg (cut H' O) xs' l') : SR K mg G H' O σ (τ.set i (some (.own l'))) ∧ Le H O H' O := by
  have gw : Grow (upd H p (.lst xs')) H' := fun a o h => by
    by_cases ea : a = p
    · subst ea; rw [upd_same] at h; cases h; exact hp'
    · rw [upd_ne ea] at h; exact kp a o ea h
  have le : Le H O H' O := fun a o h => by
    obtain ⟨n, e'⟩ := cut_some h
    exact cut_of n (kp a o (fun q => n (q ▸ hO)) e')
  obtain ⟨R1, l1⟩ := R.write (l' := l) (xs' := xs) e ev hp hO (by
    obtain ⟨v, ev', p', ys, rfl, h1, h2, h3, h4, h5⟩ := R.slot i _ e
    rw [ev] at ev'; cases ev'
    rw [hp] at h4; cases h4
    exact h5)
  obtain ⟨v, ev', p', ys, rfl, h1, h2, h3, h4, h5⟩ := R.slot i _ e
  rw [ev] at ev'; cases ev'
  refine ⟨⟨by simp [R.len], fun a o h n => ?_, R.base, R.own0, fun q z => ?_, fun j s h => ?_, fun j k s t w h1' o1 h2' o2 e1 e2 => ?_, fun q s hq h o => ?_⟩, le⟩
  · have : a ≠ p := fun q => by
      subst q
      rcases h3 with z | z
      · rw [z] at h; cases h
      · exact n z
    exact kp a o this (R.keep a o h n)
  · by_cases eq : q = p
    · subst eq; exact .inl ⟨xs', hp'⟩
    · rcases R.live q z with ⟨ys, e'⟩ | ⟨C, dx, fs, e'⟩
      · exact .inl ⟨ys, kp _ _ eq e'⟩
      · exact .inr ⟨C, dx, fs, kp _ _ eq e'⟩
  · by_cases ej : i = j
    · subst ej
      rw [List.getElem?_set_self (getElem?_lt e)] at h
      cases h
      exact ⟨_, ev, p, xs', rfl, hO, h2, h3, hp', r⟩
    · rw [List.getElem?_set_ne ej] at h
      obtain ⟨w, ew, ok⟩ := R.slot j s h
      refine ⟨w, ew, ?_⟩
      cases s with
      | val d => exact Rep.grow le ok
      | own l'' =>
        obtain ⟨q, ys', rfl, k1, k2, k3, k4, k5⟩ := ok
        have nq : q ≠ p := fun eq => by subst eq; exact ej (R.inj i j _ _ _ e rfl h rfl ev ew)
        exact ⟨q, ys', rfl, k1, k2, k3, kp _ _ nq k4, RepL.grow le k5⟩
      | ob c ns ds =>
        obtain ⟨q, C, dx, ys', rfl, k1, k2, k3, k4, k5, k6, k7⟩ := ok
        have nq : q ≠ p := fun eq => by subst eq; exact ej (R.inj i j _ _ _ e rfl h rfl ev ew)
        exact ⟨q, C, dx, ys', rfl, k1, k2, k3, k4, kp _ _ nq k5, k6, RepL.grow le k7⟩
  · have at_ : ∀ {j : Nat} {s : Sl}, (τ.set i (some (Sl.own l')))[j]? = some (some s) → s.isOwn = true → ∃ s', τ[j]? = some (some s') ∧ s'.isOwn = true := fun {j s} h o => by
      by_cases q : i = j
      · subst q; exact ⟨_, e, rfl⟩
      · rw [List.getElem?_set_ne q] at h; exact ⟨s, h, o⟩
    obtain ⟨s', a1, a2⟩ := at_ h1' o1
    obtain ⟨t', b1, b2⟩ := at_ h2' o2
    exact R.inj j k s' t' w a1 a2 b1 b2 e1 e2
  · by_cases ei : i = 0
    · subst ei
      exact R.pin q _ hq e rfl
    · rw [List.getElem?_set_ne ei] at h
      exact R.pin q s hq h o
theorem de_callW {F : List D → List D → Option (D × List D)} {o : Expr} (i : Nat) (ho : PE X o (tVar i)) (Fn : FnG X.prog X.w X.K X.mg X.base k f fd ps (spW X.K X.mg ps.length F)) (hr : Room k X.A) (hgd : X.A.guards = some []) (hg : Gl X x) (hm : X.mg x = some (.ref f)) (hk : PySem.W.keepIn X.K (.ref f) = true) (hb : Binds X.K fd ps [])
    (ha : DA X G es fa) (hdb : (x == ("__debug__" : Str)) = false := by decide) (hst : starEach (o :: es) X.env = (false, eval o X.env) :: starEach es X.env := by rfl) (hpl : (backTo pos (starEach es X.env)).any (·.1) = false := by rfl) :
    DE X G (.Call (.Name x p) (o :: es) [] pos) (mFnW i ps.length F fa) := ⟨fun pins s σ H Q I q => by
  obtain ⟨O, τ, d, τ', R, e1, q⟩ := q
  obtain ⟨l0, ds, τ1, l, l', e2, e3, e4, n1, e5, rfl⟩ := mFnW_some e1
  obtain ⟨p0, xs0, ep0, _⟩ := R.ownAt e2
  have A1 := pa_cons ho ha hst
  refine wpAny_Call_Name_kw (ld_glob I hg hm ?_ hdb)
  refine PySem.W.callWith_K (h₀ := X.base) I.ok.mod.kin hk (thn (A1.run pos pins s σ H (fun vs H1 => ∃ vs' O1, vs = .ref p0 :: vs' ∧ Le H O H1 O1 ∧ SR X.K X.mg G H1 O1 σ τ1 ∧ RepL X.K X.mg (cut H1 O1) vs' ds) I ⟨.ref p0, ep0, O, τ, ds, τ1, R, e3, fun vs H1 O1 l1 R1 r1 => ⟨vs, O1, rfl, l1, R1, r1⟩⟩) ?_) hst hpl
  rintro us s1 ⟨vs, H1, I1, r, vs', O1, rfl, l1, R1, r1⟩
  refine ⟨I1.kIn, ?_⟩
  obtain ⟨p1, xs1, ep1, hO1, hp1, rx1⟩ := R1.ownAt e4
  rw [ep0] at ep1; cases ep1
  have hl : us.length = ps.length := by rw [← r.length, ← n1]; simp [r1.length]
  refine wpAny_call (codeAny_mono (Fn.run X.A X.stack s1 H1 ⟨us, []⟩ us (.ref p0 :: vs') Q E0 hr hgd I1.env0 (by have := hb s1 us I1.kIn (by simpa using hl); simpa using this) r ?_) ?_)
  · refine ⟨O1, p0, xs1, vs', l, ds, d, l', rfl, by simp [r1.length, n1], R1.live, hO1, hp1, rx1, r1, e5, fun v H' xs' kp hp' rx' rv => ?_⟩
    obtain ⟨R2, l2⟩ := R1.wrote e4 ep0 hp1 hO1 kp hp' rx'
    exact q v H' O1 (l1.trans l2) R2 rv
  · intro res s' hq
    match res, hq with
    | .ok (.ret u), hq => exact I1.after hq⟩

/-! ### C(a, .., k = b, ..): a new instance -/
def mMk (c n m : Nat) (gD : List D → List D → List D) (F : List D → Option (List D)) (fa fk : M (List D)) : M D := mBind (mFn n m gD F fa fk) fun ds => mPure (.obj c ds)
/-- how the values behind self come to the parameters -/
structure KI (K : PySem.W.Frag) (mg : Str → Option Value) (fd : FuncData) (ps : List Str) (n : Nat) (ks : List Str) (gD : List D → List D → List D) : Prop where
  b : ∃ (g : List Value → List Value → List Value) (gV gW : List V → List V → List V), KBn K fd ps (n + 1) ks g gV ∧ ∀ H x vs zs ds es, RepL K mg H vs ds → RepL K mg H zs es → vs.length = n → zs.length = ks.length → gV (x :: vs) zs = x :: gW vs zs ∧ RepL K mg H (gW vs zs) (gD ds es) ∧ (gW vs zs).length + 1 = ps.length
theorem mk_side {c : Nat} {F : List D → Option (List D)} {σ : St} {H2 : Hp} {O2 : List Addr} {τ' : Sd} {ws : List V} {ds fs : List D} {Q : VK} {H : Hp} {O : List Addr} (hC : X.mg (clsName c) = some (.ref C)) (hn : ws.length + 1 = nn) (rw_ : RepL X.K X.mg (cut H2 O2) ws ds) (l : Le H O H2 O2) (R2 : SR X.K X.mg G H2 O2 σ τ') (e3 : F ds = some fs)
    (q : ∀ v H' O', Le H O H' O' → SR X.K X.mg G H' O' σ τ' → Rep X.K X.mg (cut H' O') v (.obj c fs) → Q v H') (x dx : Addr) (hx : H2 x = none) (hdx : H2 dx = none) (nx : dx ≠ x) :
    spI X.K X.mg nn c F (.ref x :: ws) (upd (upd H2 dx (.own x)) x (.ins C dx [])) (fun v H3 => v = .non ∧ Q (.ref x) H3) E0 := by
  have hx1 : upd H2 dx (.own x) x = none := by rw [upd_ne (Ne.symm nx)]; exact hx
  have g2 : Grow H2 (upd (upd H2 dx (.own x)) x (.ins C dx [])) := (Grow.new hdx).trans (Grow.new hx1)
  have gc : Grow (cut H2 O2) (cut (upd (upd H2 dx (.own x)) x (.ins C dx [])) (x :: O2)) := fun a o h => by
    obtain ⟨n1, e1⟩ := cut_some h
    have na : a ≠ x := ne_of_none e1 hx
    exact cut_of (by simp [na, n1]) (g2 _ _ e1)
  refine ⟨x :: O2, x, C, dx, ws, ds, fs, rfl, by simpa using hn, ?_, List.mem_cons_self, hC, upd_same, RepL.grow gc rw_, e3, fun H' dx' xs' kp hp hl rx => ⟨rfl, ?_⟩⟩
  · intro a z
    rcases List.mem_cons.mp z with z | z
    · subst z; exact .inr ⟨C, dx, [], upd_same⟩
    · exact R2.live.grow g2 a z
  · have g3 : Grow H2 H' := fun a o h => kp a o (ne_of_none h hx) (g2 _ _ h)
    have nO : x ∉ O2 := R2.live.ne hx
    refine q (.ref x) H' O2 (l.trans (Le.grow g3)) (R2.grow g3) (.obj hC (cut_of nO hp) hl (RepL.grow (Grow.less fun a z => List.mem_cons_of_mem _ z) rx))
theorem de_mk {c : Nat} {F : List D → Option (List D)} (Mc : Mk X.K C f) (Fn : FnG X.prog X.w X.K X.mg X.base k f fd ps (spI X.K X.mg ps.length c F)) (hr : Room (k + 1) X.A) (hgd : X.A.guards = some []) (hg : Gl X (clsName c)) (hm : X.mg (clsName c) = some (.ref C)) (hb : KI X.K X.mg fd ps n ks gD)
    (hx : x = clsName c) (ha : DA X G (e :: es) fa) (hkw : DK X G kws fk) (hall : (backToKw pos (keywordEach kws X.env)).all (·.1.isSome) = true := by rfl) (hks : (backToKw pos (keywordEach kws X.env)).filterMap (·.1) = ks := by rfl)
    (hdb : (x == ("__debug__" : Str)) = false := by decide) (he : starEach (e :: es) X.env = (false, eval e X.env) :: starEach es X.env := by rfl)
    (hpl : ((backTo pos (starEach (e :: es) X.env)).any (·.1) || (backToKw pos (keywordEach kws X.env)).any (·.1.isNone)) = false := by rfl) :
    DE X G (.Call (.Name x p) (e :: es) kws pos) (mMk c n ks.length gD F fa fk) := ⟨fun pins s σ H Q I q => by
  subst hx
  obtain ⟨O, τ, d, τ', R, e1, q⟩ := q
  obtain ⟨fs, τ0, e1, e0⟩ := mBind_some e1
  cases e0
  obtain ⟨ds, es', τ1, e2, e3, n1, n2, e4⟩ := mFn_some e1
  obtain ⟨g, gV, gW, kb, rep⟩ := hb.b
  refine wpAny_Call_Name_kw (ld_glob I hg hm ?_ hdb)
  refine PySem.W.callWith_KW (h₀ := X.base) I.ok.mod.kin Mc.kp hall (thn (ha.run pos pins s σ H (fun vs H1 => ∃ O1, Le H O H1 O1 ∧ SR X.K X.mg G H1 O1 σ τ1 ∧ RepL X.K X.mg (cut H1 O1) vs ds) I ⟨O, τ, ds, τ1, R, e2, fun vs H1 O1 l1 R1 r1 => ⟨O1, l1, R1, r1⟩⟩) ?_) hpl he
  rintro us s1 ⟨vs, H1, I1, r, O1, l1, R1, r1⟩
  refine thn (hkw.run pos pins s1 σ H1 (fun zs H2 => ∃ O2, Le H1 O1 H2 O2 ∧ SR X.K X.mg G H2 O2 σ τ' ∧ RepL X.K X.mg (cut H2 O2) zs es') I1 ⟨O1, τ1, es', τ', R1, e3, fun zs H2 O2 l2 R2 r2 => ⟨O2, l2, R2, r2⟩⟩) ?_
  rintro ws s2 ⟨zs, H2, I2, rz, O2, l2, R2, r2⟩
  refine ⟨I2.kIn, ?_⟩
  rw [hks]
  have m1 : vs.length = n := r1.length.trans n1
  have m2 : zs.length = ks.length := r2.length.trans n2
  refine run_mkG Mc Fn hr hgd kb I2 r rz m1 m2 fun xa dx hxa hdx nx => ?_
  obtain ⟨eg, rg, hl⟩ := rep _ (.ref xa) vs zs ds es' (RepL.grow l2 r1) r2 m1 m2
  rw [eg]
  exact mk_side hm hl rg (l1.trans l2) R2 e4 q xa dx hxa hdx nx⟩
/-- the same without a positional argument -/
theorem de_mk0 {c : Nat} {F : List D → Option (List D)} (Mc : Mk X.K C f) (Fn : FnG X.prog X.w X.K X.mg X.base k f fd ps (spI X.K X.mg ps.length c F)) (hr : Room (k + 1) X.A) (hgd : X.A.guards = some []) (hg : Gl X (clsName c)) (hm : X.mg (clsName c) = some (.ref C)) (hb : KI X.K X.mg fd ps 0 ks gD)
    (hx : x = clsName c) (hkw : DK X G kws fk) (hall : (backToKw pos (keywordEach kws X.env)).all (·.1.isSome) = true := by rfl) (hks : (backToKw pos (keywordEach kws X.env)).filterMap (·.1) = ks := by rfl)
    (hdb : (x == ("__debug__" : Str)) = false := by decide) (hpl : ((backTo pos (starEach [] X.env)).any (·.1) || (backToKw pos (keywordEach kws X.env)).any (·.1.isNone)) = false := by rfl) :
    DE X G (.Call (.Name x p) [] kws pos) (mMk c 0 ks.length gD F aNil fk) := ⟨fun pins s σ H Q I q => by
  subst hx
  obtain ⟨O, τ, d, τ', R, e1, q⟩ := q
  obtain ⟨fs, τ0, e1, e0⟩ := mBind_some e1
  cases e0
  obtain ⟨ds, es', τ1, e2, e3, n1, n2, e4⟩ := mFn_some e1
  cases e2
  obtain ⟨g, gV, gW, kb, rep⟩ := hb.b
  refine wpAny_Call_Name_kw (ld_glob I hg hm ?_ hdb)
  refine PySem.W.callWith_KW0 (h₀ := X.base) I.ok.mod.kin Mc.kp hall ?_ hpl
  refine thn (hkw.run pos pins s σ H (fun zs H2 => ∃ O2, Le H O H2 O2 ∧ SR X.K X.mg G H2 O2 σ τ' ∧ RepL X.K X.mg (cut H2 O2) zs es') I ⟨O, τ, es', τ', R, e3, fun zs H2 O2 l2 R2 r2 => ⟨O2, l2, R2, r2⟩⟩) ?_
  rintro ws s2 ⟨zs, H2, I2, rz, O2, l2, R2, r2⟩
  refine ⟨I2.kIn, ?_⟩
  rw [hks]
  have m2 : zs.length = ks.length := r2.length.trans n2
  refine run_mkG (us := []) (vs := []) Mc Fn hr hgd kb I2 .nil rz rfl m2 fun xa dx hxa hdx nx => ?_
  obtain ⟨eg, rg, hl⟩ := rep _ (.ref xa) [] zs [] es' .nil r2 rfl m2
  rw [eg]
  exact mk_side hm hl rg l2 R2 e4 q xa dx hxa hdx nx⟩
end
end
end Dv
set_option Elab.async false
set_option linter.all false
set_option maxRecDepth 100000
set_option maxHeartbeats 4000000
/-! DV9: attributes, methods, properties of instances -/
namespace Dv
open PySem L2
/-- the class numbered c stands at C -/
structure ClsF (K : PySem.W.Frag) (mg : Str → Option Value) (c : Nat) (C : Addr) : Prop where
  g : mg (clsName c) = some (.ref C)
  cl : Cls K C
  ca : PySem.W.findIn K (.ref C) "__class__" = some (some (.builtin "object.__class__"))
  cn : PySem.W.specialIn K (.builtin "object.__class__") "__get__" = some (some (.builtin "getset_descriptor.__get__"))
  ct : PySem.W.takesIn K (.builtin "object.__class__") = some true
  cm : PySem.W.mroIn K C (.type "object") = some true
theorem lookup_zip_none {m : Str} : ∀ {ns : List Str} {xs : List V}, m ∉ ns → (ns.zip xs).lookup m = none
  | [], _, _ => rfl
  | _ :: _, [], _ => rfl
  | n :: ns, x :: xs, h => by
    simp only [List.mem_cons, not_or] at h
    rw [List.zip_cons_cons, List.lookup_cons]
    have : (m == n) = false := by simpa using h.1
    rw [this]
    exact lookup_zip_none h.2
section
variable {X : Cx} {G : Gx} {k n : Nat} {f C : Addr} {fd : FuncData} {ps : List Str} {m x : Str} {p pos apos : Pos} {o e : Expr} {es : List Expr} {fa : M (List D)} {fo : M D} {cs : List Nat}
/-- o.f, the first attribute -/
def fldD (cs : List Nat) : D → Option D
  | .obj c ds => if c ∈ cs then ds[0]? else none
  | _ => none
theorem de_fld (ho : DE X G o fo) (hcs : ∀ c ∈ cs, ∃ C, ClsF X.K X.mg c C ∧ NoAttr X.K C m ∧ (clsFlds c)[0]? = some m) (hb : attributeBase o m X.env (eval o X.env) = eval o X.env := by rfl) : DE X G (.Attribute o m pos) (m1 (fldD cs) fo) :=
  pe_imp (pe_fld ho hb) fun σ H Q q => by
    obtain ⟨O, τ, z, τ', R, e, q⟩ := q
    obtain ⟨a, e1, e2⟩ := m1_some e
    refine ⟨O, τ, a, τ', R, e1, fun v H1 O1 l1 R1 r1 => ?_⟩
    cases r1 with
    | @obj ad C dx c xs ds h1 h2 h3 rl =>
      simp only [fldD] at e2
      split at e2
      · rename_i hc
        obtain ⟨C', hF, hn, hf⟩ := hcs c hc
        rw [hF.g] at h1; cases h1
        obtain ⟨y, ey, ry⟩ := rl.get e2
        refine ⟨ad, C, dx, _, y, rfl, (cut_some h2).2, hF.cl, hn, ?_, q y H1 O1 l1 R1 ry⟩
        cases en : clsFlds c with
        | nil => rw [en] at hf; cases hf
        | cons a as =>
          rw [en] at hf; cases hf
          cases xs with
          | nil => cases ey
          | cons b bs => cases ey; simp [List.lookup_cons]
      · cases e2
    | _ => simp [fldD] at e2
/-- self.f = e, the first attribute of an instance in the making -/
def sSetF (i : Nat) (f : Str) (fv : M D) : M Fl := mBind fv fun d => fun τ => match τ[i]? with
  | some (some (.ob c [] [])) => some (.nx, τ.set i (some (.ob c [f] [d])))
  | _ => none
theorem SR.putOb {K : PySem.W.Frag} {mg : Str → Option Value} {H : Hp} {O : List Addr} {σ : St} {τ : Sd} {i : Nat} {c : Nat} {ns : List Str} {ds : List D} {p C dx : Addr} {ns' : List Str} {ds' : List D} {xs' : List V} {fs : List (Str × V)} (R : SR K mg G H O σ τ) (e : τ[i]? = some (some (.ob c ns ds))) (ev : σ[i]? = some (some (.ref p))) (hO : p ∈ O) (hC : mg (clsName c) = some (.ref C)) (hp : H p = some (.ins C dx fs))
    (hl : ns'.length = xs'.length) (r : RepL K mg (cut H O) xs' ds') : SR K mg G (upd H p (.ins C dx (ns'.zip xs'))) O σ (τ.set i (some (.ob c ns' ds'))) ∧ Le H O (upd H p (.ins C dx (ns'.zip xs'))) O := by
  have ec : cut (upd H p (.ins C dx (ns'.zip xs'))) O = cut H O := by
    funext a
    unfold cut
    by_cases z : a ∈ O
    · rw [if_pos z, if_pos z]
    · rw [if_neg z, if_neg z, upd_ne (fun q => by subst q; exact z hO)]
  obtain ⟨v, ev', p', C', dx', ys, rfl, h1, h2, h3, h4, h5, h6, h7⟩ := R.slot i _ e
  rw [ev] at ev'; cases ev'
  refine ⟨⟨by simp [R.len], fun a o h n => ?_, R.base, R.own0, fun q z => ?_, fun j s h => ?_, fun j k s t w h1' o1 h2' o2 e1 e2 => ?_, fun q s hq h o => ?_⟩, by unfold Le; rw [ec]; exact Grow.refl _⟩
  · have : a ≠ p := fun q => by
      subst q
      rcases h3 with z | z
      · rw [z] at h; cases h
      · exact n z
    rw [upd_ne this]; exact R.keep a o h n
  · by_cases eq : q = p
    · subst eq; exact .inr ⟨C, dx, _, upd_same⟩
    · rcases R.live q z with ⟨ys, e'⟩ | ⟨C, dx, fs, e'⟩
      · exact .inl ⟨ys, by rw [upd_ne eq]; exact e'⟩
      · exact .inr ⟨C, dx, fs, by rw [upd_ne eq]; exact e'⟩
  · by_cases ej : i = j
    · subst ej
      rw [List.getElem?_set_self (getElem?_lt e)] at h
      cases h
      exact ⟨_, ev, p, C, dx, xs', rfl, hO, h2, h3, hC, upd_same, hl, by rw [ec]; exact r⟩
    · rw [List.getElem?_set_ne ej] at h
      obtain ⟨w, ew, ok⟩ := R.slot j s h
      refine ⟨w, ew, ?_⟩
      cases s with
      | val d => show Rep K mg (cut _ O) w d; rw [ec]; exact ok
      | own l'' =>
        obtain ⟨q, ys', rfl, k1, k2, k3, k4, k5⟩ := ok
        have nq : q ≠ p := fun eq => by subst eq; exact ej (R.inj i j _ _ _ e rfl h rfl ev ew)
        exact ⟨q, ys', rfl, k1, k2, k3, by rw [upd_ne nq]; exact k4, by rw [ec]; exact k5⟩
      | ob c ns ds =>
        obtain ⟨q, C, dx, ys', rfl, k1, k2, k3, k4, k5, k6, k7⟩ := ok
        have nq : q ≠ p := fun eq => by subst eq; exact ej (R.inj i j _ _ _ e rfl h rfl ev ew)
        exact ⟨q, C, dx, ys', rfl, k1, k2, k3, k4, by rw [upd_ne nq]; exact k5, k6, by rw [ec]; exact k7⟩
  · have at_ : ∀ {j : Nat} {s : Sl}, (τ.set i (some (Sl.ob c ns' ds')))[j]? = some (some s) → s.isOwn = true → ∃ s', τ[j]? = some (some s') ∧ s'.isOwn = true := fun {j s} h o => by
      by_cases q : i = j
      · subst q; exact ⟨_, e, rfl⟩
      · rw [List.getElem?_set_ne q] at h; exact ⟨s, h, o⟩
    obtain ⟨s', a1, a2⟩ := at_ h1' o1
    obtain ⟨t', b1, b2⟩ := at_ h2' o2
    exact R.inj j k s' t' w a1 a2 b1 b2 e1 e2
  · by_cases ei : i = 0
    · subst ei
      exact R.pin q _ hq e rfl
    · rw [List.getElem?_set_ne ei] at h
      exact R.pin q s hq h o
theorem ds_setF {e : Expr} {pos' : Pos} {fv : M D} (i : Nat) (ho : PE X o (tVar i)) (he : DE X G e fv) (hcs : ∀ c ∈ cs, ∃ C, ClsF X.K X.mg c C ∧ NoAttr X.K C m) (hs : swapsWith e (some (.Attribute o m pos')) pos.line X.env = pure false := by rfl) :
    DS X G (.Assign [.Attribute o m pos'] e pos) (mBind fv fun d => fun τ => match τ[i]? with
      | some (some (.ob c [] [])) => if c ∈ cs then some (.nx, τ.set i (some (.ob c [m] [d]))) else none
      | _ => none) := ps_imp (ps_fld ho he hs) fun N σ H q => by
  obtain ⟨O, τ, fl, τ', R, e1, q⟩ := q
  obtain ⟨d, τ1, e2, e1⟩ := mBind_some e1
  split at e1
  · rename_i c e3
    split at e1
    · rename_i hc
      cases e1
      refine ⟨O, τ, d, τ1, R, e2, fun v H1 O1 l1 R1 r1 => ?_⟩
      obtain ⟨w, ev, p, C, dx, xs, rfl, h1, h2, h3, h4, h5, h6, h7⟩ := R1.slot i _ e3
      obtain ⟨C', hF, hn⟩ := hcs c hc
      rw [hF.g] at h4; cases h4
      cases h7
      refine ⟨_, ev, p, C, dx, _, rfl, h5, hF.cl, hn, by decide, ?_⟩
      obtain ⟨R2, l2⟩ := R1.putOb (ns' := [m]) (ds' := [d]) (xs' := [v]) e3 ev h1 hF.g h5 rfl (.cons r1 .nil)
      exact q σ _ O1 (l1.trans l2) R2
    · cases e1
  · cases e1
/-- a def of the text called below the running body, at A -/
theorem run_at {A : Around} {E : Value → Shared → Prop} {pins : List (Addr × Obj)} {σ : St} {H : Hp} {s : Shared} {Q : VK} {us : List Value} {vs : List V} {sp : Sp} (F : FnG X.prog X.w X.K X.mg X.base k f fd ps sp) (hr : Room k A) (hgd : A.guards = some []) (e0 : Env0 X.prog X.w X.K X.mg X.base A X.stack s H) (hb : Binds X.K fd ps []) (I : Inv X pins σ H s) (r : Vals vs us) (h : sp vs H Q E0) :
    codeAny (model X.prog X.w) A (.call (.ref f) ⟨us, []⟩) (fun res s' => match res with | .ok (.ret u) => EP X pins σ Q u s' | _ => False) s := by
  have hl : us.length = ps.length := by rw [← r.length]; exact F.len _ _ _ _ h
  refine codeAny_mono (F.run A X.stack s H ⟨us, []⟩ us vs Q E0 hr hgd e0 (by have := hb s us I.kIn (by simpa using hl); simpa using this) r h) fun res s' hq => ?_
  match res, hq with
  | .ok (.ret u), hq => exact I.after hq
theorem wp_at {A : Around} {E : Value → Shared → Prop} {pins : List (Addr × Obj)} {σ : St} {H : Hp} {s : Shared} {Q : VK} {us : List Value} {vs : List V} {sp : Sp} (F : FnG X.prog X.w X.K X.mg X.base k f fd ps sp) (hr : Room k A) (hgd : A.guards = some []) (e0 : Env0 X.prog X.w X.K X.mg X.base A X.stack s H) (hb : Binds X.K fd ps []) (I : Inv X pins σ H s) (r : Vals vs us) (h : sp vs H Q E0) :
    wpAny (model X.prog X.w) A (call (.ref f) us) (EP X pins σ Q) E s := by
  refine wpAny_call (codeAny_mono (run_at (E := E) F hr hgd e0 hb I r h) fun res s' hq => ?_)
  match res, hq with
  | .ok (.ret u), hq => exact hq
/-- the data of an instance of one of these classes -/
def isOb (cs : List Nat) : D → Bool
  | .obj c _ => decide (c ∈ cs)
  | _ => false
/-! ### o.m(a, ..) -/
def mMe (n : Nat) (cs : List Nat) (F : List D → Option D) (fo : M D) (fa : M (List D)) : M D := mBind fo fun d => if isOb cs d = true then mBind fa (fun ds => mLift (if ds.length + 1 = n then F (d :: ds) else none)) else fun _ => none
theorem mMe_some {n : Nat} {F : List D → Option D} {τ τ' : Sd} {z : D} (h : mMe n cs F fo fa τ = some (z, τ')) : ∃ c fs ds τ1, fo τ = some (.obj c fs, τ1) ∧ c ∈ cs ∧ fa τ1 = some (ds, τ') ∧ ds.length + 1 = n ∧ F (.obj c fs :: ds) = some z := by
  obtain ⟨d, τ1, e1, e⟩ := mBind_some h
  split at e
  · rename_i ho
    obtain ⟨ds, e2, e3⟩ := mL_some e
    split at e3
    · rename_i hl
      cases d with
      | obj c fs => exact ⟨c, fs, ds, τ1, e1, by simpa [isOb] using ho, e2, hl, e3⟩
      | _ => simp [isOb] at ho
    · cases e3
  · cases e
theorem de_meth {F : List D → Option D} {pl : Sem Bool} (ho : DE X G o fo) (hcs : ∀ c ∈ cs, ∃ C, ClsF X.K X.mg c C ∧ Meth X.K C m f ∧ m ∉ clsFlds c) (Fn : FnG X.prog X.w X.K X.mg X.base k f fd ps (spD X.K X.mg ps.length F)) (hr : Room k X.A) (hgd : X.A.guards = some []) (hb : Binds X.K fd ps [])
    (ha : DA X G (e :: es) fa) (hst : starEach (e :: es) X.env = (false, eval e X.env) :: starEach es X.env := by rfl) (hpl : (backTo pos (starEach es X.env)).any (·.1) = false := by rfl)
    (ht : eval (.Call (.Attribute o m apos) (e :: es) [] pos) X.env = (do
      let ov ← eval o X.env
      standAt apos.atName
      let (f, first) ← holding [ov] (getMethod ov m pl)
      callWith pos f first (backTo pos (starEach (e :: es) X.env)) (backToKw pos (keywordEach [] X.env))) := by rfl) : DE X G (.Call (.Attribute o m apos) (e :: es) [] pos) (mMe ps.length cs F fo fa) := ⟨fun pins s σ H Q I q => by
  obtain ⟨O, τ, z, τ', R, e1, q⟩ := q
  obtain ⟨c, fs, ds, τ1, e2, hc, e3, n1, e4⟩ := mMe_some e1
  obtain ⟨C, hF, hm, hn⟩ := hcs c hc
  refine PySem.W.methodCall_KW (pl := pl) (thn (ho.run pins s σ H (fun v H1 => ∃ O1, Le H O H1 O1 ∧ SR X.K X.mg G H1 O1 σ τ1 ∧ Rep X.K X.mg (cut H1 O1) v (.obj c fs)) I ⟨O, τ, _, τ1, R, e2, fun v H1 O1 l1 R1 r1 => ⟨O1, l1, R1, r1⟩⟩) ?_) ht
  rintro u s1 ⟨v, H1, I1, rv, O1, l1, R1, r1⟩
  cases r1 with
  | @obj a C' dx _ xs _ h1 h2 h3 rl =>
    rw [hF.g] at h1; cases h1
    obtain rfl : u = Value.ref a := rv
    refine getmeth_ok I1 (cut_some h2).2 hF.cl hm (lookup_zip_none hn) ?_
    refine PySem.W.callWith_K (first := [.ref a]) (h₀ := X.base) I.ok.mod.kin hm.kp (thn (ha.run pos pins s1 σ H1 (fun vs H2 => ∃ O2, Le H1 O1 H2 O2 ∧ SR X.K X.mg G H2 O2 σ τ' ∧ RepL X.K X.mg (cut H2 O2) vs ds) I1 ⟨O1, τ1, ds, τ', R1, e3, fun vs H2 O2 l2 R2 r2 => ⟨O2, l2, R2, r2⟩⟩) ?_) hst hpl
    rintro us s2 ⟨vs, H2, I2, r, O2, l2, R2, r2⟩
    refine ⟨I2.kIn, ?_⟩
    exact wp_at (us := .ref a :: us) (vs := .ref a :: vs) Fn hr hgd I2.env0 hb I2 (.cons rfl r) ⟨O2, _, z, by simp [r2.length, n1], R2.live, .cons (Rep.grow l2 (.obj hF.g h2 h3 rl)) r2, e4, fun v H' g' rz => q v H' O2 ((l1.trans l2).trans (Le.grow g')) (R2.grow g') rz⟩⟩
def mMe0 (cs : List Nat) (F : List D → Option D) (fo : M D) : M D := m1 (fun d => if isOb cs d = true then F [d] else none) fo
theorem mMe0_some {F : List D → Option D} {τ τ' : Sd} {z : D} (h : mMe0 cs F fo τ = some (z, τ')) : ∃ c fs, fo τ = some (.obj c fs, τ') ∧ c ∈ cs ∧ F [.obj c fs] = some z := by
  obtain ⟨d, e1, e⟩ := m1_some h
  split at e
  · rename_i ho
    cases d with
    | obj c fs => exact ⟨c, fs, e1, by simpa [isOb] using ho, e⟩
    | _ => simp [isOb] at ho
  · cases e
theorem de_meth0 {F : List D → Option D} {pl : Sem Bool} (ho : DE X G o fo) (hcs : ∀ c ∈ cs, ∃ C, ClsF X.K X.mg c C ∧ Meth X.K C m f ∧ m ∉ clsFlds c) (Fn : FnG X.prog X.w X.K X.mg X.base k f fd ["self"] (spD X.K X.mg 1 F)) (hr : Room k X.A) (hgd : X.A.guards = some []) (hb : Binds X.K fd ["self"] [])
    (ht : eval (.Call (.Attribute o m apos) [] [] pos) X.env = (do
      let ov ← eval o X.env
      standAt apos.atName
      let (f, first) ← holding [ov] (getMethod ov m pl)
      callWith pos f first (backTo pos (starEach [] X.env)) (backToKw pos (keywordEach [] X.env))) := by rfl) : DE X G (.Call (.Attribute o m apos) [] [] pos) (mMe0 cs F fo) := ⟨fun pins s σ H Q I q => by
  obtain ⟨O, τ, z, τ', R, e1, q⟩ := q
  obtain ⟨c, fs, e2, hc, e4⟩ := mMe0_some e1
  obtain ⟨C, hF, hm, hn⟩ := hcs c hc
  refine PySem.W.methodCall_KW (pl := pl) (thn (ho.run pins s σ H (fun v H1 => ∃ O1, Le H O H1 O1 ∧ SR X.K X.mg G H1 O1 σ τ' ∧ Rep X.K X.mg (cut H1 O1) v (.obj c fs)) I ⟨O, τ, _, τ', R, e2, fun v H1 O1 l1 R1 r1 => ⟨O1, l1, R1, r1⟩⟩) ?_) ht
  rintro u s1 ⟨v, H1, I1, rv, O1, l1, R1, r1⟩
  cases r1 with
  | @obj a C' dx _ xs _ h1 h2 h3 rl =>
    rw [hF.g] at h1; cases h1
    obtain rfl : u = Value.ref a := rv
    refine getmeth_ok I1 (cut_some h2).2 hF.cl hm (lookup_zip_none hn) ?_
    exact PySem.W.callWith_K0 (first := [.ref a]) I1.kIn hm.kp (wp_at (us := [.ref a]) (vs := [.ref a]) Fn hr hgd I1.env0 hb I1 (.cons rfl .nil) ⟨O1, _, z, rfl, R1.live, .cons (.obj hF.g h2 h3 rl) .nil, e4, fun v H' g' rz => q v H' O1 (l1.trans (Le.grow g')) (R1.grow g') rz⟩)⟩
/-! ### o.f, a property -/
theorem de_prop {F : List D → Option D} {pp : Addr} (ho : DE X G o fo) (hcs : ∀ c ∈ cs, ∃ C, ClsF X.K X.mg c C ∧ PropOf X.K C m pp f) (Fn : FnG X.prog X.w X.K X.mg X.base k f fd ["self"] (spD X.K X.mg 1 F)) (hr : Room (k + 1) X.A) (hgd : X.A.guards = some []) (hb : Binds X.K fd ["self"] [])
    (hab : attributeBase o m X.env (eval o X.env) = eval o X.env := by rfl) : DE X G (.Attribute o m pos) (mMe0 cs F fo) := ⟨fun pins s σ H Q I q => by
  obtain ⟨O, τ, z, τ', R, e1, q⟩ := q
  obtain ⟨c, fs, e2, hc, e4⟩ := mMe0_some e1
  obtain ⟨C, hF, hp⟩ := hcs c hc
  refine attr_of hab (thn (ho.run pins s σ H (fun v H1 => ∃ O1, Le H O H1 O1 ∧ SR X.K X.mg G H1 O1 σ τ' ∧ Rep X.K X.mg (cut H1 O1) v (.obj c fs)) I ⟨O, τ, _, τ', R, e2, fun v H1 O1 l1 R1 r1 => ⟨O1, l1, R1, r1⟩⟩) ?_)
  rintro u s1 ⟨v, H1, I1, rv, O1, l1, R1, r1⟩
  cases r1 with
  | @obj a C' dx _ xs _ h1 h2 h3 rl =>
    rw [hF.g] at h1; cases h1
    obtain rfl : u = Value.ref a := rv
    obtain ⟨mA, Om, _, _, _, _⟩ := ins_get I1.hok (cut_some h2).2
    obtain ⟨od, J, _⟩ := Om.look
    obtain ⟨rest, hrec⟩ := hp.rec_
    have I2 := I1.tok (s1.toks + 1)
    have hcc : (PySem.W.clsIn X.K C).isSome = true := by
      obtain ⟨cd, hcd, _⟩ := PySem.W.any_some hF.cl.hd
      rw [hcd]; rfl
    refine PySem.W.get_bind I1.kIn J (PySem.W.plainGet_of (hF.cl.get m)).1 (PySem.W.findObj_data hcc hp.at_ hp.get hp.tak) (PySem.W.plainGet_of (hF.cl.get m)).2 (wpAny_call (PySem.W.prop_get (s := { s1 with toks := s1.toks + 1 }) I1.kIn hrec ?_))
    refine codeAny_mono (run_at (E := X.xe) (us := [.ref a]) (vs := [.ref a]) (Q := Q) Fn hr.in1 hgd I2.env0.in1 hb I2 (.cons rfl .nil) ⟨O1, _, z, rfl, R1.live, .cons (.obj hF.g h2 h3 rl) .nil, e4, fun v H' g' rz => q v H' O1 (l1.trans (Le.grow g')) (R1.grow g') rz⟩) fun res s' hq => ?_
    match res, hq with
    | .ok (.ret u), ⟨v, H', I3, rv, q3⟩ =>
      show wpAny _ _ (handedOut u) _ _ _
      rw [PySem.W.handedOut_of (handed_of rv)]
      exact wpAny_pure ⟨v, H', I3, rv, q3⟩⟩
end
end Dv
set_option Elab.async false
set_option linter.all false
set_option maxRecDepth 100000
set_option maxHeartbeats 4000000
/-! DV10: operators and built-in functions on data -/
namespace Dv
open PySem L2

/-- an operation of two values does g to data -/
def rD2 (X : Cx) (g : D → D → Option D) : R2 := fun x y H Q => ∃ O a b z, Live H O ∧ Rep X.K X.mg (cut H O) x a ∧ Rep X.K X.mg (cut H O) y b ∧ g a b = some z ∧ ∀ v H', Grow H H' → Rep X.K X.mg (cut H' O) v z → Q v H'
def OpD (X : Cx) (f : Value → Value → Sem Value) (g : D → D → Option D) : Prop := OpR X f (rD2 X g)
def rDN (X : Cx) (g : List D → Option D) : List V → Hp → VK → Prop := fun xs H Q => ∃ O ds z, Live H O ∧ RepL X.K X.mg (cut H O) xs ds ∧ g ds = some z ∧ ∀ v H', Grow H H' → Rep X.K X.mg (cut H' O) v z → Q v H'
def CallD (X : Cx) (f : Value) (g : List D → Option D) : Prop := CallR X f (rDN X g)
section
variable {X : Cx} {G : Gx}
theorem v2_D (g : D → D → Option D) : V2 X (rD2 X g) g := fun H O x y a b z Q lv ra rb e q => ⟨O, a, b, z, lv, ra, rb, e, q⟩
theorem vn_D (g : List D → Option D) : VN X (rDN X g) g := fun H O xs ds z Q lv r e q => ⟨O, ds, z, lv, r, e, q⟩
theorem opD_of {f : Value → Value → Sem Value} {r : R2} {g : D → D → Option D} (h : OpR X f r) (hv : V2 X r g) : OpD X f g := fun pins s σ H x y v u Q I rx ry ⟨O, a, b, z, lv, ra, rb, e, q⟩ =>
  h pins s σ H x y v u Q I rx ry (hv H O x y a b z Q lv ra rb e q)
theorem callD_of {f : Value} {r : List V → Hp → VK → Prop} {g : List D → Option D} (h : CallR X f r) (hv : VN X r g) : CallD X f g := fun pins s σ H xs us Q I rx ⟨O, ds, z, lv, ra, e, q⟩ =>
  h pins s σ H xs us Q I rx (hv H O xs ds z Q lv ra e q)
theorem opD_or {f : Value → Value → Sem Value} {g g' : D → D → Option D} (h : OpD X f g) (h' : OpD X f g') : OpD X f (fun a b => (g a b).or (g' a b)) := fun pins s σ H x y v u Q I rx ry ⟨O, a, b, z, lv, ra, rb, e, q⟩ => by
  cases e1 : g a b with
  | some z' => simp only [e1, Option.some_or] at e; cases e; exact h pins s σ H x y v u Q I rx ry ⟨O, a, b, _, lv, ra, rb, e1, q⟩
  | none => simp only [e1, Option.none_or] at e; exact h' pins s σ H x y v u Q I rx ry ⟨O, a, b, z, lv, ra, rb, e, q⟩
theorem callD_or {f : Value} {g g' : List D → Option D} (h : CallD X f g) (h' : CallD X f g') : CallD X f (fun ds => (g ds).or (g' ds)) := fun pins s σ H xs us Q I rx ⟨O, ds, z, lv, ra, e, q⟩ => by
  cases e1 : g ds with
  | some z' => simp only [e1, Option.some_or] at e; cases e; exact h pins s σ H xs us Q I rx ⟨O, ds, _, lv, ra, e1, q⟩
  | none => simp only [e1, Option.none_or] at e; exact h' pins s σ H xs us Q I rx ⟨O, ds, z, lv, ra, e, q⟩
theorem opD_imp {f : Value → Value → Sem Value} {g g' : D → D → Option D} (h : OpD X f g) (i : ∀ a b z, g' a b = some z → g a b = some z) : OpD X f g' := fun pins s σ H x y v u Q I rx ry ⟨O, a, b, z, lv, ra, rb, e, q⟩ =>
  h pins s σ H x y v u Q I rx ry ⟨O, a, b, z, lv, ra, rb, i a b z e, q⟩
theorem callD_imp {f : Value} {g g' : List D → Option D} (h : CallD X f g) (i : ∀ a z, g' a = some z → g a = some z) : CallD X f g' := fun pins s σ H xs us Q I rx ⟨O, ds, z, lv, ra, e, q⟩ =>
  h pins s σ H xs us Q I rx ⟨O, ds, z, lv, ra, i ds z e, q⟩
/-- the rules for operators and calls, by data -/
theorem de_opD {a b : Expr} {op : Operator} {pos : Pos} {g : D → D → Option D} {fa fb : M D} (ho : OpD X (binaryOp op) g) (ha : DE X G a fa) (hb : DE X G b fb) : DE X G (.BinOp a op b pos) (m2 g fa fb) := de_op ho (v2_D g) ha hb
theorem de_cmpD {a b : Expr} {op : CmpOp} {pos : Pos} {g : D → D → Option D} {fa fb : M D} (ho : OpD X (compareOp op) g) (ha : DE X G a fa) (hb : DE X G b fb) (hm : behindInMarks op b = false) : DE X G (.Compare a [op] [b] pos) (m2 g fa fb) := de_cmp ho (v2_D g) ha hb hm
theorem dt_cmpD {a b : Expr} {op : CmpOp} {pos : Pos} {g : D → D → Option D} {fa fb : M D} (ho : OpD X (compareOp op) g) (ha : DE X G a fa) (hb : DE X G b fb) (hm : behindInMarks op b = false) : DT X G (.Compare a [op] [b] pos) (mB (m2 g fa fb)) := dt_cmp ho (v2_D g) ha hb hm

/-! ### the plain operators -/
def addD : D → D → Option D
  | .int i, .int j => some (.int (i + j))
  | .str x, .str y => if x.length + y.length ≤ sizeLine then some (.str (x ++ y)) else none
  | .tup x, .tup y => (fit (x ++ y)).map D.tup
  | .lst x, .lst y => (fit (x ++ y)).map D.lst
  | _, _ => none
theorem map_some {α β : Type} {o : Option α} {f : α → β} {z : β} (h : o.map f = some z) : ∃ a, o = some a ∧ f a = z := by cases o with
  | none => cases h
  | some a => cases h; exact ⟨a, rfl, rfl⟩
theorem op_addD : OpD X (binaryOp .Add) addD := fun pins s σ H x y v u Q I rx ry ⟨O, a, b, z, lv, ra, rb, e, q⟩ => by
  cases ra <;> cases rb <;> simp only [addD] at e <;> first | (cases e; done) | skip
  · cases e
    exact op_add pins s σ H _ _ v u Q I rx ry ⟨_, _, rfl, rfl, q _ H (Grow.refl _) (.int _)⟩
  · split at e
    · cases e
      exact op_add_str pins s σ H _ _ v u Q I rx ry ⟨_, _, rfl, rfl, by assumption, q _ H (Grow.refl _) (.str _)⟩
    · cases e
  · rename_i h1 r1 _ _ _ h2 r2 _
    obtain ⟨m, e1, rfl⟩ := map_some e
    obtain ⟨rfl, hl⟩ := fit_some e1
    have s1 := SqT.grow (Grow.ofCut H O) h1
    have s2 := SqT.grow (Grow.ofCut H O) h2
    refine op_catA pins s σ H _ _ v u Q I rx ry ⟨_, _, _, _, rfl, rfl, s1, s2, ?_, ?_, ?_, ?_⟩
    · rw [r1.length, r2.length]; simpa using hl
    · rintro rfl
      cases r1
      exact q _ H (Grow.refl _) (.tup h2 r2)
    · rintro _ rfl
      cases r2
      rw [List.append_nil] at q
      exact q _ H (Grow.refl _) (.tup h1 r1)
    · intro _ _ p hp
      exact q _ _ (Grow.new hp) (new_tup lv hp (r1.append r2))
  · rename_i h1 r1 _ _ _ h2 r2 _
    obtain ⟨m, e1, rfl⟩ := map_some e
    obtain ⟨rfl, hl⟩ := fit_some e1
    exact op_cat pins s σ H _ _ v u Q I rx ry ⟨_, _, _, _, rfl, rfl, (cut_some h1).2, (cut_some h2).2, by rw [r1.length, r2.length]; simpa using hl, fun p hp => q _ _ (Grow.new hp) (new_list lv hp (r1.append r2))⟩
def catF : D → D → Option (List D)
  | .lst x, .lst y => fit (x ++ y)
  | _, _ => none
theorem v2f_cat : V2F X rCat catF := fun H O x y a b l Q lv ra rb e q => by
  cases ra <;> cases rb <;> simp only [catF] at e <;> first | (cases e; done) | skip
  rename_i h1 r1 _ _ _ h2 r2
  obtain ⟨rfl, hl⟩ := fit_some e
  exact ⟨_, _, _, _, rfl, rfl, (cut_some h1).2, (cut_some h2).2, by rw [r1.length, r2.length]; simpa using hl, fun p hp => q p _ hp (r1.append r2)⟩
theorem df_cat {a b : Expr} {pos : Pos} {fa fb : M D} (ha : DE X G a fa) (hb : DE X G b fb) : DF X G (.BinOp a .Add b pos) (m2F catF fa fb) := df_op op_cat v2f_cat ha hb
/-- an operation of ints -/
def int2 (C : Int → Int → Bool) (g : Int → Int → D) : D → D → Option D
  | .int i, .int j => if C i j = true then some (g i j) else none
  | _, _ => none
theorem op_int2 {f : Value → Value → Sem Value} {C : Int → Int → Prop} {C' : Int → Int → Bool} {gv : Int → Int → V} {g : Int → Int → D} (h : OpR X f (rI C gv)) (hC : ∀ i j, C' i j = true → C i j) (hg : ∀ H i j, Rep X.K X.mg H (gv i j) (g i j)) : OpD X f (int2 C' g) :=
  fun pins s σ H x y v u Q I rx ry ⟨O, a, b, z, lv, ra, rb, e, q⟩ => by
    cases ra <;> cases rb <;> simp only [int2] at e <;> first | (cases e; done) | skip
    split at e
    · rename_i hc
      cases e
      exact h pins s σ H _ _ v u Q I rx ry ⟨_, _, rfl, rfl, hC _ _ hc, q _ H (Grow.refl _) (hg _ _ _)⟩
    · cases e
/-- an operation of ints without condition -/
def int2' (g : Int → Int → D) : D → D → Option D
  | .int i, .int j => some (g i j)
  | _, _ => none
theorem op_int2' {f : Value → Value → Sem Value} {gv : Int → Int → V} {g : Int → Int → D} (h : OpR X f (rI0 gv)) (hg : ∀ H i j, Rep X.K X.mg H (gv i j) (g i j)) : OpD X f (int2' g) :=
  fun pins s σ H x y v u Q I rx ry ⟨O, a, b, z, lv, ra, rb, e, q⟩ => by
    cases ra <;> cases rb <;> simp only [int2'] at e <;> first | (cases e; done) | skip
    cases e
    exact h pins s σ H _ _ v u Q I rx ry ⟨_, _, rfl, rfl, q _ H (Grow.refl _) (hg _ _ _)⟩
def subD : D → D → Option D := int2' fun i j => .int (i - j)
theorem op_subD : OpD X (binaryOp .Sub) subD := op_int2' op_sub fun _ _ _ => .int _
def mulOk (i j : Int) : Bool := decide (i.natAbs < 2 ^ 64 ∨ j.natAbs < 2 ^ 64)
def fdivD : D → D → Option D := int2 (fun _ j => decide (0 < j ∧ j < 1073741824)) fun i j => .int (i / j)
theorem op_fdivD : OpD X (binaryOp .FloorDiv) fdivD := op_int2 op_fdiv (fun _ _ h => by simpa [CDiv] using h) fun _ _ _ => .int _
def modD : D → D → Option D := int2 (fun _ j => decide (0 < j)) fun i j => .int (i % j)
theorem op_modD : OpD X (binaryOp .Mod) modD := op_int2 op_mod (fun _ _ h => of_decide_eq_true h) fun _ _ _ => .int _
def powD : D → D → Option D := int2 (fun i j => decide (0 ≤ j ∧ j ≤ 1000000 ∧ i.natAbs < 2 ^ 64)) fun i j => .int (i ^ j.toNat)
theorem op_powD : OpD X (binaryOp .Pow) powD := op_int2 op_pow (fun _ _ h => by unfold CPow; exact of_decide_eq_true h) fun _ _ _ => .int _
/-- the product: ints; a list so many times -/
def mulD : D → D → Option D
  | .int i, .int j => if mulOk i j = true then some (.int (i * j)) else none
  | .lst x, .int j => if decide (-(2 ^ 63) ≤ j ∧ j < 2 ^ 63 ∧ x.length * j.toNat ≤ sizeLine) = true then some (.lst (List.replicate j.toNat x).flatten) else none
  | _, _ => none
def repF : D → D → Option (List D)
  | .lst x, .int j => if decide (-(2 ^ 63) ≤ j ∧ j < 2 ^ 63 ∧ x.length * j.toNat ≤ sizeLine) = true then some (List.replicate j.toNat x).flatten else none
  | _, _ => none
theorem RepL.rep {K : PySem.W.Frag} {mg : Str → Option Value} {H : Hp} {vs : List V} {ds : List D} (r : RepL K mg H vs ds) : ∀ n : Nat, RepL K mg H (List.replicate n vs).flatten (List.replicate n ds).flatten
  | 0 => .nil
  | n + 1 => by simpa [List.replicate_succ] using r.append (RepL.rep r n)
theorem mulOk_of {i j : Int} (h : mulOk i j = true) : CMul i j := by
  have := of_decide_eq_true h
  unfold CMul
  omega
theorem op_mulD : OpD X (binaryOp .Mult) mulD := fun pins s σ H x y v u Q I rx ry ⟨O, a, b, z, lv, ra, rb, e, q⟩ => by
  cases ra <;> cases rb <;> simp only [mulD] at e <;> first | (cases e; done) | skip
  · split at e
    · rename_i hc
      cases e
      exact op_mul pins s σ H _ _ v u Q I rx ry ⟨_, _, rfl, rfl, mulOk_of hc, q _ H (Grow.refl _) (.int _)⟩
    · cases e
  · split at e
    · rename_i h1 r1 _ _ hc
      have hc := of_decide_eq_true hc
      cases e
      exact op_rep pins s σ H _ _ v u Q I rx ry ⟨_, _, _, rfl, rfl, (cut_some h1).2, hc.1, hc.2.1, by rw [r1.length]; exact hc.2.2, fun p hp => q _ _ (Grow.new hp) (new_list lv hp (r1.rep _))⟩
    · cases e
theorem df_rep {a b : Expr} {pos : Pos} {fa fb : M D} (ha : DE X G a fa) (hb : DE X G b fb) : DF X G (.BinOp a .Mult b pos) (m2F repF fa fb) := df_op op_rep (fun H O x y a b l Q lv ra rb e q => by
  cases ra <;> cases rb <;> simp only [repF] at e <;> first | (cases e; done) | skip
  split at e
  · rename_i h1 r1 _ hc
    have hc := of_decide_eq_true hc
    cases e
    exact ⟨_, _, _, rfl, rfl, (cut_some h1).2, hc.1, hc.2.1, by rw [r1.length]; exact hc.2.2, fun p hp => q p _ hp (r1.rep _)⟩
  · cases e) ha hb
/-! ### comparisons -/
def ordD (gi : Int → Int → Bool) (gs : List Nat → List Nat → Bool) : D → D → Option D
  | .int i, .int j => some (.bl (gi i j))
  | .str i, .str j => some (.bl (gs i.cps.toList j.cps.toList))
  | _, _ => none
theorem op_ordD {f : Value → Value → Sem Value} {gi : Int → Int → Bool} {gs : List Nat → List Nat → Bool} (hi : OpR X f (rI0 fun i j => .bl (gi i j))) (hs : OpR X f (fun x y H Q => ∃ i j, x = .str i ∧ y = .str j ∧ Q (.bl (gs i.cps.toList j.cps.toList)) H)) : OpD X f (ordD gi gs) :=
  fun pins s σ H x y v u Q I rx ry ⟨O, a, b, z, lv, ra, rb, e, q⟩ => by
    cases ra <;> cases rb <;> simp only [ordD] at e <;> first | (cases e; done) | skip
    · cases e
      exact hi pins s σ H _ _ v u Q I rx ry ⟨_, _, rfl, rfl, q _ H (Grow.refl _) (.bl _)⟩
    · cases e
      exact hs pins s σ H _ _ v u Q I rx ry ⟨_, _, rfl, rfl, q _ H (Grow.refl _) (.bl _)⟩
def ltD : D → D → Option D := ordD (fun i j => decide (i < j)) (fun i j => decide (i < j))
def leD : D → D → Option D := ordD (fun i j => decide (i ≤ j)) (fun i j => !decide (j < i))
def gtD : D → D → Option D := ordD (fun i j => decide (j < i)) (fun i j => decide (j < i))
def geD : D → D → Option D := ordD (fun i j => decide (j ≤ i)) (fun i j => !decide (i < j))
theorem op_ltD : OpD X (compareOp .Lt) ltD := op_ordD op_lt op_lt_str
theorem op_leD : OpD X (compareOp .LtE) leD := op_ordD op_le op_le_str
theorem op_gtD : OpD X (compareOp .Gt) gtD := op_ordD op_gt op_gt_str
theorem op_geD : OpD X (compareOp .GtE) geD := op_ordD op_ge op_ge_str
/-! ### is -/
def isD (neg : Bool) : D → D → Option D
  | .non, .non => some (.bl (!neg))
  | .bl a, .bl b => some (.bl (decide (a = b) != neg))
  | _, .non => some (.bl neg)
  | _, _ => none
theorem op_isD : OpD X (compareOp .Is) (isD false) := fun pins s σ H x y v u Q I rx ry ⟨O, a, b, z, lv, ra, rb, e, q⟩ => by
  cases rb <;> cases ra <;> simp only [isD] at e <;> first | (cases e; done) | skip
  all_goals cases e
  all_goals first
    | exact op_isN pins s σ H _ _ v u Q I rx ry ⟨rfl, q _ H (Grow.refl _) (by simp; exact .bl _)⟩
    | exact op_isBl pins s σ H _ _ v u Q I rx ry ⟨_, _, rfl, rfl, q _ H (Grow.refl _) (by simp only [Bool.bne_false]; exact .bl _)⟩
theorem op_notD : OpD X (compareOp .IsNot) (isD true) := fun pins s σ H x y v u Q I rx ry ⟨O, a, b, z, lv, ra, rb, e, q⟩ => by
  cases rb <;> cases ra <;> simp only [isD] at e <;> first | (cases e; done) | skip
  all_goals cases e
  all_goals first
    | exact op_notN pins s σ H _ _ v u Q I rx ry ⟨rfl, q _ H (Grow.refl _) (by simp; exact .bl _)⟩
    | exact op_notBl pins s σ H _ _ v u Q I rx ry ⟨_, _, rfl, rfl, q _ H (Grow.refl _) (by simp only [Bool.bne_true]; exact .bl _)⟩
end
/-! ### data as the kit has them -/
mutual
def toP : D → Option PyData
  | .non => some .none
  | .bl b => some (.bool b)
  | .int i => some (.int i)
  | .str x => some (.str x)
  | .tup l => (toPs l).map .tuple
  | .lst l => (toPs l).map .list
  | .scr ns => some (.list (ns.map .int))
  | .obj _ _ => none
def toPs : List D → Option (List PyData)
  | [] => some []
  | d :: r => (toP d).bind fun p => (toPs r).map fun q => p :: q
end
section
variable {K : PySem.W.Frag} {mg : Str → Option Value} {H : Hp} {O : List Addr}
theorem dpAll_ints (H : Hp) : ∀ ns : List Int, DpAll K H (ns.map V.int) (ns.map PyData.int)
  | [] => .nil
  | n :: ns => .cons (.int n) (dpAll_ints H ns)
mutual
theorem rep_dp : ∀ {v : V} {d : D} {p : PyData}, Rep K mg (cut H O) v d → toP d = some p → Dp K H v p
  | _, _, _, .non, e => by cases e; exact .non
  | _, _, _, .bl b, e => by cases e; exact .bl b
  | _, _, _, .int i, e => by cases e; exact .int i
  | _, _, _, .str x, e => by cases e; exact .str x
  | _, _, _, .tup h r, e => by
    obtain ⟨ps, e1, rfl⟩ := map_some e
    exact .tup (SqT.grow (Grow.ofCut H O) h) (repL_dp r e1)
  | _, _, _, .lst h r, e => by
    obtain ⟨ps, e1, rfl⟩ := map_some e
    exact .lst (SqL.of (cut_some h).2) (repL_dp r e1)
  | _, _, _, .scr h, e => by cases e; exact .lst (SqL.grow (Grow.ofCut H O) h) (dpAll_ints H _)
  | _, _, _, .obj _ _ _ _, e => by cases e
theorem repL_dp : ∀ {vs : List V} {ds : List D} {ps : List PyData}, RepL K mg (cut H O) vs ds → toPs ds = some ps → DpAll K H vs ps
  | _, _, _, .nil, e => by cases e; exact .nil
  | _, _, _, .cons r t, e => by
    simp only [toPs] at e
    obtain ⟨p, e1, e2⟩ := Option.bind_eq_some_iff.mp e
    obtain ⟨q, e3, rfl⟩ := map_some e2
    exact .cons (rep_dp r e1) (repL_dp t e3)
end
end
section
variable {X : Cx} {G : Gx}
def eqP (neg : Bool) (p q : PyData) : Option D := if (SeqAt.shaped p && SeqAt.shaped q) = true then some (.bl (PyData.eqv p q != neg)) else none
def eqN (neg : Bool) (a b : D) : Option D := (toP a).bind fun p => (toP b).bind fun q => eqP neg p q
theorem eqN_some {neg : Bool} {a b z : D} (e : eqN neg a b = some z) : ∃ p q, toP a = some p ∧ toP b = some q ∧ SeqAt.shaped p = true ∧ SeqAt.shaped q = true ∧ z = .bl (PyData.eqv p q != neg) := by
  obtain ⟨p, e1, e⟩ := Option.bind_eq_some_iff.mp e
  obtain ⟨q, e2, e⟩ := Option.bind_eq_some_iff.mp e
  unfold eqP at e
  split at e
  · rename_i h
    rw [Bool.and_eq_true] at h
    cases e
    exact ⟨p, q, e1, e2, h.1, h.2, rfl⟩
  · cases e
/-- == : texts by themselves, all other data as the kit has them -/
def eqD (neg : Bool) : D → D → Option D
  | .str x, .str y => some (.bl (decide (x = y) != neg))
  | .int x, .int y => some (.bl (decide (x = y) != neg))
  | a, b => eqN neg a b
theorem dec_V {x y : Str} : decide (V.str x = V.str y) = decide (x = y) := by simp
theorem dec_I {x y : Int} : decide (V.int x = V.int y) = decide (x = y) := by simp
theorem op_eqDD {k : Nat} (hr : Room k X.A) : OpD X (compareOp .Eq) (eqD false) := fun pins s σ H x y v u Q I rx ry ⟨O, a, b, z, lv, ra, rb, e, q⟩ => by
  have go : eqN false a b = some z → wpAny (model X.prog X.w) X.A (compareOp .Eq v u) (EP X pins σ Q) X.xe s := fun e => by
    obtain ⟨p, p', e1, e2, h1, h2, rfl⟩ := eqN_some e
    exact op_eqD hr.units pins s σ H x y v u Q I rx ry ⟨p, p', rep_dp ra e1, rep_dp rb e2, h1, h2, q (.bl (PyData.eqv p p')) H (Grow.refl _) (by rw [Bool.bne_false]; exact .bl _)⟩
  unfold eqD at e
  split at e
  · cases e; cases ra; cases rb
    exact op_eq pins s σ H _ _ v u Q I rx ry ⟨rfl, q _ H (Grow.refl _) (by rw [Bool.bne_false, dec_V]; exact .bl _)⟩
  · cases e; cases ra; cases rb
    exact op_eq pins s σ H _ _ v u Q I rx ry ⟨rfl, q _ H (Grow.refl _) (by rw [Bool.bne_false, dec_I]; exact .bl _)⟩
  · exact go e
theorem op_neDD {k : Nat} (hr : Room k X.A) : OpD X (compareOp .NotEq) (eqD true) := fun pins s σ H x y v u Q I rx ry ⟨O, a, b, z, lv, ra, rb, e, q⟩ => by
  have go : eqN true a b = some z → wpAny (model X.prog X.w) X.A (compareOp .NotEq v u) (EP X pins σ Q) X.xe s := fun e => by
    obtain ⟨p, p', e1, e2, h1, h2, rfl⟩ := eqN_some e
    exact op_neD hr.units pins s σ H x y v u Q I rx ry ⟨p, p', rep_dp ra e1, rep_dp rb e2, h1, h2, q (.bl (!PyData.eqv p p')) H (Grow.refl _) (by rw [Bool.bne_true]; exact .bl _)⟩
  unfold eqD at e
  split at e
  · cases e; cases ra; cases rb
    exact op_ne pins s σ H _ _ v u Q I rx ry ⟨rfl, q _ H (Grow.refl _) (by rw [Bool.bne_true, dec_V]; exact .bl _)⟩
  · cases e; cases ra; cases rb
    exact op_ne pins s σ H _ _ v u Q I rx ry ⟨rfl, q _ H (Grow.refl _) (by rw [Bool.bne_true, dec_I]; exact .bl _)⟩
  · exact go e
/-! ### in: a sign in a text; a plain value in a list, a tuple -/
def flatD : D → Bool
  | .non | .bl _ | .int _ | .str _ => true
  | _ => false
/-- == of plain values -/
def eqF : D → D → Bool
  | .non, .non => true
  | .bl a, .bl b => a == b
  | .bl a, .int b => (if a then 1 else 0) == b
  | .int a, .bl b => a == (if b then 1 else 0)
  | .int a, .int b => a == b
  | .str a, .str b => a == b
  | _, _ => false
def signIn (neg : Bool) (a : D) (z : Str) : Option D := match a with
  | .str t => (match t.cps.toList with
    | [c] => some (.bl (decide (c ∈ z.cps.toList) != neg))
    | _ => none)
  | _ => none
def inD (neg : Bool) (a b : D) : Option D := match b with
  | .str z => signIn neg a z
  | .lst l => if flatD a = true ∧ l.all flatD = true then some (.bl ((l.any fun y => eqF y a) != neg)) else none
  | .tup l => if flatD a = true ∧ l.all flatD = true then some (.bl ((l.any fun y => eqF y a) != neg)) else none
  | _ => none
theorem rep_flat {K : PySem.W.Frag} {mg : Str → Option Value} {H : Hp} {v : V} {d : D} (r : Rep K mg H v d) : flatV v = flatD d := by cases r <;> rfl
theorem repL_flat {K : PySem.W.Frag} {mg : Str → Option Value} {H : Hp} : ∀ {vs : List V} {ds : List D}, RepL K mg H vs ds → vs.all flatV = ds.all flatD
  | _, _, .nil => rfl
  | _, _, .cons r t => by rw [List.all_cons, List.all_cons, rep_flat r, repL_flat t]
theorem rep_eqF {K : PySem.W.Frag} {mg : Str → Option Value} {H : Hp} {v u : V} {d e : D} (r : Rep K mg H v d) (r' : Rep K mg H u e) : eqV v u = eqF d e := by cases r <;> cases r' <;> rfl
theorem repL_in {K : PySem.W.Frag} {mg : Str → Option Value} {H : Hp} {v : V} {d : D} (r : Rep K mg H v d) : ∀ {vs : List V} {ds : List D}, RepL K mg H vs ds → inV v vs = ds.any fun y => eqF y d
  | _, _, .nil => rfl
  | _, _, .cons r' t => by
    have := repL_in r t
    unfold inV at this ⊢
    rw [List.any_cons, List.any_cons, this, rep_eqF r' r]
theorem inD_core {f : Value → Value → Sem Value} {neg : Bool} (h1 : OpR X f (fun x y H Q => ∃ (c : Nat) (z : Str), x = .str ⟨#[c]⟩ ∧ y = .str z ∧ Q (.bl (decide (c ∈ z.cps.toList) != neg)) H)) (h2 : OpR X f (rIn X.K neg)) : OpD X f (inD neg) :=
  fun pins s σ H x y v u Q I rx ry ⟨O, a, b, z, lv, ra, rb, e, q⟩ => by
    cases rb with
    | str w =>
      cases ra with
      | str t =>
        obtain ⟨⟨l⟩⟩ := t
        match l, e, rx with
        | [c], e, rx =>
          cases e
          exact h1 pins s σ H _ _ v u Q I rx ry ⟨c, w, rfl, rfl, q _ H (Grow.refl _) (.bl _)⟩
        | [], e, _ => cases e
        | _ :: _ :: _, e, _ => cases e
      | _ => cases e
    | @lst _ _ l hq rl =>
      have e' : (if flatD a = true ∧ (List.all l flatD) = true then some (D.bl ((List.any l fun y => eqF y a) != neg)) else none) = some z := e
      split at e'
      · rename_i hf
        cases e'
        refine h2 pins s σ H _ _ v u Q I rx ry ⟨_, _, rfl, .inl (SqL.of (cut_some hq).2), by rw [rep_flat ra]; exact hf.1, by rw [repL_flat rl]; exact hf.2, ?_⟩
        rw [repL_in ra rl]
        refine q _ H (Grow.refl _) ?_
        cases neg
        · rw [Bool.bne_false]; exact .bl _
        · rw [Bool.bne_true]; exact .bl _
      · cases e'
    | @tup _ _ l hq rl =>
      have e' : (if flatD a = true ∧ (List.all l flatD) = true then some (D.bl ((List.any l fun y => eqF y a) != neg)) else none) = some z := e
      split at e'
      · rename_i hf
        cases e'
        refine h2 pins s σ H _ _ v u Q I rx ry ⟨_, _, rfl, .inr (SqT.grow (Grow.ofCut H O) hq), by rw [rep_flat ra]; exact hf.1, by rw [repL_flat rl]; exact hf.2, ?_⟩
        rw [repL_in ra rl]
        refine q _ H (Grow.refl _) ?_
        cases neg
        · rw [Bool.bne_false]; exact .bl _
        · rw [Bool.bne_true]; exact .bl _
      · cases e'
    | _ => cases e
theorem op_inDD : OpD X (compareOp .In) (inD false) := inD_core (fun pins s σ H x y v u Q I rx ry ⟨c, z, h1, h2, q⟩ => op_in_sign pins s σ H x y v u Q I rx ry ⟨c, z, h1, h2, by simpa using q⟩) op_in_seq
theorem op_notInDD : OpD X (compareOp .NotIn) (inD true) := inD_core (fun pins s σ H x y v u Q I rx ry ⟨c, z, h1, h2, q⟩ => op_notIn_sign pins s σ H x y v u Q I rx ry ⟨c, z, h1, h2, by simpa using q⟩) op_notIn_seq
end
end Dv
set_option Elab.async false
set_option linter.all false
set_option maxRecDepth 100000
set_option maxHeartbeats 4000000
/-! DV11: subscripts, slices, built-in functions, f-strings -/
namespace Dv
open PySem L2
section
variable {X : Cx} {G : Gx}
/-! ### a[i] -/
def ixD : D → D → Option D
  | .lst l, .int i => atI l i
  | .tup l, .int i => atI l i
  | .scr l, .int i => (atI l i).map D.int
  | .str z, .int i => if z.length ≤ sizeLine then (atI z.cps.toList i).map fun c => .str ⟨#[c]⟩ else none
  | _, _ => none
theorem RepL.at {K : PySem.W.Frag} {mg : Str → Option Value} {H : Hp} {vs : List V} {ds : List D} {i : Int} {d : D} (r : RepL K mg H vs ds) (h : atI ds i = some d) : ∃ v, atI vs i = some v ∧ Rep K mg H v d := by
  unfold atI at h ⊢
  obtain ⟨j, e1, e2⟩ := Option.bind_eq_some_iff.mp h
  obtain ⟨v, e3, r3⟩ := r.get e2
  exact ⟨v, by rw [r.length, e1]; exact e3, r3⟩
theorem atI_map {α β : Type} {f : α → β} {l : List α} {i : Int} {a : α} (h : atI l i = some a) : atI (l.map f) i = some (f a) := by
  unfold atI at h ⊢
  obtain ⟨j, e1, e2⟩ := Option.bind_eq_some_iff.mp h
  rw [List.length_map, e1]
  simp [e2]
theorem ixR_D : V2 X (rIx X.K) ixD := fun H O x y a b z Q lv ra rb e q => by
  cases rb <;> cases ra <;> simp only [ixD] at e <;> first | (cases e; done) | skip
  · split at e
    · rename_i hz
      obtain ⟨c, e1, rfl⟩ := map_some e
      exact .inr (.inr ⟨_, _, c, rfl, rfl, hz, e1, q _ H (Grow.refl _) (.str _)⟩)
    · cases e
  · rename_i hq rl
    obtain ⟨v, e1, r1⟩ := rl.at e
    exact .inr (.inl ⟨_, _, _, v, rfl, rfl, SqT.grow (Grow.ofCut H O) hq, e1, q _ H (Grow.refl _) r1⟩)
  · rename_i hq rl
    obtain ⟨v, e1, r1⟩ := rl.at e
    exact .inl ⟨_, _, _, v, rfl, rfl, SqL.of (cut_some hq).2, e1, q _ H (Grow.refl _) r1⟩
  · rename_i hq
    obtain ⟨c, e1, rfl⟩ := map_some e
    exact .inl ⟨_, _, _, .int c, rfl, rfl, SqL.grow (Grow.ofCut H O) hq, atI_map e1, q _ H (Grow.refl _) (.int c)⟩
theorem de_ix {a b : Expr} {pos : Pos} {fa fb : M D} (ha : DE X G a fa) (hb : DE X G b fb) (hs : PlainIx b := by intro _ _; rfl) : DE X G (.Subscript a b pos) (m2 ixD fa fb) := pe_imp (pe_ix ix_seq ha hb hs) (tOp_of ixR_D)
/-! ### a[lo:hi] -/
def cutD (l : List D) (lo hi : Option Int) : List D := (l.drop (HT.sIx l.length 0 lo)).take (HT.sIx l.length l.length hi - HT.sIx l.length 0 lo)
def slD : D → Option Int → Option Int → Option D
  | .lst l, lo, hi => some (.lst (cutD l lo hi))
  | .tup l, lo, hi => some (.tup (cutD l lo hi))
  | .scr l, lo, hi => some (.lst (cutD (l.map D.int) lo hi))
  | .str z, lo, hi => if z.length ≤ sizeLine then some (.str (cutS z lo hi)) else none
  | _, _, _ => none
theorem RepL.cut {K : PySem.W.Frag} {mg : Str → Option Value} {H : Hp} {vs : List V} {ds : List D} {lo hi : Option Int} (r : RepL K mg H vs ds) : RepL K mg H (cutV vs lo hi) (cutD ds lo hi) := by
  unfold cutV cutD
  rw [r.length]
  exact (r.drop _).take _
theorem RepL.ints {K : PySem.W.Frag} {mg : Str → Option Value} {H : Hp} : ∀ ns : List Int, RepL K mg H (ns.map V.int) (ns.map D.int)
  | [] => .nil
  | n :: ns => .cons (.int n) (RepL.ints ns)
/-- a part of a slice -/
def DO (X : Cx) (G : Gx) (e : Option Expr) (f : M (Option Int)) : Prop := PO X e (fun σ H Q => ∃ O τ d τ', SR X.K X.mg G H O σ τ ∧ f τ = some (d, τ') ∧ ∀ H' O', Le H O H' O' → SR X.K X.mg G H' O' σ τ' → Q d H')
theorem po_imp {e : Option Expr} {t t' : TO} (h : PO X e t) (i : ∀ σ H Q, t' σ H Q → t σ H Q) : PO X e t' := ⟨fun pins s σ H Q I q => h.run pins s σ H Q I (i σ H Q q)⟩
theorem do_none : DO X G none (mPure none) := po_imp po_none fun σ H Q q => by
  obtain ⟨O, τ, d, τ', R, e, q⟩ := q
  cases e
  exact q H O (Le.refl _ _) R
def asI : D → Option (Option Int)
  | .int i => some (some i)
  | _ => none
theorem do_some {e : Expr} {f : M D} (h : DE X G e f) : DO X G (some e) (mBind f fun d => mLift (asI d)) := po_imp (po_some h) fun σ H Q q => by
  obtain ⟨O, τ, d, τ', R, e, q⟩ := q
  obtain ⟨a, e1, e2⟩ := mL_some e
  refine ⟨O, τ, a, τ', R, e1, fun v H' O' l R' r => ?_⟩
  cases r with
  | int i => cases e2; exact ⟨i, rfl, q H' O' l R'⟩
  | _ => cases e2
def mSl (fa : M D) (fl fh : M (Option Int)) : M D := mBind fa fun a => mBind fl fun lo => mBind fh fun hi => mLift (slD a lo hi)
theorem de_sl {e : Expr} {lo hi : Option Expr} {p2 pos : Pos} {fa : M D} {fl fh : M (Option Int)} (he : DE X G e fa) (hl : DO X G lo fl) (hh : DO X G hi fh) : DE X G (.Subscript e (.Slice lo hi none p2) pos) (mSl fa fl fh) :=
  pe_imp (pe_slice (SlR.or sl_list (SlR.or sl_tupA sl_str)) he hl hh) fun σ H Q q => by
    obtain ⟨O, τ, z, τ', R, e, q⟩ := q
    obtain ⟨a, τ1, e1, e⟩ := mBind_some e
    obtain ⟨lo, τ2, e2, e⟩ := mBind_some e
    obtain ⟨hi, e3, e4⟩ := mL_some (g := fun hi => slD a lo hi) e
    refine ⟨O, τ, a, τ1, R, e1, fun v H1 O1 l1 R1 r1 => ⟨O1, τ1, lo, τ2, R1, e2, fun H2 O2 l2 R2 => ⟨O2, τ2, hi, τ', R2, e3, fun H3 O3 l3 R3 => ?_⟩⟩⟩
    have r3 := Rep.grow (l2.trans l3) r1
    have l13 := (l1.trans l2).trans l3
    cases r3 with
    | lst hq rl =>
      cases e4
      exact .inl ⟨_, _, rfl, SqL.of (cut_some hq).2, fun p hp => q _ _ O3 (l13.trans (Le.grow (Grow.new hp))) (R3.grow (Grow.new hp)) (new_list R3.live hp rl.cut)⟩
    | scr hq =>
      cases e4
      exact .inl ⟨_, _, rfl, SqL.grow (Grow.ofCut _ _) hq, fun p hp => q _ _ O3 (l13.trans (Le.grow (Grow.new hp))) (R3.grow (Grow.new hp)) (new_list R3.live hp (RepL.ints _).cut)⟩
    | @tup a xs ds hq rl =>
      cases e4
      refine .inr (.inl ⟨_, _, rfl, SqT.grow (Grow.ofCut _ _) hq, fun hw => ?_, fun _ p hp => q _ _ O3 (l13.trans (Le.grow (Grow.new hp))) (R3.grow (Grow.new hp)) (new_tup R3.live hp rl.cut)⟩)
      have : cutD ds lo hi = ds := by
        rw [rl.length] at hw
        unfold cutD
        rw [hw.1, hw.2]
        simp
      rw [this] at q
      exact q _ _ O3 l13 R3 (.tup hq rl)
    | str z =>
      simp only [slD] at e4
      split at e4
      · cases e4
        exact .inr (.inr ⟨_, rfl, by assumption, q _ _ O3 l13 R3 (.str _)⟩)
      · cases e4
    | _ => cases e4

/-! ### calls -/
def lenD : List D → Option D
  | [.str z] => if z.length ≤ sizeLine then some (.int z.length) else none
  | [.lst l] => some (.int l.length)
  | [.tup l] => some (.int l.length)
  | [.scr l] => some (.int l.length)
  | _ => none
theorem c_len : CallD X (.builtin "len") lenD := callD_of call_len fun H O xs ds z Q lv r e q => by
  match ds, r, e with
  | [d], .cons r1 .nil, e =>
    cases r1 with
    | str z =>
      simp only [lenD] at e
      split at e
      · cases e; exact ⟨_, _, rfl, ⟨by assumption, rfl⟩, q _ H (Grow.refl _) (.int _)⟩
      · cases e
    | lst hq rl => cases e; exact ⟨_, _, rfl, .inl ⟨_, SqL.of (cut_some hq).2, rfl⟩, by rw [rl.length]; exact q _ H (Grow.refl _) (.int _)⟩
    | tup hq rl => cases e; exact ⟨_, _, rfl, .inr ⟨_, SqT.grow (Grow.ofCut H O) hq, rfl⟩, by rw [rl.length]; exact q _ H (Grow.refl _) (.int _)⟩
    | scr hq => cases e; exact ⟨_, _, rfl, .inl ⟨_, SqL.grow (Grow.ofCut H O) hq, rfl⟩, by rw [List.length_map]; exact q _ H (Grow.refl _) (.int _)⟩
    | _ => cases e
  | [], .nil, e => cases e
  | _ :: _ :: _, _, e => simp [lenD] at e
def absD : List D → Option D
  | [.int i] => some (.int (if i < 0 then -i else i))
  | _ => none
theorem c_abs : CallD X (.builtin "abs") absD := callD_of call_abs fun H O xs ds z Q lv r e q => by
  match ds, r, e with
  | [.int i], .cons (.int _) .nil, e => cases e; exact ⟨_, rfl, q _ H (Grow.refl _) (.int _)⟩
def intD : List D → Option D
  | [.int i] => some (.int i)
  | [.bl k] => some (.int (if k = true then 1 else 0))
  | _ => none
theorem c_int : CallD X (.type "int") intD := callD_of call_int1 fun H O xs ds z Q lv r e q => by
  match ds, r, e with
  | [.int i], .cons (.int _) .nil, e => cases e; exact .inl ⟨_, rfl, q _ H (Grow.refl _) (.int _)⟩
  | [.bl i], .cons (.bl _) .nil, e => cases e; exact .inr ⟨_, rfl, q _ H (Grow.refl _) (.int _)⟩
/-- list(x) -/
def listF : List D → Option (List D)
  | [.lst l] => some l
  | [.tup l] => some l
  | [.scr l] => some (l.map D.int)
  | _ => none
theorem f_list : VNF X (fun xs H Q => ∃ p ys, xs = [.ref p] ∧ (SqL X.K H p ys ∨ SqT X.K H p ys) ∧ ∀ l, H l = none → Q (.ref l) (upd H l (.lst ys))) listF := fun H O xs ds z Q lv r e q => by
  match ds, r, e with
  | [.lst l], .cons (.lst hq rl) .nil, e => cases e; exact ⟨_, _, rfl, .inl (SqL.of (cut_some hq).2), fun p hp => q p _ hp rl⟩
  | [.tup l], .cons (.tup hq rl) .nil, e => cases e; exact ⟨_, _, rfl, .inr (SqT.grow (Grow.ofCut H O) hq), fun p hp => q p _ hp rl⟩
  | [.scr l], .cons (.scr hq) .nil, e => cases e; exact ⟨_, _, rfl, .inl (SqL.grow (Grow.ofCut H O) hq), fun p hp => q p _ hp (RepL.ints _)⟩
def listD (ds : List D) : Option D := (listF ds).map D.lst
theorem c_list : CallD X (.type "list") listD := callD_of call_list_of f_list.vn
def tupleD : List D → Option D
  | [.lst l] => some (.tup l)
  | [.tup l] => some (.tup l)
  | [.scr l] => some (.tup (l.map D.int))
  | _ => none
theorem c_tuple : CallD X (.type "tuple") tupleD := callD_of call_tuple_of fun H O xs ds z Q lv r e q => by
  match ds, r, e with
  | [.lst l], .cons (.lst hq rl) .nil, e => cases e; exact ⟨_, _, rfl, .inl ⟨SqL.of (cut_some hq).2, fun p hp => q _ _ (Grow.new hp) (new_tup lv hp rl)⟩⟩
  | [.tup l], .cons (.tup hq rl) .nil, e => cases e; exact ⟨_, _, rfl, .inr ⟨SqT.grow (Grow.ofCut H O) hq, q _ H (Grow.refl _) (.tup hq rl)⟩⟩
  | [.scr l], .cons (.scr hq) .nil, e => cases e; exact ⟨_, _, rfl, .inl ⟨SqL.grow (Grow.ofCut H O) hq, fun p hp => q _ _ (Grow.new hp) (new_tup lv hp (RepL.ints _))⟩⟩
/-- lists of ints, of truth values, of texts -/
def asInts : List D → Option (List Int)
  | [] => some []
  | .int i :: r => (asInts r).map (i :: ·)
  | _ => none
def asBls : List D → Option (List Bool)
  | [] => some []
  | .bl i :: r => (asBls r).map (i :: ·)
  | _ => none
def asStrs : List D → Option (List Str)
  | [] => some []
  | .str i :: r => (asStrs r).map (i :: ·)
  | _ => none
theorem asInts_ok {K : PySem.W.Frag} {mg : Str → Option Value} {H : Hp} : ∀ {vs : List V} {ds : List D} {ns : List Int}, RepL K mg H vs ds → asInts ds = some ns → vs = ns.map V.int
  | _, _, _, .nil, e => by cases e; rfl
  | _, _, _, .cons r t, e => by
    cases r with
    | int i => obtain ⟨a, e1, rfl⟩ := map_some e; rw [asInts_ok t e1]; rfl
    | _ => cases e
theorem asBls_ok {K : PySem.W.Frag} {mg : Str → Option Value} {H : Hp} : ∀ {vs : List V} {ds : List D} {ns : List Bool}, RepL K mg H vs ds → asBls ds = some ns → vs = ns.map V.bl
  | _, _, _, .nil, e => by cases e; rfl
  | _, _, _, .cons r t, e => by
    cases r with
    | bl i => obtain ⟨a, e1, rfl⟩ := map_some e; rw [asBls_ok t e1]; rfl
    | _ => cases e
theorem asStrs_ok {K : PySem.W.Frag} {mg : Str → Option Value} {H : Hp} : ∀ {vs : List V} {ds : List D} {ns : List Str}, RepL K mg H vs ds → asStrs ds = some ns → vs = ns.map V.str
  | _, _, _, .nil, e => by cases e; rfl
  | _, _, _, .cons r t, e => by
    cases r with
    | str i => obtain ⟨a, e1, rfl⟩ := map_some e; rw [asStrs_ok t e1]; rfl
    | _ => cases e
def anyD : List D → Option D
  | [.lst l] => (asBls l).map fun bs => .bl (bs.any id)
  | _ => none
def allD : List D → Option D
  | [.lst l] => (asBls l).map fun bs => .bl (bs.all id)
  | _ => none
theorem c_any (hc : X.calm = true) : CallD X (.builtin "any") anyD := callD_of (cr_any hc) fun H O xs ds z Q lv r e q => by
  match ds, r, e with
  | [.lst l], .cons (.lst hq rl) .nil, e =>
    obtain ⟨bs, e1, rfl⟩ := map_some e
    have := asBls_ok rl e1; subst this
    exact ⟨_, _, rfl, SqL.of (cut_some hq).2, q _ H (Grow.refl _) (.bl _)⟩
theorem c_all (hc : X.calm = true) : CallD X (.builtin "all") allD := callD_of (cr_all hc) fun H O xs ds z Q lv r e q => by
  match ds, r, e with
  | [.lst l], .cons (.lst hq rl) .nil, e =>
    obtain ⟨bs, e1, rfl⟩ := map_some e
    have := asBls_ok rl e1; subst this
    exact ⟨_, _, rfl, SqL.of (cut_some hq).2, q _ H (Grow.refl _) (.bl _)⟩
def sumD : List D → Option D
  | [.lst l] => (asInts l).map fun bs => .int bs.sum
  | _ => none
theorem c_sum (hc : X.calm = true) : CallD X (.builtin "sum") sumD := callD_of (cr_sum hc) fun H O xs ds z Q lv r e q => by
  match ds, r, e with
  | [.lst l], .cons (.lst hq rl) .nil, e =>
    obtain ⟨bs, e1, rfl⟩ := map_some e
    have := asInts_ok rl e1; subst this
    exact ⟨_, _, rfl, SqL.of (cut_some hq).2, q _ H (Grow.refl _) (.int _)⟩
/-- the greatest, the least -/
def maxL : List Int → Option Int
  | [] => none
  | i :: r => some (r.foldl (fun a b => if b > a then b else a) i)
def minL : List Int → Option Int
  | [] => none
  | i :: r => some (r.foldl (fun a b => if b < a then b else a) i)
theorem maxL_ok : ∀ {l : List Int} {m : Int}, maxL l = some m → m ∈ l ∧ ∀ y ∈ l, y ≤ m := by
  have go : ∀ (l : List Int) (a : Int), (l.foldl (fun a b => if b > a then b else a) a = a ∨ l.foldl (fun a b => if b > a then b else a) a ∈ l) ∧ a ≤ l.foldl (fun a b => if b > a then b else a) a ∧ ∀ y ∈ l, y ≤ l.foldl (fun a b => if b > a then b else a) a := by
    intro l
    induction l with
    | nil => intro a; simp
    | cons b l ih =>
      intro a
      simp only [List.foldl_cons]
      obtain ⟨h1, h2, h3⟩ := ih (if b > a then b else a)
      refine ⟨?_, ?_, ?_⟩
      · by_cases hb : b > a
        · rw [if_pos hb] at h1 ⊢
          rcases h1 with h1 | h1
          · right; rw [h1]; simp
          · right; simp [h1]
        · rw [if_neg hb] at h1 ⊢
          rcases h1 with h1 | h1
          · left; exact h1
          · right; simp [h1]
      · by_cases hb : b > a
        · rw [if_pos hb] at h2 ⊢; omega
        · rw [if_neg hb] at h2 ⊢; omega
      · intro y hy
        rcases List.mem_cons.mp hy with rfl | hy
        · by_cases hb : y > a
          · rw [if_pos hb] at h2 ⊢; omega
          · rw [if_neg hb] at h2 ⊢; omega
        · exact h3 y hy
  intro l m h
  cases l with
  | nil => cases h
  | cons i r =>
    cases h
    obtain ⟨h1, h2, h3⟩ := go r i
    refine ⟨?_, fun y hy => ?_⟩
    · rcases h1 with h1 | h1
      · rw [h1]; simp
      · simp [h1]
    · rcases List.mem_cons.mp hy with rfl | hy
      · exact h2
      · exact h3 y hy
theorem minL_ok : ∀ {l : List Int} {m : Int}, minL l = some m → m ∈ l ∧ ∀ y ∈ l, m ≤ y := by
  have go : ∀ (l : List Int) (a : Int), (l.foldl (fun a b => if b < a then b else a) a = a ∨ l.foldl (fun a b => if b < a then b else a) a ∈ l) ∧ l.foldl (fun a b => if b < a then b else a) a ≤ a ∧ ∀ y ∈ l, l.foldl (fun a b => if b < a then b else a) a ≤ y := by
    intro l
    induction l with
    | nil => intro a; simp
    | cons b l ih =>
      intro a
      simp only [List.foldl_cons]
      obtain ⟨h1, h2, h3⟩ := ih (if b < a then b else a)
      refine ⟨?_, ?_, ?_⟩
      · by_cases hb : b < a
        · rw [if_pos hb] at h1 ⊢
          rcases h1 with h1 | h1
          · right; rw [h1]; simp
          · right; simp [h1]
        · rw [if_neg hb] at h1 ⊢
          rcases h1 with h1 | h1
          · left; exact h1
          · right; simp [h1]
      · by_cases hb : b < a
        · rw [if_pos hb] at h2 ⊢; omega
        · rw [if_neg hb] at h2 ⊢; omega
      · intro y hy
        rcases List.mem_cons.mp hy with rfl | hy
        · by_cases hb : y < a
          · rw [if_pos hb] at h2 ⊢; omega
          · rw [if_neg hb] at h2 ⊢; omega
        · exact h3 y hy
  intro l m h
  cases l with
  | nil => cases h
  | cons i r =>
    cases h
    obtain ⟨h1, h2, h3⟩ := go r i
    refine ⟨?_, fun y hy => ?_⟩
    · rcases h1 with h1 | h1
      · rw [h1]; simp
      · simp [h1]
    · rcases List.mem_cons.mp hy with rfl | hy
      · exact h2
      · exact h3 y hy
def maxD : List D → Option D
  | [.int i, .int j] => some (.int (if j > i then j else i))
  | [.lst l] => ((asInts l).bind maxL).map D.int
  | _ => none
def minD : List D → Option D
  | [.int i, .int j] => some (.int (if j < i then j else i))
  | [.lst l] => ((asInts l).bind minL).map D.int
  | _ => none
theorem c_max (hc : X.calm = true) : CallD X (.builtin "max") maxD := fun pins s σ H xs us Q I rx ⟨O, ds, z, lv, r, e, q⟩ => by
  match ds, r, e with
  | [.int i, .int j], .cons (.int _) (.cons (.int _) .nil), e => cases e; exact call_max2 hc pins s σ H _ us Q I rx ⟨_, _, rfl, q _ H (Grow.refl _) (.int _)⟩
  | [.lst l], .cons (.lst hq rl) .nil, e =>
    obtain ⟨m, e1, rfl⟩ := map_some e
    obtain ⟨ns, e2, e3⟩ := Option.bind_eq_some_iff.mp e1
    have := asInts_ok rl e2; subst this
    have ok := maxL_ok e3
    refine cr_max hc pins s σ H _ us Q I rx ⟨_, ns, rfl, SqL.of (cut_some hq).2, List.length_pos_of_mem ok.1, fun m' h1 h2 => ?_⟩
    have : m' = m := by have := h2 m ok.1; have := ok.2 m' h1; omega
    subst this
    exact q _ H (Grow.refl _) (.int _)
theorem c_min (hc : X.calm = true) : CallD X (.builtin "min") minD := fun pins s σ H xs us Q I rx ⟨O, ds, z, lv, r, e, q⟩ => by
  match ds, r, e with
  | [.int i, .int j], .cons (.int _) (.cons (.int _) .nil), e => cases e; exact call_min2 hc pins s σ H _ us Q I rx ⟨_, _, rfl, q _ H (Grow.refl _) (.int _)⟩
  | [.lst l], .cons (.lst hq rl) .nil, e =>
    obtain ⟨m, e1, rfl⟩ := map_some e
    obtain ⟨ns, e2, e3⟩ := Option.bind_eq_some_iff.mp e1
    have := asInts_ok rl e2; subst this
    have ok := minL_ok e3
    refine cr_min hc pins s σ H _ us Q I rx ⟨_, ns, rfl, SqL.of (cut_some hq).2, List.length_pos_of_mem ok.1, fun m' h1 h2 => ?_⟩
    have : m' = m := by have := h2 m ok.1; have := ok.2 m' h1; omega
    subst this
    exact q _ H (Grow.refl _) (.int _)
end
end Dv
set_option Elab.async false
set_option linter.all false
set_option maxRecDepth 100000
set_option maxHeartbeats 4000000
/-! DV12: isinstance, str, repr, join, f-strings, sorted, signs of a text, module constants -/
namespace Dv
open PySem L2
/-! ### isinstance -/
inductive Tg where
  | ty (x : String)
  | cl (c : Nat)
  deriving DecidableEq
def tag : D → Tg
  | .non => .ty "NoneType"
  | .bl _ => .ty "bool"
  | .int _ => .ty "int"
  | .str _ => .ty "str"
  | .tup _ => .ty "tuple"
  | .lst _ => .ty "list"
  | .scr _ => .ty "list"
  | .obj c _ => .cl c
def TagOk (K : PySem.W.Frag) (mg : Str → Option Value) (u : Value) (p : Tg × Bool) : Prop := match p.1 with
  | .ty s => PySem.W.kitOne K (.type s) u = some p.2
  | .cl c => ∃ C, ClsF K mg c C ∧ PySem.W.kitOne K (.ref C) u = some p.2
theorem lookup_mem {α β : Type} [BEq α] [LawfulBEq α] {a : α} {b : β} : ∀ {l : List (α × β)}, l.lookup a = some b → (a, b) ∈ l
  | [], h => by cases h
  | (x, y) :: r, h => by
    rw [List.lookup_cons] at h
    by_cases e : a = x
    · subst e
      simp at h
      subst h
      exact List.mem_cons_self
    · have : (a == x) = false := by simpa using e
      rw [this] at h
      exact List.mem_cons_of_mem _ (lookup_mem h)
section
variable {X : Cx} {G : Gx}
theorem rep_ty {H : Hp} {O : List Addr} {x : V} {d : D} {u : Value} {b : Bool} (r : Rep X.K X.mg (cut H O) x d) (ok : TagOk X.K X.mg u (tag d, b)) : ∃ t, TyX X.K H x t ∧ PySem.W.kitOne X.K t u = some b := by
  cases r with
  | non => exact ⟨_, .base .non, ok⟩
  | bl c => exact ⟨_, .base (.bl c), ok⟩
  | int i => exact ⟨_, .base (.int i), ok⟩
  | str z => exact ⟨_, .base (.str z), ok⟩
  | tup hq rl =>
    rcases SqT.grow (Grow.ofCut H O) hq with (h | ⟨o, h⟩) | ⟨o, its, n, h, hc, _⟩
    · exact ⟨_, .base (.tup h), ok⟩
    · exact ⟨_, .fTuple h, ok⟩
    · exact ⟨_, .kTuple h hc, ok⟩
  | lst hq rl => exact ⟨_, .base (.lst (cut_some hq).2), ok⟩
  | scr hq =>
    rcases SqL.grow (Grow.ofCut H O) hq with (h | ⟨o, h⟩) | ⟨o, its, n, h, hc, _⟩
    · exact ⟨_, .base (.lst h), ok⟩
    · exact ⟨_, .base (.frz h), ok⟩
    · exact ⟨_, .kList h hc, ok⟩
  | obj h1 h2 h3 rl =>
    obtain ⟨C, hF, hk⟩ := ok
    rw [hF.g] at h1; cases h1
    exact ⟨_, .base (.ins (cut_some h2).2 hF.cl hF.ca hF.cn hF.ct hF.cm), hk⟩
def isiD (t : List (Tg × Bool)) (d : D) : Option D := (t.lookup (tag d)).map D.bl
theorem de_isi {e c : Expr} {p pos : Pos} {cv : V} {u : Value} {t : List (Tg × Bool)} {f : M D} (hg : Gl X "isinstance") (hm : X.mg "isinstance" = none) (he : DE X G e f) (hc : PE X c (tC cv)) (hu : ClsV cv u) (ht : ∀ q ∈ t, TagOk X.K X.mg u q)
    (hs : starEach [e, c] X.env = (false, eval e X.env) :: starEach [c] X.env := by rfl) (hs2 : starEach [c] X.env = (false, eval c X.env) :: starEach [] X.env := by rfl) (hpl : (backTo pos (starEach [c] X.env)).any (·.1) = false := by rfl) :
    DE X G (.Call (.Name "isinstance" p) [e, c] [] pos) (m1 (isiD t) f) :=
  pe_imp (pe_callB call_isi hg hm rfl (pa_cons he (pa_cons hc pa_nil hs2) hs) (by decide) (by decide) hs hpl) fun σ H Q q => by
    obtain ⟨O, τ, z, τ', R, e, q⟩ := q
    obtain ⟨a, e1, e2⟩ := m1_some e
    refine ⟨O, τ, a, τ', R, e1, fun v H1 O1 l1 R1 r1 => ?_⟩
    obtain ⟨b, e3, rfl⟩ := map_some e2
    obtain ⟨ty, h1, h2⟩ := rep_ty r1 (ht _ (lookup_mem e3))
    exact ⟨v, cv, ty, u, b, rfl, hu, h1, h2, q _ H1 O1 l1 R1 (.bl b)⟩
/-! ### signs of a text -/
def signsD (z : Str) : List D := z.cps.toList.map fun c => .str ⟨#[c]⟩
theorem wk_str {K : PySem.W.Frag} {mg : Str → Option Value} (z : Str) : Wk K mg (Its z) (signsD z) fun _ _ => True where
  mono := fun _ _ _ _ _ _ => trivial
  go := fun i d H O lv _ e => by
    unfold signsD at e
    rw [List.getElem?_map] at e
    obtain ⟨c, e1, rfl⟩ := map_some e
    have e2 : z.cps[i]? = some c := by rw [← Array.getElem?_toList]; exact e1
    refine ⟨(Array.getElem?_eq_some_iff.mp e2).1, fun x H' y => ?_⟩
    obtain ⟨rfl, c', h1, rfl⟩ := y
    rw [e2] at h1; cases h1
    exact ⟨Grow.refl _, .str _⟩
  stop := fun H O _ => by unfold signsD; simp [Its]
def iterD : D → Option (List D)
  | .lst l => some l
  | .tup l => some l
  | .scr ns => some (ns.map D.int)
  | .str z => some (signsD z)
  | _ => none
theorem di_any {tg e : Expr} {f : M D} (h : DE X G e f) : DI X G tg e (mBind f fun d => mLift (iterD d)) := pi_imp (pi_both (di_seq h) (pi_str h)) fun σ H R q => by
  obtain ⟨O, τ, items, τ', SRr, e1, q⟩ := q
  obtain ⟨d, e2, e3⟩ := mL_some e1
  have fin : itemsD d = some items → _ := fun hi => (.inl ⟨O, τ, items, τ', SRr, by unfold mBind mLift; simp [e2, hi], q⟩ : tDI X.K X.mg G (mBind f fun d => mLift (itemsD d)) σ H R ∨ iStr (tD X.K X.mg G f) σ H R)
  cases d with
  | lst l => exact fin e3
  | tup l => exact fin e3
  | scr l => exact fin e3
  | str z =>
    cases e3
    refine .inr ⟨O, τ, _, τ', SRr, e2, fun v H' O' l' R' r => ?_⟩
    cases r
    exact ⟨z, rfl, q _ H' O' _ l' R' (wk_str z) trivial⟩
  | _ => cases e3
/-! ### join -/
def joinD (a : D) (b : D) : Option D := match a, b with
  | .str x, .lst l => (asStrs l).bind fun ys => if (ys.map (·.length)).sum + ys.length * x.length ≤ 16777216 then some (.str (Txt.join x ys)) else none
  | .str x, .tup l => (asStrs l).bind fun ys => if (ys.map (·.length)).sum + ys.length * x.length ≤ 16777216 then some (.str (Txt.join x ys)) else none
  | _, _ => none
theorem de_join {o e : Expr} {apos pos : Pos} {fo fe : M D} (ho : DE X G o fo) (he : DE X G e fe) (hs : starEach [e] X.env = [(false, eval e X.env)] := by rfl) (hbase : attributeBase o "join" X.env (eval o X.env) = eval o X.env := by rfl) (hline : (apos.endLine == pos.line) = true := by rfl) :
    DE X G (.Call (.Attribute o "join" apos) [e] [] pos) (mBind fo fun a => match a with
      | .str _ => mBind fe fun b => mLift (joinD a b)
      | _ => fun _ => none) := pe_imp (pe_join ho he hs hbase hline) fun σ H Q q => by
  obtain ⟨O, τ, z, τ', R, e, q⟩ := q
  obtain ⟨a, τ1, e1, e⟩ := mBind_some e
  refine ⟨O, τ, a, τ1, R, e1, fun v H1 O1 l1 R1 r1 => ?_⟩
  cases r1 with
  | str x =>
    obtain ⟨b, e2, e3⟩ := mL_some (g := fun b => joinD (.str x) b) e
    refine ⟨⟨x, rfl⟩, O1, τ1, b, τ', R1, e2, fun w H2 O2 l2 R2 r2 => ?_⟩
    cases r2 with
    | lst hq rl =>
      obtain ⟨ys, e4, e5⟩ := Option.bind_eq_some_iff.mp e3
      split at e5
      · cases e5
        have := asStrs_ok rl e4; subst this
        exact ⟨x, _, ys, rfl, rfl, .inl (SqL.of (cut_some hq).2), by assumption, q _ H2 O2 (l1.trans l2) R2 (.str _)⟩
      · cases e5
    | tup hq rl =>
      obtain ⟨ys, e4, e5⟩ := Option.bind_eq_some_iff.mp e3
      split at e5
      · cases e5
        have := asStrs_ok rl e4; subst this
        exact ⟨x, _, ys, rfl, rfl, .inr (SqT.grow (Grow.ofCut _ _) hq), by assumption, q _ H2 O2 (l1.trans l2) R2 (.str _)⟩
      · cases e5
    | _ => cases e3
  | _ => cases e
/-! ### f-strings -/
def fmtD : D → Option D
  | .str y => if y.length ≤ sizeLine then some (.str y) else none
  | .int i => if i.natAbs.log2 < 1920 then some (.str (toString i)) else none
  | _ => none
theorem de_fmt {e : Expr} {pos : Pos} {f : M D} (he : DE X G e f) : DE X G (.FormattedValue e (-1) none pos) (m1 fmtD f) := pe_imp (pe_fmt he) fun σ H Q q => by
  obtain ⟨O, τ, z, τ', R, e, q⟩ := q
  obtain ⟨a, e1, e2⟩ := m1_some e
  refine ⟨O, τ, a, τ', R, e1, fun v H1 O1 l1 R1 r1 => ?_⟩
  cases r1 with
  | str y =>
    simp only [fmtD] at e2
    split at e2
    · cases e2; exact .inl ⟨y, rfl, by assumption, q _ H1 O1 l1 R1 (.str _)⟩
    · cases e2
  | int i =>
    simp only [fmtD] at e2
    split at e2
    · cases e2; exact .inr ⟨i, rfl, by assumption, q _ H1 O1 l1 R1 (.str _)⟩
    · cases e2
  | _ => cases e2
inductive DJ (X : Cx) (G : Gx) : List Expr → List (M D) → Prop where
  | nil : DJ X G [] []
  | cons {e : Expr} {t : M D} {es : List Expr} {ts : List (M D)} (h : DE X G e t) (r : DJ X G es ts) : DJ X G (e :: es) (t :: ts)
theorem DJ.pj {es : List Expr} {ts : List (M D)} (h : DJ X G es ts) : PJ X es (ts.map (tD X.K X.mg G)) := by
  induction h with
  | nil => exact .nil
  | cons h _ ih => exact .cons h ih
/-- the texts one behind the other -/
def jsF : List (M D) → Str → M D
  | [], acc => mPure (.str acc)
  | t :: ts, acc => mBind t fun d => match d with
    | .str y => if (acc ++ y).length ≤ sizeLine then jsF ts (acc ++ y) else fun _ => none
    | _ => fun _ => none
theorem tJs_of {σ : St} {Q : VK} : ∀ {ts : List (M D)} {acc : Str} {H : Hp}, tD X.K X.mg G (jsF ts acc) σ H Q → tJs (ts.map (tD X.K X.mg G)) acc σ H fun out H1 => Q (.str out) H1
  | [], acc, H, q => by
    obtain ⟨O, τ, z, τ', R, e, q⟩ := q
    cases e
    exact q _ H O (Le.refl _ _) R (.str _)
  | t :: ts, acc, H, q => by
    obtain ⟨O, τ, z, τ', R, e, q⟩ := q
    obtain ⟨d, τ1, e1, e⟩ := mBind_some e
    refine ⟨O, τ, d, τ1, R, e1, fun v H1 O1 l1 R1 r1 => ?_⟩
    cases r1 with
    | str y =>
      simp only at e
      split at e
      · rename_i hz
        exact ⟨y, rfl, hz, tJs_of ⟨O1, τ1, z, τ', R1, e, fun v H2 O2 l2 R2 r2 => q v H2 O2 (l1.trans l2) R2 r2⟩⟩
      · cases e
    | _ => cases e
theorem de_joined {v1 v2 : Expr} {rest : List Expr} {ts : List (M D)} {pos : Pos} (h : DJ X G (v1 :: v2 :: rest) ts) : DE X G (.JoinedStr (v1 :: v2 :: rest) pos) (jsF ts Str.empty) := pe_imp (pe_joined h.pj) fun σ H Q q => tJs_of q
theorem de_joined1 {e : Expr} {f : M D} {pos : Pos} (h : DE X G e f) : DE X G (.JoinedStr [e] pos) f := pe_joined1 h
/-! ### str, repr -/
def strD : List D → Option D
  | [.int i] => if i.natAbs.log2 < 1920 then some (.str (toString i)) else none
  | [.str x] => some (.str x)
  | _ => none
theorem c_str : CallD X (.type "str") strD := fun pins s σ H xs us Q I rx ⟨O, ds, z, lv, r, e, q⟩ => by
  match ds, r, e with
  | [.int i], .cons (.int _) .nil, e =>
    simp only [strD] at e
    split at e
    · cases e; exact call_str_int pins s σ H _ us Q I rx ⟨_, rfl, by assumption, q _ H (Grow.refl _) (.str _)⟩
    · cases e
  | [.str i], .cons (.str _) .nil, e => cases e; exact SkE.call_str_str pins s σ H _ us Q I rx ⟨_, rfl, q _ H (Grow.refl _) (.str _)⟩
end
mutual
theorem noDict : ∀ {d : D} {p : PyData}, toP d = some p → p.hasDict = false
  | .non, _, e => by cases e; rfl
  | .bl _, _, e => by cases e; rfl
  | .int _, _, e => by cases e; rfl
  | .str _, _, e => by cases e; rfl
  | .tup l, _, e => by obtain ⟨ps, e1, rfl⟩ := map_some e; exact noDicts e1
  | .lst l, _, e => by obtain ⟨ps, e1, rfl⟩ := map_some e; exact noDicts e1
  | .scr ns, _, e => by
    cases e
    show PyData.hasDictAll (ns.map PyData.int) = false
    induction ns with
    | nil => rfl
    | cons n ns ih => simpa [PyData.hasDictAll, PyData.hasDict] using ih
  | .obj _ _, _, e => by cases e
theorem noDicts : ∀ {ds : List D} {ps : List PyData}, toPs ds = some ps → PyData.hasDictAll ps = false
  | [], _, e => by cases e; rfl
  | d :: ds, _, e => by
    simp only [toPs] at e
    obtain ⟨p, e1, e2⟩ := Option.bind_eq_some_iff.mp e
    obtain ⟨q, e3, rfl⟩ := map_some e2
    simp [PyData.hasDictAll, noDict e1, noDicts e3]
end
section
variable {X : Cx} {G : Gx}
def reprP (p : PyData) : Option D := if p.showable = true ∧ p.depth ≤ 60 ∧ p.shown.length ≤ sizeLine then some (.str p.shown) else none
def reprD : List D → Option D
  | [d] => (toP d).bind reprP
  | _ => none
theorem c_repr {k : Nat} (hr : Room k X.A) (hgd : X.A.guards = some []) : CallD X (.builtin "repr") reprD := fun pins s σ H xs us Q I rx ⟨O, ds, z, lv, r, e, q⟩ => by
  match ds, r, e with
  | [d], .cons r1 .nil, e =>
    simp only [reprD] at e
    obtain ⟨p, e1, e2⟩ := Option.bind_eq_some_iff.mp e
    unfold reprP at e2
    split at e2
    · rename_i hp
      cases e2
      obtain ⟨u, rfl, ru⟩ := vals1 rx
      have dp := rep_dp r1 e1
      obtain ⟨as, hrd⟩ := Dp.reads I p _ _ dp ru
      have hun := hr.units
      have hq : ∀ h' u tk, (∀ b o, s.heap.get? b = some o → h'.get? b = some o) → EP X pins σ Q (.str p.shown u) { s with heap := h', toks := tk } := fun h' u tk hk => ⟨.str p.shown, H, I.kept hk, ⟨u, rfl⟩, q _ H (Grow.refl _) (.str _)⟩
      have hq0 : ∀ tk, EP X pins σ Q (.str p.shown s.toks) { s with toks := tk } := fun tk => ⟨.str p.shown, H, I.tok tk, ⟨_, rfl⟩, q _ H (Grow.refl _) (.str _)⟩
      cases dp with
      | non => cases ru; exact P.repr_of_none (hq0 _)
      | bl b => cases ru; exact P.repr_of_bool (hq0 _)
      | int i => obtain ⟨t, rfl⟩ := ru; exact P.repr_of_int (by simpa [PyData.showable] using hp.1) (hq0 _)
      | str x => obtain ⟨t, rfl⟩ := ru; exact P.repr_of_str (hq0 _) hp.2.2
      | lst h1 h2 =>
        cases ru
        exact repr_of_reads' hrd hp.1 (fun h => by rw [noDict e1] at h; cases h) hgd (by have := hp.2.1; omega) (fun _ _ e => e) hq hp.2.2
      | tup h1 h2 =>
        cases ru
        exact repr_of_reads' hrd hp.1 (fun h => by rw [noDict e1] at h; cases h) hgd (by have := hp.2.1; omega) (fun _ _ e => e) hq hp.2.2
    · cases e2
  | [], .nil, e => cases e
  | _ :: _ :: _, _, e => simp [reprD] at e
/-! ### sorted: ints -/
def insI (a : Int) : List Int → List Int
  | [] => [a]
  | b :: r => if a ≤ b then a :: b :: r else b :: insI a r
def sortI : List Int → List Int
  | [] => []
  | a :: r => insI a (sortI r)
theorem insI_perm (a : Int) : ∀ l, (insI a l).Perm (a :: l)
  | [] => .refl _
  | b :: r => by
    unfold insI
    split
    · exact .refl _
    · exact (List.Perm.cons b (insI_perm a r)).trans (List.Perm.swap a b r)
theorem sortI_perm : ∀ l, (sortI l).Perm l
  | [] => .refl _
  | a :: r => (insI_perm a _).trans (List.Perm.cons a (sortI_perm r))
theorem insI_sorted (a : Int) : ∀ l : List Int, l.Pairwise (· ≤ ·) → (insI a l).Pairwise (· ≤ ·)
  | [], _ => by simp [insI]
  | b :: r, h => by
    unfold insI
    rw [List.pairwise_cons] at h
    split
    · rename_i hab
      rw [List.pairwise_cons]
      refine ⟨fun y hy => ?_, List.pairwise_cons.mpr h⟩
      rcases List.mem_cons.mp hy with rfl | hy
      · exact hab
      · have := h.1 y hy; omega
    · rename_i hab
      rw [List.pairwise_cons]
      refine ⟨fun y hy => ?_, insI_sorted a r h.2⟩
      rcases List.mem_cons.mp ((insI_perm a r).mem_iff.mp hy) with rfl | hy
      · omega
      · exact h.1 y hy
theorem sortI_sorted : ∀ l, (sortI l).Pairwise (· ≤ ·)
  | [] => .nil
  | a :: r => insI_sorted a _ (sortI_sorted r)
theorem sorted_uniq : ∀ {l m : List Int}, l.Perm m → l.Pairwise (· ≤ ·) → m.Pairwise (· ≤ ·) → l = m
  | [], m, p, _, _ => by simpa using p.symm.eq_nil
  | a :: l, [], p, _, _ => by simpa using p.eq_nil
  | a :: l, b :: m, p, h1, h2 => by
    rw [List.pairwise_cons] at h1 h2
    have e : a = b := by
      have ha : a ∈ b :: m := p.mem_iff.mp List.mem_cons_self
      have hb : b ∈ a :: l := p.mem_iff.mpr List.mem_cons_self
      rcases List.mem_cons.mp ha with rfl | ha
      · rfl
      · rcases List.mem_cons.mp hb with rfl | hb
        · rfl
        · have := h1.1 b hb; have := h2.1 a ha; omega
    subst e
    rw [sorted_uniq (List.Perm.cons_inv p) h1.2 h2.2]
def sortedF : List D → Option (List D)
  | [.lst l] => (asInts l).map fun ns => (sortI ns).map D.int
  | _ => none
theorem f_sorted : VNF X (rSortedI X.K) sortedF := fun H O xs ds z Q lv r e q => by
  match ds, r, e with
  | [.lst l], .cons (.lst hq rl) .nil, e =>
    obtain ⟨ns, e1, rfl⟩ := map_some e
    have := asInts_ok rl e1; subst this
    refine ⟨_, ns, rfl, SqL.of (cut_some hq).2, fun ns' p h1 h2 hp => ?_⟩
    have : ns' = sortI ns := sorted_uniq (h1.trans (sortI_perm ns).symm) h2 (sortI_sorted ns)
    subst this
    exact q p _ hp (RepL.ints _)
def sortedD (ds : List D) : Option D := (sortedF ds).map D.lst
theorem c_sorted : CallD X (.builtin "sorted") sortedD := callD_of cr_sortedI f_sorted.vn
/-! ### calls of built-in functions, by data -/
theorem de_cB {x : Str} {p pos : Pos} {e : Expr} {es : List Expr} {id : String} {g : List D → Option D} {f : M (List D)} (hc : CallD X (.builtin id) g) (hg : Gl X x) (hm : X.mg x = none) (hv : bootBuiltins x = some (.builtin id)) (ha : DA X G (e :: es) f) (hn : x ≠ "__name__" := by decide) (hdb : (x == ("__debug__" : Str)) = false := by decide)
    (he : starEach (e :: es) X.env = (false, eval e X.env) :: starEach es X.env := by rfl) (hpl : (backTo pos (starEach es X.env)).any (·.1) = false := by rfl) : DE X G (.Call (.Name x p) (e :: es) [] pos) (mCall g f) := de_callB hc (vn_D g) hg hm hv ha hn hdb he hpl
theorem de_cT {x : Str} {p pos : Pos} {e : Expr} {es : List Expr} {id : String} {g : List D → Option D} {f : M (List D)} (hc : CallD X (.type id) g) (hg : Gl X x) (hm : X.mg x = none) (hv : bootBuiltins x = some (.type id)) (ha : DA X G (e :: es) f) (hn : x ≠ "__name__" := by decide) (hdb : (x == ("__debug__" : Str)) = false := by decide)
    (he : starEach (e :: es) X.env = (false, eval e X.env) :: starEach es X.env := by rfl) (hpl : (backTo pos (starEach es X.env)).any (·.1) = false := by rfl) : DE X G (.Call (.Name x p) (e :: es) [] pos) (mCall g f) := de_callTy hc (vn_D g) hg hm hv ha hn hdb he hpl
/-- a module's constant -/
theorem de_gl {x : Str} {v : V} {u : Value} {d : D} {pos : Pos} (hg : Gl X x) (hm : X.mg x = some u) (r : RelV v u) (rd : ∀ H, Rep X.K X.mg H v d) (hd : (x == ("__debug__" : Str)) = false := by decide) : DE X G (.Name x pos) (mPure d) := de_c (pe_glob hg hm r hd) rd
end
end Dv
set_option Elab.async false
set_option linter.all false
set_option maxRecDepth 100000
set_option maxHeartbeats 4000000
/-! DV13: == and != of own instances, str, bool -/
namespace Dv
open PySem L2
section
variable {prog : Program} {w : World} {A : Around} {E : Value → Shared → Prop} {s : Shared} {K : PySem.W.Frag} {x C f : Addr} {ox : Obj} {od : Option Obj} {b tb : Value}
theorem cmpOwn {op : CmpOp} {Q : Value → Shared → Prop} (hu : A.units < cLine) (X : K.In s.heap) (I : PySem.W.InstAt s.heap x ox C od) (hb : PySem.W.Looks (model prog w) s.heap (typeOf b) tb) (hn : PySem.W.notFirst K C tb = true)
    (one : wpAny (model prog w) A (tryCompare (.ref x) (cmpInfo op).2.1 b) (fun r s' => ∃ v, r = some v ∧ Q v s') E s) : wpAny (model prog w) A (richCompare op (.ref x) b) Q E s := by
  unfold richCompare
  simp only [PySem.oneThing_ref]
  refine wpAny_holding (wpAny_bind (wpAny_cRoomFor hu ?_))
  refine wpAny_bind (I.type.here (wpAny_bind (hb.here ?_)))
  split
  · rename_i q
    have e : PySem.W.subIn K tb (.ref C) = some false := by
      rcases Bool.or_eq_true_iff.mp hn with e | e
      · rw [beq_iff_eq.mp e] at q; simp at q
      · exact beq_iff_eq.mp e
    refine wpAny_bind ((PySem.W.looks_subIn X e).here ?_)
    simp only [Bool.false_eq_true, if_false]
    refine wpAny_bind (wpAny_mono one (fun r s' z => ?_) fun _ _ e => e)
    obtain ⟨v, rfl, hq⟩ := z
    exact wpAny_pure hq
  · refine wpAny_bind (wpAny_pure ?_)
    simp only [Bool.false_eq_true, if_false]
    refine wpAny_bind (wpAny_mono one (fun r s' z => ?_) fun _ _ e => e)
    obtain ⟨v, rfl, hq⟩ := z
    exact wpAny_pure hq
/-- the right operand's class is a subclass of the left one's -/
theorem cmpOwnR {op : CmpOp} {C' : Addr} {Q : Value → Shared → Prop} (hu : A.units < cLine) (X : K.In s.heap) (I : PySem.W.InstAt s.heap x ox C od) (hb : PySem.W.Looks (model prog w) s.heap (typeOf b) (.ref C')) (hne : C ≠ C') (hs : PySem.W.subIn K (.ref C') (.ref C) = some true)
    (one : wpAny (model prog w) A (tryCompare b (cmpInfo op).2.2 (.ref x)) (fun r s' => ∃ v, r = some v ∧ Q v s') E s) : wpAny (model prog w) A (richCompare op (.ref x) b) Q E s := by
  unfold richCompare
  simp only [PySem.oneThing_ref]
  refine wpAny_holding (wpAny_bind (wpAny_cRoomFor hu ?_))
  refine wpAny_bind (I.type.here (wpAny_bind (hb.here ?_)))
  have q : (Value.ref C != Value.ref C') = true := by simpa using hne
  rw [if_pos q]
  refine wpAny_bind ((PySem.W.looks_subIn X hs).here ?_)
  simp only [if_true]
  refine wpAny_bind (wpAny_mono one (fun r s' z => ?_) fun _ _ e => e)
  obtain ⟨v, rfl, hq⟩ := z
  exact wpAny_bind (wpAny_rule (wpAny_pure hq))
theorem tryFn {name : Str} {Q : Value → Shared → Prop} (X : K.In s.heap) (I : PySem.W.InstAt s.heap x ox C od) (hs : PySem.W.findIn K (.ref C) name = some (some (.ref f))) (hf : PySem.W.isFn K (.ref f) = true)
    (h : wpAny (model prog w) A (call (.ref f) [.ref x, b]) (PySem.W.CmpBack Q) E s) : wpAny (model prog w) A (tryCompare (.ref x) name b) (fun r s' => ∃ v, r = some v ∧ Q v s') E s := by
  unfold tryCompare
  refine wpAny_bind (PySem.W.ifBound_K X I hs hf (wpAny_mono h (fun v s' hv => ?_) fun _ _ e => e))
  cases v <;> first | exact hv.elim | exact wpAny_pure ⟨_, rfl, hv⟩
theorem ifBound_B {M : Model} {name : Str} {id : String} {args : List Value} {Q : Option Value → Shared → Prop} (X : K.In s.heap) (I : PySem.W.InstAt s.heap x ox C od) (hs : PySem.W.findIn K (.ref C) name = some (some (.builtin id)))
    (hb : ∀ self, bindSpecial (.builtin id) self = pure (.builtin id, [self])) (h : wpAny M A (call (.builtin id) (.ref x :: args)) (fun v => Q (some v)) E s) : wpAny M A (callSpecialIfBound? (.ref x) name args) Q E s := by
  simp only [callSpecialIfBound?, bindSpecialIfBound?]
  refine wpAny_holding (wpAny_bind (wpAny_bind (wpAny_bind (I.type.here ((PySem.W.looks_findIn X hs).here ?_)))))
  refine wpAny_bind (wpAny_askSetting (wpAny_ite ?_))
  have fin : wpAny M A (call (.builtin id) ([.ref x] ++ args) >>= fun v => pure (some v)) Q E s := wpAny_bind (wpAny_mono h (fun v s' h' => wpAny_pure h') fun _ _ h' => h')
  split
  · exact wpAny_bind ((PySem.W.Looks.of_pure (hb _)).here (wpAny_pure (by exact fin)))
  · exact wpAny_tryCatch (wpAny_bind ((PySem.W.Looks.of_pure (hb _)).here (wpAny_pure (by exact fin))))
theorem tryNe {name : Str} {Q : Value → Shared → Prop} (hu : A.in1.units < cLine) (X : K.In s.heap) (I : PySem.W.InstAt s.heap x ox C od) (hm : PySem.W.mroIn K C (.type "object") = some true) (hs : PySem.W.findIn K (.ref C) name = some (some (.builtin "object.__ne__"))) (he : PySem.W.findIn K (.ref C) "__eq__" = some (some (.ref f))) (hf : PySem.W.isFn K (.ref f) = true)
    (h : wpAny (model prog w) A.in1 (call (.ref f) [.ref x, b]) (fun v s' => ∃ r, v = .bool r ∧ Q (.bool (!r)) s') E s) : wpAny (model prog w) A (tryCompare (.ref x) name b) (fun r s' => ∃ v, r = some v ∧ Q v s') E s := by
  unfold tryCompare
  refine wpAny_bind (ifBound_B X I hs PySem.F.slot_object_ne.bind ?_)
  refine wpAny_call (codeAny_call_builtin PySem.F.slot_object_ne.plain PySem.F.cmpEntry_ne (PySem.W.check_slot (i := "object.__ne__") (owner := "object") (n := "__ne__") (by decide +kernel) (by decide +kernel) (I.type.andThen (PySem.W.looks_mroIn X hm)) (PySem.F.cmpArgs_ne _ _) ?_))
  unfold Builtin.«object.__ne__»
  refine wpAny_bind (m := PySem.slotArgs "__ne__" 1 _) (wpAny_pure ?_)
  refine wpAny_bind (m := cRoomFor _ _) (wpAny_cRoomFor hu ?_)
  refine wpAny_bind (m := callSpecialIfBound? (.ref x) (Str.ofString "__eq__") _) (PySem.W.ifBound_K X I he hf (wpAny_mono h (fun r s' hq => ?_) fun _ _ y => y))
  obtain ⟨r, rfl, hq⟩ := hq
  refine wpAny_bind (wpAny_pure ?_)
  exact wpAny_pure (wpAny_pure ⟨_, rfl, hq⟩)
end
end Dv
set_option Elab.async false
set_option linter.all false
set_option maxRecDepth 100000
set_option maxHeartbeats 4000000
/-! DV14: == and != of own instances on data; str(o), bool(o) -/
namespace Dv
open PySem L2
/-- the type of such data -/
def TgV (K : PySem.W.Frag) (mg : Str → Option Value) (u : Value) : Tg → Prop
  | .ty s => u = .type s
  | .cl c => ∃ C, ClsF K mg c C ∧ u = .ref C
section
variable {X : Cx} {G : Gx}
theorem rep_tyx {H : Hp} {O : List Addr} {x : V} {d : D} {u : Value} (r : Rep X.K X.mg (cut H O) x d) (ok : TgV X.K X.mg u (tag d)) : TyX X.K H x u := by
  cases r with
  | non => cases ok; exact .base .non
  | bl c => cases ok; exact .base (.bl c)
  | int i => cases ok; exact .base (.int i)
  | str z => cases ok; exact .base (.str z)
  | tup hq rl =>
    cases ok
    rcases SqT.grow (Grow.ofCut H O) hq with (h | ⟨o, h⟩) | ⟨o, its, n, h, hc, _⟩
    · exact .base (.tup h)
    · exact .fTuple h
    · exact .kTuple h hc
  | lst hq rl => cases ok; exact .base (.lst (cut_some hq).2)
  | scr hq =>
    cases ok
    rcases SqL.grow (Grow.ofCut H O) hq with (h | ⟨o, h⟩) | ⟨o, its, n, h, hc, _⟩
    · exact .base (.lst h)
    · exact .base (.frz h)
    · exact .kList h hc
  | obj h1 h2 h3 rl =>
    obtain ⟨C, hF, rfl⟩ := ok
    rw [hF.g] at h1; cases h1
    exact .base (.ins (cut_some h2).2 hF.cl hF.ca hF.cn hF.ct hF.cm)
/-- what is to be known of the classes for o == x: which one is asked -/
structure EqOk (K : PySem.W.Frag) (mg : Str → Option Value) (f : Addr) (p : (Nat × Tg) × Bool) : Prop where
  fst : p.2 = false → ∃ C tv, ClsF K mg p.1.1 C ∧ TgV K mg tv p.1.2 ∧ PySem.W.notFirst K C tv = true ∧ PySem.W.findIn K (.ref C) "__eq__" = some (some (.ref f)) ∧ PySem.W.findIn K (.ref C) "__ne__" = some (some (.builtin "object.__ne__"))
  snd : p.2 = true → ∃ C C' c', p.1.2 = .cl c' ∧ ClsF K mg p.1.1 C ∧ ClsF K mg c' C' ∧ C ≠ C' ∧ PySem.W.subIn K (.ref C') (.ref C) = some true ∧ PySem.W.findIn K (.ref C') "__eq__" = some (some (.ref f)) ∧ PySem.W.findIn K (.ref C') "__ne__" = some (some (.builtin "object.__ne__"))
def eqO (t : List ((Nat × Tg) × Bool)) (F : List D → Option D) (a b : D) : Option D := match a with
  | .obj c ds => (match t.lookup (c, tag b) with
    | some false => F [.obj c ds, b]
    | some true => F [b, .obj c ds]
    | none => none)
  | _ => none
theorem not_ni {v : V} {u : Value} (r : RelV v u) : u ≠ .notImplemented := by
  rintro rfl
  cases v <;> simp [RelV] at r
theorem cmpBack_of {pins : List (Addr × Obj)} {σ : St} {Q : VK} {u : Value} {s' : Shared} (h : EP X pins σ Q u s') : PySem.W.CmpBack (EP X pins σ Q) u s' := by
  have : u ≠ .notImplemented := by obtain ⟨v, H', _, r, _⟩ := h; exact not_ni r
  cases u <;> first | exact (this rfl).elim | exact h
theorem cmp_eq (a b : Value) : compareOp .Eq a b = richCompare .Eq a b := rfl
theorem cmp_ne (a b : Value) : compareOp .NotEq a b = richCompare .NotEq a b := rfl
theorem op_eqO {k : Nat} {f : Addr} {fd : FuncData} {ps : List Str} {F : List D → Option D} {t : List ((Nat × Tg) × Bool)} (ht : ∀ p ∈ t, EqOk X.K X.mg f p) (hf : PySem.W.isFn X.K (.ref f) = true) (Fn : FnG X.prog X.w X.K X.mg X.base k f fd ps (spD X.K X.mg ps.length F)) (hl : ps.length = 2) (hr : Room k X.A) (hgd : X.A.guards = some []) (hb : Binds X.K fd ps []) :
    OpD X (compareOp .Eq) (eqO t F) := fun pins s σ H x y v u Q I rx ry ⟨O, a, b, z, lv, ra, rb, e, q⟩ => by
  cases ra with
  | @obj ad C dx c xs ds h1 h2 h3 rl =>
    simp only [eqO] at e
    cases (show v = Value.ref ad from rx)
    obtain ⟨mA, Om, _⟩ := ins_get I.hok (cut_some h2).2
    obtain ⟨od, J, _⟩ := Om.look
    cases e1 : t.lookup (c, tag b) with
    | none => simp [e1] at e
    | some r =>
      have ok := ht _ (lookup_mem e1)
      have hx := rb
      cases r with
      | false =>
        simp only [e1] at e
        obtain ⟨C0, tv, hF, hT, hn, he, _⟩ := ok.fst rfl
        rw [hF.g] at h1; cases h1
        obtain ⟨P, Z, hp, _⟩ := kit_of I ry (rep_tyx rb hT)
        rw [cmp_eq]
        refine cmpOwn (op := .Eq) hr.units0 I.kIn J (Z.ty _ _ I.kIn hp) hn (tryFn (name := "__eq__") I.kIn J he hf ?_)
        refine wpAny_mono (wp_at (us := [.ref ad, u]) (vs := [.ref ad, y]) (Q := Q) Fn hr hgd I.env0 hb I (.cons rfl (.cons ry .nil)) ⟨O, _, z, by simp [hl], lv, .cons (.obj hF.g h2 h3 rl) (.cons rb .nil), e, q⟩) (fun _ _ h => cmpBack_of h) fun _ _ h => h
      | true =>
        simp only [e1] at e
        obtain ⟨C0, C', c', htag, hF, hF', hne, hsub, he, _⟩ := ok.snd rfl
        rw [hF.g] at h1; cases h1
        cases rb with
        | @obj ad' C1 dx' c1 xs' ds' g1 g2 g3 rl' =>
          simp only [tag] at htag
          cases htag
          rw [hF'.g] at g1; cases g1
          cases (show u = Value.ref ad' from ry)
          obtain ⟨mA', Om', _⟩ := ins_get I.hok (cut_some g2).2
          obtain ⟨od', J', _⟩ := Om'.look
          rw [cmp_eq]
          refine cmpOwnR (op := .Eq) hr.units0 I.kIn J J'.type hne hsub (tryFn (name := "__eq__") I.kIn J' he hf ?_)
          exact wpAny_mono (wp_at (us := [.ref ad', .ref ad]) (vs := [.ref ad', .ref ad]) (Q := Q) Fn hr hgd I.env0 hb I (.cons rfl (.cons rfl .nil)) ⟨O, _, z, by simp [hl], lv, .cons hx (.cons (.obj hF.g h2 h3 rl) .nil), e, q⟩) (fun _ _ h => cmpBack_of h) fun _ _ h => h
        | _ => cases htag
  | _ => simp [eqO] at e
def notB : D → Option D
  | .bl b => some (.bl (!b))
  | _ => none
def neO (t : List ((Nat × Tg) × Bool)) (F : List D → Option D) (a b : D) : Option D := (eqO t F a b).bind notB
theorem op_neO {k : Nat} {f : Addr} {fd : FuncData} {ps : List Str} {F : List D → Option D} {t : List ((Nat × Tg) × Bool)} (ht : ∀ p ∈ t, EqOk X.K X.mg f p) (hf : PySem.W.isFn X.K (.ref f) = true) (Fn : FnG X.prog X.w X.K X.mg X.base k f fd ps (spD X.K X.mg ps.length F)) (hl : ps.length = 2) (hr : Room (k + 1) X.A) (hgd : X.A.guards = some []) (hb : Binds X.K fd ps []) :
    OpD X (compareOp .NotEq) (neO t F) := fun pins s σ H x y v u Q I rx ry ⟨O, a, b, z, lv, ra, rb, e, q⟩ => by
  have e0 : (eqO t F a b).bind notB = some z := e
  clear e
  obtain ⟨z', e, ez⟩ := Option.bind_eq_some_iff.mp e0
  cases z' with
  | bl r0 =>
    cases ez
    have back : ∀ {u' : Value} {s' : Shared}, EP X pins σ (fun v H' => v = .bl r0 ∧ Grow H H') u' s' → ∃ r, u' = .bool r ∧ EP X pins σ Q (.bool (!r)) s' := by
      rintro u' s' ⟨v', H', I', rv, rfl, g'⟩
      cases (show u' = Value.bool r0 from rv)
      exact ⟨r0, rfl, .bl (!r0), H', I', rfl, q _ H' g' (.bl _)⟩
    cases ra with
    | @obj ad C dx c xs ds h1 h2 h3 rl =>
      simp only [eqO] at e
      cases (show v = Value.ref ad from rx)
      obtain ⟨mA, Om, _⟩ := ins_get I.hok (cut_some h2).2
      obtain ⟨od, J, _⟩ := Om.look
      cases e1 : t.lookup (c, tag b) with
      | none => simp [e1] at e
      | some r =>
        have ok := ht _ (lookup_mem e1)
        have hx := rb
        cases r with
        | false =>
          simp only [e1] at e
          obtain ⟨C0, tv, hF, hT, hn, he, hne⟩ := ok.fst rfl
          rw [hF.g] at h1; cases h1
          obtain ⟨P, Z, hp, _⟩ := kit_of I ry (rep_tyx rb hT)
          rw [cmp_ne]
          refine cmpOwn (op := .NotEq) hr.units0 I.kIn J (Z.ty _ _ I.kIn hp) hn (tryNe (name := "__ne__") hr.in1.units0 I.kIn J hF.cm hne he hf ?_)
          exact wpAny_mono (wp_at (us := [.ref ad, u]) (vs := [.ref ad, y]) (Q := fun v H' => v = .bl r0 ∧ Grow H H') Fn hr.in1 hgd I.env0.in1 hb I (.cons rfl (.cons ry .nil)) ⟨O, _, _, by simp [hl], lv, .cons (.obj hF.g h2 h3 rl) (.cons rb .nil), e, fun v H' g' rz => ⟨rep_bl rz, g'⟩⟩) (fun _ _ h => back h) fun _ _ h => h
        | true =>
          simp only [e1] at e
          obtain ⟨C0, C', c', htag, hF, hF', hne0, hsub, he, hne⟩ := ok.snd rfl
          rw [hF.g] at h1; cases h1
          cases rb with
          | @obj ad' C1 dx' c1 xs' ds' g1 g2 g3 rl' =>
            simp only [tag] at htag
            cases htag
            rw [hF'.g] at g1; cases g1
            cases (show u = Value.ref ad' from ry)
            obtain ⟨mA', Om', _⟩ := ins_get I.hok (cut_some g2).2
            obtain ⟨od', J', _⟩ := Om'.look
            rw [cmp_ne]
            refine cmpOwnR (op := .NotEq) hr.units0 I.kIn J J'.type hne0 hsub (tryNe (name := "__ne__") hr.in1.units0 I.kIn J' hF'.cm hne he hf ?_)
            exact wpAny_mono (wp_at (us := [.ref ad', .ref ad]) (vs := [.ref ad', .ref ad]) (Q := fun v H' => v = .bl r0 ∧ Grow H H') Fn hr.in1 hgd I.env0.in1 hb I (.cons rfl (.cons rfl .nil)) ⟨O, _, _, by simp [hl], lv, .cons hx (.cons (.obj hF.g h2 h3 rl) .nil), e, fun v H' g' rz => ⟨rep_bl rz, g'⟩⟩) (fun _ _ h => back h) fun _ _ h => h
          | _ => cases htag
    | _ => simp [eqO] at e
  | _ => cases ez
/-! ### str(o), bool(o) -/
/-- what is to be known for a method by its special name -/
structure SpOk (K : PySem.W.Frag) (mg : Str → Option Value) (m : Str) (f : Addr) (c : Nat) : Prop where
  ex : ∃ C, ClsF K mg c C ∧ PySem.W.findIn K (.ref C) m = some (some (.ref f))
def strO (cs : List Nat) (F : List D → Option D) : List D → Option D
  | [.obj c ds] => if c ∈ cs then (match F [.obj c ds] with
    | some (.str x) => some (.str x)
    | _ => none) else none
  | _ => none
theorem c_strO {k : Nat} {f : Addr} {fd : FuncData} {F : List D → Option D} {cs : List Nat} (ht : ∀ c ∈ cs, SpOk X.K X.mg "__str__" f c) (hf : PySem.W.isFn X.K (.ref f) = true) (Fn : FnG X.prog X.w X.K X.mg X.base k f fd ["self"] (spD X.K X.mg 1 F)) (hr : Room (k + 2) X.A) (hgd : X.A.guards = some []) (hb : Binds X.K fd ["self"] []) :
    CallD X (.type "str") (strO cs F) := fun pins s σ H xs us Q I rx ⟨O, ds, z, lv, r, e, q⟩ => by
  match ds, r, e with
  | [.obj c fs], .cons (@Rep.obj _ _ _ ad C1 dx _ xs1 _ h1 h2 h3 rl) .nil, e =>
    simp only [strO] at e
    split at e
    · rename_i hc
      obtain ⟨C0, hF, hs⟩ := (ht c hc).ex
      rw [hF.g] at h1; cases h1
      cases e1 : F [.obj c fs] with
      | none => simp [e1] at e
      | some z' =>
        cases z' with
        | str y =>
          simp only [e1] at e
          cases e
          obtain ⟨u, rfl, ru⟩ := vals1 rx
          cases (show u = Value.ref ad from ru)
          obtain ⟨mA, Om, _⟩ := ins_get I.hok (cut_some h2).2
          obtain ⟨od, J, _⟩ := Om.look
          refine PySem.W.kso_call hr.in1.in1.units0 I.kIn J hs hf ?_
          refine wpAny_mono (wp_at (us := [.ref ad]) (vs := [.ref ad]) (Q := fun v H' => v = .str y ∧ Grow H H') Fn hr.in1.in1 hgd I.env0.in1.in1 hb I (.cons rfl .nil) ⟨O, _, _, rfl, lv, .cons (.obj hF.g h2 h3 rl) .nil, e1, fun v H' g' rz => ⟨rep_str rz, g'⟩⟩) (fun u' s' h => ?_) fun _ _ h => h
          obtain ⟨v', H', I', rv, rfl, g'⟩ := h
          obtain ⟨t, rfl⟩ := (show ∃ t, u' = Value.str y t from rv)
          exact ⟨.str y, H', I', ⟨t, rfl⟩, q _ H' g' (.str _)⟩
        | _ => simp [e1] at e
    · cases e
end
end Dv
set_option Elab.async false
set_option linter.all false
set_option maxRecDepth 100000
set_option maxHeartbeats 4000000
/-! DV15: bool(o) -/
namespace Dv
open PySem L2
section
variable {K : PySem.W.Frag} {x C : Addr}
theorem truthyOwn0 {M : Model} {A : Around} {E : Value → Shared → Prop} {s : Shared} {ox : Obj} {od : Option Obj} {Q : Bool → Shared → Prop} (X : K.In s.heap) (I : PySem.W.InstAt s.heap x ox C od) (hs : PySem.W.findIn K (.ref C) "__bool__" = some none) (hl : PySem.W.findIn K (.ref C) "__len__" = some none)
    (h : Q true s) : wpAny M A (truthy (.ref x)) Q E s := by
  unfold truthy
  refine wpAny_bind (m := callSpecial? (.ref x) (Str.ofString "__bool__")) (wpAny_bind (wpAny_bind (I.type.here ((PySem.W.looks_findIn X hs).here (wpAny_pure ?_)))))
  refine wpAny_bind (wpAny_bind (I.type.here ((PySem.W.looks_findIn X hl).here ?_)))
  exact wpAny_pure h
theorem meets_bool_own0 (hs : PySem.W.findIn K (.ref C) "__bool__" = some none) (hl : PySem.W.findIn K (.ref C) "__len__" = some none) :
    Meets (Builtin.«bool.__new__» ⟨[.type "bool", .ref x], []⟩) (fun _ R s => (K.In s.heap ∧ ∃ ox od, PySem.W.InstAt s.heap x ox C od) ∧ R (.ok (.ret (.bool true))) s) :=
  Meets.of_wp fun prog w A R s hs' => by
    obtain ⟨⟨X, ox, od, I⟩, hs'⟩ := hs'
    have f1 := F.conv_sub_bool
    repeat (any_goals (first | assumption | (with_reducible refine truthyOwn0 X I hs hl ?_) | wp_step))
    all_goals first | exact ⟨_, rfl, hs'⟩ | exact hs' | skip
end
section
variable {X : Cx} {G : Gx}
/-- a class without __bool__ and __len__ -/
structure Bo0 (K : PySem.W.Frag) (mg : Str → Option Value) (c : Nat) : Prop where
  ex : ∃ C, ClsF K mg c C ∧ PySem.W.findIn K (.ref C) "__bool__" = some none ∧ PySem.W.findIn K (.ref C) "__len__" = some none
def boolO (cs : List Nat) : List D → Option D
  | [.obj c _] => if c ∈ cs then some (.bl true) else none
  | [.bl b] => some (.bl b)
  | [.int i] => some (.bl (i != 0))
  | [.lst l] => some (.bl (!l.isEmpty))
  | _ => none
theorem c_boolO {cs : List Nat} (ht : ∀ c ∈ cs, Bo0 X.K X.mg c) : CallD X (.type "bool") (boolO cs) := fun pins s σ H xs us Q I rx ⟨O, ds, z, lv, r, e, q⟩ => by
  match ds, r, e with
  | [.int i], .cons (.int _) .nil, e => cases e; exact call_bool1 pins s σ H _ us Q I rx (.inl ⟨_, rfl, q _ H (Grow.refl _) (.bl _)⟩)
  | [.bl i], .cons (.bl _) .nil, e => cases e; exact call_bool1 pins s σ H _ us Q I rx (.inr ⟨_, rfl, q _ H (Grow.refl _) (.bl _)⟩)
  | [.lst l], .cons (.lst hq rl) .nil, e => cases e; exact call_boolL pins s σ H _ us Q I rx ⟨_, _, rfl, SqL.of (cut_some hq).2, by rw [rl.isEmpty]; exact q _ H (Grow.refl _) (.bl _)⟩
  | [.obj c fs], .cons (@Rep.obj _ _ _ ad C1 dx _ xs1 _ h1 h2 h3 rl) .nil, e =>
    simp only [boolO] at e
    split at e
    · rename_i hc
      cases e
      obtain ⟨C0, hF, hs, hl⟩ := (ht c hc).ex
      rw [hF.g] at h1; cases h1
      obtain ⟨u, rfl, ru⟩ := vals1 rx
      cases (show u = Value.ref ad from ru)
      obtain ⟨mA, Om, _⟩ := ins_get I.hok (cut_some h2).2
      obtain ⟨od, J, _⟩ := Om.look
      exact call_bool_1 (meets_bool_own0 hs hl) ⟨⟨I.kIn, _, _, J⟩, rfl, .bl true, H, I, rfl, q _ H (Grow.refl _) (.bl _)⟩
    · cases e
end
end Dv
set_option Elab.async false
set_option linter.all false
set_option maxRecDepth 100000
set_option maxHeartbeats 4000000
/-! DV16: the law's end; what the head tells -/
namespace Dv
open PySem PySem.Spec PyProof.Rows L2
/-- the law's call, from its def's promise -/
theorem lawG {P : Program} {w : World} {K : PySem.W.Frag} {mg mb : Str → Option Value} {k : Nat} {fa a : Addr} {fd : FuncData} {x : Str} {sp : Sp} {t : Shared} {vs : List Value} {ns : List Int}
    (KX : K.In t.heap) (nG : t.heap.Ns mainGlobals mg) (nB : t.heap.Ns builtinsNs mb) (nb : ∀ x : Str, x ≠ "__name__" → mb x = bootBuiltins x) (lim : t.heap.NoLimit) (g0 : t.gens = #[])
    (ob : t.heap.get? a = some { cls := .type "list", data := .seq vs.toArray }) (hi : IntsAre vs ns) (hl : ns.length ≤ sizeLine) (hr : Room k callerA)
    (F : ∀ base : Heap, K.In base → base.Ns mainGlobals mg → FnG P w K mg base k fa fd [x] sp) (bd : ∀ (s : Shared) (u : Value), BindsTo s fd ⟨[u], []⟩ [(x, u)])
    (hs : ∀ H : Hp, SqL K H a (ns.map V.int) → sp [.ref a] H (fun v _ => v = .bl true) E0) :
    codeAny (model P w) callerA (.call (.ref fa) ⟨[.ref a], []⟩) (fun r s' => r = .ok (.ret (.bool true)) ∧ OldK t.heap s'.heap ∧ s'.os = t.os ∧ AllBare s'.gens) t := by
  have rv := vals_ints hi
  have lv := hi.length
  have main : ∀ H : Hp, Only H → SqL K H a (ns.map V.int) → HOk P w H t.heap → (∀ b, H b ≠ none → b = a) → (H a ≠ none → K.lookup a = none) →
      codeAny (model P w) callerA (.call (.ref fa) ⟨[.ref a], []⟩) (fun r s' => r = .ok (.ret (.bool true)) ∧ OldK t.heap s'.heap ∧ s'.os = t.os ∧ AllBare s'.gens) t := by
    intro H on sq hk only nk
    have hid : ∀ {b : Addr} {o : Obj}, t.heap.get? b = some o → H b = none → (hidT t.heap H).get? b = some o := fun e n => hidT_get e n
    have free : ∀ {b : Addr} {o : Obj} {es : Array DictEntry} {ep : Nat}, t.heap.get? b = some o → o.data = .dict es ep → H b = none := fun {b o es ep} e d => by
      by_cases q : H b = none
      · exact q
      · have eb := only b q
        subst eb
        rw [ob] at e; cases e
        exact (nomatch (show Data.seq vs.toArray _ = Data.dict es ep from d))
    have keepN : ∀ {b : Addr} {m : Str → Option Value}, t.heap.Ns b m → (hidT t.heap H).Ns b m := fun ⟨o, es, ep, e, d, r⟩ => ⟨o, es, ep, hid e (free e d), d, r⟩
    have inK : K.In (hidT t.heap H) := fun b o e => hid (KX b o e) (by
      by_cases q : H b = none
      · exact q
      · have eb := only b q
        subst eb
        rw [nk q] at e; cases e)
    have mo : Mod K mg (hidT t.heap H) := ⟨inK, keepN nG, ⟨mb, keepN nB, nb⟩, let ⟨mc, h1, h2⟩ := lim; ⟨mc, keepN h1, h2⟩⟩
    have nil : ∀ {b : Addr}, ¬ b ∈ ([] : List Addr) := fun h => absurd h (by simp)
    have en : Env0 P w K mg (hidT t.heap H) callerA [] t H := ⟨rfl, mo, fun b o e => of_hidT e, Nat.le_of_eq (hidT_size _ _), trivial, fun b hb => absurd hb nil, hk, .of_eq g0⟩
    refine codeAny_mono ((F _ inK (keepN nG)).run callerA [] t H ⟨[.ref a], []⟩ [.ref a] [.ref a] _ E0 hr rfl en (bd t (.ref a)) (.cons rfl .nil) (hs H sq)) ?_
    rintro (e | fl) s' h
    · exact False.elim h
    cases fl with
    | ret u =>
      obtain ⟨v, H', os, bare, un, hok', r', q⟩ := h
      obtain rfl : v = .bl true := q
      obtain rfl : u = Value.bool true := r'
      refine ⟨rfl, OldK.of_keep fun b o e => ?_, os, bare⟩
      rcases on b with z | ⟨oz, xs, z⟩
      · exact un.keep b o e z nil (by simp)
      · have z2 := un.frzs b oz _ z
        have e1 := (hk b _ z).1
        have e2 := (hok' b _ z2).1
        rw [e] at e1; cases e1
        exact e2
    | _ => exact False.elim h
  cases hk : K.lookup a with
  | some o =>
    have e := KX a o hk
    rw [ob] at e
    cases e
    exact main (fun _ => none) (fun _ => .inl rfl) (.inr ⟨_, vs.toArray, _, hk, rfl, rfl, rfl, by rw [List.size_toArray, lv]; exact hl, by simpa using rv⟩) (fun b u z => nomatch (show (none : Option HO) = some u from z)) (fun b z => absurd rfl z) fun z => absurd rfl z
  | none =>
    refine main (fun b => if b = a then some (.frz { cls := .type "list", data := .seq vs.toArray } (.lst (ns.map V.int))) else none) (fun b => ?_) (.inl (.inr ⟨_, if_pos rfl⟩)) (fun b u z => ?_) (fun b z => ?_) fun _ => hk
    · by_cases eb : b = a
      · exact .inr ⟨_, _, if_pos eb⟩
      · exact .inl (if_neg eb)
    · by_cases eb : b = a
      · cases (if_pos eb).symm.trans z
        subst eb
        exact ⟨ob, by rw [List.length_map]; exact hl, vs, _, rv, ob⟩
      · cases (if_neg eb).symm.trans z
    · by_cases eb : b = a
      · exact eb
      · exact absurd (if_neg eb) z
/-- a law's end -/
theorem walkG {l : PySem.W.OpenLaw} {n k : Nat} {q : Program} {loose : List Str} {XP : (Str → Option Value) → Heap → Prop} {YP : World → Heap → Prop} {d : DefRec} {x : Str}
    (hn : l.most = some n) (hn2 : n ≤ sizeLine) (hdf : d.params.defaults = []) (hr : Room k callerA)
    (F : ∀ (w : World) (mg : Str → Option Value) (fa : Addr) (h : Heap), YP w h → h.Ns mainGlobals mg → mg d.name = some (.ref fa) →
      ∃ (K : PySem.W.Frag) (fd : FuncData) (f : List D → Option D), K.In h ∧ (∀ (s : Shared) (u : Value), BindsTo s fd ⟨[u], []⟩ [(x, u)]) ∧
        (∀ ns : List Int, ns.length ≤ n → f [.scr ns] = some (.bl true)) ∧
        ∀ base : Heap, K.In base → base.Ns mainGlobals mg → FnG l.prog w K mg base k fa fd [x] (spD K mg 1 f)) :
    PySem.W.WalkO q loose XP YP l.row.toRowW d [] (fun f vs => PySem.call f vs) := by
  refine Att.attach_call hn hdf fun w s₀ t mg mb fa o pm cd doc a vs ns G Y ho hd hcd hmg hobj hints hlen hg => ?_
  obtain ⟨K, fd, f, KX, hb, hf, hF⟩ := F w mg fa _ Y G.T.g hmg
  refine lawG KX G.T.g G.T.b G.T.builtins G.T.nolimit hg hobj hints (Nat.le_trans hlen hn2) hr hF hb fun H sq => ?_
  exact ⟨[], [.scr ns], .bl true, rfl, Live.nil H, .cons (.scr (by rw [cut_nil]; exact sq)) .nil, hf ns hlen, fun v H' _ r => rep_bl r⟩

/-! ### what the head tells -/
/-- one def: where it stands, its name, qualified name, parameters, body, scope, defaults -/
structure DefX where
  at_ : PySem.W.Frag → Addr
  name : Str
  qual : Str
  params : Arguments
  body : List Stmt
  scope : Scope
  dfl : List V := []
  kwd : List (Str × V) := []
def obV (K : PySem.W.Frag) (p : Addr) : He.FnW := match K.lookup p with
  | some ⟨_, _, .func fd, _⟩ => some (fd.name, fd.qualname, fd.params, fd.body, fd.scope, fd.globals, fd.closure, fd.builtins)
  | _ => none
def DefX.val (d : DefX) : He.FnW := some (d.name, d.qual, d.params, .stmts d.body, d.scope, mainGlobals, [], builtinsNs)
def DefX.ok (K : PySem.W.Frag) (d : DefX) : Bool := PySem.W.keepIn K (.ref (d.at_ K)) && (match K.lookup (d.at_ K) with
  | some ⟨_, _, .func fd, _⟩ => PySem.W.codeIn K fd.code d.qual && (He.dflB K fd.defaults d.dfl && He.kwdB K fd.kwdefaults d.kwd)
  | _ => false)
theorem DefX.funD {K : PySem.W.Frag} {d : DefX} (e : obV K (d.at_ K) = d.val) (c : d.ok K = true) : ∃ fd, FunD K d.name d.qual d.params d.body d.scope d.dfl d.kwd (d.at_ K) fd := by
  obtain ⟨kp, c⟩ := He.ba c
  unfold obV at e
  cases q : K.lookup (d.at_ K) with
  | none => rw [q] at c; cases c
  | some o =>
    obtain ⟨oc, od, dt, osl⟩ := o
    rw [q] at c e
    cases dt with
    | func fd =>
      obtain ⟨n1, n2, n3, n4, n5, n6, n7, n8, n9, n10, n11, n12, n13, n14, n15⟩ := fd
      have e2 : (some (n1, n2, n3, n4, n5, n6, n7, n15) : He.FnW) = some (d.name, d.qual, d.params, .stmts d.body, d.scope, mainGlobals, [], builtinsNs) := e
      simp only [Option.some.injEq, Prod.mk.injEq] at e2
      obtain ⟨h1, h2, h3, h4, h5, h6, h7, h8⟩ := e2
      subst h1 h2 h3 h4 h5 h6 h7 h8
      obtain ⟨k1, k2⟩ := He.ba (show (PySem.W.codeIn K n13 d.qual && (He.dflB K n8 d.dfl && He.kwdB K n9 d.kwd)) = true from c)
      obtain ⟨k3, k4⟩ := He.ba k2
      exact ⟨_, ⟨oc, od, n8, n9, n10, n11, n12, n13, n14, osl, rfl, q, k1, He.dflB_ok k3, He.kwdB_ok k4⟩, kp⟩
    | _ => cases c
def obX (fa : List (PySem.W.Frag → Bool)) (fn : List DefX) (K : PySem.W.Frag) : He.AlD := ((fa.all fun f => f K) && fn.all fun d => d.ok K, fn.map fun d => obV K (d.at_ K))
def vaX (fn : List DefX) : He.AlD := (true, fn.map DefX.val)
def SaysX (fa : List (PySem.W.Frag → Bool)) (fn : List DefX) (K : PySem.W.Frag) : Prop := obX fa fn K = vaX fn
def obXG (n : Nat) (fa : List (PySem.W.Frag → Bool)) (fn : List DefX) (g : Addr → Option Obj) : He.AlD := obX fa fn (He.frG g (He.asD g n))
def hookX (n : Nat) (fa : List (PySem.W.Frag → Bool)) (fn : List DefX) : PySem.W.Hook where
  α := He.AlD
  obs := fun s => obXG n fa fn s.heap.get?
  val := fun _ => vaX fn
  says := fun _ h => ∃ K : PySem.W.Frag, K.In h ∧ SaysX fa fn K
  of := fun _ _ e => ⟨_, He.frG_in, e⟩
  keeps := fun _ _ _ ⟨K, hK, c⟩ k => ⟨K, PySem.W.Frag.In.keeps hK k, c⟩
theorem obXG_eq {n : Nat} {fa : List (PySem.W.Frag → Bool)} {fn : List DefX} {g : Addr → Option Obj} {s : Shared} (h : ∀ a, g a = s.heap.get? a) : obXG n fa fn g = (hookX n fa fn).obs s := by
  have e : g = s.heap.get? := funext h
  rw [e]; rfl
section
variable {fa : List (PySem.W.Frag → Bool)} {fn : List DefX} {K : PySem.W.Frag}
theorem SaysX.fact (c : SaysX fa fn K) (i : Nat) {f : PySem.W.Frag → Bool} (h : fa[i]? = some f := by rfl) : f K = true :=
  List.all_eq_true.mp (He.ba (show ((fa.all fun f => f K) && fn.all fun d => d.ok K) = true from congrArg (fun z : He.AlD => z.1) c)).1 f (List.mem_of_getElem? h)
theorem SaysX.def_ (c : SaysX fa fn K) (i : Nat) {d : DefX} (h : fn[i]? = some d := by rfl) : ∃ fd, FunD K d.name d.qual d.params d.body d.scope d.dfl d.kwd (d.at_ K) fd := by
  have c2 := (He.ba (show ((fa.all fun f => f K) && fn.all fun d => d.ok K) = true from congrArg (fun z : He.AlD => z.1) c)).2
  have e : fn.map (fun d => obV K (d.at_ K)) = fn.map DefX.val := congrArg (fun z : He.AlD => z.2) c
  have e2 : (fn.map fun d => obV K (d.at_ K))[i]? = (fn.map DefX.val)[i]? := by rw [e]
  rw [List.getElem?_map, List.getElem?_map, h] at e2
  exact DefX.funD (Option.some.inj e2) (List.all_eq_true.mp c2 d (List.mem_of_getElem? h))
end
/-! ### addresses -/
/-- the getter of a property -/
def pGet (K : PySem.W.Frag) (p : Addr) : Addr := match PySem.W.recIn K p "property" with
  | some (.ref g :: _) => g
  | _ => 0
def clB (K : PySem.W.Frag) (x : Str) : Bool := (He.Fa.glo x).ok K && ((He.Fa.cls x).ok K && (He.eqO (PySem.W.findIn K (.ref (He.ga K x)) "__class__") (some (some (.builtin "object.__class__"))) &&
  (decide (PySem.W.specialIn K (.builtin "object.__class__") "__get__" = some (some (.builtin "getset_descriptor.__get__"))) && (decide (PySem.W.takesIn K (.builtin "object.__class__") = some true) && decide (PySem.W.mroIn K (He.ga K x) (.type "object") = some true)))))
theorem clB_ok {K : PySem.W.Frag} {h : Heap} {mg : Str → Option Value} (X : K.In h) (G : h.Ns mainGlobals mg) {c : Nat} (e : clB K (clsName c) = true) : ClsF K mg c (He.ga K (clsName c)) := by
  obtain ⟨h1, e⟩ := He.ba e
  obtain ⟨h2, e⟩ := He.ba e
  obtain ⟨h3, e⟩ := He.ba e
  obtain ⟨h4, e⟩ := He.ba e
  obtain ⟨h5, h6⟩ := He.ba e
  exact ⟨He.glo_ok X G h1, He.cls_ok h2, He.eqO_ok h3, of_decide_eq_true h4, of_decide_eq_true h5, of_decide_eq_true h6⟩
def propB (K : PySem.W.Frag) (x m : Str) : Bool := He.eqO (PySem.W.findIn K (.ref (He.ga K x)) m) (some (some (.ref (He.ma K (He.ga K x) m)))) && (decide (PySem.W.specialIn K (.ref (He.ma K (He.ga K x) m)) "__get__" = some (some (.builtin "property.__get__"))) &&
  (decide (PySem.W.takesIn K (.ref (He.ma K (He.ga K x) m)) = some true) && decide ((PySem.W.recIn K (He.ma K (He.ga K x) m) "property").bind List.head? = some (.ref (pGet K (He.ma K (He.ga K x) m))))))
theorem propB_ok {K : PySem.W.Frag} {x m : Str} (e : propB K x m = true) : PropOf K (He.ga K x) m (He.ma K (He.ga K x) m) (pGet K (He.ma K (He.ga K x) m)) := by
  obtain ⟨h1, e⟩ := He.ba e
  obtain ⟨h2, e⟩ := He.ba e
  obtain ⟨h3, h4⟩ := He.ba e
  refine ⟨He.eqO_ok h1, of_decide_eq_true h2, of_decide_eq_true h3, ?_⟩
  have h4 := of_decide_eq_true h4
  obtain ⟨l, e1, e2⟩ := Option.bind_eq_some_iff.mp h4
  cases l with
  | nil => cases e2
  | cons a r => cases e2; exact ⟨r, e1⟩
end Dv
set_option Elab.async false
set_option linter.all false
set_option maxRecDepth 100000
set_option maxHeartbeats 4000000
/-! DV17: how a call's values come to the parameters -/
namespace Dv
open PySem PySem.Spec PyProof.Rows L2
/-- where a parameter's value comes from: the i-th written one, default, keyword-only default, keyword -/
inductive Src where
  | p (i : Nat) | d (i : Nat) | m (i : Nat) | k (i : Nat)
def Src.get {α : Type} (us its mv ws : List α) : Src → Option α
  | .p i => us[i]?
  | .d i => its[i]?
  | .m i => mv[i]?
  | .k i => ws[i]?
def pick {α : Type} (src : List Src) (us its mv ws : List α) : List α := src.filterMap (Src.get us its mv ws)
def Src.ok (a b c e : Nat) : Src → Bool
  | .p i => decide (i < a)
  | .d i => decide (i < b)
  | .m i => decide (i < c)
  | .k i => decide (i < e)
def Src.up : Src → Src
  | .p i => .p (i + 1)
  | s => s
theorem getV : ∀ {vs : List V} {us : List Value} (i : Nat), Vals vs us → (vs[i]? = none ∧ us[i]? = none) ∨ ∃ v u, vs[i]? = some v ∧ us[i]? = some u ∧ RelV v u
  | _, _, _, .nil => .inl ⟨rfl, rfl⟩
  | _, _, 0, .cons r _ => .inr ⟨_, _, rfl, rfl, r⟩
  | _, _, i + 1, .cons _ t => by simpa using getV i t
theorem getR {K : PySem.W.Frag} {mg : Str → Option Value} {H : Hp} : ∀ {vs : List V} {us : List D} (i : Nat), RepL K mg H vs us → (vs[i]? = none ∧ us[i]? = none) ∨ ∃ v u, vs[i]? = some v ∧ us[i]? = some u ∧ Rep K mg H v u
  | _, _, _, .nil => .inl ⟨rfl, rfl⟩
  | _, _, 0, .cons r _ => .inr ⟨_, _, rfl, rfl, r⟩
  | _, _, i + 1, .cons _ t => by simpa using getR i t
theorem pick_vals {vs ds mz zs : List V} {us its mv ws : List Value} (h1 : Vals vs us) (h2 : Vals ds its) (h3 : Vals mz mv) (h4 : Vals zs ws) : ∀ src : List Src, Vals (pick src vs ds mz zs) (pick src us its mv ws)
  | [] => .nil
  | s :: r => by
    have key : (s.get vs ds mz zs = none ∧ s.get us its mv ws = none) ∨ ∃ v u, s.get vs ds mz zs = some v ∧ s.get us its mv ws = some u ∧ RelV v u := by
      cases s with
      | p i => exact getV i h1
      | d i => exact getV i h2
      | m i => exact getV i h3
      | k i => exact getV i h4
    have ih := pick_vals h1 h2 h3 h4 r
    unfold pick at ih ⊢
    rcases key with ⟨e1, e2⟩ | ⟨v, u, e1, e2, q⟩
    · rw [List.filterMap_cons_none e1, List.filterMap_cons_none e2]; exact ih
    · rw [List.filterMap_cons_some e1, List.filterMap_cons_some e2]; exact .cons q ih
theorem pick_rep {K : PySem.W.Frag} {mg : Str → Option Value} {H : Hp} {vs ds mz zs : List V} {us its mv ws : List D} (h1 : RepL K mg H vs us) (h2 : RepL K mg H ds its) (h3 : RepL K mg H mz mv) (h4 : RepL K mg H zs ws) : ∀ src : List Src, RepL K mg H (pick src vs ds mz zs) (pick src us its mv ws)
  | [] => .nil
  | s :: r => by
    have key : (s.get vs ds mz zs = none ∧ s.get us its mv ws = none) ∨ ∃ v u, s.get vs ds mz zs = some v ∧ s.get us its mv ws = some u ∧ Rep K mg H v u := by
      cases s with
      | p i => exact getR i h1
      | d i => exact getR i h2
      | m i => exact getR i h3
      | k i => exact getR i h4
    have ih := pick_rep h1 h2 h3 h4 r
    unfold pick at ih ⊢
    rcases key with ⟨e1, e2⟩ | ⟨v, u, e1, e2, q⟩
    · rw [List.filterMap_cons_none e1, List.filterMap_cons_none e2]; exact ih
    · rw [List.filterMap_cons_some e1, List.filterMap_cons_some e2]; exact .cons q ih
theorem pick_length {α : Type} {us its mv ws : List α} : ∀ {src : List Src}, (src.all (Src.ok us.length its.length mv.length ws.length)) = true → (pick src us its mv ws).length = src.length
  | [], _ => rfl
  | s :: r, h => by
    rw [List.all_cons, Bool.and_eq_true] at h
    have key : ∃ v, s.get us its mv ws = some v := by
      cases s with
      | p i => exact ⟨_, List.getElem?_eq_getElem (of_decide_eq_true h.1)⟩
      | d i => exact ⟨_, List.getElem?_eq_getElem (of_decide_eq_true h.1)⟩
      | m i => exact ⟨_, List.getElem?_eq_getElem (of_decide_eq_true h.1)⟩
      | k i => exact ⟨_, List.getElem?_eq_getElem (of_decide_eq_true h.1)⟩
    obtain ⟨v, e⟩ := key
    have ih := pick_length h.2
    unfold pick at ih ⊢
    rw [List.filterMap_cons_some e]
    simp [ih]
theorem pick_up {α : Type} {x : α} {us its mv ws : List α} : ∀ src : List Src, pick (src.map Src.up) (x :: us) its mv ws = pick src us its mv ws
  | [] => rfl
  | s :: r => by
    have e : (s.up).get (x :: us) its mv ws = s.get us its mv ws := by cases s <;> rfl
    have ih := pick_up (x := x) (us := us) (its := its) (mv := mv) (ws := ws) r
    unfold pick at ih ⊢
    rw [List.map_cons]
    cases q : s.get us its mv ws with
    | none => rw [q] at e; rw [List.filterMap_cons_none e, List.filterMap_cons_none q]; exact ih
    | some v => rw [q] at e; rw [List.filterMap_cons_some e, List.filterMap_cons_some q, ih]
/-- plain defaults -/
def cV : D → V
  | .non => .non
  | .bl b => .bl b
  | .int i => .int i
  | .str x => .str x
  | _ => .non
def plainD : D → Bool
  | .non | .bl _ | .int _ | .str _ => true
  | _ => false
theorem rep_cV {K : PySem.W.Frag} {mg : Str → Option Value} {H : Hp} : ∀ {ds : List D}, ds.all plainD = true → RepL K mg H (ds.map cV) ds
  | [], _ => .nil
  | d :: r, h => by
    rw [List.all_cons, Bool.and_eq_true] at h
    refine .cons ?_ (rep_cV h.2)
    cases d <;> first | exact .non | exact .bl _ | exact .int _ | exact .str _ | exact absurd h.1 (by simp [plainD])
section
variable {K : PySem.W.Frag} {mg : Str → Option Value} {fd : FuncData} {ps ks : List Str} {n : Nat} {src : List Src} {dd md : List D}
/-- from a binding of values to one of data -/
theorem KB.of {g : List Value → List Value → List Value} (h : KBn K fd ps n ks g (fun vs zs => pick src vs (dd.map cV) (md.map cV) zs)) (hp : (dd ++ md).all plainD = true) (hl : src.length = ps.length) (ho : src.all (Src.ok n dd.length md.length ks.length) = true) : KB K mg fd ps n ks fun ds es => pick src ds dd md es := by
  rw [List.all_append, Bool.and_eq_true] at hp
  refine ⟨⟨g, _, h, fun H vs zs ds es r1 r2 l1 l2 => ⟨pick_rep r1 (rep_cV hp.1) (rep_cV hp.2) r2 src, ?_⟩⟩⟩
  rw [pick_length (by simpa [l1, l2] using ho), hl]
/-- the same behind self -/
theorem KI.of {g : List Value → List Value → List Value} (h : KBn K fd ps (n + 1) ks g (fun vs zs => pick (.p 0 :: src.map Src.up) vs (dd.map cV) (md.map cV) zs)) (hp : (dd ++ md).all plainD = true) (hl : src.length + 1 = ps.length) (ho : src.all (Src.ok n dd.length md.length ks.length) = true) : KI K mg fd ps n ks fun ds es => pick src ds dd md es := by
  rw [List.all_append, Bool.and_eq_true] at hp
  refine ⟨⟨g, _, fun vs zs => pick src vs (dd.map cV) (md.map cV) zs, h, fun H x vs zs ds es r1 r2 l1 l2 => ⟨?_, pick_rep r1 (rep_cV hp.1) (rep_cV hp.2) r2 src, ?_⟩⟩⟩
  · show pick (.p 0 :: src.map Src.up) (x :: vs) _ _ zs = x :: _
    have e : pick (.p 0 :: src.map Src.up) (x :: vs) (dd.map cV) (md.map cV) zs = x :: pick (src.map Src.up) (x :: vs) (dd.map cV) (md.map cV) zs := rfl
    rw [e, pick_up]
  · rw [pick_length (by simpa [l1, l2] using ho), hl]
variable {x qual : Str} {params : Arguments} {body : List Stmt} {scope : Scope} {kws : List (Str × V)} {f : Addr}
/-- no defaults at all, some parameters by name -/
theorem kb00 (F : FunD K x qual params body scope [] kws f fd) (src : List Src) (h : ∀ (kV doc pm : Value) (an : Option Addr) (cdv ct : Value) (us ws : List Value), us.length = n → ws.length = ks.length → bindArgs (PySem.W.fnOf x qual params body scope .none kV doc pm an cdv ct) ⟨us, ks.zip ws⟩ = pure (ps.zip (pick src us [] [] ws))) :
    KBn K fd ps n ks (fun us ws => pick src us [] [] ws) (fun vs zs => pick src vs [] [] zs) := by
  obtain ⟨oc, od, dV, kV, doc, pm, an, cdv, ct, osl, rfl, lk, hcd, hD, hK⟩ := F.ex
  rcases hD with ⟨_, rfl⟩ | ⟨e, _⟩
  · exact ⟨fun s us ws X l1 l2 => .of_eq (h kV doc pm an cdv ct us ws l1 l2), fun r1 r2 => pick_vals r1 .nil .nil r2 src⟩
  · exact absurd rfl e
end
end Dv
set_option Elab.async false
set_option linter.all false
set_option maxRecDepth 100000
set_option maxHeartbeats 4000000
/-! DV18: the rules as the printed texts use them -/
namespace Dv
open PySem PySem.Spec PyProof.Rows L2
abbrev DefX.fun (d : DefX) (K : PySem.W.Frag) (fd : FuncData) : Prop := FunD K d.name d.qual d.params d.body d.scope d.dfl d.kwd (d.at_ K) fd
/-- a def that is done: its function object, its promise -/
structure Dn (P : Program) (w : World) (K : PySem.W.Frag) (mg : Str → Option Value) (base : Heap) (d : DefX) (k : Nat) (ps : List Str) (sp : Sp) : Prop where
  ex : ∃ fd, d.fun K fd ∧ FnG P w K mg base k (d.at_ K) fd ps sp
abbrev KBs (K : PySem.W.Frag) (mg : Str → Option Value) (d : DefX) (ps : List Str) (n : Nat) (ks : List Str) (gD : List D → List D → List D) : Prop := ∀ fd, d.fun K fd → KB K mg fd ps n ks gD
abbrev KIs (K : PySem.W.Frag) (mg : Str → Option Value) (d : DefX) (ps : List Str) (n : Nat) (ks : List Str) (gD : List D → List D → List D) : Prop := ∀ fd, d.fun K fd → KI K mg fd ps n ks gD
abbrev Bds (K : PySem.W.Frag) (d : DefX) (ps : List Str) : Prop := ∀ fd, d.fun K fd → Binds K fd ps []
theorem KBs.all {K : PySem.W.Frag} {mg : Str → Option Value} {d : DefX} {ps : List Str} (h : Bds K d ps) : KBs K mg d ps ps.length [] fun ds _ => ds := fun fd F => KB.all (h fd F)
section
variable {P : Program} {w : World} {K : PySem.W.Frag} {mg : Str → Option Value} {base : Heap} {d : DefX} {N ps : List Str} {k : Nat} {m : M Fl}
abbrev BodyX (P : Program) (w : World) (K : PySem.W.Frag) (mg : Str → Option Value) (base : Heap) (d : DefX) (N : List Str) (k : Nat) (m : M Fl) : Prop := BodyD P w K mg base N d.qual d.scope (d.at_ K) k d.body m
theorem dnD (F : ∃ fd, d.fun K fd) (S : FnScope N ps d.scope) (hb : BodyX P w K mg base d N k m) : Dn P w K mg base d (k + 1) ps (spD K mg ps.length (runD N.length m)) := by
  obtain ⟨fd, F⟩ := F
  exact ⟨fd, F, fnD F S hb⟩
theorem dnF (F : ∃ fd, d.fun K fd) (S : FnScope N ps d.scope) (hb : BodyX P w K mg base d N k m) : Dn P w K mg base d (k + 1) ps (spF K mg ps.length (runF N.length m)) := by
  obtain ⟨fd, F⟩ := F
  exact ⟨fd, F, fnF F S hb⟩
theorem dnW (F : ∃ fd, d.fun K fd) (S : FnScope N ps d.scope) (hb : BodyX P w K mg base d N k m) : Dn P w K mg base d (k + 1) ps (spW K mg ps.length (runW N.length m)) := by
  obtain ⟨fd, F⟩ := F
  exact ⟨fd, F, fnW F S hb⟩
theorem dnI {c : Nat} (F : ∃ fd, d.fun K fd) (S : FnScope N ps d.scope) (hb : BodyX P w K mg base d N k m) : Dn P w K mg base d (k + 1) ps (spI K mg ps.length c (runI N.length c m)) := by
  obtain ⟨fd, F⟩ := F
  exact ⟨fd, F, fnI F S hb⟩
end
section
variable {X : Cx} {G : Gx} {d : DefX} {k k' n c : Nat} {C : Addr} {ps ks : List Str} {x m : Str} {p pos apos : Pos} {o e : Expr} {es : List Expr} {kws : List Keyword} {fa fk : M (List D)} {fo : M D} {gD : List D → List D → List D} {cs : List Nat}
theorem dcall {F : List D → Option D} (h : Dn X.prog X.w X.K X.mg X.base d k' ps (spD X.K X.mg ps.length F)) (kb : KBs X.K X.mg d ps n ks gD) (hr : Room k X.A) (hgd : X.A.guards = some []) (hm : X.mg x = some (.ref (d.at_ X.K))) (hg : Gl X x)
    (ha : DA X G (e :: es) fa) (hkw : DK X G kws fk) (hk : k' ≤ k := by decide) (hall : (backToKw pos (keywordEach kws X.env)).all (·.1.isSome) = true := by rfl) (hks : (backToKw pos (keywordEach kws X.env)).filterMap (·.1) = ks := by rfl)
    (hdb : (x == ("__debug__" : Str)) = false := by decide) (he : starEach (e :: es) X.env = (false, eval e X.env) :: starEach es X.env := by rfl)
    (hpl : ((backTo pos (starEach (e :: es) X.env)).any (·.1) || (backToKw pos (keywordEach kws X.env)).any (·.1.isNone)) = false := by rfl) :
    DE X G (.Call (.Name x p) (e :: es) kws pos) (mFn n ks.length gD F fa fk) := by
  obtain ⟨fd, F, fn⟩ := h.ex
  exact de_call fn (hr.mono hk) hgd hg hm F.kp (kb fd F) ha hkw hall hks hdb he hpl
theorem dcallF {F : List D → Option (List D)} (h : Dn X.prog X.w X.K X.mg X.base d k' ps (spF X.K X.mg ps.length F)) (kb : KBs X.K X.mg d ps n ks gD) (hr : Room k X.A) (hgd : X.A.guards = some []) (hm : X.mg x = some (.ref (d.at_ X.K))) (hg : Gl X x)
    (ha : DA X G (e :: es) fa) (hkw : DK X G kws fk) (hk : k' ≤ k := by decide) (hall : (backToKw pos (keywordEach kws X.env)).all (·.1.isSome) = true := by rfl) (hks : (backToKw pos (keywordEach kws X.env)).filterMap (·.1) = ks := by rfl)
    (hdb : (x == ("__debug__" : Str)) = false := by decide) (he : starEach (e :: es) X.env = (false, eval e X.env) :: starEach es X.env := by rfl)
    (hpl : ((backTo pos (starEach (e :: es) X.env)).any (·.1) || (backToKw pos (keywordEach kws X.env)).any (·.1.isNone)) = false := by rfl) :
    DF X G (.Call (.Name x p) (e :: es) kws pos) (mFn n ks.length gD F fa fk) := by
  obtain ⟨fd, F, fn⟩ := h.ex
  exact df_callF fn (hr.mono hk) hgd hg hm F.kp (kb fd F) ha hkw hall hks hdb he hpl
theorem dcallW {F : List D → List D → Option (D × List D)} (i : Nat) (ho : PE X o (tVar i)) (h : Dn X.prog X.w X.K X.mg X.base d k' ps (spW X.K X.mg ps.length F)) (hb : Bds X.K d ps) (hr : Room k X.A) (hgd : X.A.guards = some []) (hm : X.mg x = some (.ref (d.at_ X.K))) (hg : Gl X x)
    (ha : DA X G es fa) (hk : k' ≤ k := by decide) (hdb : (x == ("__debug__" : Str)) = false := by decide) (hst : starEach (o :: es) X.env = (false, eval o X.env) :: starEach es X.env := by rfl) (hpl : (backTo pos (starEach es X.env)).any (·.1) = false := by rfl) :
    DE X G (.Call (.Name x p) (o :: es) [] pos) (mFnW i ps.length F fa) := by
  obtain ⟨fd, F, fn⟩ := h.ex
  exact de_callW i ho fn (hr.mono hk) hgd hg hm F.kp (hb fd F) ha hdb hst hpl
theorem dmk {F : List D → Option (List D)} (Mc : Mk X.K C (d.at_ X.K)) (h : Dn X.prog X.w X.K X.mg X.base d k' ps (spI X.K X.mg ps.length c F)) (kb : KIs X.K X.mg d ps n ks gD) (hr : Room k X.A) (hgd : X.A.guards = some []) (hm : X.mg (clsName c) = some (.ref C)) (hg : Gl X (clsName c)) (hx : x = clsName c)
    (ha : DA X G (e :: es) fa) (hkw : DK X G kws fk) (hk : k' + 1 ≤ k := by decide) (hall : (backToKw pos (keywordEach kws X.env)).all (·.1.isSome) = true := by rfl) (hks : (backToKw pos (keywordEach kws X.env)).filterMap (·.1) = ks := by rfl)
    (hdb : (x == ("__debug__" : Str)) = false := by decide) (he : starEach (e :: es) X.env = (false, eval e X.env) :: starEach es X.env := by rfl)
    (hpl : ((backTo pos (starEach (e :: es) X.env)).any (·.1) || (backToKw pos (keywordEach kws X.env)).any (·.1.isNone)) = false := by rfl) :
    DE X G (.Call (.Name x p) (e :: es) kws pos) (mMk c n ks.length gD F fa fk) := by
  obtain ⟨fd, F, fn⟩ := h.ex
  exact de_mk Mc fn (hr.mono hk) hgd hg hm (kb fd F) hx ha hkw hall hks hdb he hpl
theorem dmk0 {F : List D → Option (List D)} (Mc : Mk X.K C (d.at_ X.K)) (h : Dn X.prog X.w X.K X.mg X.base d k' ps (spI X.K X.mg ps.length c F)) (kb : KIs X.K X.mg d ps 0 ks gD) (hr : Room k X.A) (hgd : X.A.guards = some []) (hm : X.mg (clsName c) = some (.ref C)) (hg : Gl X (clsName c)) (hx : x = clsName c)
    (hkw : DK X G kws fk) (hk : k' + 1 ≤ k := by decide) (hall : (backToKw pos (keywordEach kws X.env)).all (·.1.isSome) = true := by rfl) (hks : (backToKw pos (keywordEach kws X.env)).filterMap (·.1) = ks := by rfl)
    (hdb : (x == ("__debug__" : Str)) = false := by decide) (hpl : (backToKw pos (keywordEach kws X.env)).any (·.1.isNone) = false := by rfl) :
    DE X G (.Call (.Name x p) [] kws pos) (mMk c 0 ks.length gD F aNil fk) := by
  obtain ⟨fd, F, fn⟩ := h.ex
  exact de_mk0 Mc fn (hr.mono hk) hgd hg hm (kb fd F) hx hkw hall hks hdb hpl
/-- self.f = e -/
def sSetFs (i : Nat) (m : Str) (cs : List Nat) (fv : M D) : M Fl := mBind fv fun d => fun τ => match τ[i]? with
  | some (some (.ob c [] [])) => if c ∈ cs then some (.nx, τ.set i (some (.ob c [m] [d]))) else none
  | _ => none
theorem ds_setFs {pos' : Pos} {fv : M D} (i : Nat) (ho : PE X o (tVar i)) (he : DE X G e fv) (hcs : ∀ c ∈ cs, ∃ C, ClsF X.K X.mg c C ∧ NoAttr X.K C m) (hs : swapsWith e (some (.Attribute o m pos')) pos.line X.env = pure false := by rfl) :
    DS X G (.Assign [.Attribute o m pos'] e pos) (sSetFs i m cs fv) := ds_setF i ho he hcs hs
theorem de_gi {x : Str} {n : Int} {pos : Pos} (hg : Gl X x) (h : ∃ t, X.mg x = some (.int n t)) (hd : (x == ("__debug__" : Str)) = false := by decide) : DE X G (.Name x pos) (mPure (.int n)) := by
  obtain ⟨t, h⟩ := h
  exact de_gl (v := .int n) hg h ⟨t, rfl⟩ (fun _ => .int n) hd
theorem de_gs {x : Str} {n : Str} {pos : Pos} (hg : Gl X x) (h : ∃ t, X.mg x = some (.str n t)) (hd : (x == ("__debug__" : Str)) = false := by decide) : DE X G (.Name x pos) (mPure (.str n)) := by
  obtain ⟨t, h⟩ := h
  exact de_gl (v := .str n) hg h ⟨t, rfl⟩ (fun _ => .str n) hd
def mJoin (fo fe : M D) : M D := mBind fo fun a => match a with
  | .str _ => mBind fe fun b => mLift (joinD a b)
  | _ => fun _ => none
theorem de_joinD {o e : Expr} {apos pos : Pos} {fo fe : M D} (ho : DE X G o fo) (he : DE X G e fe) (hs : starEach [e] X.env = [(false, eval e X.env)] := by rfl) (hbase : attributeBase o "join" X.env (eval o X.env) = eval o X.env := by rfl) (hline : (apos.endLine == pos.line) = true := by rfl) :
    DE X G (.Call (.Attribute o "join" apos) [e] [] pos) (mJoin fo fe) := de_join ho he hs hbase hline
theorem dprop {F : List D → Option D} {pp : PySem.W.Frag → Addr} (ho : DE X G o fo) (hcs : ∀ c ∈ cs, ∃ C, ClsF X.K X.mg c C ∧ PropOf X.K C m (pp X.K) (d.at_ X.K)) (h : Dn X.prog X.w X.K X.mg X.base d k' ["self"] (spD X.K X.mg 1 F)) (hb : Bds X.K d ["self"]) (hr : Room k X.A) (hgd : X.A.guards = some [])
    (hk : k' + 1 ≤ k := by decide) (hab : attributeBase o m X.env (eval o X.env) = eval o X.env := by rfl) : DE X G (.Attribute o m pos) (mMe0 cs F fo) := by
  obtain ⟨fd, Fd, fn⟩ := h.ex
  exact de_prop ho hcs fn (hr.mono hk) hgd (hb fd Fd) hab
theorem deq {F : List D → Option D} {t : List ((Nat × Tg) × Bool)} (ht : ∀ p ∈ t, EqOk X.K X.mg (d.at_ X.K) p) (hf : PySem.W.isFn X.K (.ref (d.at_ X.K)) = true) (h : Dn X.prog X.w X.K X.mg X.base d k' ps (spD X.K X.mg ps.length F)) (hl : ps.length = 2) (hb : Bds X.K d ps) (hr : Room k X.A) (hgd : X.A.guards = some []) (hk : k' ≤ k := by decide) : OpD X (compareOp .Eq) (eqO t F) := by
  obtain ⟨fd, Fd, fn⟩ := h.ex
  exact op_eqO ht hf fn hl (hr.mono hk) hgd (hb fd Fd)
theorem dne {F : List D → Option D} {t : List ((Nat × Tg) × Bool)} (ht : ∀ p ∈ t, EqOk X.K X.mg (d.at_ X.K) p) (hf : PySem.W.isFn X.K (.ref (d.at_ X.K)) = true) (h : Dn X.prog X.w X.K X.mg X.base d k' ps (spD X.K X.mg ps.length F)) (hl : ps.length = 2) (hb : Bds X.K d ps) (hr : Room k X.A) (hgd : X.A.guards = some []) (hk : k' + 1 ≤ k := by decide) : OpD X (compareOp .NotEq) (neO t F) := by
  obtain ⟨fd, Fd, fn⟩ := h.ex
  exact op_neO ht hf fn hl (hr.mono hk) hgd (hb fd Fd)
theorem dstr {F : List D → Option D} (ht : ∀ c ∈ cs, SpOk X.K X.mg "__str__" (d.at_ X.K) c) (hf : PySem.W.isFn X.K (.ref (d.at_ X.K)) = true) (h : Dn X.prog X.w X.K X.mg X.base d k' ["self"] (spD X.K X.mg 1 F)) (hb : Bds X.K d ["self"]) (hr : Room k X.A) (hgd : X.A.guards = some []) (hk : k' + 2 ≤ k := by decide) : CallD X (.type "str") (strO cs F) := by
  obtain ⟨fd, Fd, fn⟩ := h.ex
  exact c_strO ht hf fn (hr.mono hk) hgd (hb fd Fd)
/-- two readings of one expression -/
def mOr2 {α : Type} (f g : M α) : M α := fun τ => (f τ).or (g τ)
theorem de_or2 {e : Expr} {f g : M D} (h : DE X G e f) (h' : DE X G e g) : DE X G e (mOr2 f g) := pe_imp (pe_both h h') fun σ H Q q => by
  obtain ⟨O, τ, d, τ', R, e, q⟩ := q
  unfold mOr2 at e
  cases e1 : f τ with
  | some p => rw [e1] at e; cases e; exact .inl ⟨O, τ, d, τ', R, e1, q⟩
  | none => rw [e1] at e; exact .inr ⟨O, τ, d, τ', R, e, q⟩
def negD : D → Option D
  | .int i => some (.int (-i))
  | _ => none
theorem de_neg {a : Expr} {pos : Pos} {f : M D} (h : DE X G a f) : DE X G (.UnaryOp .USub a pos) (m1 negD f) := de_un un_neg (fun H O x a z Q lv r e q => by
  cases r with
  | int i => cases e; exact ⟨i, rfl, q _ H (Grow.refl _) (.int _)⟩
  | _ => cases e) h
theorem de_chainD {op op' : CmpOp} {a b c : Expr} {pos : Pos} {g g' : D → D → Option D} {fa fb fc : M D} (ho : OpD X (compareOp op) g) (ho' : OpD X (compareOp op') g') (ha : DE X G a fa) (hb : DE X G b fb) (hc : DE X G c fc)
    (hm : lastMarks [op, op'] [b, c] = false := by with_unfolding_all rfl) : DE X G (.Compare a [op, op'] [b, c] pos) (mCh g g' fa fb fc) := de_chain ho (v2_D g) ho' (v2_D g') ha hb hc hm
theorem dt_chainD {op op' : CmpOp} {a b c : Expr} {pos : Pos} {g g' : D → D → Option D} {fa fb fc : M D} (ho : OpD X (compareOp op) g) (ho' : OpD X (compareOp op') g') (ha : DE X G a fa) (hb : DE X G b fb) (hc : DE X G c fc)
    (hm : lastMarks [op, op'] [b, c] = false := by with_unfolding_all rfl) : DT X G (.Compare a [op, op'] [b, c] pos) (mB (mCh g g' fa fb fc)) := dt_chain ho (v2_D g) ho' (v2_D g') ha hb hc hm
theorem df_list {p pos : Pos} {f : M (List D)} (hg : Gl X "list") (hm : X.mg "list" = none) (ha : DA X G [e] f) (he : starEach [e] X.env = (false, eval e X.env) :: starEach [] X.env := by rfl) : DF X G (.Call (.Name "list" p) [e] [] pos) (mCallF listF f) :=
  df_callTy call_list_of f_list hg hm rfl ha (by decide) (by decide) he rfl
theorem df_sorted {p pos : Pos} {f : M (List D)} (hg : Gl X "sorted") (hm : X.mg "sorted" = none) (ha : DA X G [e] f) (he : starEach [e] X.env = (false, eval e X.env) :: starEach [] X.env := by rfl) : DF X G (.Call (.Name "sorted" p) [e] [] pos) (mCallF sortedF f) :=
  df_callB cr_sortedI f_sorted hg hm rfl ha (by decide) (by decide) he rfl
/-- xs.append(e) -/
theorem ds_app {pos' : Pos} {fv : M D} (i : Nat) (ho : PE X o (tVar i)) (he : DE X G e fv) (hs : swapsWith (.Call (.Attribute o "append" apos) [e] [] pos) none pos'.line X.env = pure false := by rfl)
    (hbase : attributeBase o "append" X.env (eval o X.env) = eval o X.env := by rfl)
    (hfew : ((backTo pos (starEach [e] X.env)).all (fun x => !x.1) && (backToKw pos (keywordEach [] X.env)).all (fun x => x.1.isSome) && decide (([e] : List Expr).length + ([] : List Keyword).length + (if ([] : List Keyword).isEmpty then 0 else 1) < 30)) = true := by rfl)
    (hline : (apos.endLine == pos.line) = true := by rfl) (hst : starEach [e] X.env = (false, eval e X.env) :: starEach [] X.env := by rfl) : DS X G (.Expr (.Call (.Attribute o "append" apos) [e] [] pos) pos') (sAppend i fv) :=
  ds_append i ho he hs (pe_bm PySem.F.plainAttrs_list PySem.F.slot_list_append PySem.F.type_list_append mt_append ho (da_cons he da_nil hst) hbase hfew hline hst rfl)
end
end Dv
set_option Elab.async false
set_option linter.all false
set_option maxRecDepth 100000
set_option maxHeartbeats 4000000
/-! DV19: what the readings give, step by step (plain Lean, no program in sight) -/
namespace Dv
open PySem L2
/-- f comes through at τ, and Q holds of what it gives -/
def Ok {α : Type} (f : M α) (τ : Sd) (Q : α → Sd → Prop) : Prop := ∃ a τ', f τ = some (a, τ') ∧ Q a τ'
section
variable {α β : Type} {τ : Sd}
theorem Ok.mono {f : M α} {Q Q' : α → Sd → Prop} (h : Ok f τ Q) (i : ∀ a τ', Q a τ' → Q' a τ') : Ok f τ Q' := by
  obtain ⟨a, τ', e, q⟩ := h
  exact ⟨a, τ', e, i a τ' q⟩
@[simp] theorem ok_pure {a : α} {Q : α → Sd → Prop} : Ok (mPure a) τ Q ↔ Q a τ := ⟨fun ⟨_, _, e, q⟩ => by cases e; exact q, fun q => ⟨a, τ, rfl, q⟩⟩
@[simp] theorem ok_bind {f : M α} {g : α → M β} {Q : β → Sd → Prop} : Ok (mBind f g) τ Q ↔ Ok f τ fun a τ1 => Ok (g a) τ1 Q := by
  constructor
  · rintro ⟨b, τ', e, q⟩
    obtain ⟨a, τ1, e1, e2⟩ := mBind_some e
    exact ⟨a, τ1, e1, b, τ', e2, q⟩
  · rintro ⟨a, τ1, e1, b, τ', e2, q⟩
    exact ⟨b, τ', by unfold mBind; rw [e1]; exact e2, q⟩
@[simp] theorem ok_lift {o : Option α} {Q : α → Sd → Prop} : Ok (mLift o) τ Q ↔ ∃ a, o = some a ∧ Q a τ := by
  constructor
  · rintro ⟨a, τ', e, q⟩
    unfold mLift at e
    cases o with
    | none => cases e
    | some a' => cases e; exact ⟨_, rfl, q⟩
  · rintro ⟨a, rfl, q⟩
    exact ⟨a, τ, rfl, q⟩
@[simp] theorem ok_ite {c : Prop} [Decidable c] {f g : M α} {Q : α → Sd → Prop} : Ok (if c then f else g) τ Q ↔ if c then Ok f τ Q else Ok g τ Q := by
  by_cases h : c <;> simp [h]
@[simp] theorem ok_v {i : Nat} {Q : D → Sd → Prop} : Ok (vR i) τ Q ↔ ∃ d, τ[i]? = some (some (.val d)) ∧ Q d τ := by
  constructor
  · rintro ⟨d, τ', e, q⟩
    obtain ⟨rfl, e1⟩ := vR_some e
    exact ⟨d, e1, q⟩
  · rintro ⟨d, e, q⟩
    exact ⟨d, τ, by unfold vR; rw [e], q⟩
@[simp] theorem ok_none {Q : α → Sd → Prop} : Ok (fun _ => none) τ Q ↔ False := ⟨fun ⟨_, _, e, _⟩ => (nomatch e), False.elim⟩
@[simp] theorem ok_2 {g : D → D → Option D} {fa fb : M D} {Q : D → Sd → Prop} : Ok (m2 g fa fb) τ Q ↔ Ok fa τ fun a τ1 => Ok fb τ1 fun b τ2 => ∃ z, g a b = some z ∧ Q z τ2 := by
  simp only [m2, ok_bind, ok_lift]
@[simp] theorem ok_1 {g : D → Option D} {fa : M D} {Q : D → Sd → Prop} : Ok (m1 g fa) τ Q ↔ Ok fa τ fun a τ1 => ∃ z, g a = some z ∧ Q z τ1 := by
  simp only [m1, ok_bind, ok_lift]
@[simp] theorem ok_call {g : List D → Option D} {f : M (List D)} {Q : D → Sd → Prop} : Ok (mCall g f) τ Q ↔ Ok f τ fun a τ1 => ∃ z, g a = some z ∧ Q z τ1 := by
  simp only [mCall, ok_bind, ok_lift]
@[simp] theorem ok_nil {Q : List D → Sd → Prop} : Ok aNil τ Q ↔ Q [] τ := ok_pure
@[simp] theorem ok_cons {fa : M D} {fr : M (List D)} {Q : List D → Sd → Prop} : Ok (aCons fa fr) τ Q ↔ Ok fa τ fun a τ1 => Ok fr τ1 fun r τ2 => Q (a :: r) τ2 := by
  simp only [aCons, ok_bind, ok_pure]
@[simp] theorem ok_if {t : M Bool} {fa fb : M α} {Q : α → Sd → Prop} : Ok (mIf t fa fb) τ Q ↔ Ok t τ fun c τ1 => if c = true then Ok fa τ1 Q else Ok fb τ1 Q := by
  simp only [mIf, ok_bind, ok_ite]
@[simp] theorem ok_sif {t : M Bool} {f g : M Fl} {Q : Fl → Sd → Prop} : Ok (sIf t f g) τ Q ↔ Ok t τ fun c τ1 => if c = true then Ok f τ1 Q else Ok g τ1 Q := ok_if
@[simp] theorem ok_B {f : M D} {Q : Bool → Sd → Prop} : Ok (mB f) τ Q ↔ Ok f τ fun d τ1 => ∃ b, asB d = some b ∧ Q b τ1 := by
  simp only [mB, ok_bind, ok_lift]
@[simp] theorem ok_tru {f : M D} {Q : Bool → Sd → Prop} : Ok (mTru f) τ Q ↔ Ok f τ fun d τ1 => ∃ b, truthD d = some b ∧ Q b τ1 := by
  simp only [mTru, ok_bind, ok_lift]
@[simp] theorem ok_not {f : M Bool} {Q : Bool → Sd → Prop} : Ok (mNot f) τ Q ↔ Ok f τ fun b τ1 => Q (!b) τ1 := by
  simp only [mNot, ok_bind, ok_pure]
@[simp] theorem ok_and {f g : M Bool} {Q : Bool → Sd → Prop} : Ok (mAnd f g) τ Q ↔ Ok f τ fun b τ1 => if b = true then Ok g τ1 Q else Q false τ1 := by
  simp only [mAnd, ok_bind, ok_ite, ok_pure]
@[simp] theorem ok_or {f g : M Bool} {Q : Bool → Sd → Prop} : Ok (mOr f g) τ Q ↔ Ok f τ fun b τ1 => if b = true then Q true τ1 else Ok g τ1 Q := by
  simp only [mOr, ok_bind, ok_ite, ok_pure]
@[simp] theorem ok_notV {f : M D} {Q : D → Sd → Prop} : Ok (mNotV f) τ Q ↔ Ok f τ fun d τ1 => ∃ b, truthD d = some b ∧ Q (.bl (!b)) τ1 := by
  simp only [mNotV, ok_bind, ok_lift, Option.map_eq_some_iff]
  constructor
  · exact fun h => h.mono fun a τ' q => by obtain ⟨z, ⟨b, e, rfl⟩, q⟩ := q; exact ⟨b, e, q⟩
  · exact fun h => h.mono fun a τ' q => by obtain ⟨b, e, q⟩ := q; exact ⟨_, ⟨b, e, rfl⟩, q⟩
@[simp] theorem ok_andV {f g : M D} {Q : D → Sd → Prop} : Ok (mAndV f g) τ Q ↔ Ok f τ fun d τ1 => ∃ b, truthD d = some b ∧ if b = true then Ok g τ1 Q else Q d τ1 := by
  simp only [mAndV, ok_bind, ok_lift, ok_ite, ok_pure]
@[simp] theorem ok_orV {f g : M D} {Q : D → Sd → Prop} : Ok (mOrV f g) τ Q ↔ Ok f τ fun d τ1 => ∃ b, truthD d = some b ∧ if b = true then Q d τ1 else Ok g τ1 Q := by
  simp only [mOrV, ok_bind, ok_lift, ok_ite, ok_pure]
@[simp] theorem ok_ch {g g' : D → D → Option D} {fa fb fc : M D} {Q : D → Sd → Prop} : Ok (mCh g g' fa fb fc) τ Q ↔ Ok fa τ fun a τ1 => Ok fb τ1 fun b τ2 => ∃ k, (g a b).bind asB = some k ∧ if k = true then Ok fc τ2 (fun c τ3 => ∃ z, g' b c = some z ∧ Q z τ3) else Q (.bl false) τ2 := by
  simp only [mCh, ok_bind, ok_lift, ok_ite, ok_pure]
@[simp] theorem ok_tup {f : M (List D)} {Q : D → Sd → Prop} : Ok (mTup f) τ Q ↔ Ok f τ fun l τ1 => l.length ≤ sizeLine ∧ Q (.tup l) τ1 := by
  simp only [mTup, ok_bind, ok_lift]
  have : ∀ (l : List D) (τ1 : Sd), (∃ a, (fit l).map D.tup = some a ∧ Q a τ1) ↔ (l.length ≤ sizeLine ∧ Q (.tup l) τ1) := fun l τ1 => by
    unfold fit
    by_cases h : l.length ≤ sizeLine <;> simp [h]
  simp only [this]
@[simp] theorem ok_lst {f : M (List D)} {Q : List D → Sd → Prop} : Ok (mLst f) τ Q ↔ Ok f τ fun l τ1 => l.length ≤ sizeLine ∧ Q l τ1 := by
  simp only [mLst, ok_bind, ok_lift]
  have : ∀ (l : List D) (τ1 : Sd), (∃ a, fit l = some a ∧ Q a τ1) ↔ (l.length ≤ sizeLine ∧ Q l τ1) := fun l τ1 => by
    unfold fit
    by_cases h : l.length ≤ sizeLine <;> simp [h]
  simp only [this]
@[simp] theorem ok_sl {fa : M D} {fl fh : M (Option Int)} {Q : D → Sd → Prop} : Ok (mSl fa fl fh) τ Q ↔ Ok fa τ fun a τ1 => Ok fl τ1 fun lo τ2 => Ok fh τ2 fun hi τ3 => ∃ z, slD a lo hi = some z ∧ Q z τ3 := by
  simp only [mSl, ok_bind, ok_lift]
@[simp] theorem ok_fn {n m : Nat} {gD : List D → List D → List D} {F : List D → Option α} {fa fk : M (List D)} {Q : α → Sd → Prop} : Ok (mFn n m gD F fa fk) τ Q ↔ Ok fa τ fun ds τ1 => Ok fk τ1 fun es τ2 => ds.length = n ∧ es.length = m ∧ ∃ z, F (gD ds es) = some z ∧ Q z τ2 := by
  simp only [mFn, ok_bind, ok_lift]
  have : ∀ (ds es : List D) (τ2 : Sd), (∃ a, (if ds.length = n ∧ es.length = m then F (gD ds es) else none) = some a ∧ Q a τ2) ↔ (ds.length = n ∧ es.length = m ∧ ∃ z, F (gD ds es) = some z ∧ Q z τ2) := fun ds es τ2 => by
    by_cases h : ds.length = n ∧ es.length = m
    · simp [h]
    · simp only [h, if_false]; constructor
      · rintro ⟨a, e, _⟩; cases e
      · rintro ⟨h1, h2, _⟩; exact (h ⟨h1, h2⟩).elim
  simp only [this]
@[simp] theorem ok_mk {c n m : Nat} {gD : List D → List D → List D} {F : List D → Option (List D)} {fa fk : M (List D)} {Q : D → Sd → Prop} : Ok (mMk c n m gD F fa fk) τ Q ↔ Ok fa τ fun ds τ1 => Ok fk τ1 fun es τ2 => ds.length = n ∧ es.length = m ∧ ∃ z, F (gD ds es) = some z ∧ Q (.obj c z) τ2 := by
  simp only [mMk, ok_bind, ok_fn, ok_pure]
@[simp] theorem ok_me0 {cs : List Nat} {F : List D → Option D} {fo : M D} {Q : D → Sd → Prop} : Ok (mMe0 cs F fo) τ Q ↔ Ok fo τ fun d τ1 => isOb cs d = true ∧ ∃ z, F [d] = some z ∧ Q z τ1 := by
  simp only [mMe0, ok_1]
  have : ∀ (d : D) (τ1 : Sd), (∃ z, (if isOb cs d = true then F [d] else none) = some z ∧ Q z τ1) ↔ (isOb cs d = true ∧ ∃ z, F [d] = some z ∧ Q z τ1) := fun d τ1 => by
    by_cases h : isOb cs d = true <;> simp [h]
  simp only [this]
@[simp] theorem ok_fnW {i n : Nat} {F : List D → List D → Option (D × List D)} {fa : M (List D)} {Q : D → Sd → Prop} : Ok (mFnW i n F fa) τ Q ↔ (∃ l0, τ[i]? = some (some (.own l0))) ∧ Ok fa τ fun ds τ1 => ds.length + 1 = n ∧ ∃ l, τ1[i]? = some (some (.own l)) ∧ ∃ d l', F l ds = some (d, l') ∧ Q d (τ1.set i (some (.own l'))) := by
  constructor
  · rintro ⟨d, τ', e, q⟩
    obtain ⟨l0, ds, τ1, l, l', e1, e2, e3, n1, e4, rfl⟩ := mFnW_some e
    exact ⟨⟨l0, e1⟩, ds, τ1, e2, n1, l, e3, d, l', e4, q⟩
  · rintro ⟨⟨l0, e1⟩, ds, τ1, e2, n1, l, e3, d, l', e4, q⟩
    refine ⟨d, _, ?_, q⟩
    unfold mFnW ownOf
    simp only [e1, e2, e3, n1, if_true, e4]
@[simp] theorem ok_bor {f : M D} {Q : D → Sd → Prop} : Ok (bor f) τ Q ↔ Ok f (view τ) fun d _ => LF d = true ∧ Q d τ := by
  unfold Ok bor
  constructor
  · rintro ⟨a, τ', e, q⟩
    split at e
    · rename_i d τ1 e1
      split at e
      · rename_i h; cases e; exact ⟨_, _, e1, h, q⟩
      · cases e
    · cases e
  · rintro ⟨d, τ1, e1, h, q⟩
    exact ⟨d, τ, by simp only [e1, h, if_true], q⟩
@[simp] theorem ok_borT {f : M Bool} {Q : Bool → Sd → Prop} : Ok (borT f) τ Q ↔ Ok f (view τ) fun d _ => Q d τ := by
  unfold Ok borT
  constructor
  · rintro ⟨a, τ', e, q⟩
    split at e
    · rename_i d τ1 e1
      cases e; exact ⟨_, _, e1, q⟩
    · cases e
  · rintro ⟨d, τ1, e1, q⟩
    exact ⟨d, τ, by simp only [e1], q⟩
@[simp] theorem ok_join {fo fe : M D} {Q : D → Sd → Prop} : Ok (mJoin fo fe) τ Q ↔ Ok fo τ fun a τ1 => ∃ x, a = .str x ∧ Ok fe τ1 fun b τ2 => ∃ z, joinD a b = some z ∧ Q z τ2 := by
  unfold mJoin
  rw [ok_bind]
  constructor
  · refine fun h => h.mono fun a τ1 q => ?_
    cases a with
    | str x => exact ⟨x, rfl, by simpa using q⟩
    | _ => exact (ok_none.mp q).elim
  · refine fun h => h.mono fun a τ1 q => ?_
    obtain ⟨x, rfl, q⟩ := q
    simpa using q
@[simp] theorem ok_js0 {acc : Str} {Q : D → Sd → Prop} : Ok (jsF [] acc) τ Q ↔ Q (.str acc) τ := ok_pure
theorem jsF_cons {t : M D} {ts : List (M D)} {acc : Str} : jsF (t :: ts) acc = mBind t fun d => match d with
    | .str y => if (acc ++ y).length ≤ sizeLine then jsF ts (acc ++ y) else fun _ => none
    | _ => fun _ => none := rfl
@[simp] theorem ok_js1 {t : M D} {ts : List (M D)} {acc : Str} {Q : D → Sd → Prop} : Ok (jsF (t :: ts) acc) τ Q ↔ Ok t τ fun d τ1 => ∃ y, d = .str y ∧ (acc ++ y).length ≤ sizeLine ∧ Ok (jsF ts (acc ++ y)) τ1 Q := by
  rw [jsF_cons, ok_bind]
  constructor
  · refine fun h => h.mono fun a τ1 q => ?_
    cases a with
    | str y =>
      by_cases hz : (acc ++ y).length ≤ sizeLine
      · exact ⟨y, rfl, hz, by simpa only [hz, if_true] using q⟩
      · simp only [hz, if_false] at q; exact (ok_none.mp q).elim
    | _ => exact (ok_none.mp q).elim
  · refine fun h => h.mono fun a τ1 q => ?_
    obtain ⟨y, rfl, hz, q⟩ := q
    simpa only [hz, if_true] using q
/-! ### statements -/
@[simp] theorem ok_snil {Q : Fl → Sd → Prop} : Ok sNil τ Q ↔ Q .nx τ := ok_pure
@[simp] theorem ok_sseq {f g : M Fl} {Q : Fl → Sd → Prop} : Ok (sSeq f g) τ Q ↔ Ok f τ fun fl τ1 => match fl with
    | .nx => Ok g τ1 Q
    | fl => Q fl τ1 := by
  unfold sSeq
  rw [ok_bind]
  constructor
  · exact fun h => h.mono fun fl τ1 q => by cases fl <;> first | exact q | exact ok_pure.mp q
  · exact fun h => h.mono fun fl τ1 q => by cases fl <;> first | exact q | exact ok_pure.mpr q
@[simp] theorem ok_sret {f : M D} {Q : Fl → Sd → Prop} : Ok (sRet f) τ Q ↔ Ok f τ fun d τ1 => Q (.rt d) τ1 := by simp only [sRet, ok_bind, ok_pure]
@[simp] theorem ok_sretF {f : M (List D)} {Q : Fl → Sd → Prop} : Ok (sRetF f) τ Q ↔ Ok f τ fun d τ1 => Q (.rf d) τ1 := by simp only [sRetF, ok_bind, ok_pure]
@[simp] theorem ok_sexpr {f : M α} {Q : Fl → Sd → Prop} : Ok (sExpr f) τ Q ↔ Ok f τ fun _ τ1 => Q .nx τ1 := by simp only [sExpr, ok_bind, ok_pure]
@[simp] theorem ok_sset {i : Nat} {f : M D} {Q : Fl → Sd → Prop} : Ok (sSet i f) τ Q ↔ Ok f τ fun d τ1 => Q .nx (τ1.set i (some (.val d))) := by
  simp only [sSet, ok_bind]
  constructor
  · exact fun h => h.mono fun d τ1 ⟨_, _, e, q⟩ => by cases e; exact q
  · exact fun h => h.mono fun d τ1 q => ⟨_, _, rfl, q⟩
@[simp] theorem ok_sown {i : Nat} {f : M (List D)} {Q : Fl → Sd → Prop} : Ok (sOwn i f) τ Q ↔ Ok f τ fun d τ1 => Q .nx (τ1.set i (some (.own d))) := by
  simp only [sOwn, ok_bind]
  constructor
  · exact fun h => h.mono fun d τ1 ⟨_, _, e, q⟩ => by cases e; exact q
  · exact fun h => h.mono fun d τ1 q => ⟨_, _, rfl, q⟩
@[simp] theorem ok_ssetL {i : Nat} {f : M (List D)} {Q : Fl → Sd → Prop} : Ok (sSetL i f) τ Q ↔ Ok f τ fun d τ1 => Q .nx (τ1.set i (some (.val (.lst d)))) := by
  simp only [sSetL, ok_bind]
  constructor
  · exact fun h => h.mono fun d τ1 ⟨_, _, e, q⟩ => by cases e; exact q
  · exact fun h => h.mono fun d τ1 q => ⟨_, _, rfl, q⟩
@[simp] theorem ok_spar {i j : Nat} {f : M (List D)} {Q : Fl → Sd → Prop} : Ok (sPar i j f) τ Q ↔ Ok f τ fun ds τ1 => ∃ a b, ds = [a, b] ∧ Q .nx ((τ1.set i (some (.val a))).set j (some (.val b))) := by
  simp only [sPar, ok_bind]
  constructor
  · refine fun h => h.mono fun ds τ1 q => ?_
    obtain ⟨fl, τ2, e, q⟩ := q
    match ds, e with
    | [a, b], e => cases e; exact ⟨a, b, rfl, q⟩
  · refine fun h => h.mono fun ds τ1 q => ?_
    obtain ⟨a, b, rfl, q⟩ := q
    exact ⟨_, _, rfl, q⟩
@[simp] theorem ok_sasg {f : M D} {g : D → Sd → Option Sd} {Q : Fl → Sd → Prop} : Ok (sAsg f g) τ Q ↔ Ok f τ fun d τ1 => ∃ τ2, g d τ1 = some τ2 ∧ Q .nx τ2 := by
  simp only [sAsg, ok_bind]
  constructor
  · refine fun h => h.mono fun d τ1 q => ?_
    obtain ⟨fl, τ2, e, q⟩ := q
    obtain ⟨τ3, e1, e2⟩ := map_some e
    cases e2
    exact ⟨_, e1, q⟩
  · exact fun h => h.mono fun d τ1 ⟨τ2, e, q⟩ => ⟨.nx, τ2, by show (g d τ1).map _ = _; rw [e]; rfl, q⟩
@[simp] theorem ok_sitem {i : Nat} {fi fv : M D} {Q : Fl → Sd → Prop} : Ok (sSetItem i fi fv) τ Q ↔ Ok fv τ fun d τ1 => (∃ l0, ownOf i τ1 = some l0) ∧ Ok fi τ1 fun k τ2 => ∃ l', ((ownOf i τ2).bind fun l => setAt l k d) = some l' ∧ Q .nx (τ2.set i (some (.own l'))) := by
  unfold sSetItem
  rw [ok_bind]
  constructor
  · refine fun h => h.mono fun d τ1 q => ?_
    obtain ⟨fl, τ2, e, q⟩ := q
    cases e0 : ownOf i τ1 with
    | none => simp [e0] at e
    | some l0 =>
      simp only [e0] at e
      obtain ⟨k, τ3, e1, e⟩ := mBind_some e
      refine ⟨⟨l0, rfl⟩, k, τ3, e1, ?_⟩
      cases e4 : (ownOf i τ3).bind fun l => setAt l k d with
      | none => simp [e4] at e
      | some l' => simp only [e4] at e; cases e; exact ⟨l', e4, q⟩
  · refine fun h => h.mono fun d τ1 q => ?_
    obtain ⟨⟨l0, e0⟩, k, τ3, e1, l', e4, q⟩ := q
    refine ⟨_, _, ?_, q⟩
    simp only [e0]
    unfold mBind
    simp only [e1, e4]
@[simp] theorem ok_sapp {i : Nat} {fv : M D} {Q : Fl → Sd → Prop} : Ok (sAppend i fv) τ Q ↔ (∃ l0, ownOf i τ = some l0) ∧ Ok fv τ fun d τ1 => ∃ l, ownOf i τ1 = some l ∧ l.length < sizeLine ∧ Q .nx (τ1.set i (some (.own (l ++ [d])))) := by
  unfold sAppend
  constructor
  · rintro ⟨fl, τ2, e, q⟩
    cases e0 : ownOf i τ with
    | none => simp [e0] at e
    | some l0 =>
      simp only [e0] at e
      obtain ⟨d, τ3, e1, e⟩ := mBind_some e
      refine ⟨⟨l0, rfl⟩, d, τ3, e1, ?_⟩
      cases e4 : ownOf i τ3 with
      | none => simp [e4] at e
      | some l =>
        simp only [e4] at e
        split at e
        · rename_i hl; cases e; exact ⟨l, e4, hl, q⟩
        · cases e
  · rintro ⟨⟨l0, e0⟩, d, τ3, e1, l, e4, hl, q⟩
    refine ⟨_, _, ?_, q⟩
    simp only [e0]
    unfold mBind
    simp only [e1, e4, hl, if_true]
@[simp] theorem ok_sfs {i : Nat} {m : Str} {cs : List Nat} {fv : M D} {Q : Fl → Sd → Prop} : Ok (sSetFs i m cs fv) τ Q ↔ Ok fv τ fun d τ1 => ∃ c, τ1[i]? = some (some (.ob c [] [])) ∧ c ∈ cs ∧ Q .nx (τ1.set i (some (.ob c [m] [d]))) := by
  unfold sSetFs
  rw [ok_bind]
  constructor
  · refine fun h => h.mono fun d τ1 q => ?_
    obtain ⟨fl, τ2, e, q⟩ := q
    dsimp only at e
    split at e
    · rename_i c e1
      split at e
      · rename_i hc; cases e; exact ⟨c, e1, hc, q⟩
      · cases e
    · cases e
  · refine fun h => h.mono fun d τ1 q => ?_
    obtain ⟨c, e1, hc, q⟩ := q
    exact ⟨_, _, by simp only [e1, hc, if_true], q⟩
@[simp] theorem ok_frz {i : Nat} {f : M α} {Q : α → Sd → Prop} : Ok (frz i f) τ Q ↔ Ok f (froze i τ) Q := Iff.rfl
/-! ### loops -/
theorem ok_forL {g : D → Sd → Option Sd} {b : M Fl} {Q : Fl → Sd → Prop} (I : List D → Sd → Prop) (step : ∀ d ds τ, I (d :: ds) τ → ∃ τ1, g d τ = some τ1 ∧ Ok b τ1 fun fl τ2 => match fl with
      | .nx => I ds τ2
      | .ct => I ds τ2
      | .bk => Q .nx τ2
      | fl => Q fl τ2) (done : ∀ τ, I [] τ → Q .nx τ) : ∀ {items : List D} {τ : Sd}, I items τ → Ok (forL g b items) τ Q
  | [], τ, h => ⟨.nx, τ, rfl, done τ h⟩
  | d :: ds, τ, h => by
    obtain ⟨τ1, e1, fl, τ2, e2, q⟩ := step d ds τ h
    cases fl with
    | nx => obtain ⟨a, τ', e, q'⟩ := ok_forL I step done (items := ds) q; exact ⟨a, τ', by simp only [forL, e1, e2]; exact e, q'⟩
    | ct => obtain ⟨a, τ', e, q'⟩ := ok_forL I step done (items := ds) q; exact ⟨a, τ', by simp only [forL, e1, e2]; exact e, q'⟩
    | bk => exact ⟨.nx, τ2, by simp only [forL, e1, e2], q⟩
    | rt d => exact ⟨.rt d, τ2, by simp only [forL, e1, e2], q⟩
    | rf d => exact ⟨.rf d, τ2, by simp only [forL, e1, e2], q⟩
@[simp] theorem ok_sfor {f : M (List D)} {g : D → Sd → Option Sd} {b : M Fl} {Q : Fl → Sd → Prop} : Ok (sFor f g b) τ Q ↔ Ok f τ fun items τ1 => Ok (forL g b items) τ1 Q := by simp only [sFor, ok_bind]
/-- comprehensions: I by what is left, what was made, the slots -/
theorem ok_lcL {g : D → Sd → Option Sd} {tt : M Bool} {te : M D} {vs : List Nat} {Q : List D → Sd → Prop} (I : List D → List D → Sd → Prop)
    (step : ∀ d ds ys τ, I (d :: ds) ys τ → ∃ τ1, g d τ = some τ1 ∧ Ok tt τ1 fun c τ2 => if c = true then Ok te τ2 (fun y τ3 => I ds (ys ++ [y]) (wipeD τ3 vs)) else I ds ys (wipeD τ2 vs))
    (done : ∀ ys τ, I [] ys τ → Q ys τ) : ∀ {items ys : List D} {τ : Sd}, I items ys τ → Ok (lcL g tt te vs items) τ fun zs τ' => Q (ys ++ zs) τ'
  | [], ys, τ, h => ⟨[], τ, rfl, by simpa using done ys τ h⟩
  | d :: ds, ys, τ, h => by
    obtain ⟨τ1, e1, c, τ2, e2, q⟩ := step d ds ys τ h
    cases c with
    | false =>
      rw [if_neg (by simp)] at q
      obtain ⟨a, τ', e, q'⟩ := ok_lcL I step done (items := ds) q
      exact ⟨a, τ', by simp only [lcL, e1, e2]; exact e, q'⟩
    | true =>
      rw [if_pos rfl] at q
      obtain ⟨y, τ3, e3, q⟩ := q
      obtain ⟨a, τ', e, q'⟩ := ok_lcL I step done (items := ds) q
      exact ⟨y :: a, τ', by simp only [lcL, e1, e2, e3, e], by simpa using q'⟩
@[simp] theorem ok_lc {f : M (List D)} {g : D → Sd → Option Sd} {tt : M Bool} {te : M D} {vs : List Nat} {Q : List D → Sd → Prop} : Ok (mLc f g tt te vs) τ Q ↔ Ok f τ fun items τ1 => items.length ≤ sizeLine ∧ Ok (lcL g tt te vs items) (wipeD τ1 vs) Q := by
  simp only [mLc, ok_bind]
  constructor
  · refine fun h => h.mono fun items τ1 q => ?_
    obtain ⟨a, τ2, e, q⟩ := q
    split at e
    · rename_i hl; exact ⟨hl, a, τ2, e, q⟩
    · cases e
  · refine fun h => h.mono fun items τ1 q => ?_
    obtain ⟨hl, a, τ2, e, q⟩ := q
    exact ⟨a, τ2, by show (if items.length ≤ sizeLine then _ else none) = _; rw [if_pos hl]; exact e, q⟩
/-! ### defs -/
theorem runD_of {n : Nat} {f : M Fl} {ds : List D} {d : D} (h : Ok f (start0 n ds) fun fl _ => fl = .rt d ∨ (fl = .nx ∧ d = .non)) : runD n f ds = some d := by
  obtain ⟨fl, τ', e, q⟩ := h
  unfold runD
  rw [e]
  rcases q with rfl | ⟨rfl, rfl⟩ <;> rfl
theorem runF_of {n : Nat} {f : M Fl} {ds : List D} {d : List D} (h : Ok f (start0 n ds) fun fl _ => fl = .rf d) : runF n f ds = some d := by
  obtain ⟨fl, τ', e, q⟩ := h
  unfold runF
  rw [e, q]; rfl
theorem runW_of {n : Nat} {f : M Fl} {l : List D} {ds : List D} {d : D} {l' : List D} (h : Ok f (some (.own l) :: start0 (n - 1) ds) fun fl τ => (fl = .rt d ∨ (fl = .nx ∧ d = .non)) ∧ ownOf 0 τ = some l') : runW n f l ds = some (d, l') := by
  obtain ⟨fl, τ', e, q, q2⟩ := h
  unfold runW
  rw [e]
  rcases q with rfl | ⟨rfl, rfl⟩ <;> simp [retW, q2]
theorem runI_of {n c : Nat} {f : M Fl} {ds : List D} {d : List D} (h : Ok f (some (.ob c [] []) :: start0 (n - 1) ds) fun fl τ => fl = .nx ∧ obOf c τ = some d) : runI n c f ds = some d := by
  obtain ⟨fl, τ', e, q, q2⟩ := h
  unfold runI
  rw [e, q]
  exact q2
end
end Dv
set_option Elab.async false
set_option linter.all false
set_option maxRecDepth 100000
set_option maxHeartbeats 4000000
/-! DV20: the same as steps forward -/
namespace Dv
open PySem L2
/-- what an own def gives -/
def Got {α : Type} (o : Option α) (Q : α → Prop) : Prop := ∃ a, o = some a ∧ Q a
theorem got {α : Type} {o : Option α} {a : α} {Q : α → Prop} (e : o = some a) (q : Q a) : Got o Q := ⟨a, e, q⟩
/-- a value of a plain operation -/
def Op {α : Type} (o : Option α) (Q : α → Prop) : Prop := ∃ a, o = some a ∧ Q a
theorem opr {α : Type} {o : Option α} {a : α} {Q : α → Prop} (e : o = some a) (q : Q a) : Op o Q := ⟨a, e, q⟩
section
variable {α β : Type} {τ : Sd}
theorem i_pure {a : α} {Q : α → Sd → Prop} (h : Q a τ) : Ok (mPure a) τ Q := ok_pure.mpr h
theorem i_bind {f : M α} {g : α → M β} {Q : β → Sd → Prop} (h : Ok f τ fun a τ1 => Ok (g a) τ1 Q) : Ok (mBind f g) τ Q := ok_bind.mpr h
theorem i_lift {o : Option α} {Q : α → Sd → Prop} (h : Op o fun a => Q a τ) : Ok (mLift o) τ Q := ok_lift.mpr h
theorem i_v {i : Nat} {d : D} {Q : D → Sd → Prop} (e : τ[i]? = some (some (.val d))) (h : Q d τ) : Ok (vR i) τ Q := ok_v.mpr ⟨d, e, h⟩
theorem i_2 {g : D → D → Option D} {fa fb : M D} {Q : D → Sd → Prop} (h : Ok fa τ fun a τ1 => Ok fb τ1 fun b τ2 => Op (g a b) fun z => Q z τ2) : Ok (m2 g fa fb) τ Q := ok_2.mpr h
theorem i_1 {g : D → Option D} {fa : M D} {Q : D → Sd → Prop} (h : Ok fa τ fun a τ1 => Op (g a) fun z => Q z τ1) : Ok (m1 g fa) τ Q := ok_1.mpr h
theorem i_call {g : List D → Option D} {f : M (List D)} {Q : D → Sd → Prop} (h : Ok f τ fun a τ1 => Op (g a) fun z => Q z τ1) : Ok (mCall g f) τ Q := ok_call.mpr h
theorem i_callF {g : List D → Option (List D)} {f : M (List D)} {Q : List D → Sd → Prop} (h : Ok f τ fun a τ1 => Op (g a) fun z => Q z τ1) : Ok (mCallF g f) τ Q := by
  unfold mCallF; simp only [ok_bind, ok_lift]; exact h
theorem i_2F {g : D → D → Option (List D)} {fa fb : M D} {Q : List D → Sd → Prop} (h : Ok fa τ fun a τ1 => Ok fb τ1 fun b τ2 => Op (g a b) fun z => Q z τ2) : Ok (m2F g fa fb) τ Q := by
  unfold m2F; simp only [ok_bind, ok_lift]; exact h
theorem i_nil {Q : List D → Sd → Prop} (h : Q [] τ) : Ok aNil τ Q := ok_nil.mpr h
theorem i_cons {fa : M D} {fr : M (List D)} {Q : List D → Sd → Prop} (h : Ok fa τ fun a τ1 => Ok fr τ1 fun r τ2 => Q (a :: r) τ2) : Ok (aCons fa fr) τ Q := ok_cons.mpr h
/-- a branch -/
def Br (c : Bool) (p q : Prop) : Prop := if c = true then p else q
theorem brT {p q : Prop} (h : p) : Br true p q := by unfold Br; rw [if_pos rfl]; exact h
theorem brF {p q : Prop} (h : q) : Br false p q := by unfold Br; rw [if_neg (by simp)]; exact h
theorem br {c : Bool} {p q : Prop} (h1 : c = true → p) (h2 : c = false → q) : Br c p q := by cases c with
  | true => exact brT (h1 rfl)
  | false => exact brF (h2 rfl)
theorem brt {c : Bool} {p q : Prop} (e : c = true) (h : p) : Br c p q := by subst e; exact brT h
theorem brf {c : Bool} {p q : Prop} (e : c = false) (h : q) : Br c p q := by subst e; exact brF h
theorem i_if {t : M Bool} {fa fb : M α} {Q : α → Sd → Prop} (h : Ok t τ fun c τ1 => Br c (Ok fa τ1 Q) (Ok fb τ1 Q)) : Ok (mIf t fa fb) τ Q := ok_if.mpr h
theorem i_sif {t : M Bool} {f g : M Fl} {Q : Fl → Sd → Prop} (h : Ok t τ fun c τ1 => Br c (Ok f τ1 Q) (Ok g τ1 Q)) : Ok (sIf t f g) τ Q := ok_sif.mpr h
theorem i_B {f : M D} {Q : Bool → Sd → Prop} (h : Ok f τ fun d τ1 => Op (asB d) fun b => Q b τ1) : Ok (mB f) τ Q := ok_B.mpr h
theorem i_tru {f : M D} {Q : Bool → Sd → Prop} (h : Ok f τ fun d τ1 => Op (truthD d) fun b => Q b τ1) : Ok (mTru f) τ Q := ok_tru.mpr h
theorem i_not {f : M Bool} {Q : Bool → Sd → Prop} (h : Ok f τ fun b τ1 => Q (!b) τ1) : Ok (mNot f) τ Q := ok_not.mpr h
theorem i_and {f g : M Bool} {Q : Bool → Sd → Prop} (h : Ok f τ fun b τ1 => Br b (Ok g τ1 Q) (Q false τ1)) : Ok (mAnd f g) τ Q := ok_and.mpr h
theorem i_or {f g : M Bool} {Q : Bool → Sd → Prop} (h : Ok f τ fun b τ1 => Br b (Q true τ1) (Ok g τ1 Q)) : Ok (mOr f g) τ Q := ok_or.mpr h
theorem i_notV {f : M D} {Q : D → Sd → Prop} (h : Ok f τ fun d τ1 => Op (truthD d) fun b => Q (.bl (!b)) τ1) : Ok (mNotV f) τ Q := ok_notV.mpr h
theorem i_andV {f g : M D} {Q : D → Sd → Prop} (h : Ok f τ fun d τ1 => Op (truthD d) fun b => Br b (Ok g τ1 Q) (Q d τ1)) : Ok (mAndV f g) τ Q := ok_andV.mpr h
theorem i_orV {f g : M D} {Q : D → Sd → Prop} (h : Ok f τ fun d τ1 => Op (truthD d) fun b => Br b (Q d τ1) (Ok g τ1 Q)) : Ok (mOrV f g) τ Q := ok_orV.mpr h
theorem i_ch {g g' : D → D → Option D} {fa fb fc : M D} {Q : D → Sd → Prop} (h : Ok fa τ fun a τ1 => Ok fb τ1 fun b τ2 => Op (g a b) fun d => Op (asB d) fun k => Br k (Ok fc τ2 (fun c τ3 => Op (g' b c) fun z => Q z τ3)) (Q (.bl false) τ2)) : Ok (mCh g g' fa fb fc) τ Q :=
  ok_ch.mpr (h.mono fun a τ1 h => h.mono fun b τ2 ⟨d, e1, k, e2, h⟩ => ⟨k, by rw [e1]; exact e2, h⟩)
theorem i_tup {f : M (List D)} {Q : D → Sd → Prop} (h : Ok f τ fun l τ1 => l.length ≤ sizeLine ∧ Q (.tup l) τ1) : Ok (mTup f) τ Q := ok_tup.mpr h
theorem i_lst {f : M (List D)} {Q : List D → Sd → Prop} (h : Ok f τ fun l τ1 => l.length ≤ sizeLine ∧ Q l τ1) : Ok (mLst f) τ Q := ok_lst.mpr h
theorem i_sl {fa : M D} {fl fh : M (Option Int)} {Q : D → Sd → Prop} (h : Ok fa τ fun a τ1 => Ok fl τ1 fun lo τ2 => Ok fh τ2 fun hi τ3 => Op (slD a lo hi) fun z => Q z τ3) : Ok (mSl fa fl fh) τ Q := ok_sl.mpr h
theorem i_fn {n m : Nat} {gD : List D → List D → List D} {F : List D → Option α} {fa fk : M (List D)} {Q : α → Sd → Prop} (h : Ok fa τ fun ds τ1 => Ok fk τ1 fun es τ2 => ds.length = n ∧ es.length = m ∧ Got (F (gD ds es)) fun z => Q z τ2) : Ok (mFn n m gD F fa fk) τ Q := ok_fn.mpr h
theorem i_mk {c n m : Nat} {gD : List D → List D → List D} {F : List D → Option (List D)} {fa fk : M (List D)} {Q : D → Sd → Prop} (h : Ok fa τ fun ds τ1 => Ok fk τ1 fun es τ2 => ds.length = n ∧ es.length = m ∧ Got (F (gD ds es)) fun z => Q (.obj c z) τ2) : Ok (mMk c n m gD F fa fk) τ Q := ok_mk.mpr h
theorem i_me0 {cs : List Nat} {F : List D → Option D} {fo : M D} {Q : D → Sd → Prop} (h : Ok fo τ fun d τ1 => isOb cs d = true ∧ Got (F [d]) fun z => Q z τ1) : Ok (mMe0 cs F fo) τ Q := ok_me0.mpr h
theorem i_fnW {i n : Nat} {l0 : List D} {F : List D → List D → Option (D × List D)} {fa : M (List D)} {Q : D → Sd → Prop} (e : τ[i]? = some (some (.own l0))) (h : Ok fa τ fun ds τ1 => ds.length + 1 = n ∧ Op (ownOf i τ1) fun l => Got (F l ds) fun p => Q p.1 (τ1.set i (some (.own p.2)))) : Ok (mFnW i n F fa) τ Q :=
  ok_fnW.mpr ⟨⟨l0, e⟩, h.mono fun ds τ1 ⟨h1, l, e1, p, e2, q⟩ => ⟨h1, l, ownOf_some e1, p.1, p.2, e2, q⟩⟩
theorem i_bor {f : M D} {Q : D → Sd → Prop} (h : Ok f (view τ) fun d _ => LF d = true ∧ Q d τ) : Ok (bor f) τ Q := ok_bor.mpr h
theorem i_borT {f : M Bool} {Q : Bool → Sd → Prop} (h : Ok f (view τ) fun d _ => Q d τ) : Ok (borT f) τ Q := ok_borT.mpr h
theorem i_join {fo fe : M D} {Q : D → Sd → Prop} (h : Ok fo τ fun a τ1 => ∃ x, a = .str x ∧ Ok fe τ1 fun b τ2 => Op (joinD a b) fun z => Q z τ2) : Ok (mJoin fo fe) τ Q := ok_join.mpr h
theorem i_js0 {acc : Str} {Q : D → Sd → Prop} (h : Q (.str acc) τ) : Ok (jsF [] acc) τ Q := ok_js0.mpr h
theorem i_js1 {t : M D} {ts : List (M D)} {acc : Str} {Q : D → Sd → Prop} (h : Ok t τ fun d τ1 => ∃ y, d = .str y ∧ (acc ++ y).length ≤ sizeLine ∧ Ok (jsF ts (acc ++ y)) τ1 Q) : Ok (jsF (t :: ts) acc) τ Q := ok_js1.mpr h
theorem i_snil {Q : Fl → Sd → Prop} (h : Q .nx τ) : Ok sNil τ Q := ok_snil.mpr h
/-- behind a statement -/
def Nx (fl : Fl) (p : Prop) (q : Fl → Prop) : Prop := match fl with
  | .nx => p
  | fl => q fl
theorem nxN {p : Prop} {q : Fl → Prop} (h : p) : Nx .nx p q := h
theorem nxR {d : D} {p : Prop} {q : Fl → Prop} (h : q (.rt d)) : Nx (.rt d) p q := h
theorem nxF {d : List D} {p : Prop} {q : Fl → Prop} (h : q (.rf d)) : Nx (.rf d) p q := h
theorem nxB {p : Prop} {q : Fl → Prop} (h : q .bk) : Nx .bk p q := h
theorem nxC {p : Prop} {q : Fl → Prop} (h : q .ct) : Nx .ct p q := h
theorem i_sseq {f g : M Fl} {Q : Fl → Sd → Prop} (h : Ok f τ fun fl τ1 => Nx fl (Ok g τ1 Q) fun fl => Q fl τ1) : Ok (sSeq f g) τ Q := ok_sseq.mpr (h.mono fun fl τ1 q => by cases fl <;> exact q)
theorem i_sret {f : M D} {Q : Fl → Sd → Prop} (h : Ok f τ fun d τ1 => Q (.rt d) τ1) : Ok (sRet f) τ Q := ok_sret.mpr h
theorem i_sretF {f : M (List D)} {Q : Fl → Sd → Prop} (h : Ok f τ fun d τ1 => Q (.rf d) τ1) : Ok (sRetF f) τ Q := ok_sretF.mpr h
theorem i_sexpr {f : M α} {Q : Fl → Sd → Prop} (h : Ok f τ fun _ τ1 => Q .nx τ1) : Ok (sExpr f) τ Q := ok_sexpr.mpr h
theorem i_sset {i : Nat} {f : M D} {Q : Fl → Sd → Prop} (h : Ok f τ fun d τ1 => Q .nx (τ1.set i (some (.val d)))) : Ok (sSet i f) τ Q := ok_sset.mpr h
theorem i_sown {i : Nat} {f : M (List D)} {Q : Fl → Sd → Prop} (h : Ok f τ fun d τ1 => Q .nx (τ1.set i (some (.own d)))) : Ok (sOwn i f) τ Q := ok_sown.mpr h
theorem i_ssetL {i : Nat} {f : M (List D)} {Q : Fl → Sd → Prop} (h : Ok f τ fun d τ1 => Q .nx (τ1.set i (some (.val (.lst d))))) : Ok (sSetL i f) τ Q := ok_ssetL.mpr h
theorem i_spar {i j : Nat} {f : M (List D)} {Q : Fl → Sd → Prop} (h : Ok f τ fun ds τ1 => ∃ a b, ds = [a, b] ∧ Q .nx ((τ1.set i (some (.val a))).set j (some (.val b)))) : Ok (sPar i j f) τ Q := ok_spar.mpr h
theorem i_sasg {f : M D} {g : D → Sd → Option Sd} {Q : Fl → Sd → Prop} (h : Ok f τ fun d τ1 => Op (g d τ1) fun τ2 => Q .nx τ2) : Ok (sAsg f g) τ Q := ok_sasg.mpr h
theorem i_sitem {i : Nat} {fi fv : M D} {Q : Fl → Sd → Prop} (h : Ok fv τ fun d τ1 => Op (ownOf i τ1) fun _ => Ok fi τ1 fun k τ2 => Op (ownOf i τ2) fun l => Op (setAt l k d) fun l' => Q .nx (τ2.set i (some (.own l')))) : Ok (sSetItem i fi fv) τ Q :=
  ok_sitem.mpr (h.mono fun d τ1 ⟨l0, e0, h⟩ => ⟨⟨l0, e0⟩, h.mono fun k τ2 ⟨l, e1, l', e2, q⟩ => ⟨l', by rw [e1]; exact e2, q⟩⟩)
theorem i_sapp {i : Nat} {fv : M D} {Q : Fl → Sd → Prop} (h : Op (ownOf i τ) fun _ => Ok fv τ fun d τ1 => Op (ownOf i τ1) fun l => l.length < sizeLine ∧ Q .nx (τ1.set i (some (.own (l ++ [d]))))) : Ok (sAppend i fv) τ Q :=
  ok_sapp.mpr (by obtain ⟨l0, e0, h⟩ := h; exact ⟨⟨l0, e0⟩, h.mono fun d τ1 ⟨l, e1, h1, q⟩ => ⟨l, e1, h1, q⟩⟩)
theorem i_sfs {i : Nat} {m : Str} {cs : List Nat} {fv : M D} {Q : Fl → Sd → Prop} (h : Ok fv τ fun d τ1 => ∃ c, τ1[i]? = some (some (.ob c [] [])) ∧ c ∈ cs ∧ Q .nx (τ1.set i (some (.ob c [m] [d])))) : Ok (sSetFs i m cs fv) τ Q := ok_sfs.mpr h
theorem i_frz {i : Nat} {f : M α} {Q : α → Sd → Prop} (h : Ok f (froze i τ) Q) : Ok (frz i f) τ Q := h
theorem i_sfor {f : M (List D)} {g : D → Sd → Option Sd} {b : M Fl} {Q : Fl → Sd → Prop} (h : Ok f τ fun items τ1 => Ok (forL g b items) τ1 Q) : Ok (sFor f g b) τ Q := ok_sfor.mpr h
theorem i_lc {f : M (List D)} {g : D → Sd → Option Sd} {tt : M Bool} {te : M D} {vs : List Nat} {Q : List D → Sd → Prop} (h : Ok f τ fun items τ1 => items.length ≤ sizeLine ∧ Ok (lcL g tt te vs items) (wipeD τ1 vs) Q) : Ok (mLc f g tt te vs) τ Q := ok_lc.mpr h
end
/-! ### plain operations with a condition -/
theorem o_mod {i j : Int} {Q : D → Prop} (h : 0 < j) (q : Q (.int (i % j))) : Op (modD (.int i) (.int j)) Q := ⟨_, by simp [modD, int2, h], q⟩
theorem o_fdiv {i j : Int} {Q : D → Prop} (h : 0 < j) (h2 : j < 1073741824) (q : Q (.int (i / j))) : Op (fdivD (.int i) (.int j)) Q := ⟨_, by simp [fdivD, int2, h, h2], q⟩
theorem o_mul {i j : Int} {Q : D → Prop} (h : i.natAbs < 2 ^ 64 ∨ j.natAbs < 2 ^ 64) (q : Q (.int (i * j))) : Op (mulD (.int i) (.int j)) Q := ⟨_, by simp only [mulD, mulOk, decide_eq_true h, if_true], q⟩
theorem o_pow {i j : Int} {Q : D → Prop} (h : 0 ≤ j ∧ j ≤ 1000000 ∧ i.natAbs < 2 ^ 64) (q : Q (.int (i ^ j.toNat))) : Op (powD (.int i) (.int j)) Q := ⟨_, by simp only [powD, int2, decide_eq_true h, if_true], q⟩
theorem o_addS {x y : Str} {Q : D → Prop} (h : x.length + y.length ≤ sizeLine) (q : Q (.str (x ++ y))) : Op (addD (.str x) (.str y)) Q := ⟨_, by simp only [addD, h, if_true], q⟩
theorem o_lenS {x : Str} {Q : D → Prop} (h : x.length ≤ sizeLine) (q : Q (.int x.length)) : Op (lenD [.str x]) Q := ⟨_, by simp only [lenD, h, if_true], q⟩
theorem o_strI {i : Int} {Q : D → Prop} (h : i.natAbs.log2 < 1920) (q : Q (.str (toString i))) : Op (strD [.int i]) Q := ⟨_, by simp only [strD, h, if_true], q⟩
end Dv
set_option Elab.async false
set_option linter.all false
set_option maxRecDepth 100000
set_option maxHeartbeats 4000000
/-! DV21: more steps: defs, loops, texts -/
namespace Dv
open PySem L2
theorem runD_ex {n : Nat} {f : M Fl} {ds : List D} {P : D → Prop} (h : Ok f (start0 n ds) fun fl _ => ∃ d, fl = .rt d ∧ P d) : ∃ d, runD n f ds = some d ∧ P d := by
  obtain ⟨fl, τ', e, d, rfl, p⟩ := h
  exact ⟨d, by unfold runD; rw [e]; rfl, p⟩
theorem runF_ex {n : Nat} {f : M Fl} {ds : List D} {P : List D → Prop} (h : Ok f (start0 n ds) fun fl _ => ∃ d, fl = .rf d ∧ P d) : ∃ d, runF n f ds = some d ∧ P d := by
  obtain ⟨fl, τ', e, d, rfl, p⟩ := h
  exact ⟨d, by unfold runF; rw [e]; rfl, p⟩
theorem runW_ex {n : Nat} {f : M Fl} {l ds : List D} {P : D → List D → Prop} (h : Ok f (some (.own l) :: start0 (n - 1) ds) fun fl τ => ∃ d l', fl = .rt d ∧ ownOf 0 τ = some l' ∧ P d l') : ∃ d l', runW n f l ds = some (d, l') ∧ P d l' := by
  obtain ⟨fl, τ', e, d, l', rfl, e2, p⟩ := h
  exact ⟨d, l', by unfold runW; rw [e]; simp [retW, e2], p⟩
theorem i_lcL {g : D → Sd → Option Sd} {tt : M Bool} {te : M D} {vs : List Nat} {Q : List D → Sd → Prop} {items : List D} {τ : Sd} (I : List D → List D → Sd → Prop) (h0 : I items [] τ)
    (step : ∀ d ds ys τ, I (d :: ds) ys τ → Op (g d τ) fun τ1 => Ok tt τ1 fun c τ2 => Br c (Ok te τ2 (fun y τ3 => I ds (ys ++ [y]) (wipeD τ3 vs))) (I ds ys (wipeD τ2 vs)))
    (done : ∀ ys τ, I [] ys τ → Q ys τ) : Ok (lcL g tt te vs items) τ Q := (ok_lcL I step done h0).mono fun a τ' q => by simpa using q
theorem i_forL {g : D → Sd → Option Sd} {b : M Fl} {Q : Fl → Sd → Prop} {items : List D} {τ : Sd} (I : List D → Sd → Prop) (h0 : I items τ) (step : ∀ d ds τ, I (d :: ds) τ → Op (g d τ) fun τ1 => Ok b τ1 fun fl τ2 => match fl with
      | .nx => I ds τ2
      | .ct => I ds τ2
      | .bk => Q .nx τ2
      | fl => Q fl τ2) (done : ∀ τ, I [] τ → Q .nx τ) : Ok (forL g b items) τ Q := ok_forL I step done h0
theorem noRng1 {l : List D} {Q : List D → Prop} (h : False) : Op (rng1 l) Q := h.elim
theorem noRng2 {l : List D} {Q : List D → Prop} (h : False) : Op (rng2 l) Q := h.elim
theorem noRng3 {l : List D} {Q : List D → Prop} (h : False) : Op (rng3 l) Q := h.elim
/-! ### texts -/
theorem len_toList (x : Str) : x.length = x.cps.toList.length := by simp [Str.length]
theorem app_toList (x y : Str) : (x ++ y).cps.toList = x.cps.toList ++ y.cps.toList := by
  show (x.cps ++ y.cps).toList = _
  simp
theorem str_ext {x y : Str} (h : x.cps.toList = y.cps.toList) : x = y := by
  obtain ⟨⟨a⟩⟩ := x; obtain ⟨⟨b⟩⟩ := y
  simp at h; rw [h]
theorem at_nat {α : Type} {l : List α} {r : Nat} (h : r < l.length) : atI l (r : Int) = some l[r] := by
  have h' : (r : Int) < l.length := by omega
  simp [atI, ixN, h']
theorem o_ixS {x : Str} {L : List Nat} {r : Nat} {Q : D → Prop} (e : x.cps.toList = L) (h : r < L.length) (hz : L.length ≤ sizeLine) (q : ∀ c ∈ L, Q (.str ⟨#[c]⟩)) : Op (ixD (.str x) (.int r)) Q := by
  subst e
  refine ⟨.str ⟨#[x.cps.toList[r]]⟩, ?_, q _ (List.getElem_mem h)⟩
  simp only [ixD, len_toList x, hz, if_true, at_nat h, Option.map_some]
theorem o_rng1 {n : Nat} {Q : List D → Prop} (h : n < 2 ^ 62) (q : Q (rangeD 0 n 1)) : Op (rng1 [.int n]) Q := by
  refine ⟨_, ?_, q⟩
  have h1 : -(2 ^ 62) ≤ (n : Int) ∧ (n : Int) < 2 ^ 62 := by omega
  simp only [rng1, h1, if_true, and_self, Int.toNat_natCast]
theorem o_rng1I {i : Int} {Q : List D → Prop} (h0 : 0 ≤ i) (h1 : i < 2 ^ 62) (q : Q (rangeD 0 i.toNat 1)) : Op (rng1 [.int i]) Q := by
  refine ⟨_, ?_, q⟩
  have h1 : -(2 ^ 62) ≤ i ∧ i < 2 ^ 62 := by omega
  simp only [rng1, h1, if_true, and_self]
theorem rangeD_length (lo : Int) (n : Nat) (c : Int) : (rangeD lo n c).length = n := by simp [rangeD]
theorem rangeD_mem {lo : Int} {n : Nat} {c : Int} {d : D} (h : d ∈ rangeD lo n c) : ∃ i : Nat, i < n ∧ d = .int (lo + i * c) := by
  unfold rangeD at h
  obtain ⟨i, hi, rfl⟩ := List.mem_map.mp h
  exact ⟨i, by simpa using hi, rfl⟩
theorem asStrs_map (ys : List Str) : asStrs (ys.map D.str) = some ys := by
  induction ys with
  | nil => rfl
  | cons y ys ih => simp [asStrs, ih]
theorem asBls_map (ys : List Bool) : asBls (ys.map D.bl) = some ys := by
  induction ys with
  | nil => rfl
  | cons y ys ih => simp [asBls, ih]
theorem asInts_map (ys : List Int) : asInts (ys.map D.int) = some ys := by
  induction ys with
  | nil => rfl
  | cons y ys ih => simp [asInts, ih]
theorem glue_ones (cs : List Nat) : (PySem.Str.join Str.empty (cs.map fun c => (⟨#[c]⟩ : Str))).cps.toList = cs := by
  induction cs with
  | nil => rfl
  | cons c r ih =>
    cases r with
    | nil => rfl
    | cons d r =>
      show ((⟨#[c]⟩ : Str) ++ Str.empty ++ PySem.Str.join Str.empty ((d :: r).map fun c => (⟨#[c]⟩ : Str))).cps.toList = _
      rw [app_toList, app_toList, ih]
      rfl
theorem empty_eq : ("" : Str) = Str.empty := by decide +kernel
theorem o_join {cs : List Nat} {Q : D → Prop} (h : cs.length ≤ 1000) (q : ∀ x : Str, x.cps.toList = cs → Q (.str x)) : Op (joinD (.str ("" : Str)) (.lst (cs.map fun c => D.str ⟨#[c]⟩))) Q := by
  have e : (cs.map fun c => D.str ⟨#[c]⟩) = (cs.map fun c => (⟨#[c]⟩ : Str)).map D.str := by simp
  have z : ((cs.map fun c => (⟨#[c]⟩ : Str)).map (·.length)).sum + (cs.map fun c => (⟨#[c]⟩ : Str)).length * ("" : Str).length ≤ 16777216 := by
    have e1 : ("" : Str).length = 0 := by decide +kernel
    have e2 : ((cs.map fun c => (⟨#[c]⟩ : Str)).map (·.length)) = cs.map fun _ => 1 := by
      rw [List.map_map]; rfl
    rw [e1, e2]
    have : (cs.map fun _ => 1).sum = cs.length := by
      clear h q e e1 e2
      induction cs with
      | nil => rfl
      | cons c r ih => simp [ih]; omega
    rw [this]; omega
  refine ⟨.str (Txt.join ("" : Str) (cs.map fun c => (⟨#[c]⟩ : Str))), ?_, q _ ?_⟩
  · rw [e]
    simp only [joinD, asStrs_map, Option.bind_some, z, if_true]
  · show (Builtin.Str.glued ("" : Str) _).cps.toList = _
    rw [StrLaws.glued_eq_join, empty_eq]
    exact glue_ones cs
theorem o_slS {z : Str} {lo hi : Option Int} {Q : D → Prop} (h : z.length ≤ sizeLine) (q : Q (.str (cutS z lo hi))) : Op (slD (.str z) lo hi) Q := ⟨_, by simp only [slD, h, if_true], q⟩
theorem cutS_to (z : Str) (k : Nat) : (cutS z none (some (k : Int))).cps.toList = z.cps.toList.take k := by
  unfold cutS
  rw [HT.sIx_none, HT.sIx_nat, len_toList]
  simp only [List.drop_zero, Nat.sub_zero]
  by_cases h : k ≤ z.cps.toList.length
  · rw [Nat.min_eq_left h]
  · rw [Nat.min_eq_right (by omega), List.take_of_length_le (Nat.le_refl _), List.take_of_length_le (by omega)]
theorem cutS_from (z : Str) (k : Nat) : (cutS z (some (k : Int)) none).cps.toList = z.cps.toList.drop k := by
  unfold cutS
  rw [HT.sIx_none, HT.sIx_nat, len_toList]
  simp only [List.drop_zero]
  by_cases h : k ≤ z.cps.toList.length
  · rw [Nat.min_eq_left h, List.take_of_length_le (by simp)]
  · rw [Nat.min_eq_right (by omega), List.drop_length, List.drop_eq_nil_of_le (by omega)]; simp
theorem drop_cons {α : Type} {L : List α} {j : Nat} {d : α} {ds : List α} (h : L.drop j = d :: ds) : j < L.length ∧ L[j]? = some d ∧ ds = L.drop (j + 1) := by
  by_cases hj : j < L.length
  · rw [List.drop_eq_getElem_cons hj] at h
    cases h
    exact ⟨hj, List.getElem?_eq_getElem hj, rfl⟩
  · rw [List.drop_eq_nil_of_le (by omega)] at h; cases h
theorem rangeD_at {lo : Int} {n : Nat} {c : Int} {j : Nat} {d : D} (h : (rangeD lo n c)[j]? = some d) : d = .int (lo + j * c) ∧ j < n := by
  unfold rangeD at h
  rw [List.getElem?_map] at h
  by_cases hj : j < n
  · rw [List.getElem?_range hj] at h; cases h; exact ⟨rfl, hj⟩
  · rw [List.getElem?_eq_none (by simpa using hj)] at h; cases h
theorem nodup_sub {α : Type} [DecidableEq α] : ∀ {l m : List α}, l.Nodup → (∀ a ∈ l, a ∈ m) → l.length ≤ m.length
  | [], _, _, _ => Nat.zero_le _
  | a :: l, m, h, hs => by
    rw [List.nodup_cons] at h
    have ha := hs a List.mem_cons_self
    have := nodup_sub (l := l) (m := m.erase a) h.2 fun b hb => by
      have hne : b ≠ a := fun e => h.1 (e ▸ hb)
      exact (List.mem_erase_of_ne hne).mpr (hs b (List.mem_cons_of_mem _ hb))
    rw [List.length_erase_of_mem ha] at this
    have : 0 < m.length := List.length_pos_of_mem ha
    simp
    omega
theorem i_seqR {τ : Sd} {f g : M Fl} {Q : Fl → Sd → Prop} (R : Sd → Prop) (h1 : Ok f τ fun fl τ1 => fl = .nx ∧ R τ1) (h2 : ∀ τ1, R τ1 → Ok g τ1 Q) : Ok (sSeq f g) τ Q :=
  i_sseq (h1.mono fun fl τ1 h => by obtain ⟨rfl, r⟩ := h; exact h2 τ1 r)
theorem at_zero {α : Type} {l : List α} {a : α} : atI (a :: l) 0 = some a := by
  have h : (0 : Int) < ((a :: l).length : Nat) := by rw [List.length_cons]; omega
  unfold atI ixN
  rw [if_pos (by decide), if_pos h]
  rfl
theorem at_last {α : Type} {l : List α} {a : α} : atI (l ++ [a]) (-1) = some a := by
  have h : -(((l ++ [a]).length : Nat) : Int) ≤ -1 := by simp; omega
  have e : ((-1 : Int) + ((l ++ [a]).length : Nat)).toNat = l.length := by simp; omega
  unfold atI ixN
  rw [if_neg (by decide), if_pos h, e]
  simp
end Dv
set_option Elab.async false
set_option linter.all false
set_option maxRecDepth 100000
set_option maxHeartbeats 4000000
/-! DV22: more steps: branches, repr, == of data -/
namespace Dv
open PySem L2
theorem brN {c : Bool} {p q : Prop} (h : Br c q p) : Br (!c) p q := by cases c <;> exact h
theorem brEq {c d : Bool} {p q : Prop} (e : c = d) (h : Br d p q) : Br c p q := e ▸ h
theorem brYes {c : Bool} {p q : Prop} (e : c = true) (h : p) : Br c p q := by subst e; exact brT h
theorem brNo {c : Bool} {p q : Prop} (e : c = false) (h : q) : Br c p q := by subst e; exact brF h
/-- data that can be shown and compared: short ints, plain texts -/
def niceI (i : Int) : Bool := decide (i.natAbs < 1000000000000)
def niceS (x : Str) : Bool := x.cps.toList.all fun c => decide (c < 1114112)
mutual
def nice : D → Bool
  | .non => true
  | .bl _ => true
  | .int i => niceI i
  | .str x => niceS x
  | .tup l => nices l
  | .lst l => nices l
  | .scr _ => false
  | .obj _ _ => false
def nices : List D → Bool
  | [] => true
  | d :: r => nice d && nices r
end
theorem niceS_ok {x : Str} : niceS x = true ↔ ∀ c ∈ x.cps.toList, c < 1114112 := by
  unfold niceS
  rw [List.all_eq_true]
  simp only [decide_eq_true_eq]
theorem nices_ok {l : List D} : nices l = true ↔ ∀ d ∈ l, nice d = true := by
  induction l with
  | nil => simp [nices]
  | cons d r ih => simp [nices, ih]
mutual
/-- the data as the kit has it -/
def pyD : D → PyData
  | .non => .none
  | .bl b => .bool b
  | .int i => .int i
  | .str x => .str x
  | .tup l => .tuple (pyDs l)
  | .lst l => .list (pyDs l)
  | .scr ns => .list (ns.map .int)
  | .obj _ _ => .none
def pyDs : List D → List PyData
  | [] => []
  | d :: r => pyD d :: pyDs r
end
theorem pyDs_map (l : List D) : pyDs l = l.map pyD := by
  induction l with
  | nil => rfl
  | cons d r ih => simp [pyDs, ih]
mutual
theorem toP_nice : ∀ {d : D}, nice d = true → toP d = some (pyD d)
  | .non, _ => rfl
  | .bl _, _ => rfl
  | .int _, _ => rfl
  | .str _, _ => rfl
  | .tup l, h => by simp only [toP, toPs_nice (l := l) h, Option.map_some, pyD]
  | .lst l, h => by simp only [toP, toPs_nice (l := l) h, Option.map_some, pyD]
theorem toPs_nice : ∀ {l : List D}, nices l = true → toPs l = some (pyDs l)
  | [], _ => rfl
  | d :: r, h => by
    simp only [nices, Bool.and_eq_true] at h
    simp only [toPs, toP_nice h.1, toPs_nice h.2, Option.bind_some, Option.map_some, pyDs]
end
theorem niceI_log {i : Int} (h : niceI i = true) : i.natAbs.log2 < 1920 := by
  have h := of_decide_eq_true h
  by_cases h0 : i.natAbs = 0
  · rw [h0]; decide
  · have h1 : i.natAbs < 2 ^ 40 := by omega
    have := (Nat.log2_lt h0).mpr h1
    omega
theorem niceI_len {i : Int} (h : niceI i = true) : (PyData.shown (.int i)).length ≤ 13 := by
  have h := of_decide_eq_true h
  have := int_text_length_le10 (a := i) (k := 12) (by decide) (by simpa using h)
  simp only [PyData.shown]
  have e : ((toString i : String) : Str).length = (toString i).length := ofString_length _
  omega
mutual
theorem leaves_nice : ∀ {d : D}, nice d = true → (pyD d).leavesShort 13 = true
  | .non, _ => rfl
  | .bl _, _ => rfl
  | .int i, h => by simp only [pyD, PyData.leavesShort]; exact decide_eq_true (niceI_len h)
  | .str x, h => by
    simp only [pyD, PyData.leavesShort, List.all_eq_true, decide_eq_true_eq]
    intro c hc
    have := niceS_ok.mp h c hc
    omega
  | .tup l, h => by simp only [pyD, PyData.leavesShort]; exact leaves_nices (l := l) h
  | .lst l, h => by simp only [pyD, PyData.leavesShort]; exact leaves_nices (l := l) h
theorem leaves_nices : ∀ {l : List D}, nices l = true → PyData.leavesShortAll 13 (pyDs l) = true
  | [], _ => rfl
  | d :: r, h => by
    simp only [nices, Bool.and_eq_true] at h
    simp only [pyDs, PyData.leavesShortAll, leaves_nice h.1, leaves_nices h.2, Bool.and_self]
end
mutual
theorem show_nice : ∀ {d : D}, nice d = true → (pyD d).showable = true
  | .non, _ => rfl
  | .bl _, _ => rfl
  | .int i, h => by simp only [pyD, PyData.showable]; exact decide_eq_true (niceI_log h)
  | .str x, h => rfl
  | .tup l, h => by simp only [pyD, PyData.showable]; exact show_nices (l := l) h
  | .lst l, h => by simp only [pyD, PyData.showable]; exact show_nices (l := l) h
theorem show_nices : ∀ {l : List D}, nices l = true → PyData.showableAll (pyDs l) = true
  | [], _ => rfl
  | d :: r, h => by
    simp only [nices, Bool.and_eq_true] at h
    simp only [pyDs, PyData.showableAll, show_nice h.1, show_nices h.2, Bool.and_self]
end
mutual
theorem lay_nice : ∀ {d : D}, nice d = true → (pyD d).canLay0 = true
  | .non, _ => rfl
  | .bl _, _ => rfl
  | .int i, h => rfl
  | .str x, h => by
    simp only [pyD, PyData.canLay0, PyData.strOk]
    rw [← Array.all_toList, List.all_eq_true]
    intro c hc
    exact decide_eq_true (niceS_ok.mp h c hc)
  | .tup l, h => by simp only [pyD, PyData.canLay0]; exact lay_nices (l := l) h
  | .lst l, h => by simp only [pyD, PyData.canLay0]; exact lay_nices (l := l) h
theorem lay_nices : ∀ {l : List D}, nices l = true → PyData.canLayAll0 (pyDs l) = true
  | [], _ => rfl
  | d :: r, h => by
    simp only [nices, Bool.and_eq_true] at h
    simp only [pyDs, PyData.canLayAll0, lay_nice h.1, lay_nices h.2, Bool.and_self]
end
mutual
/-- how deep data is -/
def dep : D → Nat
  | .tup l => deps l + 1
  | .lst l => deps l + 1
  | _ => 0
def deps : List D → Nat
  | [] => 0
  | d :: r => max (dep d) (deps r)
end
mutual
/-- how large it is -/
def wei : D → Nat
  | .tup l => weis l
  | .lst l => weis l
  | .str x => x.length
  | .int _ => 40
  | _ => 0
def weis : List D → Nat
  | [] => 0
  | d :: r => wei d + 1 + weis r
end
mutual
theorem dep_nice : ∀ {d : D}, nice d = true → (pyD d).depth = dep d
  | .non, _ => rfl
  | .bl _, _ => rfl
  | .int i, h => rfl
  | .str x, h => rfl
  | .tup l, h => by simp only [pyD, PyData.depth, dep]; rw [dep_nices (l := l) h]
  | .lst l, h => by simp only [pyD, PyData.depth, dep]; rw [dep_nices (l := l) h]
theorem dep_nices : ∀ {l : List D}, nices l = true → PyData.depthAll (pyDs l) = deps l
  | [], _ => rfl
  | d :: r, h => by
    simp only [nices, Bool.and_eq_true] at h
    simp only [pyDs, PyData.depthAll, deps, dep_nice h.1, dep_nices h.2]
end
mutual
theorem wei_nice : ∀ {d : D}, nice d = true → (pyD d).weight ≤ wei d
  | .non, _ => Nat.le_refl _
  | .bl _, _ => Nat.le_refl _
  | .int i, h => by
    simp only [pyD, PyData.weight, wei]
    split
    · omega
    · rename_i h0
      have h := of_decide_eq_true h
      have h0 : i.natAbs ≠ 0 := fun e => h0 (by simpa using Int.natAbs_eq_zero.mp e)
      have := (Nat.log2_lt h0).mpr (show i.natAbs < 2 ^ 40 by omega)
      omega
  | .str x, h => Nat.le_refl _
  | .tup l, h => by simp only [pyD, PyData.weight, wei]; exact wei_nices (l := l) h
  | .lst l, h => by simp only [pyD, PyData.weight, wei]; exact wei_nices (l := l) h
theorem wei_nices : ∀ {l : List D}, nices l = true → PyData.weightAll (pyDs l) ≤ weis l
  | [], _ => Nat.le_refl _
  | d :: r, h => by
    simp only [nices, Bool.and_eq_true] at h
    simp only [pyDs, PyData.weightAll, weis]
    have := wei_nice h.1
    have := wei_nices h.2
    omega
end
def shD (d : D) : Str := (pyD d).shown
theorem reprD_nice {d : D} (h : nice d = true) (h1 : dep d ≤ 60) (h2 : wei d ≤ 1000000) : reprD [d] = some (.str (shD d)) := by
  have hz : (pyD d).shown.length ≤ sizeLine := PyData.shown_fits (B := 13) (by decide) (by decide) (leaves_nice h) (by have := wei_nice h; omega)
  simp only [reprD, toP_nice h, Option.bind_some, reprP]
  rw [if_pos ⟨show_nice h, by rw [dep_nice h]; exact h1, hz⟩]
  rfl
theorem o_repr {d : D} {Q : D → Prop} (h : nice d = true) (h1 : dep d ≤ 60) (h2 : wei d ≤ 1000000) (q : Q (.str (shD d))) : Op (reprD [d]) Q := ⟨_, reprD_nice h h1 h2, q⟩
/-- == of such data -/
def eqvD (a b : D) : Bool := PyData.eqv (pyD a) (pyD b)
theorem eqN_nice {neg : Bool} {a b : D} (ha : nice a = true) (hb : nice b = true) (da : dep a ≤ 60) (db : dep b ≤ 60) : eqN neg a b = some (.bl (eqvD a b != neg)) := by
  unfold eqN
  rw [toP_nice ha, toP_nice hb]
  simp only [Option.bind_some, eqP, SeqAt.shaped, lay_nice ha, lay_nice hb, dep_nice ha, dep_nice hb, decide_eq_true (show dep a ≤ 64 by omega), decide_eq_true (show dep b ≤ 64 by omega), Bool.and_self, if_true]
  rfl
theorem eqD_nice {neg : Bool} {a b : D} (ha : nice a = true) (hb : nice b = true) (da : dep a ≤ 60) (db : dep b ≤ 60) : eqD neg a b = some (.bl (eqvD a b != neg)) := by
  have go := eqN_nice (neg := neg) ha hb da db
  unfold eqD
  split
  · rename_i x y
    congr 2
  · rename_i x y
    congr 2
  · exact go
theorem o_eq {neg : Bool} {a b : D} {Q : D → Prop} (ha : nice a = true) (hb : nice b = true) (da : dep a ≤ 60) (db : dep b ≤ 60) (q : Q (.bl (eqvD a b != neg))) : Op (eqD neg a b) Q := ⟨_, eqD_nice ha hb da db, q⟩
mutual
theorem eqv_refl : ∀ {d : D}, nice d = true → eqvD d d = true
  | .non, _ => rfl
  | .bl b, _ => by cases b <;> rfl
  | .int i, _ => by simp [eqvD, pyD, PyData.eqv]
  | .str x, _ => by simp [eqvD, pyD, PyData.eqv]
  | .tup l, h => by simp only [eqvD, pyD, PyData.eqv]; exact eqvs_refl (l := l) h
  | .lst l, h => by simp only [eqvD, pyD, PyData.eqv]; exact eqvs_refl (l := l) h
theorem eqvs_refl : ∀ {l : List D}, nices l = true → PyData.eqvAll (pyDs l) (pyDs l) = true
  | [], _ => rfl
  | d :: r, h => by
    simp only [nices, Bool.and_eq_true] at h
    have := eqv_refl h.1
    unfold eqvD at this
    simp only [pyDs, PyData.eqvAll, this, eqvs_refl h.2, Bool.and_self]
end
/-! ### defs by equations -/
def retFl : Fl → Option D
  | .rt d => some d
  | .rf l => some (.lst l)
  | .nx => some .non
  | _ => none
theorem runD_eq {n : Nat} {f : M Fl} {ds : List D} {d : D} (h : Ok f (start0 n ds) fun fl _ => retFl fl = some d) : runD n f ds = some d := by
  obtain ⟨fl, τ', e, p⟩ := h
  unfold runD
  rw [e]
  cases fl <;> exact p
theorem runF_eq {n : Nat} {f : M Fl} {ds l : List D} (h : Ok f (start0 n ds) fun fl _ => fl = .rf l) : runF n f ds = some l := by
  obtain ⟨fl, τ', e, rfl⟩ := h
  unfold runF
  rw [e]
  rfl
theorem runI_eq {n c : Nat} {f : M Fl} {ds fs : List D} (h : Ok f (some (.ob c [] []) :: start0 (n - 1) ds) fun fl τ => fl = .nx ∧ obOf c τ = some fs) : runI n c f ds = some fs := by
  obtain ⟨fl, τ', e, rfl, p⟩ := h
  unfold runI
  rw [e]
  exact p
theorem o_in1 {neg : Bool} {c : Nat} {z : Str} {Q : D → Prop} (q : Q (.bl (decide (c ∈ z.cps.toList) != neg))) : Op (inD neg (.str ⟨#[c]⟩) (.str z)) Q := ⟨_, rfl, q⟩
theorem o_ixH {x : Str} {c : Nat} {r : List Nat} {Q : D → Prop} (e : x.cps.toList = c :: r) (hz : x.length ≤ sizeLine) (q : Q (.str ⟨#[c]⟩)) : Op (ixD (.str x) (.int 0)) Q :=
  ⟨_, by simp only [ixD, hz, if_true, e, at_zero, Option.map_some], q⟩
theorem o_allT {n : Nat} {Q : D → Prop} (q : Q (.bl true)) : Op (allD [.lst (List.replicate n (.bl true))]) Q := by
  refine ⟨.bl true, ?_, q⟩
  have : List.replicate n (D.bl true) = (List.replicate n true).map D.bl := by simp
  rw [this]
  simp only [allD, asBls_map, Option.map_some]
  simp
theorem o_fmtS {y : Str} {Q : D → Prop} (h : y.length ≤ sizeLine) (q : Q (.str y)) : Op (fmtD (.str y)) Q := ⟨_, by simp only [fmtD, h, if_true], q⟩
theorem o_fmtI {i : Int} {Q : D → Prop} (h : i.natAbs.log2 < 1920) (q : Q (.str (toString i))) : Op (fmtD (.int i)) Q := ⟨_, by simp only [fmtD, h, if_true], q⟩
theorem log_small {i : Int} (h : i.natAbs < 1099511627776) : i.natAbs.log2 < 1920 := by
  by_cases h0 : i.natAbs = 0
  · rw [h0]; decide
  · have := (Nat.log2_lt h0).mpr (show i.natAbs < 2 ^ 40 by omega)
    omega
theorem emp (x : Str) : Str.empty ++ x = x := str_ext (by rw [app_toList]; rfl)
theorem emp' (x : Str) : x ++ Str.empty = x := str_ext (by rw [app_toList]; simp; rfl)
theorem gotE {α β : Type} {f : β → Option α} {b b' : β} {a : α} {Q : α → Prop} (e : f b = some a) (h : b' = b) (q : Q a) : Got (f b') Q := ⟨a, by rw [h]; exact e, q⟩
theorem o_addL {a b : List D} {Q : D → Prop} (h : a.length + b.length ≤ sizeLine) (q : Q (.lst (a ++ b))) : Op (addD (.lst a) (.lst b)) Q := by
  have h' : (a ++ b).length ≤ sizeLine := by rw [List.length_append]; exact h
  exact ⟨_, by simp only [addD, fit, h', if_true, Option.map_some], q⟩
theorem o_addT {a b : List D} {Q : D → Prop} (h : a.length + b.length ≤ sizeLine) (q : Q (.tup (a ++ b))) : Op (addD (.tup a) (.tup b)) Q := by
  have h' : (a ++ b).length ≤ sizeLine := by rw [List.length_append]; exact h
  exact ⟨_, by simp only [addD, fit, h', if_true, Option.map_some], q⟩
theorem o_ixL {l : List D} {r : Nat} {Q : D → Prop} (h : r < l.length) (q : ∀ d ∈ l, Q d) : Op (ixD (.lst l) (.int r)) Q :=
  ⟨l[r], by simp only [ixD]; exact at_nat h, q _ (List.getElem_mem h)⟩
theorem rangeN {n : Nat} {d : D} (h : d ∈ rangeD 0 n 1) : ∃ i : Nat, i < n ∧ d = .int i := by
  obtain ⟨i, hi, rfl⟩ := rangeD_mem h
  exact ⟨i, hi, by simp⟩
end Dv
set_option Elab.async false
set_option linter.all false
set_option maxRecDepth 100000
set_option maxHeartbeats 4000000
section
namespace Lw
open PySem PySem.Spec PyProof.Rows L2 Dv
def top (i : Nat) : Stmt := PySem.Challenge.pw_owntimes_k12_stations_and_links_made.main.body.getD i (.Pass ⟨0, 0, 0, 0⟩)
def mth (i j : Nat) : Stmt := match top i with
  | .ClassDef (body := b) .. => b.getD j (.Pass ⟨0, 0, 0, 0⟩)
  | s => s

/-! ### _law_cell -/
def d_law_cell : DefX := ⟨fun K => He.ga K "_law_cell", "_law_cell", "_law_cell", defArgs (top 20), defBody (top 20), defScope (top 20), [], []⟩
abbrev N_law_cell : List Str := ["_law_cells", "_law_k", "_law_seed", "_law_part_here"]
abbrev P_law_cell : List Str := ["_law_cells", "_law_k"]
theorem sc_law_cell : FnScope N_law_cell P_law_cell d_law_cell.scope := ⟨rfl, rfl, rfl, by decide +kernel, rfl, by decide +kernel, by decide +kernel⟩

/-! ### _law_well -/
def d_law_well : DefX := ⟨fun K => He.ga K "_law_well", "_law_well", "_law_well", defArgs (top 21), defBody (top 21), defScope (top 21), [], []⟩
abbrev N_law_well : List Str := ["_law_cells", "_law_k", "_law_cell_here", "_law_figures"]
abbrev P_law_well : List Str := ["_law_cells", "_law_k"]
theorem sc_law_well : FnScope N_law_well P_law_well d_law_well.scope := ⟨rfl, rfl, rfl, by decide +kernel, rfl, by decide +kernel, by decide +kernel⟩

/-! ### _law_draw -/
def d_law_draw : DefX := ⟨fun K => He.ga K "_law_draw", "_law_draw", "_law_draw", defArgs (top 22), defBody (top 22), defScope (top 22), [], []⟩
abbrev N_law_draw : List Str := ["_law_well_here", "_law_many", "_law_figure"]
abbrev P_law_draw : List Str := ["_law_well_here", "_law_many"]
theorem sc_law_draw : FnScope N_law_draw P_law_draw d_law_draw.scope := ⟨rfl, rfl, rfl, by decide +kernel, rfl, by decide +kernel, by decide +kernel⟩

/-! ### _law_mate -/
def d_law_mate : DefX := ⟨fun K => He.ga K "_law_mate", "_law_mate", "_law_mate", defArgs (top 24), defBody (top 24), defScope (top 24), [], []⟩
abbrev N_law_mate : List Str := ["_law_well_here", "_law_old", "_law_letter", "_law_at"]
abbrev P_law_mate : List Str := ["_law_well_here", "_law_old"]
theorem sc_law_mate : FnScope N_law_mate P_law_mate d_law_mate.scope := ⟨rfl, rfl, rfl, by decide +kernel, rfl, by decide +kernel, by decide +kernel⟩

/-! ### _law_name -/
def d_law_name : DefX := ⟨fun K => He.ga K "_law_name", "_law_name", "_law_name", defArgs (top 23), defBody (top 23), defScope (top 23), [], []⟩
abbrev N_law_name : List Str := ["_law_well_here", "_law_letters", "_law_signs", "_law_head", "_law_many", "_law_k"]
abbrev P_law_name : List Str := ["_law_well_here"]
theorem sc_law_name : FnScope N_law_name P_law_name d_law_name.scope := ⟨rfl, rfl, rfl, by decide +kernel, rfl, by decide +kernel, by decide +kernel⟩

/-! ### _law_names -/
def d_law_names : DefX := ⟨fun K => He.ga K "_law_names", "_law_names", "_law_names", defArgs (top 25), defBody (top 25), defScope (top 25), [], []⟩
abbrev N_law_names : List Str := ["_law_well_here", "_law_many", "_law_found", "_law_k", "_law_way", "_law_fresh", "_law_j", "_law_word"]
abbrev P_law_names : List Str := ["_law_well_here", "_law_many"]
theorem sc_law_names : FnScope N_law_names P_law_names d_law_names.scope := ⟨rfl, rfl, rfl, by decide +kernel, rfl, by decide +kernel, by decide +kernel⟩

/-! ### is_name -/
def d_is_name : DefX := ⟨fun K => He.ga K "is_name", "is_name", "is_name", defArgs (top 13), defBody (top 13), defScope (top 13), [], []⟩
abbrev N_is_name : List Str := ["value", "sign"]
abbrev P_is_name : List Str := ["value"]
theorem sc_is_name : FnScope N_is_name P_is_name d_is_name.scope := ⟨rfl, rfl, rfl, by decide +kernel, rfl, by decide +kernel, by decide +kernel⟩

/-! ### check_name -/
def d_check_name : DefX := ⟨fun K => He.ga K "check_name", "check_name", "check_name", defArgs (top 15), defBody (top 15), defScope (top 15), [], []⟩
abbrev N_check_name : List Str := ["value"]
abbrev P_check_name : List Str := ["value"]
theorem sc_check_name : FnScope N_check_name P_check_name d_check_name.scope := ⟨rfl, rfl, rfl, by decide +kernel, rfl, by decide +kernel, by decide +kernel⟩

/-! ### is_integer -/
def d_is_integer : DefX := ⟨fun K => He.ga K "is_integer", "is_integer", "is_integer", defArgs (top 12), defBody (top 12), defScope (top 12), [], []⟩
abbrev N_is_integer : List Str := ["value"]
abbrev P_is_integer : List Str := ["value"]
theorem sc_is_integer : FnScope N_is_integer P_is_integer d_is_integer.scope := ⟨rfl, rfl, rfl, by decide +kernel, rfl, by decide +kernel, by decide +kernel⟩

/-! ### check_flag -/
def d_check_flag : DefX := ⟨fun K => He.ga K "check_flag", "check_flag", "check_flag", defArgs (top 16), defBody (top 16), defScope (top 16), [], []⟩
abbrev N_check_flag : List Str := ["value"]
abbrev P_check_flag : List Str := ["value"]
theorem sc_check_flag : FnScope N_check_flag P_check_flag d_check_flag.scope := ⟨rfl, rfl, rfl, by decide +kernel, rfl, by decide +kernel, by decide +kernel⟩

/-! ### Station.__init__ -/
def d_Stationx_initx : DefX := ⟨fun K => He.ma K (He.ga K (clsName 2)) "__init__", "__init__", "Station.__init__", defArgs (mth 17 0), defBody (mth 17 0), defScope (mth 17 0), [cV (.int 1)], [("timed", cV (.bl true))]⟩
abbrev N_Stationx_initx : List Str := ["self", "name", "hands", "timed"]
abbrev P_Stationx_initx : List Str := ["self", "name", "hands", "timed"]
theorem sc_Stationx_initx : FnScope N_Stationx_initx P_Stationx_initx d_Stationx_initx.scope := ⟨rfl, rfl, rfl, by decide +kernel, rfl, by decide +kernel, by decide +kernel⟩

/-! ### Station.name -/
def d_Station_name : DefX := ⟨fun K => pGet K (He.ma K (He.ga K (clsName 2)) "name"), "name", "Station.name", defArgs (mth 17 1), defBody (mth 17 1), defScope (mth 17 1), [], []⟩
abbrev N_Station_name : List Str := ["self"]
abbrev P_Station_name : List Str := ["self"]
theorem sc_Station_name : FnScope N_Station_name P_Station_name d_Station_name.scope := ⟨rfl, rfl, rfl, by decide +kernel, rfl, by decide +kernel, by decide +kernel⟩

/-! ### Station.hands -/
def d_Station_hands : DefX := ⟨fun K => pGet K (He.ma K (He.ga K (clsName 2)) "hands"), "hands", "Station.hands", defArgs (mth 17 2), defBody (mth 17 2), defScope (mth 17 2), [], []⟩
abbrev N_Station_hands : List Str := ["self"]
abbrev P_Station_hands : List Str := ["self"]
theorem sc_Station_hands : FnScope N_Station_hands P_Station_hands d_Station_hands.scope := ⟨rfl, rfl, rfl, by decide +kernel, rfl, by decide +kernel, by decide +kernel⟩

/-! ### Station.timed -/
def d_Station_timed : DefX := ⟨fun K => pGet K (He.ma K (He.ga K (clsName 2)) "timed"), "timed", "Station.timed", defArgs (mth 17 3), defBody (mth 17 3), defScope (mth 17 3), [], []⟩
abbrev N_Station_timed : List Str := ["self"]
abbrev P_Station_timed : List Str := ["self"]
theorem sc_Station_timed : FnScope N_Station_timed P_Station_timed d_Station_timed.scope := ⟨rfl, rfl, rfl, by decide +kernel, rfl, by decide +kernel, by decide +kernel⟩

/-! ### Station.__eq__ -/
def d_Stationx_eqx : DefX := ⟨fun K => He.ma K (He.ga K (clsName 2)) "__eq__", "__eq__", "Station.__eq__", defArgs (mth 17 4), defBody (mth 17 4), defScope (mth 17 4), [], []⟩
abbrev N_Stationx_eqx : List Str := ["self", "other"]
abbrev P_Stationx_eqx : List Str := ["self", "other"]
theorem sc_Stationx_eqx : FnScope N_Stationx_eqx P_Stationx_eqx d_Stationx_eqx.scope := ⟨rfl, rfl, rfl, by decide +kernel, rfl, by decide +kernel, by decide +kernel⟩

/-! ### Link.__eq__ -/
def d_Linkx_eqx : DefX := ⟨fun K => He.ma K (He.ga K (clsName 3)) "__eq__", "__eq__", "Link.__eq__", defArgs (mth 18 5), defBody (mth 18 5), defScope (mth 18 5), [], []⟩
abbrev N_Linkx_eqx : List Str := ["self", "other"]
abbrev P_Linkx_eqx : List Str := ["self", "other"]
theorem sc_Linkx_eqx : FnScope N_Linkx_eqx P_Linkx_eqx d_Linkx_eqx.scope := ⟨rfl, rfl, rfl, by decide +kernel, rfl, by decide +kernel, by decide +kernel⟩

/-! ### Station.__str__ -/
def d_Stationx_strx : DefX := ⟨fun K => He.ma K (He.ga K (clsName 2)) "__str__", "__str__", "Station.__str__", defArgs (mth 17 5), defBody (mth 17 5), defScope (mth 17 5), [], []⟩
abbrev N_Stationx_strx : List Str := ["self", "name", "hands", "timed"]
abbrev P_Stationx_strx : List Str := ["self"]
theorem sc_Stationx_strx : FnScope N_Stationx_strx P_Stationx_strx d_Stationx_strx.scope := ⟨rfl, rfl, rfl, by decide +kernel, rfl, by decide +kernel, by decide +kernel⟩

/-! ### Link.__str__ -/
def d_Linkx_strx : DefX := ⟨fun K => He.ma K (He.ga K (clsName 3)) "__str__", "__str__", "Link.__str__", defArgs (mth 18 6), defBody (mth 18 6), defScope (mth 18 6), [], []⟩
abbrev N_Linkx_strx : List Str := ["self", "source", "target", "stock", "early"]
abbrev P_Linkx_strx : List Str := ["self"]
theorem sc_Linkx_strx : FnScope N_Linkx_strx P_Linkx_strx d_Linkx_strx.scope := ⟨rfl, rfl, rfl, by decide +kernel, rfl, by decide +kernel, by decide +kernel⟩

/-! ### _law_station_row -/
def d_law_station_row : DefX := ⟨fun K => He.ga K "_law_station_row", "_law_station_row", "_law_station_row", defArgs (top 26), defBody (top 26), defScope (top 26), [], []⟩
abbrev N_law_station_row : List Str := ["_law_part_here", "_law_staff"]
abbrev P_law_station_row : List Str := ["_law_part_here"]
theorem sc_law_station_row : FnScope N_law_station_row P_law_station_row d_law_station_row.scope := ⟨rfl, rfl, rfl, by decide +kernel, rfl, by decide +kernel, by decide +kernel⟩

/-! ### Link.__init__ -/
def d_Linkx_initx : DefX := ⟨fun K => He.ma K (He.ga K (clsName 3)) "__init__", "__init__", "Link.__init__", defArgs (mth 18 0), defBody (mth 18 0), defScope (mth 18 0), [cV (.int 0)], [("early", cV (.bl false))]⟩
abbrev N_Linkx_initx : List Str := ["self", "source", "target", "stock", "early"]
abbrev P_Linkx_initx : List Str := ["self", "source", "target", "stock", "early"]
theorem sc_Linkx_initx : FnScope N_Linkx_initx P_Linkx_initx d_Linkx_initx.scope := ⟨rfl, rfl, rfl, by decide +kernel, rfl, by decide +kernel, by decide +kernel⟩

/-! ### _law_station_right -/
def d_law_station_right : DefX := ⟨fun K => He.ga K "_law_station_right", "_law_station_right", "_law_station_right", defArgs (top 28), defBody (top 28), defScope (top 28), [], []⟩
abbrev N_law_station_right : List Str := ["_law_a", "_law_b", "_law_made", "_law_mate_here", "_law_short", "_law_bare_here"]
abbrev P_law_station_right : List Str := ["_law_a", "_law_b"]
theorem sc_law_station_right : FnScope N_law_station_right P_law_station_right d_law_station_right.scope := ⟨rfl, rfl, rfl, by decide +kernel, rfl, by decide +kernel, by decide +kernel⟩

/-! ### Link.source -/
def d_Link_source : DefX := ⟨fun K => pGet K (He.ma K (He.ga K (clsName 3)) "source"), "source", "Link.source", defArgs (mth 18 1), defBody (mth 18 1), defScope (mth 18 1), [], []⟩
abbrev N_Link_source : List Str := ["self"]
abbrev P_Link_source : List Str := ["self"]
theorem sc_Link_source : FnScope N_Link_source P_Link_source d_Link_source.scope := ⟨rfl, rfl, rfl, by decide +kernel, rfl, by decide +kernel, by decide +kernel⟩

/-! ### Link.target -/
def d_Link_target : DefX := ⟨fun K => pGet K (He.ma K (He.ga K (clsName 3)) "target"), "target", "Link.target", defArgs (mth 18 2), defBody (mth 18 2), defScope (mth 18 2), [], []⟩
abbrev N_Link_target : List Str := ["self"]
abbrev P_Link_target : List Str := ["self"]
theorem sc_Link_target : FnScope N_Link_target P_Link_target d_Link_target.scope := ⟨rfl, rfl, rfl, by decide +kernel, rfl, by decide +kernel, by decide +kernel⟩

/-! ### Link.stock -/
def d_Link_stock : DefX := ⟨fun K => pGet K (He.ma K (He.ga K (clsName 3)) "stock"), "stock", "Link.stock", defArgs (mth 18 3), defBody (mth 18 3), defScope (mth 18 3), [], []⟩
abbrev N_Link_stock : List Str := ["self"]
abbrev P_Link_stock : List Str := ["self"]
theorem sc_Link_stock : FnScope N_Link_stock P_Link_stock d_Link_stock.scope := ⟨rfl, rfl, rfl, by decide +kernel, rfl, by decide +kernel, by decide +kernel⟩

/-! ### Link.early -/
def d_Link_early : DefX := ⟨fun K => pGet K (He.ma K (He.ga K (clsName 3)) "early"), "early", "Link.early", defArgs (mth 18 4), defBody (mth 18 4), defScope (mth 18 4), [], []⟩
abbrev N_Link_early : List Str := ["self"]
abbrev P_Link_early : List Str := ["self"]
theorem sc_Link_early : FnScope N_Link_early P_Link_early d_Link_early.scope := ⟨rfl, rfl, rfl, by decide +kernel, rfl, by decide +kernel, by decide +kernel⟩

/-! ### _law_link_row -/
def d_law_link_row : DefX := ⟨fun K => He.ga K "_law_link_row", "_law_link_row", "_law_link_row", defArgs (top 27), defBody (top 27), defScope (top 27), [], []⟩
abbrev N_law_link_row : List Str := ["_law_part_here", "_law_row"]
abbrev P_law_link_row : List Str := ["_law_part_here"]
theorem sc_law_link_row : FnScope N_law_link_row P_law_link_row d_law_link_row.scope := ⟨rfl, rfl, rfl, by decide +kernel, rfl, by decide +kernel, by decide +kernel⟩

/-! ### _law_link_right -/
def d_law_link_right : DefX := ⟨fun K => He.ga K "_law_link_right", "_law_link_right", "_law_link_right", defArgs (top 29), defBody (top 29), defScope (top 29), [], []⟩
abbrev N_law_link_right : List Str := ["_law_a", "_law_b", "_law_made", "_law_mate_here", "_law_due", "_law_short"]
abbrev P_law_link_right : List Str := ["_law_a", "_law_b"]
theorem sc_law_link_right : FnScope N_law_link_right P_law_link_right d_law_link_right.scope := ⟨rfl, rfl, rfl, by decide +kernel, rfl, by decide +kernel, by decide +kernel⟩

/-! ### _law_turn -/
def d_law_turn : DefX := ⟨fun K => He.ga K "_law_turn", "_law_turn", "_law_turn", defArgs (top 30), defBody (top 30), defScope (top 30), [], []⟩
abbrev N_law_turn : List Str := ["_law_well_here", "_law_words", "_law_a", "_law_b", "_law_way", "_law_some"]
abbrev P_law_turn : List Str := ["_law_well_here"]
theorem sc_law_turn : FnScope N_law_turn P_law_turn d_law_turn.scope := ⟨rfl, rfl, rfl, by decide +kernel, rfl, by decide +kernel, by decide +kernel⟩

/-! ### law -/
def d_law : DefX := ⟨fun K => He.ga K "law", "law", "law", defArgs (top 31), defBody (top 31), defScope (top 31), [], []⟩
abbrev N_law : List Str := ["_law_cells", "_law_k", "_law_well_here", "_law_turn_here"]
abbrev P_law : List Str := ["_law_cells"]
theorem sc_law : FnScope N_law P_law d_law.scope := ⟨rfl, rfl, rfl, by decide +kernel, rfl, by decide +kernel, by decide +kernel⟩

/-! ### what the head tells -/
def fa : List (PySem.W.Frag → Bool) := [
  fun K => (He.Fa.free "len").ok K,
  fun K => (He.Fa.free "min").ok K,
  fun K => (He.Fa.free "max").ok K,
  fun K => (He.Fa.free "range").ok K,
  fun K => (He.Fa.free "int").ok K,
  fun K => (He.Fa.glo "_law_cell").ok K,
  fun K => (He.Fa.free "abs").ok K,
  fun K => (He.Fa.glo "_law_well").ok K,
  fun K => (He.Fa.glo "_law_draw").ok K,
  fun K => (He.Fa.glo "_law_mate").ok K,
  fun K => (He.Fa.glo "_law_name").ok K,
  fun K => (He.Fa.free "str").ok K,
  fun K => (He.Fa.glo "_law_names").ok K,
  fun K => decide (PySem.W.kitOne K (.type "int") (.type "str") = some false),
  fun K => decide (PySem.W.kitOne K (.type "bool") (.type "str") = some false),
  fun K => decide (PySem.W.kitOne K (.type "str") (.type "str") = some true),
  fun K => decide (PySem.W.kitOne K (.type "tuple") (.type "str") = some false),
  fun K => decide (PySem.W.kitOne K (.type "list") (.type "str") = some false),
  fun K => decide (PySem.W.kitOne K (.type "NoneType") (.type "str") = some false),
  fun K => decide (PySem.W.kitOne K (.ref (He.ga K (clsName 2))) (.type "str") = some false),
  fun K => clB K (clsName 2),
  fun K => decide (PySem.W.kitOne K (.ref (He.ga K (clsName 3))) (.type "str") = some false),
  fun K => clB K (clsName 3),
  fun K => (He.Fa.free "isinstance").ok K,
  fun K => (He.Fa.int "MOST_SIGNS" 8).ok K,
  fun K => (He.Fa.str "LETTERS" "abcdefghijklmnopqrstuvwxyz").ok K,
  fun K => (He.Fa.str "DIGITS" "0123456789").ok K,
  fun K => (He.Fa.free "all").ok K,
  fun K => (He.Fa.glo "is_name").ok K,
  fun K => (He.Fa.glo "check_name").ok K,
  fun K => decide (PySem.W.kitOne K (.type "int") (.type "int") = some true),
  fun K => decide (PySem.W.kitOne K (.type "bool") (.type "int") = some true),
  fun K => decide (PySem.W.kitOne K (.type "str") (.type "int") = some false),
  fun K => decide (PySem.W.kitOne K (.type "tuple") (.type "int") = some false),
  fun K => decide (PySem.W.kitOne K (.type "list") (.type "int") = some false),
  fun K => decide (PySem.W.kitOne K (.type "NoneType") (.type "int") = some false),
  fun K => decide (PySem.W.kitOne K (.ref (He.ga K (clsName 2))) (.type "int") = some false),
  fun K => decide (PySem.W.kitOne K (.ref (He.ga K (clsName 3))) (.type "int") = some false),
  fun K => (He.Fa.free "bool").ok K,
  fun K => decide (PySem.W.kitOne K (.type "int") (.type "bool") = some false),
  fun K => decide (PySem.W.kitOne K (.type "bool") (.type "bool") = some true),
  fun K => decide (PySem.W.kitOne K (.type "str") (.type "bool") = some false),
  fun K => decide (PySem.W.kitOne K (.type "tuple") (.type "bool") = some false),
  fun K => decide (PySem.W.kitOne K (.type "list") (.type "bool") = some false),
  fun K => decide (PySem.W.kitOne K (.type "NoneType") (.type "bool") = some false),
  fun K => decide (PySem.W.kitOne K (.ref (He.ga K (clsName 2))) (.type "bool") = some false),
  fun K => decide (PySem.W.kitOne K (.ref (He.ga K (clsName 3))) (.type "bool") = some false),
  fun K => (He.Fa.glo "is_integer").ok K,
  fun K => (He.Fa.int "MOST_HANDS" 4).ok K,
  fun K => (He.Fa.glo "check_flag").ok K,
  fun K => (He.Fa.noat (clsName 2) "sides").ok K,
  fun K => (He.Fa.mkr (clsName 2)).ok K,
  fun K => propB K (clsName 2) "name",
  fun K => propB K (clsName 2) "hands",
  fun K => propB K (clsName 2) "timed",
  fun K => (He.Fa.free "repr").ok K,
  fun K => (He.Fa.free "list").ok K,
  fun K => decide (PySem.W.kitOne K (.type "int") (.ref (He.ga K (clsName 2))) = some false),
  fun K => decide (PySem.W.kitOne K (.type "bool") (.ref (He.ga K (clsName 2))) = some false),
  fun K => decide (PySem.W.kitOne K (.type "str") (.ref (He.ga K (clsName 2))) = some false),
  fun K => decide (PySem.W.kitOne K (.type "tuple") (.ref (He.ga K (clsName 2))) = some false),
  fun K => decide (PySem.W.kitOne K (.type "list") (.ref (He.ga K (clsName 2))) = some false),
  fun K => decide (PySem.W.kitOne K (.type "NoneType") (.ref (He.ga K (clsName 2))) = some false),
  fun K => decide (PySem.W.kitOne K (.ref (He.ga K (clsName 2))) (.ref (He.ga K (clsName 2))) = some true),
  fun K => decide (PySem.W.kitOne K (.ref (He.ga K (clsName 3))) (.ref (He.ga K (clsName 2))) = some false),
  fun K => decide (PySem.W.notFirst K (He.ga K (clsName 2)) (.type "int") = true),
  fun K => decide (PySem.W.findIn K (.ref (He.ga K (clsName 2))) "__eq__" = some (some (.ref (d_Stationx_eqx.at_ K)))),
  fun K => decide (PySem.W.findIn K (.ref (He.ga K (clsName 2))) "__ne__" = some (some (.builtin "object.__ne__"))),
  fun K => decide (PySem.W.notFirst K (He.ga K (clsName 2)) (.type "bool") = true),
  fun K => decide (PySem.W.notFirst K (He.ga K (clsName 2)) (.type "str") = true),
  fun K => decide (PySem.W.notFirst K (He.ga K (clsName 2)) (.type "tuple") = true),
  fun K => decide (PySem.W.notFirst K (He.ga K (clsName 2)) (.type "list") = true),
  fun K => decide (PySem.W.notFirst K (He.ga K (clsName 2)) (.type "NoneType") = true),
  fun K => decide (PySem.W.notFirst K (He.ga K (clsName 2)) (.ref (He.ga K (clsName 2))) = true),
  fun K => decide (PySem.W.notFirst K (He.ga K (clsName 2)) (.ref (He.ga K (clsName 3))) = true),
  fun K => decide (PySem.W.isFn K (.ref (d_Stationx_eqx.at_ K)) = true),
  fun K => decide (PySem.W.kitOne K (.type "int") (.ref (He.ga K (clsName 3))) = some false),
  fun K => decide (PySem.W.kitOne K (.type "bool") (.ref (He.ga K (clsName 3))) = some false),
  fun K => decide (PySem.W.kitOne K (.type "str") (.ref (He.ga K (clsName 3))) = some false),
  fun K => decide (PySem.W.kitOne K (.type "tuple") (.ref (He.ga K (clsName 3))) = some false),
  fun K => decide (PySem.W.kitOne K (.type "list") (.ref (He.ga K (clsName 3))) = some false),
  fun K => decide (PySem.W.kitOne K (.type "NoneType") (.ref (He.ga K (clsName 3))) = some false),
  fun K => decide (PySem.W.kitOne K (.ref (He.ga K (clsName 2))) (.ref (He.ga K (clsName 3))) = some false),
  fun K => decide (PySem.W.kitOne K (.ref (He.ga K (clsName 3))) (.ref (He.ga K (clsName 3))) = some true),
  fun K => (He.Fa.noat (clsName 3) "sides").ok K,
  fun K => decide (PySem.W.notFirst K (He.ga K (clsName 3)) (.type "int") = true),
  fun K => decide (PySem.W.findIn K (.ref (He.ga K (clsName 3))) "__eq__" = some (some (.ref (d_Linkx_eqx.at_ K)))),
  fun K => decide (PySem.W.findIn K (.ref (He.ga K (clsName 3))) "__ne__" = some (some (.builtin "object.__ne__"))),
  fun K => decide (PySem.W.notFirst K (He.ga K (clsName 3)) (.type "bool") = true),
  fun K => decide (PySem.W.notFirst K (He.ga K (clsName 3)) (.type "str") = true),
  fun K => decide (PySem.W.notFirst K (He.ga K (clsName 3)) (.type "tuple") = true),
  fun K => decide (PySem.W.notFirst K (He.ga K (clsName 3)) (.type "list") = true),
  fun K => decide (PySem.W.notFirst K (He.ga K (clsName 3)) (.type "NoneType") = true),
  fun K => decide (PySem.W.notFirst K (He.ga K (clsName 3)) (.ref (He.ga K (clsName 2))) = true),
  fun K => decide (PySem.W.notFirst K (He.ga K (clsName 3)) (.ref (He.ga K (clsName 3))) = true),
  fun K => decide (PySem.W.isFn K (.ref (d_Linkx_eqx.at_ K)) = true),
  fun K => decide (PySem.W.isFn K (.ref (d_Stationx_strx.at_ K)) = true),
  fun K => decide (PySem.W.findIn K (.ref (He.ga K (clsName 2))) "__str__" = some (some (.ref (d_Stationx_strx.at_ K)))),
  fun K => decide (PySem.W.isFn K (.ref (d_Linkx_strx.at_ K)) = true),
  fun K => decide (PySem.W.findIn K (.ref (He.ga K (clsName 3))) "__str__" = some (some (.ref (d_Linkx_strx.at_ K)))),
  fun K => (He.Fa.glo "_law_station_row").ok K,
  fun K => decide (PySem.W.findIn K (.ref (He.ga K (clsName 2))) "__bool__" = some none),
  fun K => decide (PySem.W.findIn K (.ref (He.ga K (clsName 2))) "__len__" = some none),
  fun K => decide (PySem.W.findIn K (.ref (He.ga K (clsName 3))) "__bool__" = some none),
  fun K => decide (PySem.W.findIn K (.ref (He.ga K (clsName 3))) "__len__" = some none),
  fun K => (He.Fa.int "MOST_STOCK" 5).ok K,
  fun K => (He.Fa.mkr (clsName 3)).ok K,
  fun K => (He.Fa.glo "_law_station_right").ok K,
  fun K => propB K (clsName 3) "source",
  fun K => propB K (clsName 3) "target",
  fun K => propB K (clsName 3) "stock",
  fun K => propB K (clsName 3) "early",
  fun K => (He.Fa.glo "_law_link_row").ok K,
  fun K => (He.Fa.glo "_law_link_right").ok K,
  fun K => (He.Fa.glo "_law_turn").ok K,
  fun K => (He.Fa.glo "law").ok K]
def fn : List DefX := [d_law_cell, d_law_well, d_law_draw, d_law_mate, d_law_name, d_law_names, d_is_name, d_check_name, d_is_integer, d_check_flag, d_Stationx_initx, d_Station_name, d_Station_hands, d_Station_timed, d_Stationx_eqx, d_Linkx_eqx, d_Stationx_strx, d_Linkx_strx, d_law_station_row, d_Linkx_initx, d_law_station_right, d_Link_source, d_Link_target, d_Link_stock, d_Link_early, d_law_link_row, d_law_link_right, d_law_turn, d_law]
structure Fx (K : PySem.W.Frag) (h : Heap) (mg : Str → Option Value) : Prop where
  X : K.In h
  G : h.Ns mainGlobals mg
  c : SaysX fa fn K
theorem Fx.f_len {K : PySem.W.Frag} {h : Heap} {mg : Str → Option Value} (x : Fx K h mg) : mg "len" = none := He.free_ok x.X x.G (x.c.fact 0)
theorem Fx.f_min {K : PySem.W.Frag} {h : Heap} {mg : Str → Option Value} (x : Fx K h mg) : mg "min" = none := He.free_ok x.X x.G (x.c.fact 1)
theorem Fx.f_max {K : PySem.W.Frag} {h : Heap} {mg : Str → Option Value} (x : Fx K h mg) : mg "max" = none := He.free_ok x.X x.G (x.c.fact 2)
theorem Fx.f_range {K : PySem.W.Frag} {h : Heap} {mg : Str → Option Value} (x : Fx K h mg) : mg "range" = none := He.free_ok x.X x.G (x.c.fact 3)
theorem Fx.f_int {K : PySem.W.Frag} {h : Heap} {mg : Str → Option Value} (x : Fx K h mg) : mg "int" = none := He.free_ok x.X x.G (x.c.fact 4)
theorem Fx.g_law_cell {K : PySem.W.Frag} {h : Heap} {mg : Str → Option Value} (x : Fx K h mg) : mg "_law_cell" = some (.ref (He.ga K "_law_cell")) := He.glo_ok x.X x.G (x.c.fact 5)
theorem Fx.f_abs {K : PySem.W.Frag} {h : Heap} {mg : Str → Option Value} (x : Fx K h mg) : mg "abs" = none := He.free_ok x.X x.G (x.c.fact 6)
theorem Fx.g_law_well {K : PySem.W.Frag} {h : Heap} {mg : Str → Option Value} (x : Fx K h mg) : mg "_law_well" = some (.ref (He.ga K "_law_well")) := He.glo_ok x.X x.G (x.c.fact 7)
theorem Fx.g_law_draw {K : PySem.W.Frag} {h : Heap} {mg : Str → Option Value} (x : Fx K h mg) : mg "_law_draw" = some (.ref (He.ga K "_law_draw")) := He.glo_ok x.X x.G (x.c.fact 8)
theorem Fx.g_law_mate {K : PySem.W.Frag} {h : Heap} {mg : Str → Option Value} (x : Fx K h mg) : mg "_law_mate" = some (.ref (He.ga K "_law_mate")) := He.glo_ok x.X x.G (x.c.fact 9)
theorem Fx.g_law_name {K : PySem.W.Frag} {h : Heap} {mg : Str → Option Value} (x : Fx K h mg) : mg "_law_name" = some (.ref (He.ga K "_law_name")) := He.glo_ok x.X x.G (x.c.fact 10)
theorem Fx.f_str {K : PySem.W.Frag} {h : Heap} {mg : Str → Option Value} (x : Fx K h mg) : mg "str" = none := He.free_ok x.X x.G (x.c.fact 11)
theorem Fx.g_law_names {K : PySem.W.Frag} {h : Heap} {mg : Str → Option Value} (x : Fx K h mg) : mg "_law_names" = some (.ref (He.ga K "_law_names")) := He.glo_ok x.X x.G (x.c.fact 12)
theorem Fx.ki_int_str {K : PySem.W.Frag} {h : Heap} {mg : Str → Option Value} (x : Fx K h mg) : PySem.W.kitOne K (.type "int") (.type "str") = some false := of_decide_eq_true (x.c.fact 13)
theorem Fx.ki_bool_str {K : PySem.W.Frag} {h : Heap} {mg : Str → Option Value} (x : Fx K h mg) : PySem.W.kitOne K (.type "bool") (.type "str") = some false := of_decide_eq_true (x.c.fact 14)
theorem Fx.ki_str_str {K : PySem.W.Frag} {h : Heap} {mg : Str → Option Value} (x : Fx K h mg) : PySem.W.kitOne K (.type "str") (.type "str") = some true := of_decide_eq_true (x.c.fact 15)
theorem Fx.ki_tuple_str {K : PySem.W.Frag} {h : Heap} {mg : Str → Option Value} (x : Fx K h mg) : PySem.W.kitOne K (.type "tuple") (.type "str") = some false := of_decide_eq_true (x.c.fact 16)
theorem Fx.ki_list_str {K : PySem.W.Frag} {h : Heap} {mg : Str → Option Value} (x : Fx K h mg) : PySem.W.kitOne K (.type "list") (.type "str") = some false := of_decide_eq_true (x.c.fact 17)
theorem Fx.ki_NoneType_str {K : PySem.W.Frag} {h : Heap} {mg : Str → Option Value} (x : Fx K h mg) : PySem.W.kitOne K (.type "NoneType") (.type "str") = some false := of_decide_eq_true (x.c.fact 18)
theorem Fx.ki_Station_str {K : PySem.W.Frag} {h : Heap} {mg : Str → Option Value} (x : Fx K h mg) : PySem.W.kitOne K (.ref (He.ga K (clsName 2))) (.type "str") = some false := of_decide_eq_true (x.c.fact 19)
theorem Fx.c_Station {K : PySem.W.Frag} {h : Heap} {mg : Str → Option Value} (x : Fx K h mg) : ClsF K mg 2 (He.ga K (clsName 2)) := clB_ok x.X x.G (x.c.fact 20)
theorem Fx.ki_Link_str {K : PySem.W.Frag} {h : Heap} {mg : Str → Option Value} (x : Fx K h mg) : PySem.W.kitOne K (.ref (He.ga K (clsName 3))) (.type "str") = some false := of_decide_eq_true (x.c.fact 21)
theorem Fx.c_Link {K : PySem.W.Frag} {h : Heap} {mg : Str → Option Value} (x : Fx K h mg) : ClsF K mg 3 (He.ga K (clsName 3)) := clB_ok x.X x.G (x.c.fact 22)
theorem Fx.f_isinstance {K : PySem.W.Frag} {h : Heap} {mg : Str → Option Value} (x : Fx K h mg) : mg "isinstance" = none := He.free_ok x.X x.G (x.c.fact 23)
theorem Fx.k_MOST_SIGNS {K : PySem.W.Frag} {h : Heap} {mg : Str → Option Value} (x : Fx K h mg) : ∃ t, mg "MOST_SIGNS" = some (.int 8 t) := He.int_ok x.X x.G (x.c.fact 24)
theorem Fx.k_LETTERS {K : PySem.W.Frag} {h : Heap} {mg : Str → Option Value} (x : Fx K h mg) : ∃ t, mg "LETTERS" = some (.str "abcdefghijklmnopqrstuvwxyz" t) := He.str_ok x.X x.G (x.c.fact 25)
theorem Fx.k_DIGITS {K : PySem.W.Frag} {h : Heap} {mg : Str → Option Value} (x : Fx K h mg) : ∃ t, mg "DIGITS" = some (.str "0123456789" t) := He.str_ok x.X x.G (x.c.fact 26)
theorem Fx.f_all {K : PySem.W.Frag} {h : Heap} {mg : Str → Option Value} (x : Fx K h mg) : mg "all" = none := He.free_ok x.X x.G (x.c.fact 27)
theorem Fx.g_is_name {K : PySem.W.Frag} {h : Heap} {mg : Str → Option Value} (x : Fx K h mg) : mg "is_name" = some (.ref (He.ga K "is_name")) := He.glo_ok x.X x.G (x.c.fact 28)
theorem Fx.g_check_name {K : PySem.W.Frag} {h : Heap} {mg : Str → Option Value} (x : Fx K h mg) : mg "check_name" = some (.ref (He.ga K "check_name")) := He.glo_ok x.X x.G (x.c.fact 29)
theorem Fx.ki_int_int {K : PySem.W.Frag} {h : Heap} {mg : Str → Option Value} (x : Fx K h mg) : PySem.W.kitOne K (.type "int") (.type "int") = some true := of_decide_eq_true (x.c.fact 30)
theorem Fx.ki_bool_int {K : PySem.W.Frag} {h : Heap} {mg : Str → Option Value} (x : Fx K h mg) : PySem.W.kitOne K (.type "bool") (.type "int") = some true := of_decide_eq_true (x.c.fact 31)
theorem Fx.ki_str_int {K : PySem.W.Frag} {h : Heap} {mg : Str → Option Value} (x : Fx K h mg) : PySem.W.kitOne K (.type "str") (.type "int") = some false := of_decide_eq_true (x.c.fact 32)
theorem Fx.ki_tuple_int {K : PySem.W.Frag} {h : Heap} {mg : Str → Option Value} (x : Fx K h mg) : PySem.W.kitOne K (.type "tuple") (.type "int") = some false := of_decide_eq_true (x.c.fact 33)
theorem Fx.ki_list_int {K : PySem.W.Frag} {h : Heap} {mg : Str → Option Value} (x : Fx K h mg) : PySem.W.kitOne K (.type "list") (.type "int") = some false := of_decide_eq_true (x.c.fact 34)
theorem Fx.ki_NoneType_int {K : PySem.W.Frag} {h : Heap} {mg : Str → Option Value} (x : Fx K h mg) : PySem.W.kitOne K (.type "NoneType") (.type "int") = some false := of_decide_eq_true (x.c.fact 35)
theorem Fx.ki_Station_int {K : PySem.W.Frag} {h : Heap} {mg : Str → Option Value} (x : Fx K h mg) : PySem.W.kitOne K (.ref (He.ga K (clsName 2))) (.type "int") = some false := of_decide_eq_true (x.c.fact 36)
theorem Fx.ki_Link_int {K : PySem.W.Frag} {h : Heap} {mg : Str → Option Value} (x : Fx K h mg) : PySem.W.kitOne K (.ref (He.ga K (clsName 3))) (.type "int") = some false := of_decide_eq_true (x.c.fact 37)
theorem Fx.f_bool {K : PySem.W.Frag} {h : Heap} {mg : Str → Option Value} (x : Fx K h mg) : mg "bool" = none := He.free_ok x.X x.G (x.c.fact 38)
theorem Fx.ki_int_bool {K : PySem.W.Frag} {h : Heap} {mg : Str → Option Value} (x : Fx K h mg) : PySem.W.kitOne K (.type "int") (.type "bool") = some false := of_decide_eq_true (x.c.fact 39)
theorem Fx.ki_bool_bool {K : PySem.W.Frag} {h : Heap} {mg : Str → Option Value} (x : Fx K h mg) : PySem.W.kitOne K (.type "bool") (.type "bool") = some true := of_decide_eq_true (x.c.fact 40)
theorem Fx.ki_str_bool {K : PySem.W.Frag} {h : Heap} {mg : Str → Option Value} (x : Fx K h mg) : PySem.W.kitOne K (.type "str") (.type "bool") = some false := of_decide_eq_true (x.c.fact 41)
theorem Fx.ki_tuple_bool {K : PySem.W.Frag} {h : Heap} {mg : Str → Option Value} (x : Fx K h mg) : PySem.W.kitOne K (.type "tuple") (.type "bool") = some false := of_decide_eq_true (x.c.fact 42)
theorem Fx.ki_list_bool {K : PySem.W.Frag} {h : Heap} {mg : Str → Option Value} (x : Fx K h mg) : PySem.W.kitOne K (.type "list") (.type "bool") = some false := of_decide_eq_true (x.c.fact 43)
theorem Fx.ki_NoneType_bool {K : PySem.W.Frag} {h : Heap} {mg : Str → Option Value} (x : Fx K h mg) : PySem.W.kitOne K (.type "NoneType") (.type "bool") = some false := of_decide_eq_true (x.c.fact 44)
theorem Fx.ki_Station_bool {K : PySem.W.Frag} {h : Heap} {mg : Str → Option Value} (x : Fx K h mg) : PySem.W.kitOne K (.ref (He.ga K (clsName 2))) (.type "bool") = some false := of_decide_eq_true (x.c.fact 45)
theorem Fx.ki_Link_bool {K : PySem.W.Frag} {h : Heap} {mg : Str → Option Value} (x : Fx K h mg) : PySem.W.kitOne K (.ref (He.ga K (clsName 3))) (.type "bool") = some false := of_decide_eq_true (x.c.fact 46)
theorem Fx.g_is_integer {K : PySem.W.Frag} {h : Heap} {mg : Str → Option Value} (x : Fx K h mg) : mg "is_integer" = some (.ref (He.ga K "is_integer")) := He.glo_ok x.X x.G (x.c.fact 47)
theorem Fx.k_MOST_HANDS {K : PySem.W.Frag} {h : Heap} {mg : Str → Option Value} (x : Fx K h mg) : ∃ t, mg "MOST_HANDS" = some (.int 4 t) := He.int_ok x.X x.G (x.c.fact 48)
theorem Fx.g_check_flag {K : PySem.W.Frag} {h : Heap} {mg : Str → Option Value} (x : Fx K h mg) : mg "check_flag" = some (.ref (He.ga K "check_flag")) := He.glo_ok x.X x.G (x.c.fact 49)
theorem Fx.na_Station_sides {K : PySem.W.Frag} {h : Heap} {mg : Str → Option Value} (x : Fx K h mg) : NoAttr K (He.ga K (clsName 2)) "sides" := He.noat_ok (x.c.fact 50)
theorem Fx.mk_Station {K : PySem.W.Frag} {h : Heap} {mg : Str → Option Value} (x : Fx K h mg) : Mk K (He.ga K (clsName 2)) (d_Stationx_initx.at_ K) := He.mkr_ok (x.c.fact 51)
theorem Fx.pr_Station_name {K : PySem.W.Frag} {h : Heap} {mg : Str → Option Value} (x : Fx K h mg) : PropOf K (He.ga K (clsName 2)) "name" (He.ma K (He.ga K (clsName 2)) "name") (pGet K (He.ma K (He.ga K (clsName 2)) "name")) := propB_ok (x.c.fact 52)
theorem Fx.pr_Station_hands {K : PySem.W.Frag} {h : Heap} {mg : Str → Option Value} (x : Fx K h mg) : PropOf K (He.ga K (clsName 2)) "hands" (He.ma K (He.ga K (clsName 2)) "hands") (pGet K (He.ma K (He.ga K (clsName 2)) "hands")) := propB_ok (x.c.fact 53)
theorem Fx.pr_Station_timed {K : PySem.W.Frag} {h : Heap} {mg : Str → Option Value} (x : Fx K h mg) : PropOf K (He.ga K (clsName 2)) "timed" (He.ma K (He.ga K (clsName 2)) "timed") (pGet K (He.ma K (He.ga K (clsName 2)) "timed")) := propB_ok (x.c.fact 54)
theorem Fx.f_repr {K : PySem.W.Frag} {h : Heap} {mg : Str → Option Value} (x : Fx K h mg) : mg "repr" = none := He.free_ok x.X x.G (x.c.fact 55)
theorem Fx.f_list {K : PySem.W.Frag} {h : Heap} {mg : Str → Option Value} (x : Fx K h mg) : mg "list" = none := He.free_ok x.X x.G (x.c.fact 56)
theorem Fx.ki_int_Station {K : PySem.W.Frag} {h : Heap} {mg : Str → Option Value} (x : Fx K h mg) : PySem.W.kitOne K (.type "int") (.ref (He.ga K (clsName 2))) = some false := of_decide_eq_true (x.c.fact 57)
theorem Fx.ki_bool_Station {K : PySem.W.Frag} {h : Heap} {mg : Str → Option Value} (x : Fx K h mg) : PySem.W.kitOne K (.type "bool") (.ref (He.ga K (clsName 2))) = some false := of_decide_eq_true (x.c.fact 58)
theorem Fx.ki_str_Station {K : PySem.W.Frag} {h : Heap} {mg : Str → Option Value} (x : Fx K h mg) : PySem.W.kitOne K (.type "str") (.ref (He.ga K (clsName 2))) = some false := of_decide_eq_true (x.c.fact 59)
theorem Fx.ki_tuple_Station {K : PySem.W.Frag} {h : Heap} {mg : Str → Option Value} (x : Fx K h mg) : PySem.W.kitOne K (.type "tuple") (.ref (He.ga K (clsName 2))) = some false := of_decide_eq_true (x.c.fact 60)
theorem Fx.ki_list_Station {K : PySem.W.Frag} {h : Heap} {mg : Str → Option Value} (x : Fx K h mg) : PySem.W.kitOne K (.type "list") (.ref (He.ga K (clsName 2))) = some false := of_decide_eq_true (x.c.fact 61)
theorem Fx.ki_NoneType_Station {K : PySem.W.Frag} {h : Heap} {mg : Str → Option Value} (x : Fx K h mg) : PySem.W.kitOne K (.type "NoneType") (.ref (He.ga K (clsName 2))) = some false := of_decide_eq_true (x.c.fact 62)
theorem Fx.ki_Station_Station {K : PySem.W.Frag} {h : Heap} {mg : Str → Option Value} (x : Fx K h mg) : PySem.W.kitOne K (.ref (He.ga K (clsName 2))) (.ref (He.ga K (clsName 2))) = some true := of_decide_eq_true (x.c.fact 63)
theorem Fx.ki_Link_Station {K : PySem.W.Frag} {h : Heap} {mg : Str → Option Value} (x : Fx K h mg) : PySem.W.kitOne K (.ref (He.ga K (clsName 3))) (.ref (He.ga K (clsName 2))) = some false := of_decide_eq_true (x.c.fact 64)
theorem Fx.nf_Station_int {K : PySem.W.Frag} {h : Heap} {mg : Str → Option Value} (x : Fx K h mg) : PySem.W.notFirst K (He.ga K (clsName 2)) (.type "int") = true := of_decide_eq_true (x.c.fact 65)
theorem Fx.fe_Station_Stationx_eqx {K : PySem.W.Frag} {h : Heap} {mg : Str → Option Value} (x : Fx K h mg) : PySem.W.findIn K (.ref (He.ga K (clsName 2))) "__eq__" = some (some (.ref (d_Stationx_eqx.at_ K))) := of_decide_eq_true (x.c.fact 66)
theorem Fx.fn_Station {K : PySem.W.Frag} {h : Heap} {mg : Str → Option Value} (x : Fx K h mg) : PySem.W.findIn K (.ref (He.ga K (clsName 2))) "__ne__" = some (some (.builtin "object.__ne__")) := of_decide_eq_true (x.c.fact 67)
theorem Fx.nf_Station_bool {K : PySem.W.Frag} {h : Heap} {mg : Str → Option Value} (x : Fx K h mg) : PySem.W.notFirst K (He.ga K (clsName 2)) (.type "bool") = true := of_decide_eq_true (x.c.fact 68)
theorem Fx.nf_Station_str {K : PySem.W.Frag} {h : Heap} {mg : Str → Option Value} (x : Fx K h mg) : PySem.W.notFirst K (He.ga K (clsName 2)) (.type "str") = true := of_decide_eq_true (x.c.fact 69)
theorem Fx.nf_Station_tuple {K : PySem.W.Frag} {h : Heap} {mg : Str → Option Value} (x : Fx K h mg) : PySem.W.notFirst K (He.ga K (clsName 2)) (.type "tuple") = true := of_decide_eq_true (x.c.fact 70)
theorem Fx.nf_Station_list {K : PySem.W.Frag} {h : Heap} {mg : Str → Option Value} (x : Fx K h mg) : PySem.W.notFirst K (He.ga K (clsName 2)) (.type "list") = true := of_decide_eq_true (x.c.fact 71)
theorem Fx.nf_Station_NoneType {K : PySem.W.Frag} {h : Heap} {mg : Str → Option Value} (x : Fx K h mg) : PySem.W.notFirst K (He.ga K (clsName 2)) (.type "NoneType") = true := of_decide_eq_true (x.c.fact 72)
theorem Fx.nf_Station_Station {K : PySem.W.Frag} {h : Heap} {mg : Str → Option Value} (x : Fx K h mg) : PySem.W.notFirst K (He.ga K (clsName 2)) (.ref (He.ga K (clsName 2))) = true := of_decide_eq_true (x.c.fact 73)
theorem Fx.nf_Station_Link {K : PySem.W.Frag} {h : Heap} {mg : Str → Option Value} (x : Fx K h mg) : PySem.W.notFirst K (He.ga K (clsName 2)) (.ref (He.ga K (clsName 3))) = true := of_decide_eq_true (x.c.fact 74)
theorem Fx.if_Stationx_eqx {K : PySem.W.Frag} {h : Heap} {mg : Str → Option Value} (x : Fx K h mg) : PySem.W.isFn K (.ref (d_Stationx_eqx.at_ K)) = true := of_decide_eq_true (x.c.fact 75)
theorem Fx.ki_int_Link {K : PySem.W.Frag} {h : Heap} {mg : Str → Option Value} (x : Fx K h mg) : PySem.W.kitOne K (.type "int") (.ref (He.ga K (clsName 3))) = some false := of_decide_eq_true (x.c.fact 76)
theorem Fx.ki_bool_Link {K : PySem.W.Frag} {h : Heap} {mg : Str → Option Value} (x : Fx K h mg) : PySem.W.kitOne K (.type "bool") (.ref (He.ga K (clsName 3))) = some false := of_decide_eq_true (x.c.fact 77)
theorem Fx.ki_str_Link {K : PySem.W.Frag} {h : Heap} {mg : Str → Option Value} (x : Fx K h mg) : PySem.W.kitOne K (.type "str") (.ref (He.ga K (clsName 3))) = some false := of_decide_eq_true (x.c.fact 78)
theorem Fx.ki_tuple_Link {K : PySem.W.Frag} {h : Heap} {mg : Str → Option Value} (x : Fx K h mg) : PySem.W.kitOne K (.type "tuple") (.ref (He.ga K (clsName 3))) = some false := of_decide_eq_true (x.c.fact 79)
theorem Fx.ki_list_Link {K : PySem.W.Frag} {h : Heap} {mg : Str → Option Value} (x : Fx K h mg) : PySem.W.kitOne K (.type "list") (.ref (He.ga K (clsName 3))) = some false := of_decide_eq_true (x.c.fact 80)
theorem Fx.ki_NoneType_Link {K : PySem.W.Frag} {h : Heap} {mg : Str → Option Value} (x : Fx K h mg) : PySem.W.kitOne K (.type "NoneType") (.ref (He.ga K (clsName 3))) = some false := of_decide_eq_true (x.c.fact 81)
theorem Fx.ki_Station_Link {K : PySem.W.Frag} {h : Heap} {mg : Str → Option Value} (x : Fx K h mg) : PySem.W.kitOne K (.ref (He.ga K (clsName 2))) (.ref (He.ga K (clsName 3))) = some false := of_decide_eq_true (x.c.fact 82)
theorem Fx.ki_Link_Link {K : PySem.W.Frag} {h : Heap} {mg : Str → Option Value} (x : Fx K h mg) : PySem.W.kitOne K (.ref (He.ga K (clsName 3))) (.ref (He.ga K (clsName 3))) = some true := of_decide_eq_true (x.c.fact 83)
theorem Fx.na_Link_sides {K : PySem.W.Frag} {h : Heap} {mg : Str → Option Value} (x : Fx K h mg) : NoAttr K (He.ga K (clsName 3)) "sides" := He.noat_ok (x.c.fact 84)
theorem Fx.nf_Link_int {K : PySem.W.Frag} {h : Heap} {mg : Str → Option Value} (x : Fx K h mg) : PySem.W.notFirst K (He.ga K (clsName 3)) (.type "int") = true := of_decide_eq_true (x.c.fact 85)
theorem Fx.fe_Link_Linkx_eqx {K : PySem.W.Frag} {h : Heap} {mg : Str → Option Value} (x : Fx K h mg) : PySem.W.findIn K (.ref (He.ga K (clsName 3))) "__eq__" = some (some (.ref (d_Linkx_eqx.at_ K))) := of_decide_eq_true (x.c.fact 86)
theorem Fx.fn_Link {K : PySem.W.Frag} {h : Heap} {mg : Str → Option Value} (x : Fx K h mg) : PySem.W.findIn K (.ref (He.ga K (clsName 3))) "__ne__" = some (some (.builtin "object.__ne__")) := of_decide_eq_true (x.c.fact 87)
theorem Fx.nf_Link_bool {K : PySem.W.Frag} {h : Heap} {mg : Str → Option Value} (x : Fx K h mg) : PySem.W.notFirst K (He.ga K (clsName 3)) (.type "bool") = true := of_decide_eq_true (x.c.fact 88)
theorem Fx.nf_Link_str {K : PySem.W.Frag} {h : Heap} {mg : Str → Option Value} (x : Fx K h mg) : PySem.W.notFirst K (He.ga K (clsName 3)) (.type "str") = true := of_decide_eq_true (x.c.fact 89)
theorem Fx.nf_Link_tuple {K : PySem.W.Frag} {h : Heap} {mg : Str → Option Value} (x : Fx K h mg) : PySem.W.notFirst K (He.ga K (clsName 3)) (.type "tuple") = true := of_decide_eq_true (x.c.fact 90)
theorem Fx.nf_Link_list {K : PySem.W.Frag} {h : Heap} {mg : Str → Option Value} (x : Fx K h mg) : PySem.W.notFirst K (He.ga K (clsName 3)) (.type "list") = true := of_decide_eq_true (x.c.fact 91)
theorem Fx.nf_Link_NoneType {K : PySem.W.Frag} {h : Heap} {mg : Str → Option Value} (x : Fx K h mg) : PySem.W.notFirst K (He.ga K (clsName 3)) (.type "NoneType") = true := of_decide_eq_true (x.c.fact 92)
theorem Fx.nf_Link_Station {K : PySem.W.Frag} {h : Heap} {mg : Str → Option Value} (x : Fx K h mg) : PySem.W.notFirst K (He.ga K (clsName 3)) (.ref (He.ga K (clsName 2))) = true := of_decide_eq_true (x.c.fact 93)
theorem Fx.nf_Link_Link {K : PySem.W.Frag} {h : Heap} {mg : Str → Option Value} (x : Fx K h mg) : PySem.W.notFirst K (He.ga K (clsName 3)) (.ref (He.ga K (clsName 3))) = true := of_decide_eq_true (x.c.fact 94)
theorem Fx.if_Linkx_eqx {K : PySem.W.Frag} {h : Heap} {mg : Str → Option Value} (x : Fx K h mg) : PySem.W.isFn K (.ref (d_Linkx_eqx.at_ K)) = true := of_decide_eq_true (x.c.fact 95)
theorem Fx.if_Stationx_strx {K : PySem.W.Frag} {h : Heap} {mg : Str → Option Value} (x : Fx K h mg) : PySem.W.isFn K (.ref (d_Stationx_strx.at_ K)) = true := of_decide_eq_true (x.c.fact 96)
theorem Fx.st_Station {K : PySem.W.Frag} {h : Heap} {mg : Str → Option Value} (x : Fx K h mg) : PySem.W.findIn K (.ref (He.ga K (clsName 2))) "__str__" = some (some (.ref (d_Stationx_strx.at_ K))) := of_decide_eq_true (x.c.fact 97)
theorem Fx.if_Linkx_strx {K : PySem.W.Frag} {h : Heap} {mg : Str → Option Value} (x : Fx K h mg) : PySem.W.isFn K (.ref (d_Linkx_strx.at_ K)) = true := of_decide_eq_true (x.c.fact 98)
theorem Fx.st_Link {K : PySem.W.Frag} {h : Heap} {mg : Str → Option Value} (x : Fx K h mg) : PySem.W.findIn K (.ref (He.ga K (clsName 3))) "__str__" = some (some (.ref (d_Linkx_strx.at_ K))) := of_decide_eq_true (x.c.fact 99)
theorem Fx.g_law_station_row {K : PySem.W.Frag} {h : Heap} {mg : Str → Option Value} (x : Fx K h mg) : mg "_law_station_row" = some (.ref (He.ga K "_law_station_row")) := He.glo_ok x.X x.G (x.c.fact 100)
theorem Fx.nb_Station {K : PySem.W.Frag} {h : Heap} {mg : Str → Option Value} (x : Fx K h mg) : PySem.W.findIn K (.ref (He.ga K (clsName 2))) "__bool__" = some none := of_decide_eq_true (x.c.fact 101)
theorem Fx.nl_Station {K : PySem.W.Frag} {h : Heap} {mg : Str → Option Value} (x : Fx K h mg) : PySem.W.findIn K (.ref (He.ga K (clsName 2))) "__len__" = some none := of_decide_eq_true (x.c.fact 102)
theorem Fx.nb_Link {K : PySem.W.Frag} {h : Heap} {mg : Str → Option Value} (x : Fx K h mg) : PySem.W.findIn K (.ref (He.ga K (clsName 3))) "__bool__" = some none := of_decide_eq_true (x.c.fact 103)
theorem Fx.nl_Link {K : PySem.W.Frag} {h : Heap} {mg : Str → Option Value} (x : Fx K h mg) : PySem.W.findIn K (.ref (He.ga K (clsName 3))) "__len__" = some none := of_decide_eq_true (x.c.fact 104)
theorem Fx.k_MOST_STOCK {K : PySem.W.Frag} {h : Heap} {mg : Str → Option Value} (x : Fx K h mg) : ∃ t, mg "MOST_STOCK" = some (.int 5 t) := He.int_ok x.X x.G (x.c.fact 105)
theorem Fx.mk_Link {K : PySem.W.Frag} {h : Heap} {mg : Str → Option Value} (x : Fx K h mg) : Mk K (He.ga K (clsName 3)) (d_Linkx_initx.at_ K) := He.mkr_ok (x.c.fact 106)
theorem Fx.g_law_station_right {K : PySem.W.Frag} {h : Heap} {mg : Str → Option Value} (x : Fx K h mg) : mg "_law_station_right" = some (.ref (He.ga K "_law_station_right")) := He.glo_ok x.X x.G (x.c.fact 107)
theorem Fx.pr_Link_source {K : PySem.W.Frag} {h : Heap} {mg : Str → Option Value} (x : Fx K h mg) : PropOf K (He.ga K (clsName 3)) "source" (He.ma K (He.ga K (clsName 3)) "source") (pGet K (He.ma K (He.ga K (clsName 3)) "source")) := propB_ok (x.c.fact 108)
theorem Fx.pr_Link_target {K : PySem.W.Frag} {h : Heap} {mg : Str → Option Value} (x : Fx K h mg) : PropOf K (He.ga K (clsName 3)) "target" (He.ma K (He.ga K (clsName 3)) "target") (pGet K (He.ma K (He.ga K (clsName 3)) "target")) := propB_ok (x.c.fact 109)
theorem Fx.pr_Link_stock {K : PySem.W.Frag} {h : Heap} {mg : Str → Option Value} (x : Fx K h mg) : PropOf K (He.ga K (clsName 3)) "stock" (He.ma K (He.ga K (clsName 3)) "stock") (pGet K (He.ma K (He.ga K (clsName 3)) "stock")) := propB_ok (x.c.fact 110)
theorem Fx.pr_Link_early {K : PySem.W.Frag} {h : Heap} {mg : Str → Option Value} (x : Fx K h mg) : PropOf K (He.ga K (clsName 3)) "early" (He.ma K (He.ga K (clsName 3)) "early") (pGet K (He.ma K (He.ga K (clsName 3)) "early")) := propB_ok (x.c.fact 111)
theorem Fx.g_law_link_row {K : PySem.W.Frag} {h : Heap} {mg : Str → Option Value} (x : Fx K h mg) : mg "_law_link_row" = some (.ref (He.ga K "_law_link_row")) := He.glo_ok x.X x.G (x.c.fact 112)
theorem Fx.g_law_link_right {K : PySem.W.Frag} {h : Heap} {mg : Str → Option Value} (x : Fx K h mg) : mg "_law_link_right" = some (.ref (He.ga K "_law_link_right")) := He.glo_ok x.X x.G (x.c.fact 113)
theorem Fx.g_law_turn {K : PySem.W.Frag} {h : Heap} {mg : Str → Option Value} (x : Fx K h mg) : mg "_law_turn" = some (.ref (He.ga K "_law_turn")) := He.glo_ok x.X x.G (x.c.fact 114)
theorem Fx.g_law {K : PySem.W.Frag} {h : Heap} {mg : Str → Option Value} (x : Fx K h mg) : mg "law" = some (.ref (He.ga K "law")) := He.glo_ok x.X x.G (x.c.fact 115)
variable {P : Program} {w : World} {K : PySem.W.Frag} {mg : Str → Option Value} {base h : Heap}
def m_law_cell : M Fl := sSeq (sIf (mB (m2 ltD (vR 1) (mCall lenD (aCons (vR 0) (aNil))))) (sRet (m2 ixD (vR 0) (vR 1))) (sNil)) (sSeq (sSet 2 (m2 addD (mPure (.int 71993)) (m2 mulD (mPure (.int 613)) (vR 1)))) (sSeq (sFor (mBind (mSl (vR 0) (mPure none) (mBind (mPure (.int 4)) fun d => mLift (asI d))) fun d => mLift (iterD d)) (gN 3) (sSet 2 (m2 modD (mCall intD (aCons (m2 addD (m2 mulD (vR 2) (mPure (.int 52361))) (vR 3)) (aNil))) (mPure (.int 2147483579))))) (sRet (vR 2))))
def F_law_cell : List D → Option D := runD 4 m_law_cell
theorem b_law_cell (x : Fx K h mg) : BodyX P w K mg base d_law_cell N_law_cell 0 m_law_cell := fun cdv A outer s H E hr hgd G => dss_cons (ds_if (dt_cmpD op_ltD (de_v 1 (pv 1)) (de_cB c_len rfl (x.f_len) rfl (da_cons (de_v 0 (pv 0)) (da_nil))) (nomark _)) (dss_one (ds_ret (de_ix (de_v 0 (pv 0)) (de_v 1 (pv 1))))) (dss_nil)) (dss_cons (ds_set 2 sc_law_cell.nd rfl (.inl rfl) (de_opD op_addD (de_int) (de_opD op_mulD (de_int) (de_v 1 (pv 1))))) (dss_cons (ds_for PassesOwn.never rfl (di_any (de_sl (de_v 0 (pv 0)) (do_none) (do_some (de_int)))) (dg_name 3 sc_law_cell.nd rfl (.inl rfl)) (dss_one (ds_set 2 sc_law_cell.nd rfl (.inl rfl) (de_opD op_modD (de_cT c_int rfl (x.f_int) rfl (da_cons (de_opD op_addD (de_opD op_mulD (de_v 2 (pv 2)) (de_int)) (de_v 3 (pv 3))) (da_nil))) (de_int))))) (dss_one (ds_ret (de_v 2 (pv 2))))))
theorem ok_law_cell (x : Fx K h mg) : Dn P w K mg base d_law_cell 1 P_law_cell (spD K mg 2 F_law_cell) := dnD (x.c.def_ 0 (d := d_law_cell)) sc_law_cell (b_law_cell x)
theorem bd_law_cell : Bds K d_law_cell P_law_cell := fun fd F => F.bindsN fun _ _ _ _ _ _ us hl => match us, hl with | [_, _], _ => rfl
def m_law_well : M Fl := sSeq (sSet 2 (mFn 2 0 (fun ds _ => ds) F_law_cell (aCons (vR 0) (aCons (vR 1) (aNil))) (aNil))) (sSeq (sSet 3 (mIf (mOr (mB (m2 ltD (vR 2) (mPure (.int 0)))) (mB (m2 geD (vR 2) (m2 powD (mPure (.int 10)) (mPure (.int 18)))))) (mCall absD (aCons (vR 2) (aNil))) (mPure (.int 0)))) (sRetF (mLst (aCons (m2 modD (mCall intD (aCons (m2 addD (m2 mulD (vR 2) (mPure (.int 69621))) (mPure (.int 40014))) (aNil))) (mPure (.int 2147483579))) (aCons (vR 3) (aCons (mPure (.int 0)) (aNil)))))))
def F_law_well : List D → Option (List D) := runF 4 m_law_well
theorem b_law_well (x : Fx K h mg) : BodyX P w K mg base d_law_well N_law_well 1 m_law_well := fun cdv A outer s H E hr hgd G => dss_cons (ds_set 2 sc_law_well.nd rfl (.inl rfl) (dcall (d := d_law_cell) (ok_law_cell x) (KBs.all bd_law_cell) hr hgd (x.g_law_cell) rfl (da_cons (de_v 0 (pv 0)) (da_cons (de_v 1 (pv 1)) (da_nil))) (dk_nil))) (dss_cons (ds_set 3 sc_law_well.nd rfl (.inl rfl) (de_if (DW.dt (dw_or (dt_cmpD op_ltD (de_v 2 (pv 2)) (de_int) (nomark _)) (dw_or1 (dt_cmpD op_geD (de_v 2 (pv 2)) (de_opD op_powD (de_int) (de_int)) (nomark _))))) (de_cB c_abs rfl (x.f_abs) rfl (da_cons (de_v 2 (pv 2)) (da_nil))) (de_int))) (dss_one (ds_retF (df_lst (da_cons (de_opD op_modD (de_cT c_int rfl (x.f_int) rfl (da_cons (de_opD op_addD (de_opD op_mulD (de_v 2 (pv 2)) (de_int)) (de_int)) (da_nil))) (de_int)) (da_cons (de_v 3 (pv 3)) (da_cons (de_int) (da_nil))))))))
theorem ok_law_well (x : Fx K h mg) : Dn P w K mg base d_law_well 2 P_law_well (spF K mg 2 F_law_well) := dnF (x.c.def_ 1 (d := d_law_well)) sc_law_well (b_law_well x)
theorem bd_law_well : Bds K d_law_well P_law_well := fun fd F => F.bindsN fun _ _ _ _ _ _ us hl => match us, hl with | [_, _], _ => rfl
def m_law_draw : M Fl := sSeq (sSetItem 0 (mPure (.int 2)) (m2 addD (bor (m2 ixD (vR 0) (mPure (.int 2)))) (mPure (.int 1)))) (sSeq (sSetItem 0 (mPure (.int 0)) (m2 modD (mCall intD (aCons (m2 addD (m2 addD (m2 powD (bor (m2 ixD (vR 0) (mPure (.int 0)))) (mPure (.int 3))) (m2 mulD (mPure (.int 91997)) (bor (m2 ixD (vR 0) (mPure (.int 2)))))) (mPure (.int 17))) (aNil))) (mPure (.int 2147483579)))) (sSeq (sIf (mB (m2 gtD (bor (m2 ixD (vR 0) (mPure (.int 1)))) (mPure (.int 0)))) (sSeq (sSet 2 (m2 modD (mCall intD (aCons (bor (m2 ixD (vR 0) (mPure (.int 1)))) (aNil))) (vR 1))) (sSeq (sSetItem 0 (mPure (.int 1)) (m2 fdivD (mCall intD (aCons (bor (m2 ixD (vR 0) (mPure (.int 1)))) (aNil))) (vR 1))) (sRet (vR 2)))) (sNil)) (sRet (m2 modD (mCall intD (aCons (m2 fdivD (bor (m2 ixD (vR 0) (mPure (.int 0)))) (mPure (.int 64))) (aNil))) (vR 1)))))
def F_law_draw : List D → List D → Option (D × List D) := runW 3 m_law_draw
theorem b_law_draw (x : Fx K h mg) : BodyX P w K mg base d_law_draw N_law_draw 0 m_law_draw := fun cdv A outer s H E hr hgd G => dss_cons (ds_setItem 0 (pv 0) (de_int) (de_opD op_addD (de_bor (fun _ => de_ix (de_v 0 (pv 0)) (de_int))) (de_int))) (dss_cons (ds_setItem 0 (pv 0) (de_int) (de_opD op_modD (de_cT c_int rfl (x.f_int) rfl (da_cons (de_opD op_addD (de_opD op_addD (de_opD op_powD (de_bor (fun _ => de_ix (de_v 0 (pv 0)) (de_int))) (de_int)) (de_opD op_mulD (de_int) (de_bor (fun _ => de_ix (de_v 0 (pv 0)) (de_int))))) (de_int)) (da_nil))) (de_int))) (dss_cons (ds_if (dt_cmpD op_gtD (de_bor (fun _ => de_ix (de_v 0 (pv 0)) (de_int))) (de_int) (nomark _)) (dss_cons (ds_set 2 sc_law_draw.nd rfl (.inl rfl) (de_opD op_modD (de_cT c_int rfl (x.f_int) rfl (da_cons (de_bor (fun _ => de_ix (de_v 0 (pv 0)) (de_int))) (da_nil))) (de_v 1 (pv 1)))) (dss_cons (ds_setItem 0 (pv 0) (de_int) (de_opD op_fdivD (de_cT c_int rfl (x.f_int) rfl (da_cons (de_bor (fun _ => de_ix (de_v 0 (pv 0)) (de_int))) (da_nil))) (de_v 1 (pv 1)))) (dss_one (ds_ret (de_v 2 (pv 2)))))) (dss_nil)) (dss_one (ds_ret (de_opD op_modD (de_cT c_int rfl (x.f_int) rfl (da_cons (de_opD op_fdivD (de_bor (fun _ => de_ix (de_v 0 (pv 0)) (de_int))) (de_int)) (da_nil))) (de_v 1 (pv 1)))))))
theorem ok_law_draw (x : Fx K h mg) : Dn P w K mg base d_law_draw 1 P_law_draw (spW K mg 2 F_law_draw) := dnW (x.c.def_ 2 (d := d_law_draw)) sc_law_draw (b_law_draw x)
theorem bd_law_draw : Bds K d_law_draw P_law_draw := fun fd F => F.bindsN fun _ _ _ _ _ _ us hl => match us, hl with | [_, _], _ => rfl
def m_law_mate : M Fl := sSeq (sPar 2 3 (aCons (m2 ixD (mPure (.str "abcdefghijklmnopqrstuvwxyz")) (mFnW 0 2 F_law_draw (aCons (mPure (.int 26)) (aNil)))) (aCons (mFnW 0 2 F_law_draw (aCons (mCall lenD (aCons (vR 1) (aNil))) (aNil))) (aNil)))) (sSeq (sIf (mB (m2 (eqD false) (mFnW 0 2 F_law_draw (aCons (mPure (.int 2)) (aNil))) (mPure (.int 0)))) (sRet (mSl (m2 addD (vR 1) (vR 2)) (mPure none) (mBind (mPure (.int 8)) fun d => mLift (asI d)))) (sNil)) (sRet (m2 addD (m2 addD (mSl (vR 1) (mPure none) (mBind (vR 3) fun d => mLift (asI d))) (vR 2)) (mSl (vR 1) (mBind (m2 addD (vR 3) (mPure (.int 1))) fun d => mLift (asI d)) (mPure none)))))
def F_law_mate : List D → List D → Option (D × List D) := runW 4 m_law_mate
theorem b_law_mate (x : Fx K h mg) : BodyX P w K mg base d_law_mate N_law_mate 1 m_law_mate := fun cdv A outer s H E hr hgd G => dss_cons (ds_par 2 3 rfl sc_law_mate.nd rfl rfl (by decide) rfl rfl (da_cons (de_ix (de_str) (dcallW (d := d_law_draw) 0 (pv 0) (ok_law_draw x) bd_law_draw hr hgd (x.g_law_draw) rfl (da_cons (de_int) (da_nil)))) (da_cons (dcallW (d := d_law_draw) 0 (pv 0) (ok_law_draw x) bd_law_draw hr hgd (x.g_law_draw) rfl (da_cons (de_cB c_len rfl (x.f_len) rfl (da_cons (de_v 1 (pv 1)) (da_nil))) (da_nil))) (da_nil))) (by rfl)) (dss_cons (ds_if (dt_cmpD (op_eqDD hr) (dcallW (d := d_law_draw) 0 (pv 0) (ok_law_draw x) bd_law_draw hr hgd (x.g_law_draw) rfl (da_cons (de_int) (da_nil))) (de_int) (nomark _)) (dss_one (ds_ret (de_sl (de_opD op_addD (de_v 1 (pv 1)) (de_v 2 (pv 2))) (do_none) (do_some (de_int))))) (dss_nil)) (dss_one (ds_ret (de_opD op_addD (de_opD op_addD (de_sl (de_v 1 (pv 1)) (do_none) (do_some (de_v 3 (pv 3)))) (de_v 2 (pv 2))) (de_sl (de_v 1 (pv 1)) (do_some (de_opD op_addD (de_v 3 (pv 3)) (de_int))) (do_none))))))
theorem ok_law_mate (x : Fx K h mg) : Dn P w K mg base d_law_mate 2 P_law_mate (spW K mg 2 F_law_mate) := dnW (x.c.def_ 3 (d := d_law_mate)) sc_law_mate (b_law_mate x)
theorem bd_law_mate : Bds K d_law_mate P_law_mate := fun fd F => F.bindsN fun _ _ _ _ _ _ us hl => match us, hl with | [_, _], _ => rfl
def m_law_name : M Fl := sSeq (sSet 1 (mPure (.str "abcdefghijklmnopqrstuvwxyz"))) (sSeq (sSet 2 (m2 addD (vR 1) (mPure (.str "0123456789")))) (sSeq (sPar 3 4 (aCons (m2 ixD (vR 1) (mFnW 0 2 F_law_draw (aCons (mPure (.int 26)) (aNil)))) (aCons (mFnW 0 2 F_law_draw (aCons (mPure (.int 8)) (aNil))) (aNil)))) (sRet (m2 addD (vR 3) (mJoin (mPure (.str "")) (mBind (mLc (mBind (aCons (vR 4) (aNil)) fun l => mLift (rng1 l)) (gN 5) (mPure true) (m2 ixD (vR 2) (mFnW 0 2 F_law_draw (aCons (mPure (.int 36)) (aNil)))) [5]) fun l => mPure (.lst l)))))))
def F_law_name : List D → List D → Option (D × List D) := runW 6 m_law_name
theorem b_law_name (x : Fx K h mg) : BodyX P w K mg base d_law_name N_law_name 1 m_law_name := fun cdv A outer s H E hr hgd G => dss_cons (ds_set 1 sc_law_name.nd rfl (.inl rfl) (de_str)) (dss_cons (ds_set 2 sc_law_name.nd rfl (.inr rfl) (de_opD op_addD (de_v 1 (pv 1)) (de_str))) (dss_cons (ds_par 3 4 rfl sc_law_name.nd rfl rfl (by decide) rfl rfl (da_cons (de_ix (de_v 1 (pv 1)) (dcallW (d := d_law_draw) 0 (pv 0) (ok_law_draw x) bd_law_draw hr hgd (x.g_law_draw) rfl (da_cons (de_int) (da_nil)))) (da_cons (dcallW (d := d_law_draw) 0 (pv 0) (ok_law_draw x) bd_law_draw hr hgd (x.g_law_draw) rfl (da_cons (de_int) (da_nil))) (da_nil))) (by rfl)) (dss_one (ds_ret (de_opD op_addD (de_v 3 (pv 3)) (de_joinD (de_str) (DF.de (df_lc (own := [("_law_k", 5)]) rfl sc_law_name.nd (di_range1 rfl (x.f_range) (da_cons (de_v 4 (pv 4)) (da_nil))) (blkOk_by (own := [("_law_k", 5)]) (N := N_law_name) (sc := d_law_name.scope) (by decide +kernel)) (by decide) (fun _ _ _ _ _ _ => dg_name 5 sc_law_name.nd rfl (.inl rfl)) (fun _ _ _ _ _ _ => dts_nil) (fun _ _ _ _ _ _ => de_ix (de_v 2 (pv 2)) (dcallW (d := d_law_draw) 0 (pv 0) (ok_law_draw x) bd_law_draw hr hgd (x.g_law_draw) rfl (da_cons (de_int) (da_nil))))))))))))
theorem ok_law_name (x : Fx K h mg) : Dn P w K mg base d_law_name 2 P_law_name (spW K mg 1 F_law_name) := dnW (x.c.def_ 4 (d := d_law_name)) sc_law_name (b_law_name x)
theorem bd_law_name : Bds K d_law_name P_law_name := fun fd F => F.bindsN fun _ _ _ _ _ _ us hl => match us, hl with | [_], _ => rfl
def m_law_names : M Fl := sSeq (sOwn 2 (mLst (aNil))) (sSeq (sFor (mBind (aCons (vR 1) (aNil)) fun l => mLift (rng1 l)) (gN 3) (sSeq (sSet 4 (mFnW 0 2 F_law_draw (aCons (mPure (.int 3)) (aNil)))) (sSeq (sSet 5 (mIf (mAnd (mB (m2 (eqD false) (vR 4) (mPure (.int 0)))) (mB (m2 gtD (vR 3) (mPure (.int 0))))) (mFnW 0 2 F_law_mate (aCons (bor (m2 ixD (vR 2) (m1 negD (mPure (.int 1))))) (aNil))) (mFnW 0 1 F_law_name (aNil)))) (sSeq (sIf (borT (mB (m2 (inD false) (vR 5) (vR 2)))) (sSet 5 (m2 ixD (mBind (mLc (mBind (mBind (mLc (mBind (aCons (mPure (.int 10)) (aNil)) fun l => mLift (rng1 l)) (gN 6) (mPure true) (m2 addD (mPure (.str "q")) (mCall strD (aCons (vR 6) (aNil)))) [6]) fun l => mPure (.lst l)) fun d => mLift (iterD d)) (gN 7) (borT (mB (m2 (inD true) (vR 7) (vR 2)))) (vR 7) [7]) fun l => mPure (.lst l)) (mPure (.int 0)))) (sNil)) (sAppend 2 (vR 5)))))) (frz 2 (sRet (vR 2))))
def F_law_names : List D → List D → Option (D × List D) := runW 8 m_law_names
theorem b_law_names (x : Fx K h mg) : BodyX P w K mg base d_law_names N_law_names 2 m_law_names := fun cdv A outer s H E hr hgd G => dss_cons (ds_own 2 (by decide) sc_law_names.nd rfl (.inr rfl) (df_lst (da_nil))) (dss_cons (ds_for PassesOwn.never rfl (di_range1 rfl (x.f_range) (da_cons (de_v 1 (pv 1)) (da_nil))) (dg_name 3 sc_law_names.nd rfl (.inl rfl)) (dss_cons (ds_set 4 sc_law_names.nd rfl (.inl rfl) (dcallW (d := d_law_draw) 0 (pv 0) (ok_law_draw x) bd_law_draw hr hgd (x.g_law_draw) rfl (da_cons (de_int) (da_nil)))) (dss_cons (ds_set 5 sc_law_names.nd rfl (.inl rfl) (de_if (DW.dt (dw_and (dt_cmpD (op_eqDD hr) (de_v 4 (pv 4)) (de_int) (nomark _)) (dw_and1 (dt_cmpD op_gtD (de_v 3 (pv 3)) (de_int) (nomark _))))) (dcallW (d := d_law_mate) 0 (pv 0) (ok_law_mate x) bd_law_mate hr hgd (x.g_law_mate) rfl (da_cons (de_bor (fun _ => de_ix (de_v 2 (pv 2)) (de_neg (de_int)))) (da_nil))) (dcallW (d := d_law_name) 0 (pv 0) (ok_law_name x) bd_law_name hr hgd (x.g_law_name) rfl (da_nil)))) (dss_cons (ds_if (dt_bor (fun _ => dt_cmpD op_inDD (de_v 5 (pv 5)) (de_v 2 (pv 2)) rfl)) (dss_one (ds_set 5 sc_law_names.nd rfl (.inl rfl) (de_ix (DF.de (df_lc (own := [("_law_word", 7)]) rfl sc_law_names.nd (di_any (DF.de (df_lc (own := [("_law_j", 6)]) rfl sc_law_names.nd (di_range1 rfl (x.f_range) (da_cons (de_int) (da_nil))) (blkOk_by (own := [("_law_j", 6)]) (N := N_law_names) (sc := d_law_names.scope) (by decide +kernel)) (by decide) (fun _ _ _ _ _ _ => dg_name 6 sc_law_names.nd rfl (.inl rfl)) (fun _ _ _ _ _ _ => dts_nil) (fun _ _ _ _ _ _ => de_opD op_addD (de_str) (de_cT c_str rfl (x.f_str) rfl (da_cons (de_v 6 (pv 6)) (da_nil))))))) (blkOk_by (own := [("_law_word", 7)]) (N := N_law_names) (sc := d_law_names.scope) (by decide +kernel)) (by decide) (fun _ _ _ _ _ _ => dg_name 7 sc_law_names.nd rfl (.inl rfl)) (fun _ _ _ _ _ _ => dts_one (dt_bor (fun _ => dt_cmpD op_notInDD (de_v 7 (pv 7)) (de_v 2 (pv 2)) rfl))) (fun _ _ _ _ _ _ => de_v 7 (pv 7)))) (de_int)))) (dss_nil)) (dss_one (ds_app 2 (pv 2) (de_v 5 (pv 5)))))))) (dss_one (ds_frz 2 (ds_ret (de_v 2 (pv 2))))))
theorem ok_law_names (x : Fx K h mg) : Dn P w K mg base d_law_names 3 P_law_names (spW K mg 2 F_law_names) := dnW (x.c.def_ 5 (d := d_law_names)) sc_law_names (b_law_names x)
theorem bd_law_names : Bds K d_law_names P_law_names := fun fd F => F.bindsN fun _ _ _ _ _ _ us hl => match us, hl with | [_, _], _ => rfl
def ti_str : List (Tg × Bool) := [(.ty "int", false), (.ty "bool", false), (.ty "str", true), (.ty "tuple", false), (.ty "list", false), (.ty "NoneType", false), (.cl 2, false), (.cl 3, false)]
theorem tk_str (x : Fx K h mg) : ∀ p ∈ ti_str, TagOk K mg (.type "str") p := by
  intro p hp
  simp only [ti_str, List.mem_cons, List.not_mem_nil, or_false] at hp
  rcases hp with rfl | rfl | rfl | rfl | rfl | rfl | rfl | rfl
  · exact (x.ki_int_str)
  · exact (x.ki_bool_str)
  · exact (x.ki_str_str)
  · exact (x.ki_tuple_str)
  · exact (x.ki_list_str)
  · exact (x.ki_NoneType_str)
  · exact ⟨_, (x.c_Station), (x.ki_Station_str)⟩
  · exact ⟨_, (x.c_Link), (x.ki_Link_str)⟩
def m_is_name : M Fl := sSeq (sIf (mOr (mNot (mTru (m1 (isiD ti_str) (vR 0)))) (mOr (mNot (mB (mCh leD leD (mPure (.int 1)) (mCall lenD (aCons (vR 0) (aNil))) (mPure (.int 8))))) (mB (m2 (inD true) (m2 ixD (vR 0) (mPure (.int 0))) (mPure (.str "abcdefghijklmnopqrstuvwxyz")))))) (sRet (mPure (.bl false))) (sNil)) (sRet (mCall allD (aCons (mBind (mLc (mBind (vR 0) fun d => mLift (iterD d)) (gN 1) (mPure true) (m2 (inD false) (vR 1) (m2 addD (mPure (.str "abcdefghijklmnopqrstuvwxyz")) (mPure (.str "0123456789")))) [1]) fun l => mPure (.lst l)) (aNil))))
def F_is_name : List D → Option D := runD 2 m_is_name
theorem b_is_name (x : Fx K h mg) : BodyX P w K mg base d_is_name N_is_name 0 m_is_name := fun cdv A outer s H E hr hgd G => dss_cons (ds_if (DW.dt (dw_or (dt_not (dt_of (de_isi rfl (x.f_isinstance) (de_v 0 (pv 0)) (pe_bltn (v := .ty "str") rfl (x.f_str) rfl rfl) (.ty "str") (tk_str x)))) (dw_or (dt_not (dt_chainD op_leD op_leD (de_int) (de_cB c_len rfl (x.f_len) rfl (da_cons (de_v 0 (pv 0)) (da_nil))) (de_gi rfl (x.k_MOST_SIGNS)))) (dw_or1 (dt_cmpD op_notInDD (de_ix (de_v 0 (pv 0)) (de_int)) (de_gs rfl (x.k_LETTERS)) rfl))))) (dss_one (ds_ret (de_bl))) (dss_nil)) (dss_one (ds_ret (de_cB (c_all rfl) rfl (x.f_all) rfl (da_cons (DF.de (df_lc (own := [("sign", 1)]) rfl sc_is_name.nd (di_any (de_v 0 (pv 0))) (blkOk_by (own := [("sign", 1)]) (N := N_is_name) (sc := d_is_name.scope) (by decide +kernel)) (by decide) (fun _ _ _ _ _ _ => dg_name 1 sc_is_name.nd rfl (.inl rfl)) (fun _ _ _ _ _ _ => dts_nil) (fun _ _ _ _ _ _ => de_cmpD op_inDD (de_v 1 (pv 1)) (de_opD op_addD (de_gs rfl (x.k_LETTERS)) (de_gs rfl (x.k_DIGITS))) rfl))) (da_nil)))))
theorem ok_is_name (x : Fx K h mg) : Dn P w K mg base d_is_name 1 P_is_name (spD K mg 1 F_is_name) := dnD (x.c.def_ 6 (d := d_is_name)) sc_is_name (b_is_name x)
theorem bd_is_name : Bds K d_is_name P_is_name := fun fd F => F.bindsN fun _ _ _ _ _ _ us hl => match us, hl with | [_], _ => rfl
def m_check_name : M Fl := sIf (mNot (mTru (mFn 1 0 (fun ds _ => ds) F_is_name (aCons (vR 0) (aNil)) (aNil)))) (sNo) (sNil)
def F_check_name : List D → Option D := runD 1 m_check_name
theorem b_check_name (x : Fx K h mg) : BodyX P w K mg base d_check_name N_check_name 1 m_check_name := fun cdv A outer s H E hr hgd G => dss_one (ds_if (dt_not (dt_of (dcall (d := d_is_name) (ok_is_name x) (KBs.all bd_is_name) hr hgd (x.g_is_name) rfl (da_cons (de_v 0 (pv 0)) (da_nil)) (dk_nil)))) (dss_one (ds_no)) (dss_nil))
theorem ok_check_name (x : Fx K h mg) : Dn P w K mg base d_check_name 2 P_check_name (spD K mg 1 F_check_name) := dnD (x.c.def_ 7 (d := d_check_name)) sc_check_name (b_check_name x)
theorem bd_check_name : Bds K d_check_name P_check_name := fun fd F => F.bindsN fun _ _ _ _ _ _ us hl => match us, hl with | [_], _ => rfl
def ti_int : List (Tg × Bool) := [(.ty "int", true), (.ty "bool", true), (.ty "str", false), (.ty "tuple", false), (.ty "list", false), (.ty "NoneType", false), (.cl 2, false), (.cl 3, false)]
theorem tk_int (x : Fx K h mg) : ∀ p ∈ ti_int, TagOk K mg (.type "int") p := by
  intro p hp
  simp only [ti_int, List.mem_cons, List.not_mem_nil, or_false] at hp
  rcases hp with rfl | rfl | rfl | rfl | rfl | rfl | rfl | rfl
  · exact (x.ki_int_int)
  · exact (x.ki_bool_int)
  · exact (x.ki_str_int)
  · exact (x.ki_tuple_int)
  · exact (x.ki_list_int)
  · exact (x.ki_NoneType_int)
  · exact ⟨_, (x.c_Station), (x.ki_Station_int)⟩
  · exact ⟨_, (x.c_Link), (x.ki_Link_int)⟩
def ti_bool : List (Tg × Bool) := [(.ty "int", false), (.ty "bool", true), (.ty "str", false), (.ty "tuple", false), (.ty "list", false), (.ty "NoneType", false), (.cl 2, false), (.cl 3, false)]
theorem tk_bool (x : Fx K h mg) : ∀ p ∈ ti_bool, TagOk K mg (.type "bool") p := by
  intro p hp
  simp only [ti_bool, List.mem_cons, List.not_mem_nil, or_false] at hp
  rcases hp with rfl | rfl | rfl | rfl | rfl | rfl | rfl | rfl
  · exact (x.ki_int_bool)
  · exact (x.ki_bool_bool)
  · exact (x.ki_str_bool)
  · exact (x.ki_tuple_bool)
  · exact (x.ki_list_bool)
  · exact (x.ki_NoneType_bool)
  · exact ⟨_, (x.c_Station), (x.ki_Station_bool)⟩
  · exact ⟨_, (x.c_Link), (x.ki_Link_bool)⟩
def m_is_integer : M Fl := sRet (mAndV (m1 (isiD ti_int) (vR 0)) (mNotV (m1 (isiD ti_bool) (vR 0))))
def F_is_integer : List D → Option D := runD 1 m_is_integer
theorem b_is_integer (x : Fx K h mg) : BodyX P w K mg base d_is_integer N_is_integer 0 m_is_integer := fun cdv A outer s H E hr hgd G => dss_one (ds_ret (de_and (de_isi rfl (x.f_isinstance) (de_v 0 (pv 0)) (pe_bltn (v := .ty "int") rfl (x.f_int) rfl rfl) (.ty "int") (tk_int x)) (de_one (de_not (de_isi rfl (x.f_isinstance) (de_v 0 (pv 0)) (pe_bltn (v := .ty "bool") rfl (x.f_bool) rfl rfl) (.ty "bool") (tk_bool x))))))
theorem ok_is_integer (x : Fx K h mg) : Dn P w K mg base d_is_integer 1 P_is_integer (spD K mg 1 F_is_integer) := dnD (x.c.def_ 8 (d := d_is_integer)) sc_is_integer (b_is_integer x)
theorem bd_is_integer : Bds K d_is_integer P_is_integer := fun fd F => F.bindsN fun _ _ _ _ _ _ us hl => match us, hl with | [_], _ => rfl
def m_check_flag : M Fl := sIf (mNot (mTru (m1 (isiD ti_bool) (vR 0)))) (sNo) (sNil)
def F_check_flag : List D → Option D := runD 1 m_check_flag
theorem b_check_flag (x : Fx K h mg) : BodyX P w K mg base d_check_flag N_check_flag 0 m_check_flag := fun cdv A outer s H E hr hgd G => dss_one (ds_if (dt_not (dt_of (de_isi rfl (x.f_isinstance) (de_v 0 (pv 0)) (pe_bltn (v := .ty "bool") rfl (x.f_bool) rfl rfl) (.ty "bool") (tk_bool x)))) (dss_one (ds_no)) (dss_nil))
theorem ok_check_flag (x : Fx K h mg) : Dn P w K mg base d_check_flag 1 P_check_flag (spD K mg 1 F_check_flag) := dnD (x.c.def_ 9 (d := d_check_flag)) sc_check_flag (b_check_flag x)
theorem bd_check_flag : Bds K d_check_flag P_check_flag := fun fd F => F.bindsN fun _ _ _ _ _ _ us hl => match us, hl with | [_], _ => rfl
def m_Stationx_initx : M Fl := sSeq (sExpr (mFn 1 0 (fun ds _ => ds) F_check_name (aCons (vR 1) (aNil)) (aNil))) (sSeq (sIf (mAnd (mB (m2 (isD true) (vR 2) (mPure .non))) (mOr (mNot (mTru (mFn 1 0 (fun ds _ => ds) F_is_integer (aCons (vR 2) (aNil)) (aNil)))) (mNot (mB (mCh leD leD (mPure (.int 1)) (vR 2) (mPure (.int 4))))))) (sNo) (sNil)) (sSeq (sExpr (mFn 1 0 (fun ds _ => ds) F_check_flag (aCons (vR 3) (aNil)) (aNil))) (sSetFs 0 "sides" [2] (mTup (aCons (vR 1) (aCons (vR 2) (aCons (vR 3) (aNil))))))))
def F_Stationx_initx : List D → Option (List D) := runI 4 2 m_Stationx_initx
theorem b_Stationx_initx (x : Fx K h mg) : BodyX P w K mg base d_Stationx_initx N_Stationx_initx 2 m_Stationx_initx := fun cdv A outer s H E hr hgd G => dss_cons (ds_expr (dcall (d := d_check_name) (ok_check_name x) (KBs.all bd_check_name) hr hgd (x.g_check_name) rfl (da_cons (de_v 1 (pv 1)) (da_nil)) (dk_nil))) (dss_cons (ds_if (DW.dt (dw_and (dt_cmpD op_notD (de_v 2 (pv 2)) (de_non) (nomark _)) (dw_and1 (DW.dt (dw_or (dt_not (dt_of (dcall (d := d_is_integer) (ok_is_integer x) (KBs.all bd_is_integer) hr hgd (x.g_is_integer) rfl (da_cons (de_v 2 (pv 2)) (da_nil)) (dk_nil)))) (dw_or1 (dt_not (dt_chainD op_leD op_leD (de_int) (de_v 2 (pv 2)) (de_gi rfl (x.k_MOST_HANDS)))))))))) (dss_one (ds_no)) (dss_nil)) (dss_cons (ds_expr (dcall (d := d_check_flag) (ok_check_flag x) (KBs.all bd_check_flag) hr hgd (x.g_check_flag) rfl (da_cons (de_v 3 (pv 3)) (da_nil)) (dk_nil))) (dss_one (ds_setFs (cs := [2]) 0 (pv 0) (de_tup (da_cons (de_v 1 (pv 1)) (da_cons (de_v 2 (pv 2)) (da_cons (de_v 3 (pv 3)) (da_nil))))) (by intro c hc; simp only [List.mem_cons, List.not_mem_nil, or_false] at hc; rcases hc with rfl <;> first | exact ⟨_, (x.c_Station), (x.na_Station_sides)⟩)))))
theorem ok_Stationx_initx (x : Fx K h mg) : Dn P w K mg base d_Stationx_initx 3 P_Stationx_initx (spI K mg 4 2 F_Stationx_initx) := dnI (x.c.def_ 10 (d := d_Stationx_initx)) sc_Stationx_initx (b_Stationx_initx x)
theorem kb_Stationx_initx_2_timed : KIs K mg d_Stationx_initx P_Stationx_initx 2 ["timed"] (fun ds es => pick [.p 0, .p 1, .k 0] ds [(.int 1)] [] es) := fun fd F => by
  obtain ⟨its, mv, h⟩ := F.kbinds (ps := P_Stationx_initx) 3 ["timed"] [] (fun us its mv ws => pick (.p 0 :: ([.p 0, .p 1, .k 0] : List Src).map Src.up) us its mv ws) (by decide) (by decide) (by decide) (fun a b c d => pick_vals a b c d _) (fun _ _ _ _ _ _ _ us its mv ws h1 h2 h3 h4 => match us, its, mv, ws, h1, h2, h3, h4 with | [_, _, _], [_], [], [_], _, _, _, _ => ⟨_, rfl, rfl⟩)
  exact KI.of (src := [.p 0, .p 1, .k 0]) (dd := [(.int 1)]) (md := []) h (by decide) (by decide) (by decide)
theorem kb_Stationx_initx_0_timed_hands_name : KIs K mg d_Stationx_initx P_Stationx_initx 0 ["timed", "hands", "name"] (fun ds es => pick [.k 2, .k 1, .k 0] ds [(.int 1)] [] es) := fun fd F => by
  obtain ⟨its, mv, h⟩ := F.kbinds (ps := P_Stationx_initx) 1 ["timed", "hands", "name"] [] (fun us its mv ws => pick (.p 0 :: ([.k 2, .k 1, .k 0] : List Src).map Src.up) us its mv ws) (by decide) (by decide) (by decide) (fun a b c d => pick_vals a b c d _) (fun _ _ _ _ _ _ _ us its mv ws h1 h2 h3 h4 => match us, its, mv, ws, h1, h2, h3, h4 with | [_], [_], [], [_, _, _], _, _, _, _ => ⟨_, rfl, rfl⟩)
  exact KI.of (src := [.k 2, .k 1, .k 0]) (dd := [(.int 1)]) (md := []) h (by decide) (by decide) (by decide)
def m_Station_name : M Fl := sRet (m2 ixD (m1 (fldD [2]) (vR 0)) (mPure (.int 0)))
def F_Station_name : List D → Option D := runD 1 m_Station_name
theorem b_Station_name (x : Fx K h mg) : BodyX P w K mg base d_Station_name N_Station_name 0 m_Station_name := fun cdv A outer s H E hr hgd G => dss_one (ds_ret (de_ix (de_fld (cs := [2]) (de_v 0 (pv 0)) (by intro c hc; simp only [List.mem_cons, List.not_mem_nil, or_false] at hc; rcases hc with rfl <;> first | exact ⟨_, (x.c_Station), (x.na_Station_sides), rfl⟩)) (de_int)))
theorem ok_Station_name (x : Fx K h mg) : Dn P w K mg base d_Station_name 1 P_Station_name (spD K mg 1 F_Station_name) := dnD (x.c.def_ 11 (d := d_Station_name)) sc_Station_name (b_Station_name x)
theorem bd_Station_name : Bds K d_Station_name P_Station_name := fun fd F => F.bindsN fun _ _ _ _ _ _ us hl => match us, hl with | [_], _ => rfl
def m_Station_hands : M Fl := sRet (m2 ixD (m1 (fldD [2]) (vR 0)) (mPure (.int 1)))
def F_Station_hands : List D → Option D := runD 1 m_Station_hands
theorem b_Station_hands (x : Fx K h mg) : BodyX P w K mg base d_Station_hands N_Station_hands 0 m_Station_hands := fun cdv A outer s H E hr hgd G => dss_one (ds_ret (de_ix (de_fld (cs := [2]) (de_v 0 (pv 0)) (by intro c hc; simp only [List.mem_cons, List.not_mem_nil, or_false] at hc; rcases hc with rfl <;> first | exact ⟨_, (x.c_Station), (x.na_Station_sides), rfl⟩)) (de_int)))
theorem ok_Station_hands (x : Fx K h mg) : Dn P w K mg base d_Station_hands 1 P_Station_hands (spD K mg 1 F_Station_hands) := dnD (x.c.def_ 12 (d := d_Station_hands)) sc_Station_hands (b_Station_hands x)
theorem bd_Station_hands : Bds K d_Station_hands P_Station_hands := fun fd F => F.bindsN fun _ _ _ _ _ _ us hl => match us, hl with | [_], _ => rfl
def m_Station_timed : M Fl := sRet (m2 ixD (m1 (fldD [2]) (vR 0)) (mPure (.int 2)))
def F_Station_timed : List D → Option D := runD 1 m_Station_timed
theorem b_Station_timed (x : Fx K h mg) : BodyX P w K mg base d_Station_timed N_Station_timed 0 m_Station_timed := fun cdv A outer s H E hr hgd G => dss_one (ds_ret (de_ix (de_fld (cs := [2]) (de_v 0 (pv 0)) (by intro c hc; simp only [List.mem_cons, List.not_mem_nil, or_false] at hc; rcases hc with rfl <;> first | exact ⟨_, (x.c_Station), (x.na_Station_sides), rfl⟩)) (de_int)))
theorem ok_Station_timed (x : Fx K h mg) : Dn P w K mg base d_Station_timed 1 P_Station_timed (spD K mg 1 F_Station_timed) := dnD (x.c.def_ 13 (d := d_Station_timed)) sc_Station_timed (b_Station_timed x)
theorem bd_Station_timed : Bds K d_Station_timed P_Station_timed := fun fd F => F.bindsN fun _ _ _ _ _ _ us hl => match us, hl with | [_], _ => rfl
def ti_Station : List (Tg × Bool) := [(.ty "int", false), (.ty "bool", false), (.ty "str", false), (.ty "tuple", false), (.ty "list", false), (.ty "NoneType", false), (.cl 2, true), (.cl 3, false)]
theorem tk_Station (x : Fx K h mg) : ∀ p ∈ ti_Station, TagOk K mg (.ref (He.ga K (clsName 2))) p := by
  intro p hp
  simp only [ti_Station, List.mem_cons, List.not_mem_nil, or_false] at hp
  rcases hp with rfl | rfl | rfl | rfl | rfl | rfl | rfl | rfl
  · exact (x.ki_int_Station)
  · exact (x.ki_bool_Station)
  · exact (x.ki_str_Station)
  · exact (x.ki_tuple_Station)
  · exact (x.ki_list_Station)
  · exact (x.ki_NoneType_Station)
  · exact ⟨_, (x.c_Station), (x.ki_Station_Station)⟩
  · exact ⟨_, (x.c_Link), (x.ki_Link_Station)⟩
def m_Stationx_eqx : M Fl := sRet (mAndV (m1 (isiD ti_Station) (vR 1)) (m2 (eqD false) (m1 (fldD [2]) (vR 0)) (m1 (fldD [2]) (vR 1))))
def F_Stationx_eqx : List D → Option D := runD 2 m_Stationx_eqx
theorem b_Stationx_eqx (x : Fx K h mg) : BodyX P w K mg base d_Stationx_eqx N_Stationx_eqx 0 m_Stationx_eqx := fun cdv A outer s H E hr hgd G => dss_one (ds_ret (de_and (de_isi rfl (x.f_isinstance) (de_v 1 (pv 1)) (pe_glob (v := .ref _) rfl (x.c_Station).g rfl) (.own _) (tk_Station x)) (de_one (de_cmpD (op_eqDD hr) (de_fld (cs := [2]) (de_v 0 (pv 0)) (by intro c hc; simp only [List.mem_cons, List.not_mem_nil, or_false] at hc; rcases hc with rfl <;> first | exact ⟨_, (x.c_Station), (x.na_Station_sides), rfl⟩)) (de_fld (cs := [2]) (de_v 1 (pv 1)) (by intro c hc; simp only [List.mem_cons, List.not_mem_nil, or_false] at hc; rcases hc with rfl <;> first | exact ⟨_, (x.c_Station), (x.na_Station_sides), rfl⟩)) (nomark _)))))
theorem ok_Stationx_eqx (x : Fx K h mg) : Dn P w K mg base d_Stationx_eqx 1 P_Stationx_eqx (spD K mg 2 F_Stationx_eqx) := dnD (x.c.def_ 14 (d := d_Stationx_eqx)) sc_Stationx_eqx (b_Stationx_eqx x)
theorem bd_Stationx_eqx : Bds K d_Stationx_eqx P_Stationx_eqx := fun fd F => F.bindsN fun _ _ _ _ _ _ us hl => match us, hl with | [_, _], _ => rfl
def t_Stationx_eqx : List ((Nat × Tg) × Bool) := [((2, .ty "int"), false), ((2, .ty "bool"), false), ((2, .ty "str"), false), ((2, .ty "tuple"), false), ((2, .ty "list"), false), ((2, .ty "NoneType"), false), ((2, .cl 2), false), ((2, .cl 3), false)]
theorem te_Stationx_eqx (x : Fx K h mg) : ∀ p ∈ t_Stationx_eqx, EqOk K mg (d_Stationx_eqx.at_ K) p := by
  intro p hp
  simp only [t_Stationx_eqx, List.mem_cons, List.not_mem_nil, or_false] at hp
  rcases hp with rfl | rfl | rfl | rfl | rfl | rfl | rfl | rfl
  · exact ⟨fun _ => ⟨_, _, (x.c_Station), rfl, (x.nf_Station_int), (x.fe_Station_Stationx_eqx), (x.fn_Station)⟩, fun e => nomatch e⟩
  · exact ⟨fun _ => ⟨_, _, (x.c_Station), rfl, (x.nf_Station_bool), (x.fe_Station_Stationx_eqx), (x.fn_Station)⟩, fun e => nomatch e⟩
  · exact ⟨fun _ => ⟨_, _, (x.c_Station), rfl, (x.nf_Station_str), (x.fe_Station_Stationx_eqx), (x.fn_Station)⟩, fun e => nomatch e⟩
  · exact ⟨fun _ => ⟨_, _, (x.c_Station), rfl, (x.nf_Station_tuple), (x.fe_Station_Stationx_eqx), (x.fn_Station)⟩, fun e => nomatch e⟩
  · exact ⟨fun _ => ⟨_, _, (x.c_Station), rfl, (x.nf_Station_list), (x.fe_Station_Stationx_eqx), (x.fn_Station)⟩, fun e => nomatch e⟩
  · exact ⟨fun _ => ⟨_, _, (x.c_Station), rfl, (x.nf_Station_NoneType), (x.fe_Station_Stationx_eqx), (x.fn_Station)⟩, fun e => nomatch e⟩
  · exact ⟨fun _ => ⟨_, _, (x.c_Station), ⟨_, (x.c_Station), rfl⟩, (x.nf_Station_Station), (x.fe_Station_Stationx_eqx), (x.fn_Station)⟩, fun e => nomatch e⟩
  · exact ⟨fun _ => ⟨_, _, (x.c_Station), ⟨_, (x.c_Link), rfl⟩, (x.nf_Station_Link), (x.fe_Station_Stationx_eqx), (x.fn_Station)⟩, fun e => nomatch e⟩
def ti_Link : List (Tg × Bool) := [(.ty "int", false), (.ty "bool", false), (.ty "str", false), (.ty "tuple", false), (.ty "list", false), (.ty "NoneType", false), (.cl 2, false), (.cl 3, true)]
theorem tk_Link (x : Fx K h mg) : ∀ p ∈ ti_Link, TagOk K mg (.ref (He.ga K (clsName 3))) p := by
  intro p hp
  simp only [ti_Link, List.mem_cons, List.not_mem_nil, or_false] at hp
  rcases hp with rfl | rfl | rfl | rfl | rfl | rfl | rfl | rfl
  · exact (x.ki_int_Link)
  · exact (x.ki_bool_Link)
  · exact (x.ki_str_Link)
  · exact (x.ki_tuple_Link)
  · exact (x.ki_list_Link)
  · exact (x.ki_NoneType_Link)
  · exact ⟨_, (x.c_Station), (x.ki_Station_Link)⟩
  · exact ⟨_, (x.c_Link), (x.ki_Link_Link)⟩
def m_Linkx_eqx : M Fl := sRet (mAndV (m1 (isiD ti_Link) (vR 1)) (m2 (eqD false) (m1 (fldD [3]) (vR 0)) (m1 (fldD [3]) (vR 1))))
def F_Linkx_eqx : List D → Option D := runD 2 m_Linkx_eqx
theorem b_Linkx_eqx (x : Fx K h mg) : BodyX P w K mg base d_Linkx_eqx N_Linkx_eqx 0 m_Linkx_eqx := fun cdv A outer s H E hr hgd G => dss_one (ds_ret (de_and (de_isi rfl (x.f_isinstance) (de_v 1 (pv 1)) (pe_glob (v := .ref _) rfl (x.c_Link).g rfl) (.own _) (tk_Link x)) (de_one (de_cmpD (op_eqDD hr) (de_fld (cs := [3]) (de_v 0 (pv 0)) (by intro c hc; simp only [List.mem_cons, List.not_mem_nil, or_false] at hc; rcases hc with rfl <;> first | exact ⟨_, (x.c_Link), (x.na_Link_sides), rfl⟩)) (de_fld (cs := [3]) (de_v 1 (pv 1)) (by intro c hc; simp only [List.mem_cons, List.not_mem_nil, or_false] at hc; rcases hc with rfl <;> first | exact ⟨_, (x.c_Link), (x.na_Link_sides), rfl⟩)) (nomark _)))))
theorem ok_Linkx_eqx (x : Fx K h mg) : Dn P w K mg base d_Linkx_eqx 1 P_Linkx_eqx (spD K mg 2 F_Linkx_eqx) := dnD (x.c.def_ 15 (d := d_Linkx_eqx)) sc_Linkx_eqx (b_Linkx_eqx x)
theorem bd_Linkx_eqx : Bds K d_Linkx_eqx P_Linkx_eqx := fun fd F => F.bindsN fun _ _ _ _ _ _ us hl => match us, hl with | [_, _], _ => rfl
def t_Linkx_eqx : List ((Nat × Tg) × Bool) := [((3, .ty "int"), false), ((3, .ty "bool"), false), ((3, .ty "str"), false), ((3, .ty "tuple"), false), ((3, .ty "list"), false), ((3, .ty "NoneType"), false), ((3, .cl 2), false), ((3, .cl 3), false)]
theorem te_Linkx_eqx (x : Fx K h mg) : ∀ p ∈ t_Linkx_eqx, EqOk K mg (d_Linkx_eqx.at_ K) p := by
  intro p hp
  simp only [t_Linkx_eqx, List.mem_cons, List.not_mem_nil, or_false] at hp
  rcases hp with rfl | rfl | rfl | rfl | rfl | rfl | rfl | rfl
  · exact ⟨fun _ => ⟨_, _, (x.c_Link), rfl, (x.nf_Link_int), (x.fe_Link_Linkx_eqx), (x.fn_Link)⟩, fun e => nomatch e⟩
  · exact ⟨fun _ => ⟨_, _, (x.c_Link), rfl, (x.nf_Link_bool), (x.fe_Link_Linkx_eqx), (x.fn_Link)⟩, fun e => nomatch e⟩
  · exact ⟨fun _ => ⟨_, _, (x.c_Link), rfl, (x.nf_Link_str), (x.fe_Link_Linkx_eqx), (x.fn_Link)⟩, fun e => nomatch e⟩
  · exact ⟨fun _ => ⟨_, _, (x.c_Link), rfl, (x.nf_Link_tuple), (x.fe_Link_Linkx_eqx), (x.fn_Link)⟩, fun e => nomatch e⟩
  · exact ⟨fun _ => ⟨_, _, (x.c_Link), rfl, (x.nf_Link_list), (x.fe_Link_Linkx_eqx), (x.fn_Link)⟩, fun e => nomatch e⟩
  · exact ⟨fun _ => ⟨_, _, (x.c_Link), rfl, (x.nf_Link_NoneType), (x.fe_Link_Linkx_eqx), (x.fn_Link)⟩, fun e => nomatch e⟩
  · exact ⟨fun _ => ⟨_, _, (x.c_Link), ⟨_, (x.c_Station), rfl⟩, (x.nf_Link_Station), (x.fe_Link_Linkx_eqx), (x.fn_Link)⟩, fun e => nomatch e⟩
  · exact ⟨fun _ => ⟨_, _, (x.c_Link), ⟨_, (x.c_Link), rfl⟩, (x.nf_Link_Link), (x.fe_Link_Linkx_eqx), (x.fn_Link)⟩, fun e => nomatch e⟩
def neX : D → D → Option D := (fun a b => ((eqD true) a b).or ((fun a b => ((neO t_Stationx_eqx F_Stationx_eqx) a b).or ((neO t_Linkx_eqx F_Linkx_eqx) a b)) a b))
def m_Stationx_strx : M Fl := sSeq (sAsg (m1 (fldD [2]) (vR 0)) (gT 3 (gsCons (gN 1) (gsCons (gN 2) (gsCons (gN 3) (gsNil)))))) (sRet (jsF [mPure (.str "station "), m1 fmtD (vR 1), mPure (.str ": hands "), m1 fmtD (mIf (mB (m2 (isD false) (vR 2) (mPure .non))) (mPure (.str "any")) (vR 2)), m1 fmtD (mIf (mTru (vR 3)) (mPure (.str "")) (mPure (.str ", no time")))] Str.empty))
def F_Stationx_strx : List D → Option D := runD 4 m_Stationx_strx
theorem b_Stationx_strx (x : Fx K h mg) : BodyX P w K mg base d_Stationx_strx N_Stationx_strx 0 m_Stationx_strx := fun cdv A outer s H E hr hgd G => dss_cons (ds_asg (de_fld (cs := [2]) (de_v 0 (pv 0)) (by intro c hc; simp only [List.mem_cons, List.not_mem_nil, or_false] at hc; rcases hc with rfl <;> first | exact ⟨_, (x.c_Station), (x.na_Station_sides), rfl⟩)) (dg_tup rfl (dgs_cons (dg_name 1 sc_Stationx_strx.nd rfl (.inl rfl)) (dgs_cons (dg_name 2 sc_Stationx_strx.nd rfl (.inl rfl)) (dgs_cons (dg_name 3 sc_Stationx_strx.nd rfl (.inl rfl)) (dgs_nil)))))) (dss_one (ds_ret (de_joined (.cons (de_str) (.cons (de_fmt (de_v 1 (pv 1))) (.cons (de_str) (.cons (de_fmt (de_if (dt_cmpD op_isD (de_v 2 (pv 2)) (de_non) (nomark _)) (de_str) (de_v 2 (pv 2)))) (.cons (de_fmt (de_if (dt_of (de_v 3 (pv 3))) (de_str) (de_str))) (.nil)))))))))
theorem ok_Stationx_strx (x : Fx K h mg) : Dn P w K mg base d_Stationx_strx 1 P_Stationx_strx (spD K mg 1 F_Stationx_strx) := dnD (x.c.def_ 16 (d := d_Stationx_strx)) sc_Stationx_strx (b_Stationx_strx x)
theorem bd_Stationx_strx : Bds K d_Stationx_strx P_Stationx_strx := fun fd F => F.bindsN fun _ _ _ _ _ _ us hl => match us, hl with | [_], _ => rfl
def m_Linkx_strx : M Fl := sSeq (sAsg (m1 (fldD [3]) (vR 0)) (gT 4 (gsCons (gN 1) (gsCons (gN 2) (gsCons (gN 3) (gsCons (gN 4) (gsNil))))))) (sRet (jsF [mPure (.str "link "), m1 fmtD (vR 1), mPure (.str " -> "), m1 fmtD (vR 2), mPure (.str ": stock "), m1 fmtD (vR 3), m1 fmtD (mIf (mTru (vR 4)) (mPure (.str ", early")) (mPure (.str "")))] Str.empty))
def F_Linkx_strx : List D → Option D := runD 5 m_Linkx_strx
theorem b_Linkx_strx (x : Fx K h mg) : BodyX P w K mg base d_Linkx_strx N_Linkx_strx 0 m_Linkx_strx := fun cdv A outer s H E hr hgd G => dss_cons (ds_asg (de_fld (cs := [3]) (de_v 0 (pv 0)) (by intro c hc; simp only [List.mem_cons, List.not_mem_nil, or_false] at hc; rcases hc with rfl <;> first | exact ⟨_, (x.c_Link), (x.na_Link_sides), rfl⟩)) (dg_tup rfl (dgs_cons (dg_name 1 sc_Linkx_strx.nd rfl (.inl rfl)) (dgs_cons (dg_name 2 sc_Linkx_strx.nd rfl (.inl rfl)) (dgs_cons (dg_name 3 sc_Linkx_strx.nd rfl (.inl rfl)) (dgs_cons (dg_name 4 sc_Linkx_strx.nd rfl (.inl rfl)) (dgs_nil))))))) (dss_one (ds_ret (de_joined (.cons (de_str) (.cons (de_fmt (de_v 1 (pv 1))) (.cons (de_str) (.cons (de_fmt (de_v 2 (pv 2))) (.cons (de_str) (.cons (de_fmt (de_v 3 (pv 3))) (.cons (de_fmt (de_if (dt_of (de_v 4 (pv 4))) (de_str) (de_str))) (.nil)))))))))))
theorem ok_Linkx_strx (x : Fx K h mg) : Dn P w K mg base d_Linkx_strx 1 P_Linkx_strx (spD K mg 1 F_Linkx_strx) := dnD (x.c.def_ 17 (d := d_Linkx_strx)) sc_Linkx_strx (b_Linkx_strx x)
theorem bd_Linkx_strx : Bds K d_Linkx_strx P_Linkx_strx := fun fd F => F.bindsN fun _ _ _ _ _ _ us hl => match us, hl with | [_], _ => rfl
def strX : List D → Option D := (fun ds => (strD ds).or ((fun ds => ((strO [2] F_Stationx_strx) ds).or ((strO [3] F_Linkx_strx) ds)) ds))
def m_law_station_row : M Fl := sSeq (sSet 1 (mIf (mB (m2 (isD false) (m2 ixD (vR 0) (mPure (.int 1))) (mPure .non))) (mPure (.str "any")) (mCall strD (aCons (m2 ixD (vR 0) (mPure (.int 1))) (aNil))))) (sRet (m2 addD (m2 addD (m2 addD (m2 addD (mPure (.str "station ")) (m2 ixD (vR 0) (mPure (.int 0)))) (mPure (.str ": hands "))) (vR 1)) (mIf (mTru (m2 ixD (vR 0) (mPure (.int 2)))) (mPure (.str "")) (mPure (.str ", no time")))))
def F_law_station_row : List D → Option D := runD 2 m_law_station_row
theorem b_law_station_row (x : Fx K h mg) : BodyX P w K mg base d_law_station_row N_law_station_row 0 m_law_station_row := fun cdv A outer s H E hr hgd G => dss_cons (ds_set 1 sc_law_station_row.nd rfl (.inl rfl) (de_if (dt_cmpD op_isD (de_ix (de_v 0 (pv 0)) (de_int)) (de_non) (nomark _)) (de_str) (de_cT c_str rfl (x.f_str) rfl (da_cons (de_ix (de_v 0 (pv 0)) (de_int)) (da_nil))))) (dss_one (ds_ret (de_opD op_addD (de_opD op_addD (de_opD op_addD (de_opD op_addD (de_str) (de_ix (de_v 0 (pv 0)) (de_int))) (de_str)) (de_v 1 (pv 1))) (de_if (dt_of (de_ix (de_v 0 (pv 0)) (de_int))) (de_str) (de_str)))))
theorem ok_law_station_row (x : Fx K h mg) : Dn P w K mg base d_law_station_row 1 P_law_station_row (spD K mg 1 F_law_station_row) := dnD (x.c.def_ 18 (d := d_law_station_row)) sc_law_station_row (b_law_station_row x)
theorem bd_law_station_row : Bds K d_law_station_row P_law_station_row := fun fd F => F.bindsN fun _ _ _ _ _ _ us hl => match us, hl with | [_], _ => rfl
def eqX : D → D → Option D := (fun a b => ((eqD false) a b).or ((fun a b => ((eqO t_Stationx_eqx F_Stationx_eqx) a b).or ((eqO t_Linkx_eqx F_Linkx_eqx) a b)) a b))
def m_Linkx_initx : M Fl := sSeq (sExpr (mFn 1 0 (fun ds _ => ds) F_check_name (aCons (vR 1) (aNil)) (aNil))) (sSeq (sExpr (mFn 1 0 (fun ds _ => ds) F_check_name (aCons (vR 2) (aNil)) (aNil))) (sSeq (sIf (mOr (mNot (mTru (mFn 1 0 (fun ds _ => ds) F_is_integer (aCons (vR 3) (aNil)) (aNil)))) (mNot (mB (mCh leD leD (mPure (.int 0)) (vR 3) (mPure (.int 5)))))) (sNo) (sNil)) (sSeq (sExpr (mFn 1 0 (fun ds _ => ds) F_check_flag (aCons (vR 4) (aNil)) (aNil))) (sSetFs 0 "sides" [3] (mTup (aCons (vR 1) (aCons (vR 2) (aCons (vR 3) (aCons (vR 4) (aNil))))))))))
def F_Linkx_initx : List D → Option (List D) := runI 5 3 m_Linkx_initx
theorem b_Linkx_initx (x : Fx K h mg) : BodyX P w K mg base d_Linkx_initx N_Linkx_initx 2 m_Linkx_initx := fun cdv A outer s H E hr hgd G => dss_cons (ds_expr (dcall (d := d_check_name) (ok_check_name x) (KBs.all bd_check_name) hr hgd (x.g_check_name) rfl (da_cons (de_v 1 (pv 1)) (da_nil)) (dk_nil))) (dss_cons (ds_expr (dcall (d := d_check_name) (ok_check_name x) (KBs.all bd_check_name) hr hgd (x.g_check_name) rfl (da_cons (de_v 2 (pv 2)) (da_nil)) (dk_nil))) (dss_cons (ds_if (DW.dt (dw_or (dt_not (dt_of (dcall (d := d_is_integer) (ok_is_integer x) (KBs.all bd_is_integer) hr hgd (x.g_is_integer) rfl (da_cons (de_v 3 (pv 3)) (da_nil)) (dk_nil)))) (dw_or1 (dt_not (dt_chainD op_leD op_leD (de_int) (de_v 3 (pv 3)) (de_gi rfl (x.k_MOST_STOCK))))))) (dss_one (ds_no)) (dss_nil)) (dss_cons (ds_expr (dcall (d := d_check_flag) (ok_check_flag x) (KBs.all bd_check_flag) hr hgd (x.g_check_flag) rfl (da_cons (de_v 4 (pv 4)) (da_nil)) (dk_nil))) (dss_one (ds_setFs (cs := [3]) 0 (pv 0) (de_tup (da_cons (de_v 1 (pv 1)) (da_cons (de_v 2 (pv 2)) (da_cons (de_v 3 (pv 3)) (da_cons (de_v 4 (pv 4)) (da_nil)))))) (by intro c hc; simp only [List.mem_cons, List.not_mem_nil, or_false] at hc; rcases hc with rfl <;> first | exact ⟨_, (x.c_Link), (x.na_Link_sides)⟩))))))
theorem ok_Linkx_initx (x : Fx K h mg) : Dn P w K mg base d_Linkx_initx 3 P_Linkx_initx (spI K mg 5 3 F_Linkx_initx) := dnI (x.c.def_ 19 (d := d_Linkx_initx)) sc_Linkx_initx (b_Linkx_initx x)
theorem kb_Linkx_initx_3 : KIs K mg d_Linkx_initx P_Linkx_initx 3 [] (fun ds es => pick [.p 0, .p 1, .p 2, .m 0] ds [(.int 0)] [(.bl false)] es) := fun fd F => by
  obtain ⟨its, mv, h⟩ := F.kbinds (ps := P_Linkx_initx) 4 [] [("early", cV (.bl false))] (fun us its mv ws => pick (.p 0 :: ([.p 0, .p 1, .p 2, .m 0] : List Src).map Src.up) us its mv ws) (by decide) (by decide) (by decide) (fun a b c d => pick_vals a b c d _) (fun _ _ _ _ _ _ _ us its mv ws h1 h2 h3 h4 => match us, its, mv, ws, h1, h2, h3, h4 with | [_, _, _, _], [_], [_], [], _, _, _, _ => ⟨_, rfl, ⟨_, _, _, _, _, _, rfl, rfl, rfl⟩⟩)
  exact KI.of (src := [.p 0, .p 1, .p 2, .m 0]) (dd := [(.int 0)]) (md := [(.bl false)]) h (by decide) (by decide) (by decide)
theorem kb_Stationx_initx_1 : KIs K mg d_Stationx_initx P_Stationx_initx 1 [] (fun ds es => pick [.p 0, .d 0, .m 0] ds [(.int 1)] [(.bl true)] es) := fun fd F => by
  obtain ⟨its, mv, h⟩ := F.kbinds (ps := P_Stationx_initx) 2 [] [("timed", cV (.bl true))] (fun us its mv ws => pick (.p 0 :: ([.p 0, .d 0, .m 0] : List Src).map Src.up) us its mv ws) (by decide) (by decide) (by decide) (fun a b c d => pick_vals a b c d _) (fun _ _ _ _ _ _ _ us its mv ws h1 h2 h3 h4 => match us, its, mv, ws, h1, h2, h3, h4 with | [_, _], [_], [_], [], _, _, _, _ => ⟨_, rfl, ⟨_, _, _, _, _, _, rfl, rfl, rfl⟩⟩)
  exact KI.of (src := [.p 0, .d 0, .m 0]) (dd := [(.int 1)]) (md := [(.bl true)]) h (by decide) (by decide) (by decide)
theorem kb_Stationx_initx_1_timed : KIs K mg d_Stationx_initx P_Stationx_initx 1 ["timed"] (fun ds es => pick [.p 0, .d 0, .k 0] ds [(.int 1)] [] es) := fun fd F => by
  obtain ⟨its, mv, h⟩ := F.kbinds (ps := P_Stationx_initx) 2 ["timed"] [] (fun us its mv ws => pick (.p 0 :: ([.p 0, .d 0, .k 0] : List Src).map Src.up) us its mv ws) (by decide) (by decide) (by decide) (fun a b c d => pick_vals a b c d _) (fun _ _ _ _ _ _ _ us its mv ws h1 h2 h3 h4 => match us, its, mv, ws, h1, h2, h3, h4 with | [_, _], [_], [], [_], _, _, _, _ => ⟨_, rfl, rfl⟩)
  exact KI.of (src := [.p 0, .d 0, .k 0]) (dd := [(.int 1)]) (md := []) h (by decide) (by decide) (by decide)
theorem kb_Stationx_initx_2 : KIs K mg d_Stationx_initx P_Stationx_initx 2 [] (fun ds es => pick [.p 0, .p 1, .m 0] ds [(.int 1)] [(.bl true)] es) := fun fd F => by
  obtain ⟨its, mv, h⟩ := F.kbinds (ps := P_Stationx_initx) 3 [] [("timed", cV (.bl true))] (fun us its mv ws => pick (.p 0 :: ([.p 0, .p 1, .m 0] : List Src).map Src.up) us its mv ws) (by decide) (by decide) (by decide) (fun a b c d => pick_vals a b c d _) (fun _ _ _ _ _ _ _ us its mv ws h1 h2 h3 h4 => match us, its, mv, ws, h1, h2, h3, h4 with | [_, _, _], [_], [_], [], _, _, _, _ => ⟨_, rfl, ⟨_, _, _, _, _, _, rfl, rfl, rfl⟩⟩)
  exact KI.of (src := [.p 0, .p 1, .m 0]) (dd := [(.int 1)]) (md := [(.bl true)]) h (by decide) (by decide) (by decide)
def m_law_station_right : M Fl := sSeq (sPar 2 3 (aCons (mMk 2 2 1 (fun ds es => pick [.p 0, .p 1, .k 0] ds [(.int 1)] [] es) F_Stationx_initx (aCons (m2 ixD (vR 0) (mPure (.int 0))) (aCons (m2 ixD (vR 0) (mPure (.int 1))) (aNil))) (aCons (m2 ixD (vR 0) (mPure (.int 2))) (aNil))) (aCons (mMk 2 0 3 (fun ds es => pick [.k 2, .k 1, .k 0] ds [(.int 1)] [] es) F_Stationx_initx aNil (aCons (m2 ixD (vR 1) (mPure (.int 2))) (aCons (m2 ixD (vR 1) (mPure (.int 1))) (aCons (m2 ixD (vR 1) (mPure (.int 0))) (aNil))))) (aNil)))) (sSeq (sIf (mOr (mB (m2 neX (mCall reprD (aCons (mBind (mLst (aCons (mMe0 [2] F_Station_name (vR 2)) (aCons (mMe0 [2] F_Station_hands (vR 2)) (aCons (mMe0 [2] F_Station_timed (vR 2)) (aNil))))) fun l => mPure (.lst l)) (aNil))) (mCall reprD (aCons (mCall listD (aCons (vR 0) (aNil))) (aNil))))) (mB (m2 neX (mCall strX (aCons (vR 2) (aNil))) (mFn 1 0 (fun ds _ => ds) F_law_station_row (aCons (vR 0) (aNil)) (aNil))))) (sRet (mPure (.bl false))) (sNil)) (sSeq (sIf (mOr (mB (m2 neX (mCall reprD (aCons (mBind (mLst (aCons (mMe0 [2] F_Station_name (vR 3)) (aCons (mMe0 [2] F_Station_hands (vR 3)) (aCons (mMe0 [2] F_Station_timed (vR 3)) (aNil))))) fun l => mPure (.lst l)) (aNil))) (mCall reprD (aCons (mCall listD (aCons (vR 1) (aNil))) (aNil))))) (mB (m2 neX (mCall strX (aCons (vR 3) (aNil))) (mFn 1 0 (fun ds _ => ds) F_law_station_row (aCons (vR 1) (aNil)) (aNil))))) (sRet (mPure (.bl false))) (sNil)) (sSeq (sIf (mB (m2 neX (mCall reprD (aCons (mBind (mLst (aCons (m2 eqX (vR 2) (vR 3)) (aCons (m2 neX (vR 2) (vR 3)) (aCons (m2 eqX (vR 2) (mMk 2 2 1 (fun ds es => pick [.p 0, .p 1, .k 0] ds [(.int 1)] [] es) F_Stationx_initx (aCons (m2 ixD (vR 0) (mPure (.int 0))) (aCons (m2 ixD (vR 0) (mPure (.int 1))) (aNil))) (aCons (m2 ixD (vR 0) (mPure (.int 2))) (aNil)))) (aNil))))) fun l => mPure (.lst l)) (aNil))) (mCall reprD (aCons (mBind (mLst (aCons (m2 eqX (vR 0) (vR 1)) (aCons (m2 neX (vR 0) (vR 1)) (aCons (mPure (.bl true)) (aNil))))) fun l => mPure (.lst l)) (aNil))))) (sRet (mPure (.bl false))) (sNil)) (sSeq (sIf (mOr (mNot (mTru (mCall (boolO [2, 3]) (aCons (vR 2) (aNil))))) (mNot (mTru (mCall (boolO [2, 3]) (aCons (mMk 3 3 0 (fun ds es => pick [.p 0, .p 1, .p 2, .m 0] ds [(.int 0)] [(.bl false)] es) F_Linkx_initx (aCons (m2 ixD (vR 0) (mPure (.int 0))) (aCons (m2 ixD (vR 0) (mPure (.int 0))) (aCons (mPure (.int 0)) (aNil)))) (aNil)) (aNil)))))) (sRet (mPure (.bl false))) (sNil)) (sSeq (sSet 4 (mMk 2 1 0 (fun ds es => pick [.p 0, .d 0, .m 0] ds [(.int 1)] [(.bl true)] es) F_Stationx_initx (aCons (m2 ixD (vR 0) (mPure (.int 0))) (aNil)) (aNil))) (sSeq (sIf (mB (m2 neX (mCall reprD (aCons (mBind (mLst (aCons (mMe0 [2] F_Station_name (vR 4)) (aCons (mMe0 [2] F_Station_hands (vR 4)) (aCons (mMe0 [2] F_Station_timed (vR 4)) (aNil))))) fun l => mPure (.lst l)) (aNil))) (mCall reprD (aCons (mBind (mLst (aCons (m2 ixD (vR 0) (mPure (.int 0))) (aCons (mPure (.int 1)) (aCons (mPure (.bl true)) (aNil))))) fun l => mPure (.lst l)) (aNil))))) (sRet (mPure (.bl false))) (sNil)) (sSeq (sSet 5 (mMk 2 1 1 (fun ds es => pick [.p 0, .d 0, .k 0] ds [(.int 1)] [] es) F_Stationx_initx (aCons (m2 ixD (vR 0) (mPure (.int 0))) (aNil)) (aCons (m2 ixD (vR 0) (mPure (.int 2))) (aNil)))) (sSeq (sIf (mOr (mB (m2 neX (mCall reprD (aCons (mBind (mLst (aCons (mMe0 [2] F_Station_hands (vR 5)) (aCons (mMe0 [2] F_Station_timed (vR 5)) (aNil)))) fun l => mPure (.lst l)) (aNil))) (mCall reprD (aCons (mBind (mLst (aCons (mPure (.int 1)) (aCons (m2 ixD (vR 0) (mPure (.int 2))) (aNil)))) fun l => mPure (.lst l)) (aNil))))) (mB (m2 (isD true) (mMe0 [2] F_Station_timed (mMk 2 2 0 (fun ds es => pick [.p 0, .p 1, .m 0] ds [(.int 1)] [(.bl true)] es) F_Stationx_initx (aCons (m2 ixD (vR 0) (mPure (.int 0))) (aCons (m2 ixD (vR 0) (mPure (.int 1))) (aNil))) (aNil))) (mPure (.bl true))))) (sRet (mPure (.bl false))) (sNil)) (sRet (m2 eqX (mCall reprD (aCons (mBind (mLst (aCons (m2 eqX (vR 2) (vR 0)) (aCons (m2 neX (vR 2) (vR 0)) (aCons (m2 eqX (vR 2) (m2 ixD (vR 0) (mPure (.int 0)))) (aCons (m2 eqX (vR 2) (mCall strX (aCons (vR 2) (aNil)))) (aNil)))))) fun l => mPure (.lst l)) (aNil))) (mPure (.str "[False, True, False, False]"))))))))))))
def F_law_station_right : List D → Option D := runD 6 m_law_station_right
theorem b_law_station_right (x : Fx K h mg) : BodyX P w K mg base d_law_station_right N_law_station_right 4 m_law_station_right := fun cdv A outer s H E hr hgd G => dss_cons (ds_par 2 3 rfl sc_law_station_right.nd rfl rfl (by decide) rfl rfl (da_cons (dmk (d := d_Stationx_initx) (c := 2) (x.mk_Station) (ok_Stationx_initx x) kb_Stationx_initx_2_timed hr hgd (x.c_Station).g rfl rfl (da_cons (de_ix (de_v 0 (pv 0)) (de_int)) (da_cons (de_ix (de_v 0 (pv 0)) (de_int)) (da_nil))) (dk_cons (de_ix (de_v 0 (pv 0)) (de_int)) (dk_nil))) (da_cons (dmk0 (d := d_Stationx_initx) (c := 2) (x.mk_Station) (ok_Stationx_initx x) kb_Stationx_initx_0_timed_hands_name hr hgd (x.c_Station).g rfl rfl (dk_cons (de_ix (de_v 1 (pv 1)) (de_int)) (dk_cons (de_ix (de_v 1 (pv 1)) (de_int)) (dk_cons (de_ix (de_v 1 (pv 1)) (de_int)) (dk_nil))))) (da_nil))) (by rfl)) (dss_cons (ds_if (DW.dt (dw_or (dt_cmpD (opD_or (op_neDD hr) (opD_or (dne (te_Stationx_eqx x) (x.if_Stationx_eqx) (ok_Stationx_eqx x) rfl bd_Stationx_eqx hr hgd) (dne (te_Linkx_eqx x) (x.if_Linkx_eqx) (ok_Linkx_eqx x) rfl bd_Linkx_eqx hr hgd))) (de_cB (c_repr hr hgd) rfl (x.f_repr) rfl (da_cons (DF.de (df_lst (da_cons (dprop (d := d_Station_name) (pp := fun K => He.ma K (He.ga K (clsName 2)) "name") (cs := [2]) (de_v 2 (pv 2)) (by intro c hc; simp only [List.mem_cons, List.not_mem_nil, or_false] at hc; rcases hc with rfl <;> first | exact ⟨_, (x.c_Station), (x.pr_Station_name)⟩) (ok_Station_name x) bd_Station_name hr hgd) (da_cons (dprop (d := d_Station_hands) (pp := fun K => He.ma K (He.ga K (clsName 2)) "hands") (cs := [2]) (de_v 2 (pv 2)) (by intro c hc; simp only [List.mem_cons, List.not_mem_nil, or_false] at hc; rcases hc with rfl <;> first | exact ⟨_, (x.c_Station), (x.pr_Station_hands)⟩) (ok_Station_hands x) bd_Station_hands hr hgd) (da_cons (dprop (d := d_Station_timed) (pp := fun K => He.ma K (He.ga K (clsName 2)) "timed") (cs := [2]) (de_v 2 (pv 2)) (by intro c hc; simp only [List.mem_cons, List.not_mem_nil, or_false] at hc; rcases hc with rfl <;> first | exact ⟨_, (x.c_Station), (x.pr_Station_timed)⟩) (ok_Station_timed x) bd_Station_timed hr hgd) (da_nil)))))) (da_nil))) (de_cB (c_repr hr hgd) rfl (x.f_repr) rfl (da_cons (de_cT c_list rfl (x.f_list) rfl (da_cons (de_v 0 (pv 0)) (da_nil))) (da_nil))) (nomark _)) (dw_or1 (dt_cmpD (opD_or (op_neDD hr) (opD_or (dne (te_Stationx_eqx x) (x.if_Stationx_eqx) (ok_Stationx_eqx x) rfl bd_Stationx_eqx hr hgd) (dne (te_Linkx_eqx x) (x.if_Linkx_eqx) (ok_Linkx_eqx x) rfl bd_Linkx_eqx hr hgd))) (de_cT (callD_or c_str (callD_or (dstr (d := d_Stationx_strx) (by intro c hc; simp only [List.mem_cons, List.not_mem_nil, or_false] at hc; rcases hc with rfl <;> first | exact ⟨⟨_, (x.c_Station), (x.st_Station)⟩⟩) (x.if_Stationx_strx) (ok_Stationx_strx x) bd_Stationx_strx hr hgd) (dstr (d := d_Linkx_strx) (by intro c hc; simp only [List.mem_cons, List.not_mem_nil, or_false] at hc; rcases hc with rfl <;> first | exact ⟨⟨_, (x.c_Link), (x.st_Link)⟩⟩) (x.if_Linkx_strx) (ok_Linkx_strx x) bd_Linkx_strx hr hgd))) rfl (x.f_str) rfl (da_cons (de_v 2 (pv 2)) (da_nil))) (dcall (d := d_law_station_row) (ok_law_station_row x) (KBs.all bd_law_station_row) hr hgd (x.g_law_station_row) rfl (da_cons (de_v 0 (pv 0)) (da_nil)) (dk_nil)) (nomark _))))) (dss_one (ds_ret (de_bl))) (dss_nil)) (dss_cons (ds_if (DW.dt (dw_or (dt_cmpD (opD_or (op_neDD hr) (opD_or (dne (te_Stationx_eqx x) (x.if_Stationx_eqx) (ok_Stationx_eqx x) rfl bd_Stationx_eqx hr hgd) (dne (te_Linkx_eqx x) (x.if_Linkx_eqx) (ok_Linkx_eqx x) rfl bd_Linkx_eqx hr hgd))) (de_cB (c_repr hr hgd) rfl (x.f_repr) rfl (da_cons (DF.de (df_lst (da_cons (dprop (d := d_Station_name) (pp := fun K => He.ma K (He.ga K (clsName 2)) "name") (cs := [2]) (de_v 3 (pv 3)) (by intro c hc; simp only [List.mem_cons, List.not_mem_nil, or_false] at hc; rcases hc with rfl <;> first | exact ⟨_, (x.c_Station), (x.pr_Station_name)⟩) (ok_Station_name x) bd_Station_name hr hgd) (da_cons (dprop (d := d_Station_hands) (pp := fun K => He.ma K (He.ga K (clsName 2)) "hands") (cs := [2]) (de_v 3 (pv 3)) (by intro c hc; simp only [List.mem_cons, List.not_mem_nil, or_false] at hc; rcases hc with rfl <;> first | exact ⟨_, (x.c_Station), (x.pr_Station_hands)⟩) (ok_Station_hands x) bd_Station_hands hr hgd) (da_cons (dprop (d := d_Station_timed) (pp := fun K => He.ma K (He.ga K (clsName 2)) "timed") (cs := [2]) (de_v 3 (pv 3)) (by intro c hc; simp only [List.mem_cons, List.not_mem_nil, or_false] at hc; rcases hc with rfl <;> first | exact ⟨_, (x.c_Station), (x.pr_Station_timed)⟩) (ok_Station_timed x) bd_Station_timed hr hgd) (da_nil)))))) (da_nil))) (de_cB (c_repr hr hgd) rfl (x.f_repr) rfl (da_cons (de_cT c_list rfl (x.f_list) rfl (da_cons (de_v 1 (pv 1)) (da_nil))) (da_nil))) (nomark _)) (dw_or1 (dt_cmpD (opD_or (op_neDD hr) (opD_or (dne (te_Stationx_eqx x) (x.if_Stationx_eqx) (ok_Stationx_eqx x) rfl bd_Stationx_eqx hr hgd) (dne (te_Linkx_eqx x) (x.if_Linkx_eqx) (ok_Linkx_eqx x) rfl bd_Linkx_eqx hr hgd))) (de_cT (callD_or c_str (callD_or (dstr (d := d_Stationx_strx) (by intro c hc; simp only [List.mem_cons, List.not_mem_nil, or_false] at hc; rcases hc with rfl <;> first | exact ⟨⟨_, (x.c_Station), (x.st_Station)⟩⟩) (x.if_Stationx_strx) (ok_Stationx_strx x) bd_Stationx_strx hr hgd) (dstr (d := d_Linkx_strx) (by intro c hc; simp only [List.mem_cons, List.not_mem_nil, or_false] at hc; rcases hc with rfl <;> first | exact ⟨⟨_, (x.c_Link), (x.st_Link)⟩⟩) (x.if_Linkx_strx) (ok_Linkx_strx x) bd_Linkx_strx hr hgd))) rfl (x.f_str) rfl (da_cons (de_v 3 (pv 3)) (da_nil))) (dcall (d := d_law_station_row) (ok_law_station_row x) (KBs.all bd_law_station_row) hr hgd (x.g_law_station_row) rfl (da_cons (de_v 1 (pv 1)) (da_nil)) (dk_nil)) (nomark _))))) (dss_one (ds_ret (de_bl))) (dss_nil)) (dss_cons (ds_if (dt_cmpD (opD_or (op_neDD hr) (opD_or (dne (te_Stationx_eqx x) (x.if_Stationx_eqx) (ok_Stationx_eqx x) rfl bd_Stationx_eqx hr hgd) (dne (te_Linkx_eqx x) (x.if_Linkx_eqx) (ok_Linkx_eqx x) rfl bd_Linkx_eqx hr hgd))) (de_cB (c_repr hr hgd) rfl (x.f_repr) rfl (da_cons (DF.de (df_lst (da_cons (de_cmpD (opD_or (op_eqDD hr) (opD_or (deq (te_Stationx_eqx x) (x.if_Stationx_eqx) (ok_Stationx_eqx x) rfl bd_Stationx_eqx hr hgd) (deq (te_Linkx_eqx x) (x.if_Linkx_eqx) (ok_Linkx_eqx x) rfl bd_Linkx_eqx hr hgd))) (de_v 2 (pv 2)) (de_v 3 (pv 3)) (nomark _)) (da_cons (de_cmpD (opD_or (op_neDD hr) (opD_or (dne (te_Stationx_eqx x) (x.if_Stationx_eqx) (ok_Stationx_eqx x) rfl bd_Stationx_eqx hr hgd) (dne (te_Linkx_eqx x) (x.if_Linkx_eqx) (ok_Linkx_eqx x) rfl bd_Linkx_eqx hr hgd))) (de_v 2 (pv 2)) (de_v 3 (pv 3)) (nomark _)) (da_cons (de_cmpD (opD_or (op_eqDD hr) (opD_or (deq (te_Stationx_eqx x) (x.if_Stationx_eqx) (ok_Stationx_eqx x) rfl bd_Stationx_eqx hr hgd) (deq (te_Linkx_eqx x) (x.if_Linkx_eqx) (ok_Linkx_eqx x) rfl bd_Linkx_eqx hr hgd))) (de_v 2 (pv 2)) (dmk (d := d_Stationx_initx) (c := 2) (x.mk_Station) (ok_Stationx_initx x) kb_Stationx_initx_2_timed hr hgd (x.c_Station).g rfl rfl (da_cons (de_ix (de_v 0 (pv 0)) (de_int)) (da_cons (de_ix (de_v 0 (pv 0)) (de_int)) (da_nil))) (dk_cons (de_ix (de_v 0 (pv 0)) (de_int)) (dk_nil))) (nomark _)) (da_nil)))))) (da_nil))) (de_cB (c_repr hr hgd) rfl (x.f_repr) rfl (da_cons (DF.de (df_lst (da_cons (de_cmpD (opD_or (op_eqDD hr) (opD_or (deq (te_Stationx_eqx x) (x.if_Stationx_eqx) (ok_Stationx_eqx x) rfl bd_Stationx_eqx hr hgd) (deq (te_Linkx_eqx x) (x.if_Linkx_eqx) (ok_Linkx_eqx x) rfl bd_Linkx_eqx hr hgd))) (de_v 0 (pv 0)) (de_v 1 (pv 1)) (nomark _)) (da_cons (de_cmpD (opD_or (op_neDD hr) (opD_or (dne (te_Stationx_eqx x) (x.if_Stationx_eqx) (ok_Stationx_eqx x) rfl bd_Stationx_eqx hr hgd) (dne (te_Linkx_eqx x) (x.if_Linkx_eqx) (ok_Linkx_eqx x) rfl bd_Linkx_eqx hr hgd))) (de_v 0 (pv 0)) (de_v 1 (pv 1)) (nomark _)) (da_cons (de_bl) (da_nil)))))) (da_nil))) (nomark _)) (dss_one (ds_ret (de_bl))) (dss_nil)) (dss_cons (ds_if (DW.dt (dw_or (dt_not (dt_of (de_cT (c_boolO (by intro c hc; simp only [List.mem_cons, List.not_mem_nil, or_false] at hc; constructor; rcases hc with rfl | rfl <;> first | exact ⟨_, (x.c_Station), (x.nb_Station), (x.nl_Station)⟩ | exact ⟨_, (x.c_Link), (x.nb_Link), (x.nl_Link)⟩)) rfl (x.f_bool) rfl (da_cons (de_v 2 (pv 2)) (da_nil))))) (dw_or1 (dt_not (dt_of (de_cT (c_boolO (by intro c hc; simp only [List.mem_cons, List.not_mem_nil, or_false] at hc; constructor; rcases hc with rfl | rfl <;> first | exact ⟨_, (x.c_Station), (x.nb_Station), (x.nl_Station)⟩ | exact ⟨_, (x.c_Link), (x.nb_Link), (x.nl_Link)⟩)) rfl (x.f_bool) rfl (da_cons (dmk (d := d_Linkx_initx) (c := 3) (x.mk_Link) (ok_Linkx_initx x) kb_Linkx_initx_3 hr hgd (x.c_Link).g rfl rfl (da_cons (de_ix (de_v 0 (pv 0)) (de_int)) (da_cons (de_ix (de_v 0 (pv 0)) (de_int)) (da_cons (de_int) (da_nil)))) (dk_nil)) (da_nil)))))))) (dss_one (ds_ret (de_bl))) (dss_nil)) (dss_cons (ds_set 4 sc_law_station_right.nd rfl (.inl rfl) (dmk (d := d_Stationx_initx) (c := 2) (x.mk_Station) (ok_Stationx_initx x) kb_Stationx_initx_1 hr hgd (x.c_Station).g rfl rfl (da_cons (de_ix (de_v 0 (pv 0)) (de_int)) (da_nil)) (dk_nil))) (dss_cons (ds_if (dt_cmpD (opD_or (op_neDD hr) (opD_or (dne (te_Stationx_eqx x) (x.if_Stationx_eqx) (ok_Stationx_eqx x) rfl bd_Stationx_eqx hr hgd) (dne (te_Linkx_eqx x) (x.if_Linkx_eqx) (ok_Linkx_eqx x) rfl bd_Linkx_eqx hr hgd))) (de_cB (c_repr hr hgd) rfl (x.f_repr) rfl (da_cons (DF.de (df_lst (da_cons (dprop (d := d_Station_name) (pp := fun K => He.ma K (He.ga K (clsName 2)) "name") (cs := [2]) (de_v 4 (pv 4)) (by intro c hc; simp only [List.mem_cons, List.not_mem_nil, or_false] at hc; rcases hc with rfl <;> first | exact ⟨_, (x.c_Station), (x.pr_Station_name)⟩) (ok_Station_name x) bd_Station_name hr hgd) (da_cons (dprop (d := d_Station_hands) (pp := fun K => He.ma K (He.ga K (clsName 2)) "hands") (cs := [2]) (de_v 4 (pv 4)) (by intro c hc; simp only [List.mem_cons, List.not_mem_nil, or_false] at hc; rcases hc with rfl <;> first | exact ⟨_, (x.c_Station), (x.pr_Station_hands)⟩) (ok_Station_hands x) bd_Station_hands hr hgd) (da_cons (dprop (d := d_Station_timed) (pp := fun K => He.ma K (He.ga K (clsName 2)) "timed") (cs := [2]) (de_v 4 (pv 4)) (by intro c hc; simp only [List.mem_cons, List.not_mem_nil, or_false] at hc; rcases hc with rfl <;> first | exact ⟨_, (x.c_Station), (x.pr_Station_timed)⟩) (ok_Station_timed x) bd_Station_timed hr hgd) (da_nil)))))) (da_nil))) (de_cB (c_repr hr hgd) rfl (x.f_repr) rfl (da_cons (DF.de (df_lst (da_cons (de_ix (de_v 0 (pv 0)) (de_int)) (da_cons (de_int) (da_cons (de_bl) (da_nil)))))) (da_nil))) (nomark _)) (dss_one (ds_ret (de_bl))) (dss_nil)) (dss_cons (ds_set 5 sc_law_station_right.nd rfl (.inl rfl) (dmk (d := d_Stationx_initx) (c := 2) (x.mk_Station) (ok_Stationx_initx x) kb_Stationx_initx_1_timed hr hgd (x.c_Station).g rfl rfl (da_cons (de_ix (de_v 0 (pv 0)) (de_int)) (da_nil)) (dk_cons (de_ix (de_v 0 (pv 0)) (de_int)) (dk_nil)))) (dss_cons (ds_if (DW.dt (dw_or (dt_cmpD (opD_or (op_neDD hr) (opD_or (dne (te_Stationx_eqx x) (x.if_Stationx_eqx) (ok_Stationx_eqx x) rfl bd_Stationx_eqx hr hgd) (dne (te_Linkx_eqx x) (x.if_Linkx_eqx) (ok_Linkx_eqx x) rfl bd_Linkx_eqx hr hgd))) (de_cB (c_repr hr hgd) rfl (x.f_repr) rfl (da_cons (DF.de (df_lst (da_cons (dprop (d := d_Station_hands) (pp := fun K => He.ma K (He.ga K (clsName 2)) "hands") (cs := [2]) (de_v 5 (pv 5)) (by intro c hc; simp only [List.mem_cons, List.not_mem_nil, or_false] at hc; rcases hc with rfl <;> first | exact ⟨_, (x.c_Station), (x.pr_Station_hands)⟩) (ok_Station_hands x) bd_Station_hands hr hgd) (da_cons (dprop (d := d_Station_timed) (pp := fun K => He.ma K (He.ga K (clsName 2)) "timed") (cs := [2]) (de_v 5 (pv 5)) (by intro c hc; simp only [List.mem_cons, List.not_mem_nil, or_false] at hc; rcases hc with rfl <;> first | exact ⟨_, (x.c_Station), (x.pr_Station_timed)⟩) (ok_Station_timed x) bd_Station_timed hr hgd) (da_nil))))) (da_nil))) (de_cB (c_repr hr hgd) rfl (x.f_repr) rfl (da_cons (DF.de (df_lst (da_cons (de_int) (da_cons (de_ix (de_v 0 (pv 0)) (de_int)) (da_nil))))) (da_nil))) (nomark _)) (dw_or1 (dt_cmpD op_notD (dprop (d := d_Station_timed) (pp := fun K => He.ma K (He.ga K (clsName 2)) "timed") (cs := [2]) (dmk (d := d_Stationx_initx) (c := 2) (x.mk_Station) (ok_Stationx_initx x) kb_Stationx_initx_2 hr hgd (x.c_Station).g rfl rfl (da_cons (de_ix (de_v 0 (pv 0)) (de_int)) (da_cons (de_ix (de_v 0 (pv 0)) (de_int)) (da_nil))) (dk_nil)) (by intro c hc; simp only [List.mem_cons, List.not_mem_nil, or_false] at hc; rcases hc with rfl <;> first | exact ⟨_, (x.c_Station), (x.pr_Station_timed)⟩) (ok_Station_timed x) bd_Station_timed hr hgd) (de_bl) (nomark _))))) (dss_one (ds_ret (de_bl))) (dss_nil)) (dss_one (ds_ret (de_cmpD (opD_or (op_eqDD hr) (opD_or (deq (te_Stationx_eqx x) (x.if_Stationx_eqx) (ok_Stationx_eqx x) rfl bd_Stationx_eqx hr hgd) (deq (te_Linkx_eqx x) (x.if_Linkx_eqx) (ok_Linkx_eqx x) rfl bd_Linkx_eqx hr hgd))) (de_cB (c_repr hr hgd) rfl (x.f_repr) rfl (da_cons (DF.de (df_lst (da_cons (de_cmpD (opD_or (op_eqDD hr) (opD_or (deq (te_Stationx_eqx x) (x.if_Stationx_eqx) (ok_Stationx_eqx x) rfl bd_Stationx_eqx hr hgd) (deq (te_Linkx_eqx x) (x.if_Linkx_eqx) (ok_Linkx_eqx x) rfl bd_Linkx_eqx hr hgd))) (de_v 2 (pv 2)) (de_v 0 (pv 0)) (nomark _)) (da_cons (de_cmpD (opD_or (op_neDD hr) (opD_or (dne (te_Stationx_eqx x) (x.if_Stationx_eqx) (ok_Stationx_eqx x) rfl bd_Stationx_eqx hr hgd) (dne (te_Linkx_eqx x) (x.if_Linkx_eqx) (ok_Linkx_eqx x) rfl bd_Linkx_eqx hr hgd))) (de_v 2 (pv 2)) (de_v 0 (pv 0)) (nomark _)) (da_cons (de_cmpD (opD_or (op_eqDD hr) (opD_or (deq (te_Stationx_eqx x) (x.if_Stationx_eqx) (ok_Stationx_eqx x) rfl bd_Stationx_eqx hr hgd) (deq (te_Linkx_eqx x) (x.if_Linkx_eqx) (ok_Linkx_eqx x) rfl bd_Linkx_eqx hr hgd))) (de_v 2 (pv 2)) (de_ix (de_v 0 (pv 0)) (de_int)) (nomark _)) (da_cons (de_cmpD (opD_or (op_eqDD hr) (opD_or (deq (te_Stationx_eqx x) (x.if_Stationx_eqx) (ok_Stationx_eqx x) rfl bd_Stationx_eqx hr hgd) (deq (te_Linkx_eqx x) (x.if_Linkx_eqx) (ok_Linkx_eqx x) rfl bd_Linkx_eqx hr hgd))) (de_v 2 (pv 2)) (de_cT (callD_or c_str (callD_or (dstr (d := d_Stationx_strx) (by intro c hc; simp only [List.mem_cons, List.not_mem_nil, or_false] at hc; rcases hc with rfl <;> first | exact ⟨⟨_, (x.c_Station), (x.st_Station)⟩⟩) (x.if_Stationx_strx) (ok_Stationx_strx x) bd_Stationx_strx hr hgd) (dstr (d := d_Linkx_strx) (by intro c hc; simp only [List.mem_cons, List.not_mem_nil, or_false] at hc; rcases hc with rfl <;> first | exact ⟨⟨_, (x.c_Link), (x.st_Link)⟩⟩) (x.if_Linkx_strx) (ok_Linkx_strx x) bd_Linkx_strx hr hgd))) rfl (x.f_str) rfl (da_cons (de_v 2 (pv 2)) (da_nil))) (nomark _)) (da_nil))))))) (da_nil))) (de_str) (nomark _))))))))))))
theorem ok_law_station_right (x : Fx K h mg) : Dn P w K mg base d_law_station_right 5 P_law_station_right (spD K mg 2 F_law_station_right) := dnD (x.c.def_ 20 (d := d_law_station_right)) sc_law_station_right (b_law_station_right x)
theorem bd_law_station_right : Bds K d_law_station_right P_law_station_right := fun fd F => F.bindsN fun _ _ _ _ _ _ us hl => match us, hl with | [_, _], _ => rfl
theorem kb_Linkx_initx_3_early : KIs K mg d_Linkx_initx P_Linkx_initx 3 ["early"] (fun ds es => pick [.p 0, .p 1, .p 2, .k 0] ds [(.int 0)] [] es) := fun fd F => by
  obtain ⟨its, mv, h⟩ := F.kbinds (ps := P_Linkx_initx) 4 ["early"] [] (fun us its mv ws => pick (.p 0 :: ([.p 0, .p 1, .p 2, .k 0] : List Src).map Src.up) us its mv ws) (by decide) (by decide) (by decide) (fun a b c d => pick_vals a b c d _) (fun _ _ _ _ _ _ _ us its mv ws h1 h2 h3 h4 => match us, its, mv, ws, h1, h2, h3, h4 with | [_, _, _, _], [_], [], [_], _, _, _, _ => ⟨_, rfl, rfl⟩)
  exact KI.of (src := [.p 0, .p 1, .p 2, .k 0]) (dd := [(.int 0)]) (md := []) h (by decide) (by decide) (by decide)
theorem kb_Linkx_initx_0_early_stock_target_source : KIs K mg d_Linkx_initx P_Linkx_initx 0 ["early", "stock", "target", "source"] (fun ds es => pick [.k 3, .k 2, .k 1, .k 0] ds [(.int 0)] [] es) := fun fd F => by
  obtain ⟨its, mv, h⟩ := F.kbinds (ps := P_Linkx_initx) 1 ["early", "stock", "target", "source"] [] (fun us its mv ws => pick (.p 0 :: ([.k 3, .k 2, .k 1, .k 0] : List Src).map Src.up) us its mv ws) (by decide) (by decide) (by decide) (fun a b c d => pick_vals a b c d _) (fun _ _ _ _ _ _ _ us its mv ws h1 h2 h3 h4 => match us, its, mv, ws, h1, h2, h3, h4 with | [_], [_], [], [_, _, _, _], _, _, _, _ => ⟨_, rfl, rfl⟩)
  exact KI.of (src := [.k 3, .k 2, .k 1, .k 0]) (dd := [(.int 0)]) (md := []) h (by decide) (by decide) (by decide)
def m_Link_source : M Fl := sRet (m2 ixD (m1 (fldD [3]) (vR 0)) (mPure (.int 0)))
def F_Link_source : List D → Option D := runD 1 m_Link_source
theorem b_Link_source (x : Fx K h mg) : BodyX P w K mg base d_Link_source N_Link_source 0 m_Link_source := fun cdv A outer s H E hr hgd G => dss_one (ds_ret (de_ix (de_fld (cs := [3]) (de_v 0 (pv 0)) (by intro c hc; simp only [List.mem_cons, List.not_mem_nil, or_false] at hc; rcases hc with rfl <;> first | exact ⟨_, (x.c_Link), (x.na_Link_sides), rfl⟩)) (de_int)))
theorem ok_Link_source (x : Fx K h mg) : Dn P w K mg base d_Link_source 1 P_Link_source (spD K mg 1 F_Link_source) := dnD (x.c.def_ 21 (d := d_Link_source)) sc_Link_source (b_Link_source x)
theorem bd_Link_source : Bds K d_Link_source P_Link_source := fun fd F => F.bindsN fun _ _ _ _ _ _ us hl => match us, hl with | [_], _ => rfl
def m_Link_target : M Fl := sRet (m2 ixD (m1 (fldD [3]) (vR 0)) (mPure (.int 1)))
def F_Link_target : List D → Option D := runD 1 m_Link_target
theorem b_Link_target (x : Fx K h mg) : BodyX P w K mg base d_Link_target N_Link_target 0 m_Link_target := fun cdv A outer s H E hr hgd G => dss_one (ds_ret (de_ix (de_fld (cs := [3]) (de_v 0 (pv 0)) (by intro c hc; simp only [List.mem_cons, List.not_mem_nil, or_false] at hc; rcases hc with rfl <;> first | exact ⟨_, (x.c_Link), (x.na_Link_sides), rfl⟩)) (de_int)))
theorem ok_Link_target (x : Fx K h mg) : Dn P w K mg base d_Link_target 1 P_Link_target (spD K mg 1 F_Link_target) := dnD (x.c.def_ 22 (d := d_Link_target)) sc_Link_target (b_Link_target x)
theorem bd_Link_target : Bds K d_Link_target P_Link_target := fun fd F => F.bindsN fun _ _ _ _ _ _ us hl => match us, hl with | [_], _ => rfl
def m_Link_stock : M Fl := sRet (m2 ixD (m1 (fldD [3]) (vR 0)) (mPure (.int 2)))
def F_Link_stock : List D → Option D := runD 1 m_Link_stock
theorem b_Link_stock (x : Fx K h mg) : BodyX P w K mg base d_Link_stock N_Link_stock 0 m_Link_stock := fun cdv A outer s H E hr hgd G => dss_one (ds_ret (de_ix (de_fld (cs := [3]) (de_v 0 (pv 0)) (by intro c hc; simp only [List.mem_cons, List.not_mem_nil, or_false] at hc; rcases hc with rfl <;> first | exact ⟨_, (x.c_Link), (x.na_Link_sides), rfl⟩)) (de_int)))
theorem ok_Link_stock (x : Fx K h mg) : Dn P w K mg base d_Link_stock 1 P_Link_stock (spD K mg 1 F_Link_stock) := dnD (x.c.def_ 23 (d := d_Link_stock)) sc_Link_stock (b_Link_stock x)
theorem bd_Link_stock : Bds K d_Link_stock P_Link_stock := fun fd F => F.bindsN fun _ _ _ _ _ _ us hl => match us, hl with | [_], _ => rfl
def m_Link_early : M Fl := sRet (m2 ixD (m1 (fldD [3]) (vR 0)) (mPure (.int 3)))
def F_Link_early : List D → Option D := runD 1 m_Link_early
theorem b_Link_early (x : Fx K h mg) : BodyX P w K mg base d_Link_early N_Link_early 0 m_Link_early := fun cdv A outer s H E hr hgd G => dss_one (ds_ret (de_ix (de_fld (cs := [3]) (de_v 0 (pv 0)) (by intro c hc; simp only [List.mem_cons, List.not_mem_nil, or_false] at hc; rcases hc with rfl <;> first | exact ⟨_, (x.c_Link), (x.na_Link_sides), rfl⟩)) (de_int)))
theorem ok_Link_early (x : Fx K h mg) : Dn P w K mg base d_Link_early 1 P_Link_early (spD K mg 1 F_Link_early) := dnD (x.c.def_ 24 (d := d_Link_early)) sc_Link_early (b_Link_early x)
theorem bd_Link_early : Bds K d_Link_early P_Link_early := fun fd F => F.bindsN fun _ _ _ _ _ _ us hl => match us, hl with | [_], _ => rfl
def m_law_link_row : M Fl := sSeq (sSet 1 (m2 addD (m2 addD (m2 addD (m2 addD (m2 addD (mPure (.str "link ")) (m2 ixD (vR 0) (mPure (.int 0)))) (mPure (.str " -> "))) (m2 ixD (vR 0) (mPure (.int 1)))) (mPure (.str ": stock "))) (mCall strD (aCons (m2 ixD (vR 0) (mPure (.int 2))) (aNil))))) (sRet (m2 addD (vR 1) (mIf (mTru (m2 ixD (vR 0) (mPure (.int 3)))) (mPure (.str ", early")) (mPure (.str "")))))
def F_law_link_row : List D → Option D := runD 2 m_law_link_row
theorem b_law_link_row (x : Fx K h mg) : BodyX P w K mg base d_law_link_row N_law_link_row 0 m_law_link_row := fun cdv A outer s H E hr hgd G => dss_cons (ds_set 1 sc_law_link_row.nd rfl (.inl rfl) (de_opD op_addD (de_opD op_addD (de_opD op_addD (de_opD op_addD (de_opD op_addD (de_str) (de_ix (de_v 0 (pv 0)) (de_int))) (de_str)) (de_ix (de_v 0 (pv 0)) (de_int))) (de_str)) (de_cT c_str rfl (x.f_str) rfl (da_cons (de_ix (de_v 0 (pv 0)) (de_int)) (da_nil))))) (dss_one (ds_ret (de_opD op_addD (de_v 1 (pv 1)) (de_if (dt_of (de_ix (de_v 0 (pv 0)) (de_int))) (de_str) (de_str)))))
theorem ok_law_link_row (x : Fx K h mg) : Dn P w K mg base d_law_link_row 1 P_law_link_row (spD K mg 1 F_law_link_row) := dnD (x.c.def_ 25 (d := d_law_link_row)) sc_law_link_row (b_law_link_row x)
theorem bd_law_link_row : Bds K d_law_link_row P_law_link_row := fun fd F => F.bindsN fun _ _ _ _ _ _ us hl => match us, hl with | [_], _ => rfl
theorem kb_Linkx_initx_2 : KIs K mg d_Linkx_initx P_Linkx_initx 2 [] (fun ds es => pick [.p 0, .p 1, .d 0, .m 0] ds [(.int 0)] [(.bl false)] es) := fun fd F => by
  obtain ⟨its, mv, h⟩ := F.kbinds (ps := P_Linkx_initx) 3 [] [("early", cV (.bl false))] (fun us its mv ws => pick (.p 0 :: ([.p 0, .p 1, .d 0, .m 0] : List Src).map Src.up) us its mv ws) (by decide) (by decide) (by decide) (fun a b c d => pick_vals a b c d _) (fun _ _ _ _ _ _ _ us its mv ws h1 h2 h3 h4 => match us, its, mv, ws, h1, h2, h3, h4 with | [_, _, _], [_], [_], [], _, _, _, _ => ⟨_, rfl, ⟨_, _, _, _, _, _, rfl, rfl, rfl⟩⟩)
  exact KI.of (src := [.p 0, .p 1, .d 0, .m 0]) (dd := [(.int 0)]) (md := [(.bl false)]) h (by decide) (by decide) (by decide)
theorem kb_Linkx_initx_2_early : KIs K mg d_Linkx_initx P_Linkx_initx 2 ["early"] (fun ds es => pick [.p 0, .p 1, .d 0, .k 0] ds [(.int 0)] [] es) := fun fd F => by
  obtain ⟨its, mv, h⟩ := F.kbinds (ps := P_Linkx_initx) 3 ["early"] [] (fun us its mv ws => pick (.p 0 :: ([.p 0, .p 1, .d 0, .k 0] : List Src).map Src.up) us its mv ws) (by decide) (by decide) (by decide) (fun a b c d => pick_vals a b c d _) (fun _ _ _ _ _ _ _ us its mv ws h1 h2 h3 h4 => match us, its, mv, ws, h1, h2, h3, h4 with | [_, _, _], [_], [], [_], _, _, _, _ => ⟨_, rfl, rfl⟩)
  exact KI.of (src := [.p 0, .p 1, .d 0, .k 0]) (dd := [(.int 0)]) (md := []) h (by decide) (by decide) (by decide)
def m_law_link_right : M Fl := sSeq (sPar 2 3 (aCons (mMk 3 3 1 (fun ds es => pick [.p 0, .p 1, .p 2, .k 0] ds [(.int 0)] [] es) F_Linkx_initx (aCons (m2 ixD (vR 0) (mPure (.int 0))) (aCons (m2 ixD (vR 0) (mPure (.int 1))) (aCons (m2 ixD (vR 0) (mPure (.int 2))) (aNil)))) (aCons (m2 ixD (vR 0) (mPure (.int 3))) (aNil))) (aCons (mMk 3 0 4 (fun ds es => pick [.k 3, .k 2, .k 1, .k 0] ds [(.int 0)] [] es) F_Linkx_initx aNil (aCons (m2 ixD (vR 1) (mPure (.int 3))) (aCons (m2 ixD (vR 1) (mPure (.int 2))) (aCons (m2 ixD (vR 1) (mPure (.int 1))) (aCons (m2 ixD (vR 1) (mPure (.int 0))) (aNil)))))) (aNil)))) (sSeq (sIf (mB (m2 neX (mCall reprD (aCons (mBind (mLst (aCons (mMe0 [3] F_Link_source (vR 2)) (aCons (mMe0 [3] F_Link_target (vR 2)) (aCons (mMe0 [3] F_Link_stock (vR 2)) (aCons (mMe0 [3] F_Link_early (vR 2)) (aNil)))))) fun l => mPure (.lst l)) (aNil))) (mCall reprD (aCons (mCall listD (aCons (vR 0) (aNil))) (aNil))))) (sRet (mPure (.bl false))) (sNil)) (sSeq (sIf (mB (m2 neX (mCall reprD (aCons (mBind (mLst (aCons (mMe0 [3] F_Link_source (vR 3)) (aCons (mMe0 [3] F_Link_target (vR 3)) (aCons (mMe0 [3] F_Link_stock (vR 3)) (aCons (mMe0 [3] F_Link_early (vR 3)) (aNil)))))) fun l => mPure (.lst l)) (aNil))) (mCall reprD (aCons (mCall listD (aCons (vR 1) (aNil))) (aNil))))) (sRet (mPure (.bl false))) (sNil)) (sSeq (sIf (mOr (mB (m2 neX (mCall strX (aCons (vR 2) (aNil))) (mFn 1 0 (fun ds _ => ds) F_law_link_row (aCons (vR 0) (aNil)) (aNil)))) (mB (m2 neX (mCall strX (aCons (vR 3) (aNil))) (mFn 1 0 (fun ds _ => ds) F_law_link_row (aCons (vR 1) (aNil)) (aNil))))) (sRet (mPure (.bl false))) (sNil)) (sSeq (sSet 4 (mBind (mLst (aCons (m2 eqX (vR 0) (vR 1)) (aCons (m2 neX (vR 0) (vR 1)) (aCons (mPure (.bl true)) (aNil))))) fun l => mPure (.lst l))) (sSeq (sIf (mB (m2 neX (mCall reprD (aCons (mBind (mLst (aCons (m2 eqX (vR 2) (vR 3)) (aCons (m2 neX (vR 2) (vR 3)) (aCons (m2 eqX (vR 2) (mMk 3 3 1 (fun ds es => pick [.p 0, .p 1, .p 2, .k 0] ds [(.int 0)] [] es) F_Linkx_initx (aCons (m2 ixD (vR 0) (mPure (.int 0))) (aCons (m2 ixD (vR 0) (mPure (.int 1))) (aCons (m2 ixD (vR 0) (mPure (.int 2))) (aNil)))) (aCons (m2 ixD (vR 0) (mPure (.int 3))) (aNil)))) (aNil))))) fun l => mPure (.lst l)) (aNil))) (mCall reprD (aCons (vR 4) (aNil))))) (sRet (mPure (.bl false))) (sNil)) (sSeq (sSet 5 (mMk 3 2 0 (fun ds es => pick [.p 0, .p 1, .d 0, .m 0] ds [(.int 0)] [(.bl false)] es) F_Linkx_initx (aCons (m2 ixD (vR 0) (mPure (.int 0))) (aCons (m2 ixD (vR 0) (mPure (.int 1))) (aNil))) (aNil))) (sSeq (sIf (mB (m2 neX (mCall reprD (aCons (mBind (mLst (aCons (mMe0 [3] F_Link_source (vR 5)) (aCons (mMe0 [3] F_Link_target (vR 5)) (aCons (mMe0 [3] F_Link_stock (vR 5)) (aCons (mMe0 [3] F_Link_early (vR 5)) (aNil)))))) fun l => mPure (.lst l)) (aNil))) (mCall reprD (aCons (mBind (mLst (aCons (m2 ixD (vR 0) (mPure (.int 0))) (aCons (m2 ixD (vR 0) (mPure (.int 1))) (aCons (mPure (.int 0)) (aCons (mPure (.bl false)) (aNil)))))) fun l => mPure (.lst l)) (aNil))))) (sRet (mPure (.bl false))) (sNil)) (sSeq (sIf (mOr (mB (m2 (isD true) (mMe0 [3] F_Link_early (mMk 3 3 0 (fun ds es => pick [.p 0, .p 1, .p 2, .m 0] ds [(.int 0)] [(.bl false)] es) F_Linkx_initx (aCons (m2 ixD (vR 0) (mPure (.int 0))) (aCons (m2 ixD (vR 0) (mPure (.int 1))) (aCons (m2 ixD (vR 0) (mPure (.int 2))) (aNil)))) (aNil))) (mPure (.bl false)))) (mB (m2 neX (mMe0 [3] F_Link_stock (mMk 3 2 1 (fun ds es => pick [.p 0, .p 1, .d 0, .k 0] ds [(.int 0)] [] es) F_Linkx_initx (aCons (m2 ixD (vR 0) (mPure (.int 0))) (aCons (m2 ixD (vR 0) (mPure (.int 1))) (aNil))) (aCons (m2 ixD (vR 0) (mPure (.int 3))) (aNil)))) (mPure (.int 0))))) (sRet (mPure (.bl false))) (sNil)) (sRet (m2 eqX (mCall reprD (aCons (mBind (mLst (aCons (m2 eqX (vR 2) (vR 0)) (aCons (m2 neX (vR 2) (vR 0)) (aCons (m2 eqX (vR 2) (mMk 2 1 0 (fun ds es => pick [.p 0, .d 0, .m 0] ds [(.int 1)] [(.bl true)] es) F_Stationx_initx (aCons (m2 ixD (vR 0) (mPure (.int 0))) (aNil)) (aNil))) (aNil))))) fun l => mPure (.lst l)) (aNil))) (mPure (.str "[False, True, False]"))))))))))))
def F_law_link_right : List D → Option D := runD 6 m_law_link_right
theorem b_law_link_right (x : Fx K h mg) : BodyX P w K mg base d_law_link_right N_law_link_right 4 m_law_link_right := fun cdv A outer s H E hr hgd G => dss_cons (ds_par 2 3 rfl sc_law_link_right.nd rfl rfl (by decide) rfl rfl (da_cons (dmk (d := d_Linkx_initx) (c := 3) (x.mk_Link) (ok_Linkx_initx x) kb_Linkx_initx_3_early hr hgd (x.c_Link).g rfl rfl (da_cons (de_ix (de_v 0 (pv 0)) (de_int)) (da_cons (de_ix (de_v 0 (pv 0)) (de_int)) (da_cons (de_ix (de_v 0 (pv 0)) (de_int)) (da_nil)))) (dk_cons (de_ix (de_v 0 (pv 0)) (de_int)) (dk_nil))) (da_cons (dmk0 (d := d_Linkx_initx) (c := 3) (x.mk_Link) (ok_Linkx_initx x) kb_Linkx_initx_0_early_stock_target_source hr hgd (x.c_Link).g rfl rfl (dk_cons (de_ix (de_v 1 (pv 1)) (de_int)) (dk_cons (de_ix (de_v 1 (pv 1)) (de_int)) (dk_cons (de_ix (de_v 1 (pv 1)) (de_int)) (dk_cons (de_ix (de_v 1 (pv 1)) (de_int)) (dk_nil)))))) (da_nil))) (by rfl)) (dss_cons (ds_if (dt_cmpD (opD_or (op_neDD hr) (opD_or (dne (te_Stationx_eqx x) (x.if_Stationx_eqx) (ok_Stationx_eqx x) rfl bd_Stationx_eqx hr hgd) (dne (te_Linkx_eqx x) (x.if_Linkx_eqx) (ok_Linkx_eqx x) rfl bd_Linkx_eqx hr hgd))) (de_cB (c_repr hr hgd) rfl (x.f_repr) rfl (da_cons (DF.de (df_lst (da_cons (dprop (d := d_Link_source) (pp := fun K => He.ma K (He.ga K (clsName 3)) "source") (cs := [3]) (de_v 2 (pv 2)) (by intro c hc; simp only [List.mem_cons, List.not_mem_nil, or_false] at hc; rcases hc with rfl <;> first | exact ⟨_, (x.c_Link), (x.pr_Link_source)⟩) (ok_Link_source x) bd_Link_source hr hgd) (da_cons (dprop (d := d_Link_target) (pp := fun K => He.ma K (He.ga K (clsName 3)) "target") (cs := [3]) (de_v 2 (pv 2)) (by intro c hc; simp only [List.mem_cons, List.not_mem_nil, or_false] at hc; rcases hc with rfl <;> first | exact ⟨_, (x.c_Link), (x.pr_Link_target)⟩) (ok_Link_target x) bd_Link_target hr hgd) (da_cons (dprop (d := d_Link_stock) (pp := fun K => He.ma K (He.ga K (clsName 3)) "stock") (cs := [3]) (de_v 2 (pv 2)) (by intro c hc; simp only [List.mem_cons, List.not_mem_nil, or_false] at hc; rcases hc with rfl <;> first | exact ⟨_, (x.c_Link), (x.pr_Link_stock)⟩) (ok_Link_stock x) bd_Link_stock hr hgd) (da_cons (dprop (d := d_Link_early) (pp := fun K => He.ma K (He.ga K (clsName 3)) "early") (cs := [3]) (de_v 2 (pv 2)) (by intro c hc; simp only [List.mem_cons, List.not_mem_nil, or_false] at hc; rcases hc with rfl <;> first | exact ⟨_, (x.c_Link), (x.pr_Link_early)⟩) (ok_Link_early x) bd_Link_early hr hgd) (da_nil))))))) (da_nil))) (de_cB (c_repr hr hgd) rfl (x.f_repr) rfl (da_cons (de_cT c_list rfl (x.f_list) rfl (da_cons (de_v 0 (pv 0)) (da_nil))) (da_nil))) (nomark _)) (dss_one (ds_ret (de_bl))) (dss_nil)) (dss_cons (ds_if (dt_cmpD (opD_or (op_neDD hr) (opD_or (dne (te_Stationx_eqx x) (x.if_Stationx_eqx) (ok_Stationx_eqx x) rfl bd_Stationx_eqx hr hgd) (dne (te_Linkx_eqx x) (x.if_Linkx_eqx) (ok_Linkx_eqx x) rfl bd_Linkx_eqx hr hgd))) (de_cB (c_repr hr hgd) rfl (x.f_repr) rfl (da_cons (DF.de (df_lst (da_cons (dprop (d := d_Link_source) (pp := fun K => He.ma K (He.ga K (clsName 3)) "source") (cs := [3]) (de_v 3 (pv 3)) (by intro c hc; simp only [List.mem_cons, List.not_mem_nil, or_false] at hc; rcases hc with rfl <;> first | exact ⟨_, (x.c_Link), (x.pr_Link_source)⟩) (ok_Link_source x) bd_Link_source hr hgd) (da_cons (dprop (d := d_Link_target) (pp := fun K => He.ma K (He.ga K (clsName 3)) "target") (cs := [3]) (de_v 3 (pv 3)) (by intro c hc; simp only [List.mem_cons, List.not_mem_nil, or_false] at hc; rcases hc with rfl <;> first | exact ⟨_, (x.c_Link), (x.pr_Link_target)⟩) (ok_Link_target x) bd_Link_target hr hgd) (da_cons (dprop (d := d_Link_stock) (pp := fun K => He.ma K (He.ga K (clsName 3)) "stock") (cs := [3]) (de_v 3 (pv 3)) (by intro c hc; simp only [List.mem_cons, List.not_mem_nil, or_false] at hc; rcases hc with rfl <;> first | exact ⟨_, (x.c_Link), (x.pr_Link_stock)⟩) (ok_Link_stock x) bd_Link_stock hr hgd) (da_cons (dprop (d := d_Link_early) (pp := fun K => He.ma K (He.ga K (clsName 3)) "early") (cs := [3]) (de_v 3 (pv 3)) (by intro c hc; simp only [List.mem_cons, List.not_mem_nil, or_false] at hc; rcases hc with rfl <;> first | exact ⟨_, (x.c_Link), (x.pr_Link_early)⟩) (ok_Link_early x) bd_Link_early hr hgd) (da_nil))))))) (da_nil))) (de_cB (c_repr hr hgd) rfl (x.f_repr) rfl (da_cons (de_cT c_list rfl (x.f_list) rfl (da_cons (de_v 1 (pv 1)) (da_nil))) (da_nil))) (nomark _)) (dss_one (ds_ret (de_bl))) (dss_nil)) (dss_cons (ds_if (DW.dt (dw_or (dt_cmpD (opD_or (op_neDD hr) (opD_or (dne (te_Stationx_eqx x) (x.if_Stationx_eqx) (ok_Stationx_eqx x) rfl bd_Stationx_eqx hr hgd) (dne (te_Linkx_eqx x) (x.if_Linkx_eqx) (ok_Linkx_eqx x) rfl bd_Linkx_eqx hr hgd))) (de_cT (callD_or c_str (callD_or (dstr (d := d_Stationx_strx) (by intro c hc; simp only [List.mem_cons, List.not_mem_nil, or_false] at hc; rcases hc with rfl <;> first | exact ⟨⟨_, (x.c_Station), (x.st_Station)⟩⟩) (x.if_Stationx_strx) (ok_Stationx_strx x) bd_Stationx_strx hr hgd) (dstr (d := d_Linkx_strx) (by intro c hc; simp only [List.mem_cons, List.not_mem_nil, or_false] at hc; rcases hc with rfl <;> first | exact ⟨⟨_, (x.c_Link), (x.st_Link)⟩⟩) (x.if_Linkx_strx) (ok_Linkx_strx x) bd_Linkx_strx hr hgd))) rfl (x.f_str) rfl (da_cons (de_v 2 (pv 2)) (da_nil))) (dcall (d := d_law_link_row) (ok_law_link_row x) (KBs.all bd_law_link_row) hr hgd (x.g_law_link_row) rfl (da_cons (de_v 0 (pv 0)) (da_nil)) (dk_nil)) (nomark _)) (dw_or1 (dt_cmpD (opD_or (op_neDD hr) (opD_or (dne (te_Stationx_eqx x) (x.if_Stationx_eqx) (ok_Stationx_eqx x) rfl bd_Stationx_eqx hr hgd) (dne (te_Linkx_eqx x) (x.if_Linkx_eqx) (ok_Linkx_eqx x) rfl bd_Linkx_eqx hr hgd))) (de_cT (callD_or c_str (callD_or (dstr (d := d_Stationx_strx) (by intro c hc; simp only [List.mem_cons, List.not_mem_nil, or_false] at hc; rcases hc with rfl <;> first | exact ⟨⟨_, (x.c_Station), (x.st_Station)⟩⟩) (x.if_Stationx_strx) (ok_Stationx_strx x) bd_Stationx_strx hr hgd) (dstr (d := d_Linkx_strx) (by intro c hc; simp only [List.mem_cons, List.not_mem_nil, or_false] at hc; rcases hc with rfl <;> first | exact ⟨⟨_, (x.c_Link), (x.st_Link)⟩⟩) (x.if_Linkx_strx) (ok_Linkx_strx x) bd_Linkx_strx hr hgd))) rfl (x.f_str) rfl (da_cons (de_v 3 (pv 3)) (da_nil))) (dcall (d := d_law_link_row) (ok_law_link_row x) (KBs.all bd_law_link_row) hr hgd (x.g_law_link_row) rfl (da_cons (de_v 1 (pv 1)) (da_nil)) (dk_nil)) (nomark _))))) (dss_one (ds_ret (de_bl))) (dss_nil)) (dss_cons (ds_set 4 sc_law_link_right.nd rfl (.inl rfl) (DF.de (df_lst (da_cons (de_cmpD (opD_or (op_eqDD hr) (opD_or (deq (te_Stationx_eqx x) (x.if_Stationx_eqx) (ok_Stationx_eqx x) rfl bd_Stationx_eqx hr hgd) (deq (te_Linkx_eqx x) (x.if_Linkx_eqx) (ok_Linkx_eqx x) rfl bd_Linkx_eqx hr hgd))) (de_v 0 (pv 0)) (de_v 1 (pv 1)) (nomark _)) (da_cons (de_cmpD (opD_or (op_neDD hr) (opD_or (dne (te_Stationx_eqx x) (x.if_Stationx_eqx) (ok_Stationx_eqx x) rfl bd_Stationx_eqx hr hgd) (dne (te_Linkx_eqx x) (x.if_Linkx_eqx) (ok_Linkx_eqx x) rfl bd_Linkx_eqx hr hgd))) (de_v 0 (pv 0)) (de_v 1 (pv 1)) (nomark _)) (da_cons (de_bl) (da_nil))))))) (dss_cons (ds_if (dt_cmpD (opD_or (op_neDD hr) (opD_or (dne (te_Stationx_eqx x) (x.if_Stationx_eqx) (ok_Stationx_eqx x) rfl bd_Stationx_eqx hr hgd) (dne (te_Linkx_eqx x) (x.if_Linkx_eqx) (ok_Linkx_eqx x) rfl bd_Linkx_eqx hr hgd))) (de_cB (c_repr hr hgd) rfl (x.f_repr) rfl (da_cons (DF.de (df_lst (da_cons (de_cmpD (opD_or (op_eqDD hr) (opD_or (deq (te_Stationx_eqx x) (x.if_Stationx_eqx) (ok_Stationx_eqx x) rfl bd_Stationx_eqx hr hgd) (deq (te_Linkx_eqx x) (x.if_Linkx_eqx) (ok_Linkx_eqx x) rfl bd_Linkx_eqx hr hgd))) (de_v 2 (pv 2)) (de_v 3 (pv 3)) (nomark _)) (da_cons (de_cmpD (opD_or (op_neDD hr) (opD_or (dne (te_Stationx_eqx x) (x.if_Stationx_eqx) (ok_Stationx_eqx x) rfl bd_Stationx_eqx hr hgd) (dne (te_Linkx_eqx x) (x.if_Linkx_eqx) (ok_Linkx_eqx x) rfl bd_Linkx_eqx hr hgd))) (de_v 2 (pv 2)) (de_v 3 (pv 3)) (nomark _)) (da_cons (de_cmpD (opD_or (op_eqDD hr) (opD_or (deq (te_Stationx_eqx x) (x.if_Stationx_eqx) (ok_Stationx_eqx x) rfl bd_Stationx_eqx hr hgd) (deq (te_Linkx_eqx x) (x.if_Linkx_eqx) (ok_Linkx_eqx x) rfl bd_Linkx_eqx hr hgd))) (de_v 2 (pv 2)) (dmk (d := d_Linkx_initx) (c := 3) (x.mk_Link) (ok_Linkx_initx x) kb_Linkx_initx_3_early hr hgd (x.c_Link).g rfl rfl (da_cons (de_ix (de_v 0 (pv 0)) (de_int)) (da_cons (de_ix (de_v 0 (pv 0)) (de_int)) (da_cons (de_ix (de_v 0 (pv 0)) (de_int)) (da_nil)))) (dk_cons (de_ix (de_v 0 (pv 0)) (de_int)) (dk_nil))) (nomark _)) (da_nil)))))) (da_nil))) (de_cB (c_repr hr hgd) rfl (x.f_repr) rfl (da_cons (de_v 4 (pv 4)) (da_nil))) (nomark _)) (dss_one (ds_ret (de_bl))) (dss_nil)) (dss_cons (ds_set 5 sc_law_link_right.nd rfl (.inl rfl) (dmk (d := d_Linkx_initx) (c := 3) (x.mk_Link) (ok_Linkx_initx x) kb_Linkx_initx_2 hr hgd (x.c_Link).g rfl rfl (da_cons (de_ix (de_v 0 (pv 0)) (de_int)) (da_cons (de_ix (de_v 0 (pv 0)) (de_int)) (da_nil))) (dk_nil))) (dss_cons (ds_if (dt_cmpD (opD_or (op_neDD hr) (opD_or (dne (te_Stationx_eqx x) (x.if_Stationx_eqx) (ok_Stationx_eqx x) rfl bd_Stationx_eqx hr hgd) (dne (te_Linkx_eqx x) (x.if_Linkx_eqx) (ok_Linkx_eqx x) rfl bd_Linkx_eqx hr hgd))) (de_cB (c_repr hr hgd) rfl (x.f_repr) rfl (da_cons (DF.de (df_lst (da_cons (dprop (d := d_Link_source) (pp := fun K => He.ma K (He.ga K (clsName 3)) "source") (cs := [3]) (de_v 5 (pv 5)) (by intro c hc; simp only [List.mem_cons, List.not_mem_nil, or_false] at hc; rcases hc with rfl <;> first | exact ⟨_, (x.c_Link), (x.pr_Link_source)⟩) (ok_Link_source x) bd_Link_source hr hgd) (da_cons (dprop (d := d_Link_target) (pp := fun K => He.ma K (He.ga K (clsName 3)) "target") (cs := [3]) (de_v 5 (pv 5)) (by intro c hc; simp only [List.mem_cons, List.not_mem_nil, or_false] at hc; rcases hc with rfl <;> first | exact ⟨_, (x.c_Link), (x.pr_Link_target)⟩) (ok_Link_target x) bd_Link_target hr hgd) (da_cons (dprop (d := d_Link_stock) (pp := fun K => He.ma K (He.ga K (clsName 3)) "stock") (cs := [3]) (de_v 5 (pv 5)) (by intro c hc; simp only [List.mem_cons, List.not_mem_nil, or_false] at hc; rcases hc with rfl <;> first | exact ⟨_, (x.c_Link), (x.pr_Link_stock)⟩) (ok_Link_stock x) bd_Link_stock hr hgd) (da_cons (dprop (d := d_Link_early) (pp := fun K => He.ma K (He.ga K (clsName 3)) "early") (cs := [3]) (de_v 5 (pv 5)) (by intro c hc; simp only [List.mem_cons, List.not_mem_nil, or_false] at hc; rcases hc with rfl <;> first | exact ⟨_, (x.c_Link), (x.pr_Link_early)⟩) (ok_Link_early x) bd_Link_early hr hgd) (da_nil))))))) (da_nil))) (de_cB (c_repr hr hgd) rfl (x.f_repr) rfl (da_cons (DF.de (df_lst (da_cons (de_ix (de_v 0 (pv 0)) (de_int)) (da_cons (de_ix (de_v 0 (pv 0)) (de_int)) (da_cons (de_int) (da_cons (de_bl) (da_nil))))))) (da_nil))) (nomark _)) (dss_one (ds_ret (de_bl))) (dss_nil)) (dss_cons (ds_if (DW.dt (dw_or (dt_cmpD op_notD (dprop (d := d_Link_early) (pp := fun K => He.ma K (He.ga K (clsName 3)) "early") (cs := [3]) (dmk (d := d_Linkx_initx) (c := 3) (x.mk_Link) (ok_Linkx_initx x) kb_Linkx_initx_3 hr hgd (x.c_Link).g rfl rfl (da_cons (de_ix (de_v 0 (pv 0)) (de_int)) (da_cons (de_ix (de_v 0 (pv 0)) (de_int)) (da_cons (de_ix (de_v 0 (pv 0)) (de_int)) (da_nil)))) (dk_nil)) (by intro c hc; simp only [List.mem_cons, List.not_mem_nil, or_false] at hc; rcases hc with rfl <;> first | exact ⟨_, (x.c_Link), (x.pr_Link_early)⟩) (ok_Link_early x) bd_Link_early hr hgd) (de_bl) (nomark _)) (dw_or1 (dt_cmpD (opD_or (op_neDD hr) (opD_or (dne (te_Stationx_eqx x) (x.if_Stationx_eqx) (ok_Stationx_eqx x) rfl bd_Stationx_eqx hr hgd) (dne (te_Linkx_eqx x) (x.if_Linkx_eqx) (ok_Linkx_eqx x) rfl bd_Linkx_eqx hr hgd))) (dprop (d := d_Link_stock) (pp := fun K => He.ma K (He.ga K (clsName 3)) "stock") (cs := [3]) (dmk (d := d_Linkx_initx) (c := 3) (x.mk_Link) (ok_Linkx_initx x) kb_Linkx_initx_2_early hr hgd (x.c_Link).g rfl rfl (da_cons (de_ix (de_v 0 (pv 0)) (de_int)) (da_cons (de_ix (de_v 0 (pv 0)) (de_int)) (da_nil))) (dk_cons (de_ix (de_v 0 (pv 0)) (de_int)) (dk_nil))) (by intro c hc; simp only [List.mem_cons, List.not_mem_nil, or_false] at hc; rcases hc with rfl <;> first | exact ⟨_, (x.c_Link), (x.pr_Link_stock)⟩) (ok_Link_stock x) bd_Link_stock hr hgd) (de_int) (nomark _))))) (dss_one (ds_ret (de_bl))) (dss_nil)) (dss_one (ds_ret (de_cmpD (opD_or (op_eqDD hr) (opD_or (deq (te_Stationx_eqx x) (x.if_Stationx_eqx) (ok_Stationx_eqx x) rfl bd_Stationx_eqx hr hgd) (deq (te_Linkx_eqx x) (x.if_Linkx_eqx) (ok_Linkx_eqx x) rfl bd_Linkx_eqx hr hgd))) (de_cB (c_repr hr hgd) rfl (x.f_repr) rfl (da_cons (DF.de (df_lst (da_cons (de_cmpD (opD_or (op_eqDD hr) (opD_or (deq (te_Stationx_eqx x) (x.if_Stationx_eqx) (ok_Stationx_eqx x) rfl bd_Stationx_eqx hr hgd) (deq (te_Linkx_eqx x) (x.if_Linkx_eqx) (ok_Linkx_eqx x) rfl bd_Linkx_eqx hr hgd))) (de_v 2 (pv 2)) (de_v 0 (pv 0)) (nomark _)) (da_cons (de_cmpD (opD_or (op_neDD hr) (opD_or (dne (te_Stationx_eqx x) (x.if_Stationx_eqx) (ok_Stationx_eqx x) rfl bd_Stationx_eqx hr hgd) (dne (te_Linkx_eqx x) (x.if_Linkx_eqx) (ok_Linkx_eqx x) rfl bd_Linkx_eqx hr hgd))) (de_v 2 (pv 2)) (de_v 0 (pv 0)) (nomark _)) (da_cons (de_cmpD (opD_or (op_eqDD hr) (opD_or (deq (te_Stationx_eqx x) (x.if_Stationx_eqx) (ok_Stationx_eqx x) rfl bd_Stationx_eqx hr hgd) (deq (te_Linkx_eqx x) (x.if_Linkx_eqx) (ok_Linkx_eqx x) rfl bd_Linkx_eqx hr hgd))) (de_v 2 (pv 2)) (dmk (d := d_Stationx_initx) (c := 2) (x.mk_Station) (ok_Stationx_initx x) kb_Stationx_initx_1 hr hgd (x.c_Station).g rfl rfl (da_cons (de_ix (de_v 0 (pv 0)) (de_int)) (da_nil)) (dk_nil)) (nomark _)) (da_nil)))))) (da_nil))) (de_str) (nomark _))))))))))))
theorem ok_law_link_right (x : Fx K h mg) : Dn P w K mg base d_law_link_right 5 P_law_link_right (spD K mg 2 F_law_link_right) := dnD (x.c.def_ 26 (d := d_law_link_right)) sc_law_link_right (b_law_link_right x)
theorem bd_law_link_right : Bds K d_law_link_right P_law_link_right := fun fd F => F.bindsN fun _ _ _ _ _ _ us hl => match us, hl with | [_, _], _ => rfl
def m_law_turn : M Fl := sSeq (sSet 1 (mFnW 0 2 F_law_names (aCons (mPure (.int 4)) (aNil)))) (sSeq (sSet 2 (mTup (aCons (m2 ixD (vR 1) (mPure (.int 0))) (aCons (m2 ixD (mBind (mLst (aCons (mPure (.int 1)) (aCons (mPure (.int 2)) (aCons (mPure (.int 3)) (aCons (mPure (.int 4)) (aCons (mPure .non) (aNil))))))) fun l => mPure (.lst l)) (mFnW 0 2 F_law_draw (aCons (mPure (.int 5)) (aNil)))) (aCons (m2 (eqD false) (mFnW 0 2 F_law_draw (aCons (mPure (.int 2)) (aNil))) (mPure (.int 0))) (aNil)))))) (sSeq (sSet 3 (mTup (aCons (m2 ixD (vR 1) (mPure (.int 0))) (aCons (m2 ixD (mBind (mLst (aCons (mPure (.int 1)) (aCons (mPure (.int 2)) (aCons (mPure (.int 3)) (aCons (mPure (.int 4)) (aCons (mPure .non) (aNil))))))) fun l => mPure (.lst l)) (mFnW 0 2 F_law_draw (aCons (mPure (.int 5)) (aNil)))) (aCons (m2 (eqD false) (mFnW 0 2 F_law_draw (aCons (mPure (.int 2)) (aNil))) (mPure (.int 0))) (aNil)))))) (sSeq (sSet 4 (mFnW 0 2 F_law_draw (aCons (mPure (.int 5)) (aNil)))) (sSeq (sSet 3 (m2 ixD (mBind (mLst (aCons (vR 2) (aCons (mTup (aCons (m2 ixD (vR 1) (mPure (.int 1))) (aCons (m2 ixD (vR 2) (mPure (.int 1))) (aCons (m2 ixD (vR 2) (mPure (.int 2))) (aNil))))) (aCons (mTup (aCons (m2 ixD (vR 2) (mPure (.int 0))) (aCons (m2 ixD (vR 3) (mPure (.int 1))) (aCons (m2 ixD (vR 2) (mPure (.int 2))) (aNil))))) (aCons (mTup (aCons (m2 ixD (vR 2) (mPure (.int 0))) (aCons (m2 ixD (vR 2) (mPure (.int 1))) (aCons (m2 ixD (vR 3) (mPure (.int 2))) (aNil))))) (aCons (vR 3) (aNil))))))) fun l => mPure (.lst l)) (vR 4))) (sSeq (sIf (mNot (mTru (mFn 2 0 (fun ds _ => ds) F_law_station_right (aCons (vR 2) (aCons (vR 3) (aNil))) (aNil)))) (sRet (mPure (.bl false))) (sNil)) (sSeq (sSet 2 (mTup (aCons (m2 ixD (vR 1) (mPure (.int 0))) (aCons (m2 ixD (vR 1) (mFnW 0 2 F_law_draw (aCons (mPure (.int 2)) (aNil)))) (aCons (mFnW 0 2 F_law_draw (aCons (mPure (.int 6)) (aNil))) (aCons (m2 (eqD false) (mFnW 0 2 F_law_draw (aCons (mPure (.int 2)) (aNil))) (mPure (.int 0))) (aNil))))))) (sSeq (sSet 3 (mTup (aCons (m2 ixD (vR 1) (mPure (.int 2))) (aCons (m2 ixD (vR 1) (mPure (.int 3))) (aCons (mFnW 0 2 F_law_draw (aCons (mPure (.int 6)) (aNil))) (aCons (mNotV (m2 ixD (vR 2) (mPure (.int 3)))) (aNil))))))) (sSeq (sSet 5 (mBind (mLst (aCons (vR 2) (aCons (mTup (aCons (m2 ixD (vR 3) (mPure (.int 0))) (aCons (m2 ixD (vR 2) (mPure (.int 1))) (aCons (m2 ixD (vR 2) (mPure (.int 2))) (aCons (m2 ixD (vR 2) (mPure (.int 3))) (aNil)))))) (aCons (mTup (aCons (m2 ixD (vR 2) (mPure (.int 0))) (aCons (m2 ixD (vR 3) (mPure (.int 1))) (aCons (m2 ixD (vR 2) (mPure (.int 2))) (aCons (m2 ixD (vR 2) (mPure (.int 3))) (aNil)))))) (aCons (mTup (aCons (m2 ixD (vR 2) (mPure (.int 0))) (aCons (m2 ixD (vR 2) (mPure (.int 1))) (aCons (m2 ixD (vR 3) (mPure (.int 2))) (aCons (m2 ixD (vR 2) (mPure (.int 3))) (aNil)))))) (aNil)))))) fun l => mPure (.lst l))) (sSeq (sSet 5 (m2 addD (vR 5) (mBind (mLst (aCons (mTup (aCons (m2 ixD (vR 2) (mPure (.int 0))) (aCons (m2 ixD (vR 2) (mPure (.int 1))) (aCons (m2 ixD (vR 2) (mPure (.int 2))) (aCons (m2 ixD (vR 3) (mPure (.int 3))) (aNil)))))) (aCons (mTup (aCons (m2 ixD (vR 2) (mPure (.int 1))) (aCons (m2 ixD (vR 2) (mPure (.int 0))) (aCons (m2 ixD (vR 2) (mPure (.int 2))) (aCons (m2 ixD (vR 2) (mPure (.int 3))) (aNil)))))) (aCons (vR 3) (aNil))))) fun l => mPure (.lst l)))) (sRet (mFn 2 0 (fun ds _ => ds) F_law_link_right (aCons (vR 2) (aCons (m2 ixD (vR 5) (mFnW 0 2 F_law_draw (aCons (mPure (.int 7)) (aNil)))) (aNil))) (aNil))))))))))))
def F_law_turn : List D → List D → Option (D × List D) := runW 6 m_law_turn
theorem b_law_turn (x : Fx K h mg) : BodyX P w K mg base d_law_turn N_law_turn 5 m_law_turn := fun cdv A outer s H E hr hgd G => dss_cons (ds_set 1 sc_law_turn.nd rfl (.inl rfl) (dcallW (d := d_law_names) 0 (pv 0) (ok_law_names x) bd_law_names hr hgd (x.g_law_names) rfl (da_cons (de_int) (da_nil)))) (dss_cons (ds_set 2 sc_law_turn.nd rfl (.inl rfl) (de_tup (da_cons (de_ix (de_v 1 (pv 1)) (de_int)) (da_cons (de_ix (DF.de (df_lst (da_cons (de_int) (da_cons (de_int) (da_cons (de_int) (da_cons (de_int) (da_cons (de_non) (da_nil)))))))) (dcallW (d := d_law_draw) 0 (pv 0) (ok_law_draw x) bd_law_draw hr hgd (x.g_law_draw) rfl (da_cons (de_int) (da_nil)))) (da_cons (de_cmpD (op_eqDD hr) (dcallW (d := d_law_draw) 0 (pv 0) (ok_law_draw x) bd_law_draw hr hgd (x.g_law_draw) rfl (da_cons (de_int) (da_nil))) (de_int) (nomark _)) (da_nil)))))) (dss_cons (ds_set 3 sc_law_turn.nd rfl (.inl rfl) (de_tup (da_cons (de_ix (de_v 1 (pv 1)) (de_int)) (da_cons (de_ix (DF.de (df_lst (da_cons (de_int) (da_cons (de_int) (da_cons (de_int) (da_cons (de_int) (da_cons (de_non) (da_nil)))))))) (dcallW (d := d_law_draw) 0 (pv 0) (ok_law_draw x) bd_law_draw hr hgd (x.g_law_draw) rfl (da_cons (de_int) (da_nil)))) (da_cons (de_cmpD (op_eqDD hr) (dcallW (d := d_law_draw) 0 (pv 0) (ok_law_draw x) bd_law_draw hr hgd (x.g_law_draw) rfl (da_cons (de_int) (da_nil))) (de_int) (nomark _)) (da_nil)))))) (dss_cons (ds_set 4 sc_law_turn.nd rfl (.inl rfl) (dcallW (d := d_law_draw) 0 (pv 0) (ok_law_draw x) bd_law_draw hr hgd (x.g_law_draw) rfl (da_cons (de_int) (da_nil)))) (dss_cons (ds_set 3 sc_law_turn.nd rfl (.inl rfl) (de_ix (DF.de (df_lst (da_cons (de_v 2 (pv 2)) (da_cons (de_tup (da_cons (de_ix (de_v 1 (pv 1)) (de_int)) (da_cons (de_ix (de_v 2 (pv 2)) (de_int)) (da_cons (de_ix (de_v 2 (pv 2)) (de_int)) (da_nil))))) (da_cons (de_tup (da_cons (de_ix (de_v 2 (pv 2)) (de_int)) (da_cons (de_ix (de_v 3 (pv 3)) (de_int)) (da_cons (de_ix (de_v 2 (pv 2)) (de_int)) (da_nil))))) (da_cons (de_tup (da_cons (de_ix (de_v 2 (pv 2)) (de_int)) (da_cons (de_ix (de_v 2 (pv 2)) (de_int)) (da_cons (de_ix (de_v 3 (pv 3)) (de_int)) (da_nil))))) (da_cons (de_v 3 (pv 3)) (da_nil)))))))) (de_v 4 (pv 4)))) (dss_cons (ds_if (dt_not (dt_of (dcall (d := d_law_station_right) (ok_law_station_right x) (KBs.all bd_law_station_right) hr hgd (x.g_law_station_right) rfl (da_cons (de_v 2 (pv 2)) (da_cons (de_v 3 (pv 3)) (da_nil))) (dk_nil)))) (dss_one (ds_ret (de_bl))) (dss_nil)) (dss_cons (ds_set 2 sc_law_turn.nd rfl (.inl rfl) (de_tup (da_cons (de_ix (de_v 1 (pv 1)) (de_int)) (da_cons (de_ix (de_v 1 (pv 1)) (dcallW (d := d_law_draw) 0 (pv 0) (ok_law_draw x) bd_law_draw hr hgd (x.g_law_draw) rfl (da_cons (de_int) (da_nil)))) (da_cons (dcallW (d := d_law_draw) 0 (pv 0) (ok_law_draw x) bd_law_draw hr hgd (x.g_law_draw) rfl (da_cons (de_int) (da_nil))) (da_cons (de_cmpD (op_eqDD hr) (dcallW (d := d_law_draw) 0 (pv 0) (ok_law_draw x) bd_law_draw hr hgd (x.g_law_draw) rfl (da_cons (de_int) (da_nil))) (de_int) (nomark _)) (da_nil))))))) (dss_cons (ds_set 3 sc_law_turn.nd rfl (.inl rfl) (de_tup (da_cons (de_ix (de_v 1 (pv 1)) (de_int)) (da_cons (de_ix (de_v 1 (pv 1)) (de_int)) (da_cons (dcallW (d := d_law_draw) 0 (pv 0) (ok_law_draw x) bd_law_draw hr hgd (x.g_law_draw) rfl (da_cons (de_int) (da_nil))) (da_cons (de_not (de_ix (de_v 2 (pv 2)) (de_int))) (da_nil))))))) (dss_cons (ds_set 5 sc_law_turn.nd rfl (.inl rfl) (DF.de (df_lst (da_cons (de_v 2 (pv 2)) (da_cons (de_tup (da_cons (de_ix (de_v 3 (pv 3)) (de_int)) (da_cons (de_ix (de_v 2 (pv 2)) (de_int)) (da_cons (de_ix (de_v 2 (pv 2)) (de_int)) (da_cons (de_ix (de_v 2 (pv 2)) (de_int)) (da_nil)))))) (da_cons (de_tup (da_cons (de_ix (de_v 2 (pv 2)) (de_int)) (da_cons (de_ix (de_v 3 (pv 3)) (de_int)) (da_cons (de_ix (de_v 2 (pv 2)) (de_int)) (da_cons (de_ix (de_v 2 (pv 2)) (de_int)) (da_nil)))))) (da_cons (de_tup (da_cons (de_ix (de_v 2 (pv 2)) (de_int)) (da_cons (de_ix (de_v 2 (pv 2)) (de_int)) (da_cons (de_ix (de_v 3 (pv 3)) (de_int)) (da_cons (de_ix (de_v 2 (pv 2)) (de_int)) (da_nil)))))) (da_nil)))))))) (dss_cons (ds_set 5 sc_law_turn.nd rfl (.inl rfl) (de_opD op_addD (de_v 5 (pv 5)) (DF.de (df_lst (da_cons (de_tup (da_cons (de_ix (de_v 2 (pv 2)) (de_int)) (da_cons (de_ix (de_v 2 (pv 2)) (de_int)) (da_cons (de_ix (de_v 2 (pv 2)) (de_int)) (da_cons (de_ix (de_v 3 (pv 3)) (de_int)) (da_nil)))))) (da_cons (de_tup (da_cons (de_ix (de_v 2 (pv 2)) (de_int)) (da_cons (de_ix (de_v 2 (pv 2)) (de_int)) (da_cons (de_ix (de_v 2 (pv 2)) (de_int)) (da_cons (de_ix (de_v 2 (pv 2)) (de_int)) (da_nil)))))) (da_cons (de_v 3 (pv 3)) (da_nil)))))))) (dss_one (ds_ret (dcall (d := d_law_link_right) (ok_law_link_right x) (KBs.all bd_law_link_right) hr hgd (x.g_law_link_right) rfl (da_cons (de_v 2 (pv 2)) (da_cons (de_ix (de_v 5 (pv 5)) (dcallW (d := d_law_draw) 0 (pv 0) (ok_law_draw x) bd_law_draw hr hgd (x.g_law_draw) rfl (da_cons (de_int) (da_nil)))) (da_nil))) (dk_nil)))))))))))))
theorem ok_law_turn (x : Fx K h mg) : Dn P w K mg base d_law_turn 6 P_law_turn (spW K mg 1 F_law_turn) := dnW (x.c.def_ 27 (d := d_law_turn)) sc_law_turn (b_law_turn x)
theorem bd_law_turn : Bds K d_law_turn P_law_turn := fun fd F => F.bindsN fun _ _ _ _ _ _ us hl => match us, hl with | [_], _ => rfl
def m_law : M Fl := sSeq (sFor (mBind (aCons (mCall maxD (aCons (mPure (.int 2)) (aCons (mCall minD (aCons (mCall lenD (aCons (vR 0) (aNil))) (aCons (mPure (.int 4)) (aNil)))) (aNil)))) (aNil)) fun l => mLift (rng1 l)) (gN 1) (sSeq (sOwn 2 (mFn 2 0 (fun ds _ => ds) F_law_well (aCons (vR 0) (aCons (vR 1) (aNil))) (aNil))) (sIf (mB (m2 (eqD true) (mBind (mLc (mBind (aCons (mPure (.int 5)) (aNil)) fun l => mLift (rng1 l)) (gN 3) (mNot (mTru (mFnW 2 1 F_law_turn (aNil)))) (vR 3) [3]) fun l => mPure (.lst l)) (mBind (mLst (aNil)) fun l => mPure (.lst l)))) (sRet (mPure (.bl false))) (sNil)))) (sRet (mPure (.bl true)))
def F_law : List D → Option D := runD 4 m_law
theorem b_law (x : Fx K h mg) : BodyX P w K mg base d_law N_law 6 m_law := fun cdv A outer s H E hr hgd G => dss_cons (ds_for PassesOwn.never rfl (di_range1 rfl (x.f_range) (da_cons (de_cB (c_max rfl) rfl (x.f_max) rfl (da_cons (de_int) (da_cons (de_cB (c_min rfl) rfl (x.f_min) rfl (da_cons (de_cB c_len rfl (x.f_len) rfl (da_cons (de_v 0 (pv 0)) (da_nil))) (da_cons (de_int) (da_nil)))) (da_nil)))) (da_nil))) (dg_name 1 sc_law.nd rfl (.inl rfl)) (dss_cons (ds_own 2 (by decide) sc_law.nd rfl (.inr rfl) (dcallF (d := d_law_well) (ok_law_well x) (KBs.all bd_law_well) hr hgd (x.g_law_well) rfl (da_cons (de_v 0 (pv 0)) (da_cons (de_v 1 (pv 1)) (da_nil))) (dk_nil))) (dss_one (ds_if (dt_cmpD (op_neDD hr) (DF.de (df_lc (own := [("_law_turn_here", 3)]) rfl sc_law.nd (di_range1 rfl (x.f_range) (da_cons (de_int) (da_nil))) (blkOk_by (own := [("_law_turn_here", 3)]) (N := N_law) (sc := d_law.scope) (by decide +kernel)) (by decide) (fun _ _ _ _ _ _ => dg_name 3 sc_law.nd rfl (.inl rfl)) (fun _ _ _ _ _ _ => dts_one (dt_not (dt_of (dcallW (d := d_law_turn) 2 (pv 2) (ok_law_turn x) bd_law_turn hr hgd (x.g_law_turn) rfl (da_nil))))) (fun _ _ _ _ _ _ => de_v 3 (pv 3)))) (DF.de (df_lst (da_nil))) (nomark _)) (dss_one (ds_ret (de_bl))) (dss_nil))))) (dss_one (ds_ret (de_bl)))
theorem ok_law (x : Fx K h mg) : Dn P w K mg base d_law 7 P_law (spD K mg 1 F_law) := dnD (x.c.def_ 28 (d := d_law)) sc_law (b_law x)
theorem bd_law : Bds K d_law P_law := fun fd F => F.bindsN fun _ _ _ _ _ _ us hl => match us, hl with | [_], _ => rfl
end Lw
end
set_option Elab.async false
set_option linter.all false
set_option maxRecDepth 100000
set_option maxHeartbeats 4000000
namespace Lw
open PySem L2 Dv
/-- a well: three ints -/
def WellOk (l : List D) : Prop := ∃ n f c : Int, l = [.int n, .int f, .int c] ∧ 0 ≤ n ∧ n < 2147483579 ∧ 0 ≤ f
theorem p_cell (ns : List Int) (k : Nat) : ∃ d, F_law_cell [.scr ns, .int k] = some d ∧ ∃ c : Int, d = .int c := by
  refine runD_ex ?_
  unfold m_law_cell
  (repeat' (first | ((with_reducible apply i_v); rfl) | with_reducible refine i_2 ?_ | with_reducible refine i_1 ?_ | with_reducible refine i_call ?_ | with_reducible refine i_callF ?_ | with_reducible refine i_2F ?_ | with_reducible refine i_if ?_ | with_reducible refine i_sif ?_ | with_reducible refine i_B ?_ | with_reducible refine i_tru ?_ | with_reducible refine i_not ?_ | with_reducible refine i_and ?_ | with_reducible refine i_or ?_ | with_reducible refine i_notV ?_ | with_reducible refine i_andV ?_ | with_reducible refine i_orV ?_ | with_reducible refine i_ch ?_ | with_reducible refine i_tup ?_ | with_reducible refine i_lst ?_ | with_reducible refine i_sl ?_ | with_reducible refine i_fn ?_ | with_reducible refine i_mk ?_ | with_reducible refine i_me0 ?_ | with_reducible refine i_me ?_ | with_reducible refine i_bor ?_ | with_reducible refine i_borT ?_ | with_reducible refine i_join ?_ | with_reducible refine i_js0 ?_ | with_reducible refine i_js1 ?_ | with_reducible refine i_sseq ?_ | with_reducible refine i_sret ?_ | with_reducible refine i_sretF ?_ | with_reducible refine i_sexpr ?_ | with_reducible refine i_sset ?_ | with_reducible refine i_sown ?_ | with_reducible refine i_ssetL ?_ | with_reducible refine i_spar ?_ | with_reducible refine i_sasg ?_ | with_reducible refine i_sitem ?_ | with_reducible refine i_sapp ?_ | with_reducible refine i_sfs ?_ | with_reducible refine i_frz ?_ | with_reducible refine i_sfor ?_ | with_reducible refine i_lc ?_ | with_reducible refine i_snil ?_ | with_reducible refine i_nil ?_ | with_reducible refine i_cons ?_ | with_reducible refine i_pure ?_ | with_reducible refine i_lift ?_ | with_reducible refine i_bind ?_ | ((with_reducible apply i_fnW); rfl) | with_reducible refine nxN ?_ | with_reducible refine nxR ?_ | with_reducible refine nxF ?_ | with_reducible refine nxB ?_ | with_reducible refine nxC ?_ | with_reducible refine brN ?_ | with_reducible refine brT ?_ | with_reducible refine brF ?_ | ((with_reducible refine brYes (decide_eq_true ?_) ?_); omega) | ((with_reducible refine brNo (decide_eq_false ?_) ?_); omega) | ((with_reducible refine brYes ?_ ?_); (focus decide)) | ((with_reducible refine brNo ?_ ?_); (focus decide)) | ((with_reducible refine o_mod ?_ ?_); omega) | ((with_reducible refine o_fdiv ?_ ?_ ?_); omega; omega) | ((with_reducible refine o_mul ?_ ?_); omega) | ((with_reducible refine o_pow ?_ ?_); omega) | ((first | with_reducible refine o_addL ?_ ?_ | with_reducible refine o_addT ?_ ?_); (focus (rw [sizeLine_eq]; simp only [List.length_cons, List.length_nil, List.length_append, List.length_map]; omega))) | ((with_reducible refine o_strI (log_small ?_) ?_); omega) | ((with_reducible refine o_fmtI (log_small ?_) ?_); omega) | ((with_reducible refine o_rng1 ?_ ?_); omega) | ((with_reducible refine o_rng1I ?_ ?_ ?_); omega; omega) | ((fail_if_success with_reducible refine noRng1 ?_); (fail_if_success with_reducible refine noRng2 ?_); (fail_if_success with_reducible refine noRng3 ?_); (with_reducible apply opr); rfl) | ((with_reducible refine And.intro ?_ ?_); (first | rfl | decide | assumption | (focus (rw [sizeLine_eq]; simp; done)) | (focus (rw [rangeD_length, sizeLine_eq]; omega)))) | (with_reducible refine Exists.intro _ (And.intro rfl ?_)) | (with_reducible refine Exists.intro _ (Exists.intro _ (And.intro rfl ?_))) | fail))
  refine br (fun hk => ?_) (fun hk => ?_)
  · have hk : (k : Int) < ns.length := of_decide_eq_true hk
    (repeat' (first | ((with_reducible apply i_v); rfl) | with_reducible refine i_2 ?_ | with_reducible refine i_1 ?_ | with_reducible refine i_call ?_ | with_reducible refine i_callF ?_ | with_reducible refine i_2F ?_ | with_reducible refine i_if ?_ | with_reducible refine i_sif ?_ | with_reducible refine i_B ?_ | with_reducible refine i_tru ?_ | with_reducible refine i_not ?_ | with_reducible refine i_and ?_ | with_reducible refine i_or ?_ | with_reducible refine i_notV ?_ | with_reducible refine i_andV ?_ | with_reducible refine i_orV ?_ | with_reducible refine i_ch ?_ | with_reducible refine i_tup ?_ | with_reducible refine i_lst ?_ | with_reducible refine i_sl ?_ | with_reducible refine i_fn ?_ | with_reducible refine i_mk ?_ | with_reducible refine i_me0 ?_ | with_reducible refine i_me ?_ | with_reducible refine i_bor ?_ | with_reducible refine i_borT ?_ | with_reducible refine i_join ?_ | with_reducible refine i_js0 ?_ | with_reducible refine i_js1 ?_ | with_reducible refine i_sseq ?_ | with_reducible refine i_sret ?_ | with_reducible refine i_sretF ?_ | with_reducible refine i_sexpr ?_ | with_reducible refine i_sset ?_ | with_reducible refine i_sown ?_ | with_reducible refine i_ssetL ?_ | with_reducible refine i_spar ?_ | with_reducible refine i_sasg ?_ | with_reducible refine i_sitem ?_ | with_reducible refine i_sapp ?_ | with_reducible refine i_sfs ?_ | with_reducible refine i_frz ?_ | with_reducible refine i_sfor ?_ | with_reducible refine i_lc ?_ | with_reducible refine i_snil ?_ | with_reducible refine i_nil ?_ | with_reducible refine i_cons ?_ | with_reducible refine i_pure ?_ | with_reducible refine i_lift ?_ | with_reducible refine i_bind ?_ | ((with_reducible apply i_fnW); rfl) | with_reducible refine nxN ?_ | with_reducible refine nxR ?_ | with_reducible refine nxF ?_ | with_reducible refine nxB ?_ | with_reducible refine nxC ?_ | with_reducible refine brN ?_ | with_reducible refine brT ?_ | with_reducible refine brF ?_ | ((with_reducible refine brYes (decide_eq_true ?_) ?_); omega) | ((with_reducible refine brNo (decide_eq_false ?_) ?_); omega) | ((with_reducible refine brYes ?_ ?_); (focus decide)) | ((with_reducible refine brNo ?_ ?_); (focus decide)) | ((with_reducible refine o_mod ?_ ?_); omega) | ((with_reducible refine o_fdiv ?_ ?_ ?_); omega; omega) | ((with_reducible refine o_mul ?_ ?_); omega) | ((with_reducible refine o_pow ?_ ?_); omega) | ((first | with_reducible refine o_addL ?_ ?_ | with_reducible refine o_addT ?_ ?_); (focus (rw [sizeLine_eq]; simp only [List.length_cons, List.length_nil, List.length_append, List.length_map]; omega))) | ((with_reducible refine o_strI (log_small ?_) ?_); omega) | ((with_reducible refine o_fmtI (log_small ?_) ?_); omega) | ((with_reducible refine o_rng1 ?_ ?_); omega) | ((with_reducible refine o_rng1I ?_ ?_ ?_); omega; omega) | ((fail_if_success with_reducible refine noRng1 ?_); (fail_if_success with_reducible refine noRng2 ?_); (fail_if_success with_reducible refine noRng3 ?_); (with_reducible apply opr); rfl) | ((with_reducible refine And.intro ?_ ?_); (first | rfl | decide | assumption | (focus (rw [sizeLine_eq]; simp; done)) | (focus (rw [rangeD_length, sizeLine_eq]; omega)))) | (with_reducible refine Exists.intro _ (And.intro rfl ?_)) | (with_reducible refine Exists.intro _ (Exists.intro _ (And.intro rfl ?_))) | fail))
    refine ⟨.int ns[k], by simp only [ixD, at_nat (show k < ns.length by omega), Option.map_some], ?_⟩
    (repeat' (first | ((with_reducible apply i_v); rfl) | with_reducible refine i_2 ?_ | with_reducible refine i_1 ?_ | with_reducible refine i_call ?_ | with_reducible refine i_callF ?_ | with_reducible refine i_2F ?_ | with_reducible refine i_if ?_ | with_reducible refine i_sif ?_ | with_reducible refine i_B ?_ | with_reducible refine i_tru ?_ | with_reducible refine i_not ?_ | with_reducible refine i_and ?_ | with_reducible refine i_or ?_ | with_reducible refine i_notV ?_ | with_reducible refine i_andV ?_ | with_reducible refine i_orV ?_ | with_reducible refine i_ch ?_ | with_reducible refine i_tup ?_ | with_reducible refine i_lst ?_ | with_reducible refine i_sl ?_ | with_reducible refine i_fn ?_ | with_reducible refine i_mk ?_ | with_reducible refine i_me0 ?_ | with_reducible refine i_me ?_ | with_reducible refine i_bor ?_ | with_reducible refine i_borT ?_ | with_reducible refine i_join ?_ | with_reducible refine i_js0 ?_ | with_reducible refine i_js1 ?_ | with_reducible refine i_sseq ?_ | with_reducible refine i_sret ?_ | with_reducible refine i_sretF ?_ | with_reducible refine i_sexpr ?_ | with_reducible refine i_sset ?_ | with_reducible refine i_sown ?_ | with_reducible refine i_ssetL ?_ | with_reducible refine i_spar ?_ | with_reducible refine i_sasg ?_ | with_reducible refine i_sitem ?_ | with_reducible refine i_sapp ?_ | with_reducible refine i_sfs ?_ | with_reducible refine i_frz ?_ | with_reducible refine i_sfor ?_ | with_reducible refine i_lc ?_ | with_reducible refine i_snil ?_ | with_reducible refine i_nil ?_ | with_reducible refine i_cons ?_ | with_reducible refine i_pure ?_ | with_reducible refine i_lift ?_ | with_reducible refine i_bind ?_ | ((with_reducible apply i_fnW); rfl) | with_reducible refine nxN ?_ | with_reducible refine nxR ?_ | with_reducible refine nxF ?_ | with_reducible refine nxB ?_ | with_reducible refine nxC ?_ | with_reducible refine brN ?_ | with_reducible refine brT ?_ | with_reducible refine brF ?_ | ((with_reducible refine brYes (decide_eq_true ?_) ?_); omega) | ((with_reducible refine brNo (decide_eq_false ?_) ?_); omega) | ((with_reducible refine brYes ?_ ?_); (focus decide)) | ((with_reducible refine brNo ?_ ?_); (focus decide)) | ((with_reducible refine o_mod ?_ ?_); omega) | ((with_reducible refine o_fdiv ?_ ?_ ?_); omega; omega) | ((with_reducible refine o_mul ?_ ?_); omega) | ((with_reducible refine o_pow ?_ ?_); omega) | ((first | with_reducible refine o_addL ?_ ?_ | with_reducible refine o_addT ?_ ?_); (focus (rw [sizeLine_eq]; simp only [List.length_cons, List.length_nil, List.length_append, List.length_map]; omega))) | ((with_reducible refine o_strI (log_small ?_) ?_); omega) | ((with_reducible refine o_fmtI (log_small ?_) ?_); omega) | ((with_reducible refine o_rng1 ?_ ?_); omega) | ((with_reducible refine o_rng1I ?_ ?_ ?_); omega; omega) | ((fail_if_success with_reducible refine noRng1 ?_); (fail_if_success with_reducible refine noRng2 ?_); (fail_if_success with_reducible refine noRng3 ?_); (with_reducible apply opr); rfl) | ((with_reducible refine And.intro ?_ ?_); (first | rfl | decide | assumption | (focus (rw [sizeLine_eq]; simp; done)) | (focus (rw [rangeD_length, sizeLine_eq]; omega)))) | (with_reducible refine Exists.intro _ (And.intro rfl ?_)) | (with_reducible refine Exists.intro _ (Exists.intro _ (And.intro rfl ?_))) | fail))
    exact ⟨_, rfl⟩
  · (repeat' (first | ((with_reducible apply i_v); rfl) | with_reducible refine i_2 ?_ | with_reducible refine i_1 ?_ | with_reducible refine i_call ?_ | with_reducible refine i_callF ?_ | with_reducible refine i_2F ?_ | with_reducible refine i_if ?_ | with_reducible refine i_sif ?_ | with_reducible refine i_B ?_ | with_reducible refine i_tru ?_ | with_reducible refine i_not ?_ | with_reducible refine i_and ?_ | with_reducible refine i_or ?_ | with_reducible refine i_notV ?_ | with_reducible refine i_andV ?_ | with_reducible refine i_orV ?_ | with_reducible refine i_ch ?_ | with_reducible refine i_tup ?_ | with_reducible refine i_lst ?_ | with_reducible refine i_sl ?_ | with_reducible refine i_fn ?_ | with_reducible refine i_mk ?_ | with_reducible refine i_me0 ?_ | with_reducible refine i_me ?_ | with_reducible refine i_bor ?_ | with_reducible refine i_borT ?_ | with_reducible refine i_join ?_ | with_reducible refine i_js0 ?_ | with_reducible refine i_js1 ?_ | with_reducible refine i_sseq ?_ | with_reducible refine i_sret ?_ | with_reducible refine i_sretF ?_ | with_reducible refine i_sexpr ?_ | with_reducible refine i_sset ?_ | with_reducible refine i_sown ?_ | with_reducible refine i_ssetL ?_ | with_reducible refine i_spar ?_ | with_reducible refine i_sasg ?_ | with_reducible refine i_sitem ?_ | with_reducible refine i_sapp ?_ | with_reducible refine i_sfs ?_ | with_reducible refine i_frz ?_ | with_reducible refine i_sfor ?_ | with_reducible refine i_lc ?_ | with_reducible refine i_snil ?_ | with_reducible refine i_nil ?_ | with_reducible refine i_cons ?_ | with_reducible refine i_pure ?_ | with_reducible refine i_lift ?_ | with_reducible refine i_bind ?_ | ((with_reducible apply i_fnW); rfl) | with_reducible refine nxN ?_ | with_reducible refine nxR ?_ | with_reducible refine nxF ?_ | with_reducible refine nxB ?_ | with_reducible refine nxC ?_ | with_reducible refine brN ?_ | with_reducible refine brT ?_ | with_reducible refine brF ?_ | ((with_reducible refine brYes (decide_eq_true ?_) ?_); omega) | ((with_reducible refine brNo (decide_eq_false ?_) ?_); omega) | ((with_reducible refine brYes ?_ ?_); (focus decide)) | ((with_reducible refine brNo ?_ ?_); (focus decide)) | ((with_reducible refine o_mod ?_ ?_); omega) | ((with_reducible refine o_fdiv ?_ ?_ ?_); omega; omega) | ((with_reducible refine o_mul ?_ ?_); omega) | ((with_reducible refine o_pow ?_ ?_); omega) | ((first | with_reducible refine o_addL ?_ ?_ | with_reducible refine o_addT ?_ ?_); (focus (rw [sizeLine_eq]; simp only [List.length_cons, List.length_nil, List.length_append, List.length_map]; omega))) | ((with_reducible refine o_strI (log_small ?_) ?_); omega) | ((with_reducible refine o_fmtI (log_small ?_) ?_); omega) | ((with_reducible refine o_rng1 ?_ ?_); omega) | ((with_reducible refine o_rng1I ?_ ?_ ?_); omega; omega) | ((fail_if_success with_reducible refine noRng1 ?_); (fail_if_success with_reducible refine noRng2 ?_); (fail_if_success with_reducible refine noRng3 ?_); (with_reducible apply opr); rfl) | ((with_reducible refine And.intro ?_ ?_); (first | rfl | decide | assumption | (focus (rw [sizeLine_eq]; simp; done)) | (focus (rw [rangeD_length, sizeLine_eq]; omega)))) | (with_reducible refine Exists.intro _ (And.intro rfl ?_)) | (with_reducible refine Exists.intro _ (Exists.intro _ (And.intro rfl ?_))) | fail))
    refine i_forL (fun items τ => (∀ d ∈ items, ∃ i : Int, d = .int i) ∧ ∃ (s : Int) (o : Option Sl), τ = [some (Sl.val (D.scr ns)), some (Sl.val (D.int ↑k)), some (Sl.val (D.int s)), o]) ?_ ?_ ?_
    · refine ⟨fun d hd => ?_, _, _, rfl⟩
      unfold cutD at hd
      have := List.mem_of_mem_drop (List.mem_of_mem_take hd)
      obtain ⟨i, _, rfl⟩ := List.mem_map.mp this
      exact ⟨i, rfl⟩
    · rintro d ds τ ⟨h1, s, o, rfl⟩
      obtain ⟨i, rfl⟩ := h1 d (by simp)
      (repeat' (first | ((with_reducible apply i_v); rfl) | with_reducible refine i_2 ?_ | with_reducible refine i_1 ?_ | with_reducible refine i_call ?_ | with_reducible refine i_callF ?_ | with_reducible refine i_2F ?_ | with_reducible refine i_if ?_ | with_reducible refine i_sif ?_ | with_reducible refine i_B ?_ | with_reducible refine i_tru ?_ | with_reducible refine i_not ?_ | with_reducible refine i_and ?_ | with_reducible refine i_or ?_ | with_reducible refine i_notV ?_ | with_reducible refine i_andV ?_ | with_reducible refine i_orV ?_ | with_reducible refine i_ch ?_ | with_reducible refine i_tup ?_ | with_reducible refine i_lst ?_ | with_reducible refine i_sl ?_ | with_reducible refine i_fn ?_ | with_reducible refine i_mk ?_ | with_reducible refine i_me0 ?_ | with_reducible refine i_me ?_ | with_reducible refine i_bor ?_ | with_reducible refine i_borT ?_ | with_reducible refine i_join ?_ | with_reducible refine i_js0 ?_ | with_reducible refine i_js1 ?_ | with_reducible refine i_sseq ?_ | with_reducible refine i_sret ?_ | with_reducible refine i_sretF ?_ | with_reducible refine i_sexpr ?_ | with_reducible refine i_sset ?_ | with_reducible refine i_sown ?_ | with_reducible refine i_ssetL ?_ | with_reducible refine i_spar ?_ | with_reducible refine i_sasg ?_ | with_reducible refine i_sitem ?_ | with_reducible refine i_sapp ?_ | with_reducible refine i_sfs ?_ | with_reducible refine i_frz ?_ | with_reducible refine i_sfor ?_ | with_reducible refine i_lc ?_ | with_reducible refine i_snil ?_ | with_reducible refine i_nil ?_ | with_reducible refine i_cons ?_ | with_reducible refine i_pure ?_ | with_reducible refine i_lift ?_ | with_reducible refine i_bind ?_ | ((with_reducible apply i_fnW); rfl) | with_reducible refine nxN ?_ | with_reducible refine nxR ?_ | with_reducible refine nxF ?_ | with_reducible refine nxB ?_ | with_reducible refine nxC ?_ | with_reducible refine brN ?_ | with_reducible refine brT ?_ | with_reducible refine brF ?_ | ((with_reducible refine brYes (decide_eq_true ?_) ?_); omega) | ((with_reducible refine brNo (decide_eq_false ?_) ?_); omega) | ((with_reducible refine brYes ?_ ?_); (focus decide)) | ((with_reducible refine brNo ?_ ?_); (focus decide)) | ((with_reducible refine o_mod ?_ ?_); omega) | ((with_reducible refine o_fdiv ?_ ?_ ?_); omega; omega) | ((with_reducible refine o_mul ?_ ?_); omega) | ((with_reducible refine o_pow ?_ ?_); omega) | ((first | with_reducible refine o_addL ?_ ?_ | with_reducible refine o_addT ?_ ?_); (focus (rw [sizeLine_eq]; simp only [List.length_cons, List.length_nil, List.length_append, List.length_map]; omega))) | ((with_reducible refine o_strI (log_small ?_) ?_); omega) | ((with_reducible refine o_fmtI (log_small ?_) ?_); omega) | ((with_reducible refine o_rng1 ?_ ?_); omega) | ((with_reducible refine o_rng1I ?_ ?_ ?_); omega; omega) | ((fail_if_success with_reducible refine noRng1 ?_); (fail_if_success with_reducible refine noRng2 ?_); (fail_if_success with_reducible refine noRng3 ?_); (with_reducible apply opr); rfl) | ((with_reducible refine And.intro ?_ ?_); (first | rfl | decide | assumption | (focus (rw [sizeLine_eq]; simp; done)) | (focus (rw [rangeD_length, sizeLine_eq]; omega)))) | (with_reducible refine Exists.intro _ (And.intro rfl ?_)) | (with_reducible refine Exists.intro _ (Exists.intro _ (And.intro rfl ?_))) | fail))
      exact ⟨fun a ha => h1 a (by simp [ha]), _, _, rfl⟩
    · rintro τ ⟨_, s, o, rfl⟩
      (repeat' (first | ((with_reducible apply i_v); rfl) | with_reducible refine i_2 ?_ | with_reducible refine i_1 ?_ | with_reducible refine i_call ?_ | with_reducible refine i_callF ?_ | with_reducible refine i_2F ?_ | with_reducible refine i_if ?_ | with_reducible refine i_sif ?_ | with_reducible refine i_B ?_ | with_reducible refine i_tru ?_ | with_reducible refine i_not ?_ | with_reducible refine i_and ?_ | with_reducible refine i_or ?_ | with_reducible refine i_notV ?_ | with_reducible refine i_andV ?_ | with_reducible refine i_orV ?_ | with_reducible refine i_ch ?_ | with_reducible refine i_tup ?_ | with_reducible refine i_lst ?_ | with_reducible refine i_sl ?_ | with_reducible refine i_fn ?_ | with_reducible refine i_mk ?_ | with_reducible refine i_me0 ?_ | with_reducible refine i_me ?_ | with_reducible refine i_bor ?_ | with_reducible refine i_borT ?_ | with_reducible refine i_join ?_ | with_reducible refine i_js0 ?_ | with_reducible refine i_js1 ?_ | with_reducible refine i_sseq ?_ | with_reducible refine i_sret ?_ | with_reducible refine i_sretF ?_ | with_reducible refine i_sexpr ?_ | with_reducible refine i_sset ?_ | with_reducible refine i_sown ?_ | with_reducible refine i_ssetL ?_ | with_reducible refine i_spar ?_ | with_reducible refine i_sasg ?_ | with_reducible refine i_sitem ?_ | with_reducible refine i_sapp ?_ | with_reducible refine i_sfs ?_ | with_reducible refine i_frz ?_ | with_reducible refine i_sfor ?_ | with_reducible refine i_lc ?_ | with_reducible refine i_snil ?_ | with_reducible refine i_nil ?_ | with_reducible refine i_cons ?_ | with_reducible refine i_pure ?_ | with_reducible refine i_lift ?_ | with_reducible refine i_bind ?_ | ((with_reducible apply i_fnW); rfl) | with_reducible refine nxN ?_ | with_reducible refine nxR ?_ | with_reducible refine nxF ?_ | with_reducible refine nxB ?_ | with_reducible refine nxC ?_ | with_reducible refine brN ?_ | with_reducible refine brT ?_ | with_reducible refine brF ?_ | ((with_reducible refine brYes (decide_eq_true ?_) ?_); omega) | ((with_reducible refine brNo (decide_eq_false ?_) ?_); omega) | ((with_reducible refine brYes ?_ ?_); (focus decide)) | ((with_reducible refine brNo ?_ ?_); (focus decide)) | ((with_reducible refine o_mod ?_ ?_); omega) | ((with_reducible refine o_fdiv ?_ ?_ ?_); omega; omega) | ((with_reducible refine o_mul ?_ ?_); omega) | ((with_reducible refine o_pow ?_ ?_); omega) | ((first | with_reducible refine o_addL ?_ ?_ | with_reducible refine o_addT ?_ ?_); (focus (rw [sizeLine_eq]; simp only [List.length_cons, List.length_nil, List.length_append, List.length_map]; omega))) | ((with_reducible refine o_strI (log_small ?_) ?_); omega) | ((with_reducible refine o_fmtI (log_small ?_) ?_); omega) | ((with_reducible refine o_rng1 ?_ ?_); omega) | ((with_reducible refine o_rng1I ?_ ?_ ?_); omega; omega) | ((fail_if_success with_reducible refine noRng1 ?_); (fail_if_success with_reducible refine noRng2 ?_); (fail_if_success with_reducible refine noRng3 ?_); (with_reducible apply opr); rfl) | ((with_reducible refine And.intro ?_ ?_); (first | rfl | decide | assumption | (focus (rw [sizeLine_eq]; simp; done)) | (focus (rw [rangeD_length, sizeLine_eq]; omega)))) | (with_reducible refine Exists.intro _ (And.intro rfl ?_)) | (with_reducible refine Exists.intro _ (Exists.intro _ (And.intro rfl ?_))) | fail))
      exact ⟨_, rfl⟩
theorem p_well (ns : List Int) (k : Nat) : ∃ l, F_law_well [.scr ns, .int k] = some l ∧ WellOk l := by
  obtain ⟨_, e, c, rfl⟩ := p_cell ns k
  have w : ∀ f : Int, 0 ≤ f → WellOk [D.int ((c * 69621 + 40014) % 2147483579), D.int f, D.int 0] := fun f hf => ⟨_, _, _, rfl, by omega, by omega, hf⟩
  refine runF_ex ?_
  unfold m_law_well
  (repeat' (first | ((with_reducible apply i_v); rfl) | with_reducible refine i_2 ?_ | with_reducible refine i_1 ?_ | with_reducible refine i_call ?_ | with_reducible refine i_callF ?_ | with_reducible refine i_2F ?_ | with_reducible refine i_if ?_ | with_reducible refine i_sif ?_ | with_reducible refine i_B ?_ | with_reducible refine i_tru ?_ | with_reducible refine i_not ?_ | with_reducible refine i_and ?_ | with_reducible refine i_or ?_ | with_reducible refine i_notV ?_ | with_reducible refine i_andV ?_ | with_reducible refine i_orV ?_ | with_reducible refine i_ch ?_ | with_reducible refine i_tup ?_ | with_reducible refine i_lst ?_ | with_reducible refine i_sl ?_ | with_reducible refine i_fn ?_ | with_reducible refine i_mk ?_ | with_reducible refine i_me0 ?_ | with_reducible refine i_me ?_ | with_reducible refine i_bor ?_ | with_reducible refine i_borT ?_ | with_reducible refine i_join ?_ | with_reducible refine i_js0 ?_ | with_reducible refine i_js1 ?_ | with_reducible refine i_sseq ?_ | with_reducible refine i_sret ?_ | with_reducible refine i_sretF ?_ | with_reducible refine i_sexpr ?_ | with_reducible refine i_sset ?_ | with_reducible refine i_sown ?_ | with_reducible refine i_ssetL ?_ | with_reducible refine i_spar ?_ | with_reducible refine i_sasg ?_ | with_reducible refine i_sitem ?_ | with_reducible refine i_sapp ?_ | with_reducible refine i_sfs ?_ | with_reducible refine i_frz ?_ | with_reducible refine i_sfor ?_ | with_reducible refine i_lc ?_ | with_reducible refine i_snil ?_ | with_reducible refine i_nil ?_ | with_reducible refine i_cons ?_ | with_reducible refine i_pure ?_ | with_reducible refine i_lift ?_ | with_reducible refine i_bind ?_ | ((with_reducible apply i_fnW); rfl) | with_reducible refine nxN ?_ | with_reducible refine nxR ?_ | with_reducible refine nxF ?_ | with_reducible refine nxB ?_ | with_reducible refine nxC ?_ | with_reducible refine brN ?_ | with_reducible refine brT ?_ | with_reducible refine brF ?_ | ((with_reducible refine brYes (decide_eq_true ?_) ?_); omega) | ((with_reducible refine brNo (decide_eq_false ?_) ?_); omega) | ((with_reducible refine brYes ?_ ?_); (focus decide)) | ((with_reducible refine brNo ?_ ?_); (focus decide)) | ((with_reducible refine o_mod ?_ ?_); omega) | ((with_reducible refine o_fdiv ?_ ?_ ?_); omega; omega) | ((with_reducible refine o_mul ?_ ?_); omega) | ((with_reducible refine o_pow ?_ ?_); omega) | ((first | with_reducible refine o_addL ?_ ?_ | with_reducible refine o_addT ?_ ?_); (focus (rw [sizeLine_eq]; simp only [List.length_cons, List.length_nil, List.length_append, List.length_map]; omega))) | ((with_reducible refine o_strI (log_small ?_) ?_); omega) | ((with_reducible refine o_fmtI (log_small ?_) ?_); omega) | ((with_reducible refine o_rng1 ?_ ?_); omega) | ((with_reducible refine o_rng1I ?_ ?_ ?_); omega; omega) | ((fail_if_success with_reducible refine noRng1 ?_); (fail_if_success with_reducible refine noRng2 ?_); (fail_if_success with_reducible refine noRng3 ?_); (with_reducible apply opr); rfl) | ((with_reducible refine And.intro ?_ ?_); (first | rfl | decide | assumption | (focus (rw [sizeLine_eq]; simp; done)) | (focus (rw [rangeD_length, sizeLine_eq]; omega)))) | (with_reducible refine Exists.intro _ (And.intro rfl ?_)) | (with_reducible refine Exists.intro _ (Exists.intro _ (And.intro rfl ?_))) | fail))
  refine got e ?_
  (repeat' (first | ((with_reducible apply i_v); rfl) | with_reducible refine i_2 ?_ | with_reducible refine i_1 ?_ | with_reducible refine i_call ?_ | with_reducible refine i_callF ?_ | with_reducible refine i_2F ?_ | with_reducible refine i_if ?_ | with_reducible refine i_sif ?_ | with_reducible refine i_B ?_ | with_reducible refine i_tru ?_ | with_reducible refine i_not ?_ | with_reducible refine i_and ?_ | with_reducible refine i_or ?_ | with_reducible refine i_notV ?_ | with_reducible refine i_andV ?_ | with_reducible refine i_orV ?_ | with_reducible refine i_ch ?_ | with_reducible refine i_tup ?_ | with_reducible refine i_lst ?_ | with_reducible refine i_sl ?_ | with_reducible refine i_fn ?_ | with_reducible refine i_mk ?_ | with_reducible refine i_me0 ?_ | with_reducible refine i_me ?_ | with_reducible refine i_bor ?_ | with_reducible refine i_borT ?_ | with_reducible refine i_join ?_ | with_reducible refine i_js0 ?_ | with_reducible refine i_js1 ?_ | with_reducible refine i_sseq ?_ | with_reducible refine i_sret ?_ | with_reducible refine i_sretF ?_ | with_reducible refine i_sexpr ?_ | with_reducible refine i_sset ?_ | with_reducible refine i_sown ?_ | with_reducible refine i_ssetL ?_ | with_reducible refine i_spar ?_ | with_reducible refine i_sasg ?_ | with_reducible refine i_sitem ?_ | with_reducible refine i_sapp ?_ | with_reducible refine i_sfs ?_ | with_reducible refine i_frz ?_ | with_reducible refine i_sfor ?_ | with_reducible refine i_lc ?_ | with_reducible refine i_snil ?_ | with_reducible refine i_nil ?_ | with_reducible refine i_cons ?_ | with_reducible refine i_pure ?_ | with_reducible refine i_lift ?_ | with_reducible refine i_bind ?_ | ((with_reducible apply i_fnW); rfl) | with_reducible refine nxN ?_ | with_reducible refine nxR ?_ | with_reducible refine nxF ?_ | with_reducible refine nxB ?_ | with_reducible refine nxC ?_ | with_reducible refine brN ?_ | with_reducible refine brT ?_ | with_reducible refine brF ?_ | ((with_reducible refine brYes (decide_eq_true ?_) ?_); omega) | ((with_reducible refine brNo (decide_eq_false ?_) ?_); omega) | ((with_reducible refine brYes ?_ ?_); (focus decide)) | ((with_reducible refine brNo ?_ ?_); (focus decide)) | ((with_reducible refine o_mod ?_ ?_); omega) | ((with_reducible refine o_fdiv ?_ ?_ ?_); omega; omega) | ((with_reducible refine o_mul ?_ ?_); omega) | ((with_reducible refine o_pow ?_ ?_); omega) | ((first | with_reducible refine o_addL ?_ ?_ | with_reducible refine o_addT ?_ ?_); (focus (rw [sizeLine_eq]; simp only [List.length_cons, List.length_nil, List.length_append, List.length_map]; omega))) | ((with_reducible refine o_strI (log_small ?_) ?_); omega) | ((with_reducible refine o_fmtI (log_small ?_) ?_); omega) | ((with_reducible refine o_rng1 ?_ ?_); omega) | ((with_reducible refine o_rng1I ?_ ?_ ?_); omega; omega) | ((fail_if_success with_reducible refine noRng1 ?_); (fail_if_success with_reducible refine noRng2 ?_); (fail_if_success with_reducible refine noRng3 ?_); (with_reducible apply opr); rfl) | ((with_reducible refine And.intro ?_ ?_); (first | rfl | decide | assumption | (focus (rw [sizeLine_eq]; simp; done)) | (focus (rw [rangeD_length, sizeLine_eq]; omega)))) | (with_reducible refine Exists.intro _ (And.intro rfl ?_)) | (with_reducible refine Exists.intro _ (Exists.intro _ (And.intro rfl ?_))) | fail))
  refine br (fun h => ?_) (fun h => ?_)
  · have h : c < 0 := of_decide_eq_true h
    (repeat' (first | ((with_reducible apply i_v); rfl) | with_reducible refine i_2 ?_ | with_reducible refine i_1 ?_ | with_reducible refine i_call ?_ | with_reducible refine i_callF ?_ | with_reducible refine i_2F ?_ | with_reducible refine i_if ?_ | with_reducible refine i_sif ?_ | with_reducible refine i_B ?_ | with_reducible refine i_tru ?_ | with_reducible refine i_not ?_ | with_reducible refine i_and ?_ | with_reducible refine i_or ?_ | with_reducible refine i_notV ?_ | with_reducible refine i_andV ?_ | with_reducible refine i_orV ?_ | with_reducible refine i_ch ?_ | with_reducible refine i_tup ?_ | with_reducible refine i_lst ?_ | with_reducible refine i_sl ?_ | with_reducible refine i_fn ?_ | with_reducible refine i_mk ?_ | with_reducible refine i_me0 ?_ | with_reducible refine i_me ?_ | with_reducible refine i_bor ?_ | with_reducible refine i_borT ?_ | with_reducible refine i_join ?_ | with_reducible refine i_js0 ?_ | with_reducible refine i_js1 ?_ | with_reducible refine i_sseq ?_ | with_reducible refine i_sret ?_ | with_reducible refine i_sretF ?_ | with_reducible refine i_sexpr ?_ | with_reducible refine i_sset ?_ | with_reducible refine i_sown ?_ | with_reducible refine i_ssetL ?_ | with_reducible refine i_spar ?_ | with_reducible refine i_sasg ?_ | with_reducible refine i_sitem ?_ | with_reducible refine i_sapp ?_ | with_reducible refine i_sfs ?_ | with_reducible refine i_frz ?_ | with_reducible refine i_sfor ?_ | with_reducible refine i_lc ?_ | with_reducible refine i_snil ?_ | with_reducible refine i_nil ?_ | with_reducible refine i_cons ?_ | with_reducible refine i_pure ?_ | with_reducible refine i_lift ?_ | with_reducible refine i_bind ?_ | ((with_reducible apply i_fnW); rfl) | with_reducible refine nxN ?_ | with_reducible refine nxR ?_ | with_reducible refine nxF ?_ | with_reducible refine nxB ?_ | with_reducible refine nxC ?_ | with_reducible refine brN ?_ | with_reducible refine brT ?_ | with_reducible refine brF ?_ | ((with_reducible refine brYes (decide_eq_true ?_) ?_); omega) | ((with_reducible refine brNo (decide_eq_false ?_) ?_); omega) | ((with_reducible refine brYes ?_ ?_); (focus decide)) | ((with_reducible refine brNo ?_ ?_); (focus decide)) | ((with_reducible refine o_mod ?_ ?_); omega) | ((with_reducible refine o_fdiv ?_ ?_ ?_); omega; omega) | ((with_reducible refine o_mul ?_ ?_); omega) | ((with_reducible refine o_pow ?_ ?_); omega) | ((first | with_reducible refine o_addL ?_ ?_ | with_reducible refine o_addT ?_ ?_); (focus (rw [sizeLine_eq]; simp only [List.length_cons, List.length_nil, List.length_append, List.length_map]; omega))) | ((with_reducible refine o_strI (log_small ?_) ?_); omega) | ((with_reducible refine o_fmtI (log_small ?_) ?_); omega) | ((with_reducible refine o_rng1 ?_ ?_); omega) | ((with_reducible refine o_rng1I ?_ ?_ ?_); omega; omega) | ((fail_if_success with_reducible refine noRng1 ?_); (fail_if_success with_reducible refine noRng2 ?_); (fail_if_success with_reducible refine noRng3 ?_); (with_reducible apply opr); rfl) | ((with_reducible refine And.intro ?_ ?_); (first | rfl | decide | assumption | (focus (rw [sizeLine_eq]; simp; done)) | (focus (rw [rangeD_length, sizeLine_eq]; omega)))) | (with_reducible refine Exists.intro _ (And.intro rfl ?_)) | (with_reducible refine Exists.intro _ (Exists.intro _ (And.intro rfl ?_))) | fail))
    refine w _ ?_
    rw [if_pos h]; omega
  · have h : ¬ c < 0 := of_decide_eq_false h
    (repeat' (first | ((with_reducible apply i_v); rfl) | with_reducible refine i_2 ?_ | with_reducible refine i_1 ?_ | with_reducible refine i_call ?_ | with_reducible refine i_callF ?_ | with_reducible refine i_2F ?_ | with_reducible refine i_if ?_ | with_reducible refine i_sif ?_ | with_reducible refine i_B ?_ | with_reducible refine i_tru ?_ | with_reducible refine i_not ?_ | with_reducible refine i_and ?_ | with_reducible refine i_or ?_ | with_reducible refine i_notV ?_ | with_reducible refine i_andV ?_ | with_reducible refine i_orV ?_ | with_reducible refine i_ch ?_ | with_reducible refine i_tup ?_ | with_reducible refine i_lst ?_ | with_reducible refine i_sl ?_ | with_reducible refine i_fn ?_ | with_reducible refine i_mk ?_ | with_reducible refine i_me0 ?_ | with_reducible refine i_me ?_ | with_reducible refine i_bor ?_ | with_reducible refine i_borT ?_ | with_reducible refine i_join ?_ | with_reducible refine i_js0 ?_ | with_reducible refine i_js1 ?_ | with_reducible refine i_sseq ?_ | with_reducible refine i_sret ?_ | with_reducible refine i_sretF ?_ | with_reducible refine i_sexpr ?_ | with_reducible refine i_sset ?_ | with_reducible refine i_sown ?_ | with_reducible refine i_ssetL ?_ | with_reducible refine i_spar ?_ | with_reducible refine i_sasg ?_ | with_reducible refine i_sitem ?_ | with_reducible refine i_sapp ?_ | with_reducible refine i_sfs ?_ | with_reducible refine i_frz ?_ | with_reducible refine i_sfor ?_ | with_reducible refine i_lc ?_ | with_reducible refine i_snil ?_ | with_reducible refine i_nil ?_ | with_reducible refine i_cons ?_ | with_reducible refine i_pure ?_ | with_reducible refine i_lift ?_ | with_reducible refine i_bind ?_ | ((with_reducible apply i_fnW); rfl) | with_reducible refine nxN ?_ | with_reducible refine nxR ?_ | with_reducible refine nxF ?_ | with_reducible refine nxB ?_ | with_reducible refine nxC ?_ | with_reducible refine brN ?_ | with_reducible refine brT ?_ | with_reducible refine brF ?_ | ((with_reducible refine brYes (decide_eq_true ?_) ?_); omega) | ((with_reducible refine brNo (decide_eq_false ?_) ?_); omega) | ((with_reducible refine brYes ?_ ?_); (focus decide)) | ((with_reducible refine brNo ?_ ?_); (focus decide)) | ((with_reducible refine o_mod ?_ ?_); omega) | ((with_reducible refine o_fdiv ?_ ?_ ?_); omega; omega) | ((with_reducible refine o_mul ?_ ?_); omega) | ((with_reducible refine o_pow ?_ ?_); omega) | ((first | with_reducible refine o_addL ?_ ?_ | with_reducible refine o_addT ?_ ?_); (focus (rw [sizeLine_eq]; simp only [List.length_cons, List.length_nil, List.length_append, List.length_map]; omega))) | ((with_reducible refine o_strI (log_small ?_) ?_); omega) | ((with_reducible refine o_fmtI (log_small ?_) ?_); omega) | ((with_reducible refine o_rng1 ?_ ?_); omega) | ((with_reducible refine o_rng1I ?_ ?_ ?_); omega; omega) | ((fail_if_success with_reducible refine noRng1 ?_); (fail_if_success with_reducible refine noRng2 ?_); (fail_if_success with_reducible refine noRng3 ?_); (with_reducible apply opr); rfl) | ((with_reducible refine And.intro ?_ ?_); (first | rfl | decide | assumption | (focus (rw [sizeLine_eq]; simp; done)) | (focus (rw [rangeD_length, sizeLine_eq]; omega)))) | (with_reducible refine Exists.intro _ (And.intro rfl ?_)) | (with_reducible refine Exists.intro _ (Exists.intro _ (And.intro rfl ?_))) | fail))
    refine br (fun h1 => ?_) (fun h1 => ?_)
    · (repeat' (first | ((with_reducible apply i_v); rfl) | with_reducible refine i_2 ?_ | with_reducible refine i_1 ?_ | with_reducible refine i_call ?_ | with_reducible refine i_callF ?_ | with_reducible refine i_2F ?_ | with_reducible refine i_if ?_ | with_reducible refine i_sif ?_ | with_reducible refine i_B ?_ | with_reducible refine i_tru ?_ | with_reducible refine i_not ?_ | with_reducible refine i_and ?_ | with_reducible refine i_or ?_ | with_reducible refine i_notV ?_ | with_reducible refine i_andV ?_ | with_reducible refine i_orV ?_ | with_reducible refine i_ch ?_ | with_reducible refine i_tup ?_ | with_reducible refine i_lst ?_ | with_reducible refine i_sl ?_ | with_reducible refine i_fn ?_ | with_reducible refine i_mk ?_ | with_reducible refine i_me0 ?_ | with_reducible refine i_me ?_ | with_reducible refine i_bor ?_ | with_reducible refine i_borT ?_ | with_reducible refine i_join ?_ | with_reducible refine i_js0 ?_ | with_reducible refine i_js1 ?_ | with_reducible refine i_sseq ?_ | with_reducible refine i_sret ?_ | with_reducible refine i_sretF ?_ | with_reducible refine i_sexpr ?_ | with_reducible refine i_sset ?_ | with_reducible refine i_sown ?_ | with_reducible refine i_ssetL ?_ | with_reducible refine i_spar ?_ | with_reducible refine i_sasg ?_ | with_reducible refine i_sitem ?_ | with_reducible refine i_sapp ?_ | with_reducible refine i_sfs ?_ | with_reducible refine i_frz ?_ | with_reducible refine i_sfor ?_ | with_reducible refine i_lc ?_ | with_reducible refine i_snil ?_ | with_reducible refine i_nil ?_ | with_reducible refine i_cons ?_ | with_reducible refine i_pure ?_ | with_reducible refine i_lift ?_ | with_reducible refine i_bind ?_ | ((with_reducible apply i_fnW); rfl) | with_reducible refine nxN ?_ | with_reducible refine nxR ?_ | with_reducible refine nxF ?_ | with_reducible refine nxB ?_ | with_reducible refine nxC ?_ | with_reducible refine brN ?_ | with_reducible refine brT ?_ | with_reducible refine brF ?_ | ((with_reducible refine brYes (decide_eq_true ?_) ?_); omega) | ((with_reducible refine brNo (decide_eq_false ?_) ?_); omega) | ((with_reducible refine brYes ?_ ?_); (focus decide)) | ((with_reducible refine brNo ?_ ?_); (focus decide)) | ((with_reducible refine o_mod ?_ ?_); omega) | ((with_reducible refine o_fdiv ?_ ?_ ?_); omega; omega) | ((with_reducible refine o_mul ?_ ?_); omega) | ((with_reducible refine o_pow ?_ ?_); omega) | ((first | with_reducible refine o_addL ?_ ?_ | with_reducible refine o_addT ?_ ?_); (focus (rw [sizeLine_eq]; simp only [List.length_cons, List.length_nil, List.length_append, List.length_map]; omega))) | ((with_reducible refine o_strI (log_small ?_) ?_); omega) | ((with_reducible refine o_fmtI (log_small ?_) ?_); omega) | ((with_reducible refine o_rng1 ?_ ?_); omega) | ((with_reducible refine o_rng1I ?_ ?_ ?_); omega; omega) | ((fail_if_success with_reducible refine noRng1 ?_); (fail_if_success with_reducible refine noRng2 ?_); (fail_if_success with_reducible refine noRng3 ?_); (with_reducible apply opr); rfl) | ((with_reducible refine And.intro ?_ ?_); (first | rfl | decide | assumption | (focus (rw [sizeLine_eq]; simp; done)) | (focus (rw [rangeD_length, sizeLine_eq]; omega)))) | (with_reducible refine Exists.intro _ (And.intro rfl ?_)) | (with_reducible refine Exists.intro _ (Exists.intro _ (And.intro rfl ?_))) | fail))
      refine w _ ?_
      rw [if_neg h]; omega
    · (repeat' (first | ((with_reducible apply i_v); rfl) | with_reducible refine i_2 ?_ | with_reducible refine i_1 ?_ | with_reducible refine i_call ?_ | with_reducible refine i_callF ?_ | with_reducible refine i_2F ?_ | with_reducible refine i_if ?_ | with_reducible refine i_sif ?_ | with_reducible refine i_B ?_ | with_reducible refine i_tru ?_ | with_reducible refine i_not ?_ | with_reducible refine i_and ?_ | with_reducible refine i_or ?_ | with_reducible refine i_notV ?_ | with_reducible refine i_andV ?_ | with_reducible refine i_orV ?_ | with_reducible refine i_ch ?_ | with_reducible refine i_tup ?_ | with_reducible refine i_lst ?_ | with_reducible refine i_sl ?_ | with_reducible refine i_fn ?_ | with_reducible refine i_mk ?_ | with_reducible refine i_me0 ?_ | with_reducible refine i_me ?_ | with_reducible refine i_bor ?_ | with_reducible refine i_borT ?_ | with_reducible refine i_join ?_ | with_reducible refine i_js0 ?_ | with_reducible refine i_js1 ?_ | with_reducible refine i_sseq ?_ | with_reducible refine i_sret ?_ | with_reducible refine i_sretF ?_ | with_reducible refine i_sexpr ?_ | with_reducible refine i_sset ?_ | with_reducible refine i_sown ?_ | with_reducible refine i_ssetL ?_ | with_reducible refine i_spar ?_ | with_reducible refine i_sasg ?_ | with_reducible refine i_sitem ?_ | with_reducible refine i_sapp ?_ | with_reducible refine i_sfs ?_ | with_reducible refine i_frz ?_ | with_reducible refine i_sfor ?_ | with_reducible refine i_lc ?_ | with_reducible refine i_snil ?_ | with_reducible refine i_nil ?_ | with_reducible refine i_cons ?_ | with_reducible refine i_pure ?_ | with_reducible refine i_lift ?_ | with_reducible refine i_bind ?_ | ((with_reducible apply i_fnW); rfl) | with_reducible refine nxN ?_ | with_reducible refine nxR ?_ | with_reducible refine nxF ?_ | with_reducible refine nxB ?_ | with_reducible refine nxC ?_ | with_reducible refine brN ?_ | with_reducible refine brT ?_ | with_reducible refine brF ?_ | ((with_reducible refine brYes (decide_eq_true ?_) ?_); omega) | ((with_reducible refine brNo (decide_eq_false ?_) ?_); omega) | ((with_reducible refine brYes ?_ ?_); (focus decide)) | ((with_reducible refine brNo ?_ ?_); (focus decide)) | ((with_reducible refine o_mod ?_ ?_); omega) | ((with_reducible refine o_fdiv ?_ ?_ ?_); omega; omega) | ((with_reducible refine o_mul ?_ ?_); omega) | ((with_reducible refine o_pow ?_ ?_); omega) | ((first | with_reducible refine o_addL ?_ ?_ | with_reducible refine o_addT ?_ ?_); (focus (rw [sizeLine_eq]; simp only [List.length_cons, List.length_nil, List.length_append, List.length_map]; omega))) | ((with_reducible refine o_strI (log_small ?_) ?_); omega) | ((with_reducible refine o_fmtI (log_small ?_) ?_); omega) | ((with_reducible refine o_rng1 ?_ ?_); omega) | ((with_reducible refine o_rng1I ?_ ?_ ?_); omega; omega) | ((fail_if_success with_reducible refine noRng1 ?_); (fail_if_success with_reducible refine noRng2 ?_); (fail_if_success with_reducible refine noRng3 ?_); (with_reducible apply opr); rfl) | ((with_reducible refine And.intro ?_ ?_); (first | rfl | decide | assumption | (focus (rw [sizeLine_eq]; simp; done)) | (focus (rw [rangeD_length, sizeLine_eq]; omega)))) | (with_reducible refine Exists.intro _ (And.intro rfl ?_)) | (with_reducible refine Exists.intro _ (Exists.intro _ (And.intro rfl ?_))) | fail))
      refine w _ ?_
      omega
theorem p_draw0 {l : List D} {m : Int} (h : WellOk l) (h1 : 1 ≤ m) (h2 : m < 1073741824) : ∃ d l', F_law_draw l [.int m] = some (d, l') ∧ (∃ r : Int, d = .int r ∧ 0 ≤ r ∧ r < m) ∧ WellOk l' := by
  obtain ⟨n, f, c, rfl, n1, n2, f1⟩ := h
  refine runW_ex ?_
  unfold m_law_draw
  (repeat' (first | ((with_reducible apply i_v); rfl) | with_reducible refine i_2 ?_ | with_reducible refine i_1 ?_ | with_reducible refine i_call ?_ | with_reducible refine i_callF ?_ | with_reducible refine i_2F ?_ | with_reducible refine i_if ?_ | with_reducible refine i_sif ?_ | with_reducible refine i_B ?_ | with_reducible refine i_tru ?_ | with_reducible refine i_not ?_ | with_reducible refine i_and ?_ | with_reducible refine i_or ?_ | with_reducible refine i_notV ?_ | with_reducible refine i_andV ?_ | with_reducible refine i_orV ?_ | with_reducible refine i_ch ?_ | with_reducible refine i_tup ?_ | with_reducible refine i_lst ?_ | with_reducible refine i_sl ?_ | with_reducible refine i_fn ?_ | with_reducible refine i_mk ?_ | with_reducible refine i_me0 ?_ | with_reducible refine i_me ?_ | with_reducible refine i_bor ?_ | with_reducible refine i_borT ?_ | with_reducible refine i_join ?_ | with_reducible refine i_js0 ?_ | with_reducible refine i_js1 ?_ | with_reducible refine i_sseq ?_ | with_reducible refine i_sret ?_ | with_reducible refine i_sretF ?_ | with_reducible refine i_sexpr ?_ | with_reducible refine i_sset ?_ | with_reducible refine i_sown ?_ | with_reducible refine i_ssetL ?_ | with_reducible refine i_spar ?_ | with_reducible refine i_sasg ?_ | with_reducible refine i_sitem ?_ | with_reducible refine i_sapp ?_ | with_reducible refine i_sfs ?_ | with_reducible refine i_frz ?_ | with_reducible refine i_sfor ?_ | with_reducible refine i_lc ?_ | with_reducible refine i_snil ?_ | with_reducible refine i_nil ?_ | with_reducible refine i_cons ?_ | with_reducible refine i_pure ?_ | with_reducible refine i_lift ?_ | with_reducible refine i_bind ?_ | ((with_reducible apply i_fnW); rfl) | with_reducible refine nxN ?_ | with_reducible refine nxR ?_ | with_reducible refine nxF ?_ | with_reducible refine nxB ?_ | with_reducible refine nxC ?_ | with_reducible refine brN ?_ | with_reducible refine brT ?_ | with_reducible refine brF ?_ | ((with_reducible refine brYes (decide_eq_true ?_) ?_); omega) | ((with_reducible refine brNo (decide_eq_false ?_) ?_); omega) | ((with_reducible refine brYes ?_ ?_); (focus decide)) | ((with_reducible refine brNo ?_ ?_); (focus decide)) | ((with_reducible refine o_mod ?_ ?_); omega) | ((with_reducible refine o_fdiv ?_ ?_ ?_); omega; omega) | ((with_reducible refine o_mul ?_ ?_); omega) | ((with_reducible refine o_pow ?_ ?_); omega) | ((first | with_reducible refine o_addL ?_ ?_ | with_reducible refine o_addT ?_ ?_); (focus (rw [sizeLine_eq]; simp only [List.length_cons, List.length_nil, List.length_append, List.length_map]; omega))) | ((with_reducible refine o_strI (log_small ?_) ?_); omega) | ((with_reducible refine o_fmtI (log_small ?_) ?_); omega) | ((with_reducible refine o_rng1 ?_ ?_); omega) | ((with_reducible refine o_rng1I ?_ ?_ ?_); omega; omega) | ((fail_if_success with_reducible refine noRng1 ?_); (fail_if_success with_reducible refine noRng2 ?_); (fail_if_success with_reducible refine noRng3 ?_); (with_reducible apply opr); rfl) | ((with_reducible refine And.intro ?_ ?_); (first | rfl | decide | assumption | (focus (rw [sizeLine_eq]; simp; done)) | (focus (rw [rangeD_length, sizeLine_eq]; omega)))) | (with_reducible refine Exists.intro _ (And.intro rfl ?_)) | (with_reducible refine Exists.intro _ (Exists.intro _ (And.intro rfl ?_))) | fail))
  refine br (fun hc => ?_) (fun hc => ?_)
  · (repeat' (first | ((with_reducible apply i_v); rfl) | with_reducible refine i_2 ?_ | with_reducible refine i_1 ?_ | with_reducible refine i_call ?_ | with_reducible refine i_callF ?_ | with_reducible refine i_2F ?_ | with_reducible refine i_if ?_ | with_reducible refine i_sif ?_ | with_reducible refine i_B ?_ | with_reducible refine i_tru ?_ | with_reducible refine i_not ?_ | with_reducible refine i_and ?_ | with_reducible refine i_or ?_ | with_reducible refine i_notV ?_ | with_reducible refine i_andV ?_ | with_reducible refine i_orV ?_ | with_reducible refine i_ch ?_ | with_reducible refine i_tup ?_ | with_reducible refine i_lst ?_ | with_reducible refine i_sl ?_ | with_reducible refine i_fn ?_ | with_reducible refine i_mk ?_ | with_reducible refine i_me0 ?_ | with_reducible refine i_me ?_ | with_reducible refine i_bor ?_ | with_reducible refine i_borT ?_ | with_reducible refine i_join ?_ | with_reducible refine i_js0 ?_ | with_reducible refine i_js1 ?_ | with_reducible refine i_sseq ?_ | with_reducible refine i_sret ?_ | with_reducible refine i_sretF ?_ | with_reducible refine i_sexpr ?_ | with_reducible refine i_sset ?_ | with_reducible refine i_sown ?_ | with_reducible refine i_ssetL ?_ | with_reducible refine i_spar ?_ | with_reducible refine i_sasg ?_ | with_reducible refine i_sitem ?_ | with_reducible refine i_sapp ?_ | with_reducible refine i_sfs ?_ | with_reducible refine i_frz ?_ | with_reducible refine i_sfor ?_ | with_reducible refine i_lc ?_ | with_reducible refine i_snil ?_ | with_reducible refine i_nil ?_ | with_reducible refine i_cons ?_ | with_reducible refine i_pure ?_ | with_reducible refine i_lift ?_ | with_reducible refine i_bind ?_ | ((with_reducible apply i_fnW); rfl) | with_reducible refine nxN ?_ | with_reducible refine nxR ?_ | with_reducible refine nxF ?_ | with_reducible refine nxB ?_ | with_reducible refine nxC ?_ | with_reducible refine brN ?_ | with_reducible refine brT ?_ | with_reducible refine brF ?_ | ((with_reducible refine brYes (decide_eq_true ?_) ?_); omega) | ((with_reducible refine brNo (decide_eq_false ?_) ?_); omega) | ((with_reducible refine brYes ?_ ?_); (focus decide)) | ((with_reducible refine brNo ?_ ?_); (focus decide)) | ((with_reducible refine o_mod ?_ ?_); omega) | ((with_reducible refine o_fdiv ?_ ?_ ?_); omega; omega) | ((with_reducible refine o_mul ?_ ?_); omega) | ((with_reducible refine o_pow ?_ ?_); omega) | ((first | with_reducible refine o_addL ?_ ?_ | with_reducible refine o_addT ?_ ?_); (focus (rw [sizeLine_eq]; simp only [List.length_cons, List.length_nil, List.length_append, List.length_map]; omega))) | ((with_reducible refine o_strI (log_small ?_) ?_); omega) | ((with_reducible refine o_fmtI (log_small ?_) ?_); omega) | ((with_reducible refine o_rng1 ?_ ?_); omega) | ((with_reducible refine o_rng1I ?_ ?_ ?_); omega; omega) | ((fail_if_success with_reducible refine noRng1 ?_); (fail_if_success with_reducible refine noRng2 ?_); (fail_if_success with_reducible refine noRng3 ?_); (with_reducible apply opr); rfl) | ((with_reducible refine And.intro ?_ ?_); (first | rfl | decide | assumption | (focus (rw [sizeLine_eq]; simp; done)) | (focus (rw [rangeD_length, sizeLine_eq]; omega)))) | (with_reducible refine Exists.intro _ (And.intro rfl ?_)) | (with_reducible refine Exists.intro _ (Exists.intro _ (And.intro rfl ?_))) | fail))
    exact ⟨_, _, rfl, rfl, ⟨_, rfl, Int.emod_nonneg _ (by omega), Int.emod_lt_of_pos _ (by omega)⟩, ⟨_, _, _, rfl, Int.emod_nonneg _ (by decide), Int.emod_lt_of_pos _ (by decide), Int.ediv_nonneg f1 (by omega)⟩⟩
  · (repeat' (first | ((with_reducible apply i_v); rfl) | with_reducible refine i_2 ?_ | with_reducible refine i_1 ?_ | with_reducible refine i_call ?_ | with_reducible refine i_callF ?_ | with_reducible refine i_2F ?_ | with_reducible refine i_if ?_ | with_reducible refine i_sif ?_ | with_reducible refine i_B ?_ | with_reducible refine i_tru ?_ | with_reducible refine i_not ?_ | with_reducible refine i_and ?_ | with_reducible refine i_or ?_ | with_reducible refine i_notV ?_ | with_reducible refine i_andV ?_ | with_reducible refine i_orV ?_ | with_reducible refine i_ch ?_ | with_reducible refine i_tup ?_ | with_reducible refine i_lst ?_ | with_reducible refine i_sl ?_ | with_reducible refine i_fn ?_ | with_reducible refine i_mk ?_ | with_reducible refine i_me0 ?_ | with_reducible refine i_me ?_ | with_reducible refine i_bor ?_ | with_reducible refine i_borT ?_ | with_reducible refine i_join ?_ | with_reducible refine i_js0 ?_ | with_reducible refine i_js1 ?_ | with_reducible refine i_sseq ?_ | with_reducible refine i_sret ?_ | with_reducible refine i_sretF ?_ | with_reducible refine i_sexpr ?_ | with_reducible refine i_sset ?_ | with_reducible refine i_sown ?_ | with_reducible refine i_ssetL ?_ | with_reducible refine i_spar ?_ | with_reducible refine i_sasg ?_ | with_reducible refine i_sitem ?_ | with_reducible refine i_sapp ?_ | with_reducible refine i_sfs ?_ | with_reducible refine i_frz ?_ | with_reducible refine i_sfor ?_ | with_reducible refine i_lc ?_ | with_reducible refine i_snil ?_ | with_reducible refine i_nil ?_ | with_reducible refine i_cons ?_ | with_reducible refine i_pure ?_ | with_reducible refine i_lift ?_ | with_reducible refine i_bind ?_ | ((with_reducible apply i_fnW); rfl) | with_reducible refine nxN ?_ | with_reducible refine nxR ?_ | with_reducible refine nxF ?_ | with_reducible refine nxB ?_ | with_reducible refine nxC ?_ | with_reducible refine brN ?_ | with_reducible refine brT ?_ | with_reducible refine brF ?_ | ((with_reducible refine brYes (decide_eq_true ?_) ?_); omega) | ((with_reducible refine brNo (decide_eq_false ?_) ?_); omega) | ((with_reducible refine brYes ?_ ?_); (focus decide)) | ((with_reducible refine brNo ?_ ?_); (focus decide)) | ((with_reducible refine o_mod ?_ ?_); omega) | ((with_reducible refine o_fdiv ?_ ?_ ?_); omega; omega) | ((with_reducible refine o_mul ?_ ?_); omega) | ((with_reducible refine o_pow ?_ ?_); omega) | ((first | with_reducible refine o_addL ?_ ?_ | with_reducible refine o_addT ?_ ?_); (focus (rw [sizeLine_eq]; simp only [List.length_cons, List.length_nil, List.length_append, List.length_map]; omega))) | ((with_reducible refine o_strI (log_small ?_) ?_); omega) | ((with_reducible refine o_fmtI (log_small ?_) ?_); omega) | ((with_reducible refine o_rng1 ?_ ?_); omega) | ((with_reducible refine o_rng1I ?_ ?_ ?_); omega; omega) | ((fail_if_success with_reducible refine noRng1 ?_); (fail_if_success with_reducible refine noRng2 ?_); (fail_if_success with_reducible refine noRng3 ?_); (with_reducible apply opr); rfl) | ((with_reducible refine And.intro ?_ ?_); (first | rfl | decide | assumption | (focus (rw [sizeLine_eq]; simp; done)) | (focus (rw [rangeD_length, sizeLine_eq]; omega)))) | (with_reducible refine Exists.intro _ (And.intro rfl ?_)) | (with_reducible refine Exists.intro _ (Exists.intro _ (And.intro rfl ?_))) | fail))
    exact ⟨_, _, rfl, rfl, ⟨_, rfl, Int.emod_nonneg _ (by omega), Int.emod_lt_of_pos _ (by omega)⟩, ⟨_, _, _, rfl, Int.emod_nonneg _ (by decide), Int.emod_lt_of_pos _ (by decide), f1⟩⟩
/-- a draw: some number below m, and the well goes on -/
theorem p_draw {l : List D} {m : Int} (h : WellOk l) (h1 : 1 ≤ m) (h2 : m < 1073741824) {Q : D × List D → Prop} (q : ∀ (r : Nat) l', (r : Int) < m → WellOk l' → Q (.int r, l')) : Got (F_law_draw l [.int m]) Q := by
  obtain ⟨d, l', e, ⟨r, rfl, r1, r2⟩, w⟩ := p_draw0 h h1 h2
  refine got e ?_
  have := q r.toNat l' (by omega) w
  rwa [Int.toNat_of_nonneg r1] at this
/-! ### names -/
def letters : List Nat := [97, 98, 99, 100, 101, 102, 103, 104, 105, 106, 107, 108, 109, 110, 111, 112, 113, 114, 115, 116, 117, 118, 119, 120, 121, 122]
def digits : List Nat := [48, 49, 50, 51, 52, 53, 54, 55, 56, 57]
structure NameOk (x : Str) : Prop where
  ne : ∃ c r, x.cps.toList = c :: r ∧ c ∈ letters
  le : x.length ≤ 8
  all : ∀ c ∈ x.cps.toList, c ∈ letters ++ digits
theorem len_letters : letters.length = 26 := by decide
theorem len_signs : (letters ++ digits).length = 36 := by decide
theorem ls_letters : ("abcdefghijklmnopqrstuvwxyz" : Str).cps.toList = letters := by decide +kernel
theorem ls_signs : (("abcdefghijklmnopqrstuvwxyz" : Str) ++ ("0123456789" : Str)).cps.toList = letters ++ digits := by decide +kernel
theorem p_name0 {l : List D} (h : WellOk l) : ∃ d l', F_law_name l [] = some (d, l') ∧ (∃ x, d = .str x ∧ NameOk x) ∧ WellOk l' := by
  refine runW_ex ?_
  unfold m_law_name
  (repeat' (first | ((with_reducible apply i_v); rfl) | with_reducible refine i_2 ?_ | with_reducible refine i_1 ?_ | with_reducible refine i_call ?_ | with_reducible refine i_callF ?_ | with_reducible refine i_2F ?_ | with_reducible refine i_if ?_ | with_reducible refine i_sif ?_ | with_reducible refine i_B ?_ | with_reducible refine i_tru ?_ | with_reducible refine i_not ?_ | with_reducible refine i_and ?_ | with_reducible refine i_or ?_ | with_reducible refine i_notV ?_ | with_reducible refine i_andV ?_ | with_reducible refine i_orV ?_ | with_reducible refine i_ch ?_ | with_reducible refine i_tup ?_ | with_reducible refine i_lst ?_ | with_reducible refine i_sl ?_ | with_reducible refine i_fn ?_ | with_reducible refine i_mk ?_ | with_reducible refine i_me0 ?_ | with_reducible refine i_me ?_ | with_reducible refine i_bor ?_ | with_reducible refine i_borT ?_ | with_reducible refine i_join ?_ | with_reducible refine i_js0 ?_ | with_reducible refine i_js1 ?_ | with_reducible refine i_sseq ?_ | with_reducible refine i_sret ?_ | with_reducible refine i_sretF ?_ | with_reducible refine i_sexpr ?_ | with_reducible refine i_sset ?_ | with_reducible refine i_sown ?_ | with_reducible refine i_ssetL ?_ | with_reducible refine i_spar ?_ | with_reducible refine i_sasg ?_ | with_reducible refine i_sitem ?_ | with_reducible refine i_sapp ?_ | with_reducible refine i_sfs ?_ | with_reducible refine i_frz ?_ | with_reducible refine i_sfor ?_ | with_reducible refine i_lc ?_ | with_reducible refine i_snil ?_ | with_reducible refine i_nil ?_ | with_reducible refine i_cons ?_ | with_reducible refine i_pure ?_ | with_reducible refine i_lift ?_ | with_reducible refine i_bind ?_ | ((with_reducible apply i_fnW); rfl) | with_reducible refine nxN ?_ | with_reducible refine nxR ?_ | with_reducible refine nxF ?_ | with_reducible refine nxB ?_ | with_reducible refine nxC ?_ | with_reducible refine brN ?_ | with_reducible refine brT ?_ | with_reducible refine brF ?_ | ((with_reducible refine brYes (decide_eq_true ?_) ?_); omega) | ((with_reducible refine brNo (decide_eq_false ?_) ?_); omega) | ((with_reducible refine brYes ?_ ?_); (focus decide)) | ((with_reducible refine brNo ?_ ?_); (focus decide)) | ((with_reducible refine o_mod ?_ ?_); omega) | ((with_reducible refine o_fdiv ?_ ?_ ?_); omega; omega) | ((with_reducible refine o_mul ?_ ?_); omega) | ((with_reducible refine o_pow ?_ ?_); omega) | ((first | with_reducible refine o_addL ?_ ?_ | with_reducible refine o_addT ?_ ?_); (focus (rw [sizeLine_eq]; simp only [List.length_cons, List.length_nil, List.length_append, List.length_map]; omega))) | ((with_reducible refine o_strI (log_small ?_) ?_); omega) | ((with_reducible refine o_fmtI (log_small ?_) ?_); omega) | ((with_reducible refine o_rng1 ?_ ?_); omega) | ((with_reducible refine o_rng1I ?_ ?_ ?_); omega; omega) | ((fail_if_success with_reducible refine noRng1 ?_); (fail_if_success with_reducible refine noRng2 ?_); (fail_if_success with_reducible refine noRng3 ?_); (with_reducible apply opr); rfl) | ((with_reducible refine And.intro ?_ ?_); (first | rfl | decide | assumption | (focus (rw [sizeLine_eq]; simp; done)) | (focus (rw [rangeD_length, sizeLine_eq]; omega)))) | (with_reducible refine Exists.intro _ (And.intro rfl ?_)) | (with_reducible refine Exists.intro _ (Exists.intro _ (And.intro rfl ?_))) | fail))
  refine p_draw h (by decide) (by decide) fun r1 l1 hr1 h1 => ?_
  refine o_ixS ls_letters (by rw [len_letters]; omega) (by decide) fun c hc => ?_
  (repeat' (first | ((with_reducible apply i_v); rfl) | with_reducible refine i_2 ?_ | with_reducible refine i_1 ?_ | with_reducible refine i_call ?_ | with_reducible refine i_callF ?_ | with_reducible refine i_2F ?_ | with_reducible refine i_if ?_ | with_reducible refine i_sif ?_ | with_reducible refine i_B ?_ | with_reducible refine i_tru ?_ | with_reducible refine i_not ?_ | with_reducible refine i_and ?_ | with_reducible refine i_or ?_ | with_reducible refine i_notV ?_ | with_reducible refine i_andV ?_ | with_reducible refine i_orV ?_ | with_reducible refine i_ch ?_ | with_reducible refine i_tup ?_ | with_reducible refine i_lst ?_ | with_reducible refine i_sl ?_ | with_reducible refine i_fn ?_ | with_reducible refine i_mk ?_ | with_reducible refine i_me0 ?_ | with_reducible refine i_me ?_ | with_reducible refine i_bor ?_ | with_reducible refine i_borT ?_ | with_reducible refine i_join ?_ | with_reducible refine i_js0 ?_ | with_reducible refine i_js1 ?_ | with_reducible refine i_sseq ?_ | with_reducible refine i_sret ?_ | with_reducible refine i_sretF ?_ | with_reducible refine i_sexpr ?_ | with_reducible refine i_sset ?_ | with_reducible refine i_sown ?_ | with_reducible refine i_ssetL ?_ | with_reducible refine i_spar ?_ | with_reducible refine i_sasg ?_ | with_reducible refine i_sitem ?_ | with_reducible refine i_sapp ?_ | with_reducible refine i_sfs ?_ | with_reducible refine i_frz ?_ | with_reducible refine i_sfor ?_ | with_reducible refine i_lc ?_ | with_reducible refine i_snil ?_ | with_reducible refine i_nil ?_ | with_reducible refine i_cons ?_ | with_reducible refine i_pure ?_ | with_reducible refine i_lift ?_ | with_reducible refine i_bind ?_ | ((with_reducible apply i_fnW); rfl) | with_reducible refine nxN ?_ | with_reducible refine nxR ?_ | with_reducible refine nxF ?_ | with_reducible refine nxB ?_ | with_reducible refine nxC ?_ | with_reducible refine brN ?_ | with_reducible refine brT ?_ | with_reducible refine brF ?_ | ((with_reducible refine brYes (decide_eq_true ?_) ?_); omega) | ((with_reducible refine brNo (decide_eq_false ?_) ?_); omega) | ((with_reducible refine brYes ?_ ?_); (focus decide)) | ((with_reducible refine brNo ?_ ?_); (focus decide)) | ((with_reducible refine o_mod ?_ ?_); omega) | ((with_reducible refine o_fdiv ?_ ?_ ?_); omega; omega) | ((with_reducible refine o_mul ?_ ?_); omega) | ((with_reducible refine o_pow ?_ ?_); omega) | ((first | with_reducible refine o_addL ?_ ?_ | with_reducible refine o_addT ?_ ?_); (focus (rw [sizeLine_eq]; simp only [List.length_cons, List.length_nil, List.length_append, List.length_map]; omega))) | ((with_reducible refine o_strI (log_small ?_) ?_); omega) | ((with_reducible refine o_fmtI (log_small ?_) ?_); omega) | ((with_reducible refine o_rng1 ?_ ?_); omega) | ((with_reducible refine o_rng1I ?_ ?_ ?_); omega; omega) | ((fail_if_success with_reducible refine noRng1 ?_); (fail_if_success with_reducible refine noRng2 ?_); (fail_if_success with_reducible refine noRng3 ?_); (with_reducible apply opr); rfl) | ((with_reducible refine And.intro ?_ ?_); (first | rfl | decide | assumption | (focus (rw [sizeLine_eq]; simp; done)) | (focus (rw [rangeD_length, sizeLine_eq]; omega)))) | (with_reducible refine Exists.intro _ (And.intro rfl ?_)) | (with_reducible refine Exists.intro _ (Exists.intro _ (And.intro rfl ?_))) | fail))
  refine p_draw h1 (by decide) (by decide) fun r2 l2 hr2 h2 => ?_
  (repeat' (first | ((with_reducible apply i_v); rfl) | with_reducible refine i_2 ?_ | with_reducible refine i_1 ?_ | with_reducible refine i_call ?_ | with_reducible refine i_callF ?_ | with_reducible refine i_2F ?_ | with_reducible refine i_if ?_ | with_reducible refine i_sif ?_ | with_reducible refine i_B ?_ | with_reducible refine i_tru ?_ | with_reducible refine i_not ?_ | with_reducible refine i_and ?_ | with_reducible refine i_or ?_ | with_reducible refine i_notV ?_ | with_reducible refine i_andV ?_ | with_reducible refine i_orV ?_ | with_reducible refine i_ch ?_ | with_reducible refine i_tup ?_ | with_reducible refine i_lst ?_ | with_reducible refine i_sl ?_ | with_reducible refine i_fn ?_ | with_reducible refine i_mk ?_ | with_reducible refine i_me0 ?_ | with_reducible refine i_me ?_ | with_reducible refine i_bor ?_ | with_reducible refine i_borT ?_ | with_reducible refine i_join ?_ | with_reducible refine i_js0 ?_ | with_reducible refine i_js1 ?_ | with_reducible refine i_sseq ?_ | with_reducible refine i_sret ?_ | with_reducible refine i_sretF ?_ | with_reducible refine i_sexpr ?_ | with_reducible refine i_sset ?_ | with_reducible refine i_sown ?_ | with_reducible refine i_ssetL ?_ | with_reducible refine i_spar ?_ | with_reducible refine i_sasg ?_ | with_reducible refine i_sitem ?_ | with_reducible refine i_sapp ?_ | with_reducible refine i_sfs ?_ | with_reducible refine i_frz ?_ | with_reducible refine i_sfor ?_ | with_reducible refine i_lc ?_ | with_reducible refine i_snil ?_ | with_reducible refine i_nil ?_ | with_reducible refine i_cons ?_ | with_reducible refine i_pure ?_ | with_reducible refine i_lift ?_ | with_reducible refine i_bind ?_ | ((with_reducible apply i_fnW); rfl) | with_reducible refine nxN ?_ | with_reducible refine nxR ?_ | with_reducible refine nxF ?_ | with_reducible refine nxB ?_ | with_reducible refine nxC ?_ | with_reducible refine brN ?_ | with_reducible refine brT ?_ | with_reducible refine brF ?_ | ((with_reducible refine brYes (decide_eq_true ?_) ?_); omega) | ((with_reducible refine brNo (decide_eq_false ?_) ?_); omega) | ((with_reducible refine brYes ?_ ?_); (focus decide)) | ((with_reducible refine brNo ?_ ?_); (focus decide)) | ((with_reducible refine o_mod ?_ ?_); omega) | ((with_reducible refine o_fdiv ?_ ?_ ?_); omega; omega) | ((with_reducible refine o_mul ?_ ?_); omega) | ((with_reducible refine o_pow ?_ ?_); omega) | ((first | with_reducible refine o_addL ?_ ?_ | with_reducible refine o_addT ?_ ?_); (focus (rw [sizeLine_eq]; simp only [List.length_cons, List.length_nil, List.length_append, List.length_map]; omega))) | ((with_reducible refine o_strI (log_small ?_) ?_); omega) | ((with_reducible refine o_fmtI (log_small ?_) ?_); omega) | ((with_reducible refine o_rng1 ?_ ?_); omega) | ((with_reducible refine o_rng1I ?_ ?_ ?_); omega; omega) | ((fail_if_success with_reducible refine noRng1 ?_); (fail_if_success with_reducible refine noRng2 ?_); (fail_if_success with_reducible refine noRng3 ?_); (with_reducible apply opr); rfl) | ((with_reducible refine And.intro ?_ ?_); (first | rfl | decide | assumption | (focus (rw [sizeLine_eq]; simp; done)) | (focus (rw [rangeD_length, sizeLine_eq]; omega)))) | (with_reducible refine Exists.intro _ (And.intro rfl ?_)) | (with_reducible refine Exists.intro _ (Exists.intro _ (And.intro rfl ?_))) | fail))
  refine i_lcL (fun items ys τ => ∃ cs : List Nat, ys = cs.map (fun c => D.str ⟨#[c]⟩) ∧ items.length + cs.length = r2 ∧ (∀ c ∈ cs, c ∈ letters ++ digits) ∧ ∃ l, WellOk l ∧ τ = [some (.own l), some (.val (.str ("abcdefghijklmnopqrstuvwxyz" : Str))), some (.val (.str (("abcdefghijklmnopqrstuvwxyz" : Str) ++ ("0123456789" : Str)))), some (.val (.str ⟨#[c]⟩)), some (.val (.int r2)), none]) ?_ ?_ ?_
  · exact ⟨[], rfl, by simp [rangeD_length], by simp, l2, h2, rfl⟩
  · rintro d ds ys τ ⟨cs, rfl, hl, hc', l, hw, rfl⟩
    (repeat' (first | ((with_reducible apply i_v); rfl) | with_reducible refine i_2 ?_ | with_reducible refine i_1 ?_ | with_reducible refine i_call ?_ | with_reducible refine i_callF ?_ | with_reducible refine i_2F ?_ | with_reducible refine i_if ?_ | with_reducible refine i_sif ?_ | with_reducible refine i_B ?_ | with_reducible refine i_tru ?_ | with_reducible refine i_not ?_ | with_reducible refine i_and ?_ | with_reducible refine i_or ?_ | with_reducible refine i_notV ?_ | with_reducible refine i_andV ?_ | with_reducible refine i_orV ?_ | with_reducible refine i_ch ?_ | with_reducible refine i_tup ?_ | with_reducible refine i_lst ?_ | with_reducible refine i_sl ?_ | with_reducible refine i_fn ?_ | with_reducible refine i_mk ?_ | with_reducible refine i_me0 ?_ | with_reducible refine i_me ?_ | with_reducible refine i_bor ?_ | with_reducible refine i_borT ?_ | with_reducible refine i_join ?_ | with_reducible refine i_js0 ?_ | with_reducible refine i_js1 ?_ | with_reducible refine i_sseq ?_ | with_reducible refine i_sret ?_ | with_reducible refine i_sretF ?_ | with_reducible refine i_sexpr ?_ | with_reducible refine i_sset ?_ | with_reducible refine i_sown ?_ | with_reducible refine i_ssetL ?_ | with_reducible refine i_spar ?_ | with_reducible refine i_sasg ?_ | with_reducible refine i_sitem ?_ | with_reducible refine i_sapp ?_ | with_reducible refine i_sfs ?_ | with_reducible refine i_frz ?_ | with_reducible refine i_sfor ?_ | with_reducible refine i_lc ?_ | with_reducible refine i_snil ?_ | with_reducible refine i_nil ?_ | with_reducible refine i_cons ?_ | with_reducible refine i_pure ?_ | with_reducible refine i_lift ?_ | with_reducible refine i_bind ?_ | ((with_reducible apply i_fnW); rfl) | with_reducible refine nxN ?_ | with_reducible refine nxR ?_ | with_reducible refine nxF ?_ | with_reducible refine nxB ?_ | with_reducible refine nxC ?_ | with_reducible refine brN ?_ | with_reducible refine brT ?_ | with_reducible refine brF ?_ | ((with_reducible refine brYes (decide_eq_true ?_) ?_); omega) | ((with_reducible refine brNo (decide_eq_false ?_) ?_); omega) | ((with_reducible refine brYes ?_ ?_); (focus decide)) | ((with_reducible refine brNo ?_ ?_); (focus decide)) | ((with_reducible refine o_mod ?_ ?_); omega) | ((with_reducible refine o_fdiv ?_ ?_ ?_); omega; omega) | ((with_reducible refine o_mul ?_ ?_); omega) | ((with_reducible refine o_pow ?_ ?_); omega) | ((first | with_reducible refine o_addL ?_ ?_ | with_reducible refine o_addT ?_ ?_); (focus (rw [sizeLine_eq]; simp only [List.length_cons, List.length_nil, List.length_append, List.length_map]; omega))) | ((with_reducible refine o_strI (log_small ?_) ?_); omega) | ((with_reducible refine o_fmtI (log_small ?_) ?_); omega) | ((with_reducible refine o_rng1 ?_ ?_); omega) | ((with_reducible refine o_rng1I ?_ ?_ ?_); omega; omega) | ((fail_if_success with_reducible refine noRng1 ?_); (fail_if_success with_reducible refine noRng2 ?_); (fail_if_success with_reducible refine noRng3 ?_); (with_reducible apply opr); rfl) | ((with_reducible refine And.intro ?_ ?_); (first | rfl | decide | assumption | (focus (rw [sizeLine_eq]; simp; done)) | (focus (rw [rangeD_length, sizeLine_eq]; omega)))) | (with_reducible refine Exists.intro _ (And.intro rfl ?_)) | (with_reducible refine Exists.intro _ (Exists.intro _ (And.intro rfl ?_))) | fail))
    refine p_draw hw (by decide) (by decide) fun r3 l3 hr3 h3 => ?_
    refine o_ixS ls_signs (by rw [len_signs]; omega) (by decide) fun c3 hc3 => ?_
    refine ⟨cs ++ [c3], by simp, by simp at hl ⊢; omega, fun c hc => ?_, l3, h3, rfl⟩
    rcases List.mem_append.mp hc with hc | hc
    · exact hc' c hc
    · simp at hc; subst hc; exact hc3
  · rintro ys τ ⟨cs, rfl, hl, hc', l, hw, rfl⟩
    (repeat' (first | ((with_reducible apply i_v); rfl) | with_reducible refine i_2 ?_ | with_reducible refine i_1 ?_ | with_reducible refine i_call ?_ | with_reducible refine i_callF ?_ | with_reducible refine i_2F ?_ | with_reducible refine i_if ?_ | with_reducible refine i_sif ?_ | with_reducible refine i_B ?_ | with_reducible refine i_tru ?_ | with_reducible refine i_not ?_ | with_reducible refine i_and ?_ | with_reducible refine i_or ?_ | with_reducible refine i_notV ?_ | with_reducible refine i_andV ?_ | with_reducible refine i_orV ?_ | with_reducible refine i_ch ?_ | with_reducible refine i_tup ?_ | with_reducible refine i_lst ?_ | with_reducible refine i_sl ?_ | with_reducible refine i_fn ?_ | with_reducible refine i_mk ?_ | with_reducible refine i_me0 ?_ | with_reducible refine i_me ?_ | with_reducible refine i_bor ?_ | with_reducible refine i_borT ?_ | with_reducible refine i_join ?_ | with_reducible refine i_js0 ?_ | with_reducible refine i_js1 ?_ | with_reducible refine i_sseq ?_ | with_reducible refine i_sret ?_ | with_reducible refine i_sretF ?_ | with_reducible refine i_sexpr ?_ | with_reducible refine i_sset ?_ | with_reducible refine i_sown ?_ | with_reducible refine i_ssetL ?_ | with_reducible refine i_spar ?_ | with_reducible refine i_sasg ?_ | with_reducible refine i_sitem ?_ | with_reducible refine i_sapp ?_ | with_reducible refine i_sfs ?_ | with_reducible refine i_frz ?_ | with_reducible refine i_sfor ?_ | with_reducible refine i_lc ?_ | with_reducible refine i_snil ?_ | with_reducible refine i_nil ?_ | with_reducible refine i_cons ?_ | with_reducible refine i_pure ?_ | with_reducible refine i_lift ?_ | with_reducible refine i_bind ?_ | ((with_reducible apply i_fnW); rfl) | with_reducible refine nxN ?_ | with_reducible refine nxR ?_ | with_reducible refine nxF ?_ | with_reducible refine nxB ?_ | with_reducible refine nxC ?_ | with_reducible refine brN ?_ | with_reducible refine brT ?_ | with_reducible refine brF ?_ | ((with_reducible refine brYes (decide_eq_true ?_) ?_); omega) | ((with_reducible refine brNo (decide_eq_false ?_) ?_); omega) | ((with_reducible refine brYes ?_ ?_); (focus decide)) | ((with_reducible refine brNo ?_ ?_); (focus decide)) | ((with_reducible refine o_mod ?_ ?_); omega) | ((with_reducible refine o_fdiv ?_ ?_ ?_); omega; omega) | ((with_reducible refine o_mul ?_ ?_); omega) | ((with_reducible refine o_pow ?_ ?_); omega) | ((first | with_reducible refine o_addL ?_ ?_ | with_reducible refine o_addT ?_ ?_); (focus (rw [sizeLine_eq]; simp only [List.length_cons, List.length_nil, List.length_append, List.length_map]; omega))) | ((with_reducible refine o_strI (log_small ?_) ?_); omega) | ((with_reducible refine o_fmtI (log_small ?_) ?_); omega) | ((with_reducible refine o_rng1 ?_ ?_); omega) | ((with_reducible refine o_rng1I ?_ ?_ ?_); omega; omega) | ((fail_if_success with_reducible refine noRng1 ?_); (fail_if_success with_reducible refine noRng2 ?_); (fail_if_success with_reducible refine noRng3 ?_); (with_reducible apply opr); rfl) | ((with_reducible refine And.intro ?_ ?_); (first | rfl | decide | assumption | (focus (rw [sizeLine_eq]; simp; done)) | (focus (rw [rangeD_length, sizeLine_eq]; omega)))) | (with_reducible refine Exists.intro _ (And.intro rfl ?_)) | (with_reducible refine Exists.intro _ (Exists.intro _ (And.intro rfl ?_))) | fail))
    refine o_join (by simp at hl; omega) fun x hx => ?_
    have e : ((⟨#[c]⟩ : Str) ++ x).cps.toList = c :: cs := by rw [app_toList, hx]; rfl
    have hl8 : ((⟨#[c]⟩ : Str) ++ x).length ≤ 8 := by rw [len_toList, e]; simp at hl ⊢; omega
    refine o_addS (by have : x.length = cs.length := by rw [len_toList, hx]
                      have e1 : (⟨#[c]⟩ : Str).length = 1 := rfl
                      have e2 : sizeLine = 16777216 := sizeLine_eq
                      simp at hl
                      omega) ?_
    refine ⟨_, _, rfl, rfl, ⟨_, rfl, ⟨⟨c, cs, e, hc⟩, hl8, ?_⟩⟩, hw⟩
    rw [e]
    intro d hd
    rcases List.mem_cons.mp hd with rfl | hd
    · exact List.mem_append_left _ hc
    · exact hc' d hd
end Lw
set_option Elab.async false
set_option linter.all false
set_option maxRecDepth 100000
set_option maxHeartbeats 4000000
namespace Lw
open PySem L2 Dv
theorem p_name {l : List D} (h : WellOk l) {Q : D × List D → Prop} (q : ∀ x l', NameOk x → WellOk l' → Q (.str x, l')) : Got (F_law_name l []) Q := by
  obtain ⟨d, l', e, ⟨x, rfl, hx⟩, w⟩ := p_name0 h
  exact got e (q x l' hx w)
theorem NameOk.of {x : Str} {L : List Nat} (e : x.cps.toList = L) (h1 : ∃ c r, L = c :: r ∧ c ∈ letters) (h2 : L.length ≤ 8) (h3 : ∀ c ∈ L, c ∈ letters ++ digits) : NameOk x := by
  subst e
  exact ⟨h1, by rw [len_toList]; exact h2, h3⟩
theorem NameOk.fit {x : Str} (h : NameOk x) : x.length ≤ sizeLine := by have := h.le; rw [sizeLine_eq]; omega
theorem NameOk.pos {x : Str} (h : NameOk x) : 1 ≤ x.length := by
  obtain ⟨c, r, e, _⟩ := h.ne
  rw [len_toList, e]; simp
theorem p_mate0 {l : List D} {x : Str} (h : WellOk l) (hx : NameOk x) : ∃ d l', F_law_mate l [.str x] = some (d, l') ∧ (∃ y, d = .str y ∧ NameOk y) ∧ WellOk l' := by
  have hx8 := hx.le
  have hx1 := hx.pos
  obtain ⟨c0, r0, e0, hc0⟩ := hx.ne
  refine runW_ex ?_
  unfold m_law_mate
  (repeat' (first | ((with_reducible apply i_v); rfl) | with_reducible refine i_2 ?_ | with_reducible refine i_1 ?_ | with_reducible refine i_call ?_ | with_reducible refine i_callF ?_ | with_reducible refine i_2F ?_ | with_reducible refine i_if ?_ | with_reducible refine i_sif ?_ | with_reducible refine i_B ?_ | with_reducible refine i_tru ?_ | with_reducible refine i_not ?_ | with_reducible refine i_and ?_ | with_reducible refine i_or ?_ | with_reducible refine i_notV ?_ | with_reducible refine i_andV ?_ | with_reducible refine i_orV ?_ | with_reducible refine i_ch ?_ | with_reducible refine i_tup ?_ | with_reducible refine i_lst ?_ | with_reducible refine i_sl ?_ | with_reducible refine i_fn ?_ | with_reducible refine i_mk ?_ | with_reducible refine i_me0 ?_ | with_reducible refine i_me ?_ | with_reducible refine i_bor ?_ | with_reducible refine i_borT ?_ | with_reducible refine i_join ?_ | with_reducible refine i_js0 ?_ | with_reducible refine i_js1 ?_ | with_reducible refine i_sseq ?_ | with_reducible refine i_sret ?_ | with_reducible refine i_sretF ?_ | with_reducible refine i_sexpr ?_ | with_reducible refine i_sset ?_ | with_reducible refine i_sown ?_ | with_reducible refine i_ssetL ?_ | with_reducible refine i_spar ?_ | with_reducible refine i_sasg ?_ | with_reducible refine i_sitem ?_ | with_reducible refine i_sapp ?_ | with_reducible refine i_sfs ?_ | with_reducible refine i_frz ?_ | with_reducible refine i_sfor ?_ | with_reducible refine i_lc ?_ | with_reducible refine i_snil ?_ | with_reducible refine i_nil ?_ | with_reducible refine i_cons ?_ | with_reducible refine i_pure ?_ | with_reducible refine i_lift ?_ | with_reducible refine i_bind ?_ | ((with_reducible apply i_fnW); rfl) | with_reducible refine nxN ?_ | with_reducible refine nxR ?_ | with_reducible refine nxF ?_ | with_reducible refine nxB ?_ | with_reducible refine nxC ?_ | with_reducible refine brN ?_ | with_reducible refine brT ?_ | with_reducible refine brF ?_ | ((with_reducible refine brYes (decide_eq_true ?_) ?_); omega) | ((with_reducible refine brNo (decide_eq_false ?_) ?_); omega) | ((with_reducible refine brYes ?_ ?_); (focus decide)) | ((with_reducible refine brNo ?_ ?_); (focus decide)) | ((with_reducible refine o_mod ?_ ?_); omega) | ((with_reducible refine o_fdiv ?_ ?_ ?_); omega; omega) | ((with_reducible refine o_mul ?_ ?_); omega) | ((with_reducible refine o_pow ?_ ?_); omega) | ((first | with_reducible refine o_addL ?_ ?_ | with_reducible refine o_addT ?_ ?_); (focus (rw [sizeLine_eq]; simp only [List.length_cons, List.length_nil, List.length_append, List.length_map]; omega))) | ((with_reducible refine o_strI (log_small ?_) ?_); omega) | ((with_reducible refine o_fmtI (log_small ?_) ?_); omega) | ((with_reducible refine o_rng1 ?_ ?_); omega) | ((with_reducible refine o_rng1I ?_ ?_ ?_); omega; omega) | ((fail_if_success with_reducible refine noRng1 ?_); (fail_if_success with_reducible refine noRng2 ?_); (fail_if_success with_reducible refine noRng3 ?_); (with_reducible apply opr); rfl) | ((with_reducible refine And.intro ?_ ?_); (first | rfl | decide | assumption | (focus (rw [sizeLine_eq]; simp; done)) | (focus (rw [rangeD_length, sizeLine_eq]; omega)))) | (with_reducible refine Exists.intro _ (And.intro rfl ?_)) | (with_reducible refine Exists.intro _ (Exists.intro _ (And.intro rfl ?_))) | fail))
  refine p_draw h (by decide) (by decide) fun r1 l1 hr1 h1 => ?_
  refine o_ixS ls_letters (by rw [len_letters]; omega) (by decide) fun c hc => ?_
  (repeat' (first | ((with_reducible apply i_v); rfl) | with_reducible refine i_2 ?_ | with_reducible refine i_1 ?_ | with_reducible refine i_call ?_ | with_reducible refine i_callF ?_ | with_reducible refine i_2F ?_ | with_reducible refine i_if ?_ | with_reducible refine i_sif ?_ | with_reducible refine i_B ?_ | with_reducible refine i_tru ?_ | with_reducible refine i_not ?_ | with_reducible refine i_and ?_ | with_reducible refine i_or ?_ | with_reducible refine i_notV ?_ | with_reducible refine i_andV ?_ | with_reducible refine i_orV ?_ | with_reducible refine i_ch ?_ | with_reducible refine i_tup ?_ | with_reducible refine i_lst ?_ | with_reducible refine i_sl ?_ | with_reducible refine i_fn ?_ | with_reducible refine i_mk ?_ | with_reducible refine i_me0 ?_ | with_reducible refine i_me ?_ | with_reducible refine i_bor ?_ | with_reducible refine i_borT ?_ | with_reducible refine i_join ?_ | with_reducible refine i_js0 ?_ | with_reducible refine i_js1 ?_ | with_reducible refine i_sseq ?_ | with_reducible refine i_sret ?_ | with_reducible refine i_sretF ?_ | with_reducible refine i_sexpr ?_ | with_reducible refine i_sset ?_ | with_reducible refine i_sown ?_ | with_reducible refine i_ssetL ?_ | with_reducible refine i_spar ?_ | with_reducible refine i_sasg ?_ | with_reducible refine i_sitem ?_ | with_reducible refine i_sapp ?_ | with_reducible refine i_sfs ?_ | with_reducible refine i_frz ?_ | with_reducible refine i_sfor ?_ | with_reducible refine i_lc ?_ | with_reducible refine i_snil ?_ | with_reducible refine i_nil ?_ | with_reducible refine i_cons ?_ | with_reducible refine i_pure ?_ | with_reducible refine i_lift ?_ | with_reducible refine i_bind ?_ | ((with_reducible apply i_fnW); rfl) | with_reducible refine nxN ?_ | with_reducible refine nxR ?_ | with_reducible refine nxF ?_ | with_reducible refine nxB ?_ | with_reducible refine nxC ?_ | with_reducible refine brN ?_ | with_reducible refine brT ?_ | with_reducible refine brF ?_ | ((with_reducible refine brYes (decide_eq_true ?_) ?_); omega) | ((with_reducible refine brNo (decide_eq_false ?_) ?_); omega) | ((with_reducible refine brYes ?_ ?_); (focus decide)) | ((with_reducible refine brNo ?_ ?_); (focus decide)) | ((with_reducible refine o_mod ?_ ?_); omega) | ((with_reducible refine o_fdiv ?_ ?_ ?_); omega; omega) | ((with_reducible refine o_mul ?_ ?_); omega) | ((with_reducible refine o_pow ?_ ?_); omega) | ((first | with_reducible refine o_addL ?_ ?_ | with_reducible refine o_addT ?_ ?_); (focus (rw [sizeLine_eq]; simp only [List.length_cons, List.length_nil, List.length_append, List.length_map]; omega))) | ((with_reducible refine o_strI (log_small ?_) ?_); omega) | ((with_reducible refine o_fmtI (log_small ?_) ?_); omega) | ((with_reducible refine o_rng1 ?_ ?_); omega) | ((with_reducible refine o_rng1I ?_ ?_ ?_); omega; omega) | ((fail_if_success with_reducible refine noRng1 ?_); (fail_if_success with_reducible refine noRng2 ?_); (fail_if_success with_reducible refine noRng3 ?_); (with_reducible apply opr); rfl) | ((with_reducible refine And.intro ?_ ?_); (first | rfl | decide | assumption | (focus (rw [sizeLine_eq]; simp; done)) | (focus (rw [rangeD_length, sizeLine_eq]; omega)))) | (with_reducible refine Exists.intro _ (And.intro rfl ?_)) | (with_reducible refine Exists.intro _ (Exists.intro _ (And.intro rfl ?_))) | fail))
  refine o_lenS hx.fit ?_
  (repeat' (first | ((with_reducible apply i_v); rfl) | with_reducible refine i_2 ?_ | with_reducible refine i_1 ?_ | with_reducible refine i_call ?_ | with_reducible refine i_callF ?_ | with_reducible refine i_2F ?_ | with_reducible refine i_if ?_ | with_reducible refine i_sif ?_ | with_reducible refine i_B ?_ | with_reducible refine i_tru ?_ | with_reducible refine i_not ?_ | with_reducible refine i_and ?_ | with_reducible refine i_or ?_ | with_reducible refine i_notV ?_ | with_reducible refine i_andV ?_ | with_reducible refine i_orV ?_ | with_reducible refine i_ch ?_ | with_reducible refine i_tup ?_ | with_reducible refine i_lst ?_ | with_reducible refine i_sl ?_ | with_reducible refine i_fn ?_ | with_reducible refine i_mk ?_ | with_reducible refine i_me0 ?_ | with_reducible refine i_me ?_ | with_reducible refine i_bor ?_ | with_reducible refine i_borT ?_ | with_reducible refine i_join ?_ | with_reducible refine i_js0 ?_ | with_reducible refine i_js1 ?_ | with_reducible refine i_sseq ?_ | with_reducible refine i_sret ?_ | with_reducible refine i_sretF ?_ | with_reducible refine i_sexpr ?_ | with_reducible refine i_sset ?_ | with_reducible refine i_sown ?_ | with_reducible refine i_ssetL ?_ | with_reducible refine i_spar ?_ | with_reducible refine i_sasg ?_ | with_reducible refine i_sitem ?_ | with_reducible refine i_sapp ?_ | with_reducible refine i_sfs ?_ | with_reducible refine i_frz ?_ | with_reducible refine i_sfor ?_ | with_reducible refine i_lc ?_ | with_reducible refine i_snil ?_ | with_reducible refine i_nil ?_ | with_reducible refine i_cons ?_ | with_reducible refine i_pure ?_ | with_reducible refine i_lift ?_ | with_reducible refine i_bind ?_ | ((with_reducible apply i_fnW); rfl) | with_reducible refine nxN ?_ | with_reducible refine nxR ?_ | with_reducible refine nxF ?_ | with_reducible refine nxB ?_ | with_reducible refine nxC ?_ | with_reducible refine brN ?_ | with_reducible refine brT ?_ | with_reducible refine brF ?_ | ((with_reducible refine brYes (decide_eq_true ?_) ?_); omega) | ((with_reducible refine brNo (decide_eq_false ?_) ?_); omega) | ((with_reducible refine brYes ?_ ?_); (focus decide)) | ((with_reducible refine brNo ?_ ?_); (focus decide)) | ((with_reducible refine o_mod ?_ ?_); omega) | ((with_reducible refine o_fdiv ?_ ?_ ?_); omega; omega) | ((with_reducible refine o_mul ?_ ?_); omega) | ((with_reducible refine o_pow ?_ ?_); omega) | ((first | with_reducible refine o_addL ?_ ?_ | with_reducible refine o_addT ?_ ?_); (focus (rw [sizeLine_eq]; simp only [List.length_cons, List.length_nil, List.length_append, List.length_map]; omega))) | ((with_reducible refine o_strI (log_small ?_) ?_); omega) | ((with_reducible refine o_fmtI (log_small ?_) ?_); omega) | ((with_reducible refine o_rng1 ?_ ?_); omega) | ((with_reducible refine o_rng1I ?_ ?_ ?_); omega; omega) | ((fail_if_success with_reducible refine noRng1 ?_); (fail_if_success with_reducible refine noRng2 ?_); (fail_if_success with_reducible refine noRng3 ?_); (with_reducible apply opr); rfl) | ((with_reducible refine And.intro ?_ ?_); (first | rfl | decide | assumption | (focus (rw [sizeLine_eq]; simp; done)) | (focus (rw [rangeD_length, sizeLine_eq]; omega)))) | (with_reducible refine Exists.intro _ (And.intro rfl ?_)) | (with_reducible refine Exists.intro _ (Exists.intro _ (And.intro rfl ?_))) | fail))
  refine p_draw h1 (by omega) (by omega) fun r2 l2 hr2 h2 => ?_
  (repeat' (first | ((with_reducible apply i_v); rfl) | with_reducible refine i_2 ?_ | with_reducible refine i_1 ?_ | with_reducible refine i_call ?_ | with_reducible refine i_callF ?_ | with_reducible refine i_2F ?_ | with_reducible refine i_if ?_ | with_reducible refine i_sif ?_ | with_reducible refine i_B ?_ | with_reducible refine i_tru ?_ | with_reducible refine i_not ?_ | with_reducible refine i_and ?_ | with_reducible refine i_or ?_ | with_reducible refine i_notV ?_ | with_reducible refine i_andV ?_ | with_reducible refine i_orV ?_ | with_reducible refine i_ch ?_ | with_reducible refine i_tup ?_ | with_reducible refine i_lst ?_ | with_reducible refine i_sl ?_ | with_reducible refine i_fn ?_ | with_reducible refine i_mk ?_ | with_reducible refine i_me0 ?_ | with_reducible refine i_me ?_ | with_reducible refine i_bor ?_ | with_reducible refine i_borT ?_ | with_reducible refine i_join ?_ | with_reducible refine i_js0 ?_ | with_reducible refine i_js1 ?_ | with_reducible refine i_sseq ?_ | with_reducible refine i_sret ?_ | with_reducible refine i_sretF ?_ | with_reducible refine i_sexpr ?_ | with_reducible refine i_sset ?_ | with_reducible refine i_sown ?_ | with_reducible refine i_ssetL ?_ | with_reducible refine i_spar ?_ | with_reducible refine i_sasg ?_ | with_reducible refine i_sitem ?_ | with_reducible refine i_sapp ?_ | with_reducible refine i_sfs ?_ | with_reducible refine i_frz ?_ | with_reducible refine i_sfor ?_ | with_reducible refine i_lc ?_ | with_reducible refine i_snil ?_ | with_reducible refine i_nil ?_ | with_reducible refine i_cons ?_ | with_reducible refine i_pure ?_ | with_reducible refine i_lift ?_ | with_reducible refine i_bind ?_ | ((with_reducible apply i_fnW); rfl) | with_reducible refine nxN ?_ | with_reducible refine nxR ?_ | with_reducible refine nxF ?_ | with_reducible refine nxB ?_ | with_reducible refine nxC ?_ | with_reducible refine brN ?_ | with_reducible refine brT ?_ | with_reducible refine brF ?_ | ((with_reducible refine brYes (decide_eq_true ?_) ?_); omega) | ((with_reducible refine brNo (decide_eq_false ?_) ?_); omega) | ((with_reducible refine brYes ?_ ?_); (focus decide)) | ((with_reducible refine brNo ?_ ?_); (focus decide)) | ((with_reducible refine o_mod ?_ ?_); omega) | ((with_reducible refine o_fdiv ?_ ?_ ?_); omega; omega) | ((with_reducible refine o_mul ?_ ?_); omega) | ((with_reducible refine o_pow ?_ ?_); omega) | ((first | with_reducible refine o_addL ?_ ?_ | with_reducible refine o_addT ?_ ?_); (focus (rw [sizeLine_eq]; simp only [List.length_cons, List.length_nil, List.length_append, List.length_map]; omega))) | ((with_reducible refine o_strI (log_small ?_) ?_); omega) | ((with_reducible refine o_fmtI (log_small ?_) ?_); omega) | ((with_reducible refine o_rng1 ?_ ?_); omega) | ((with_reducible refine o_rng1I ?_ ?_ ?_); omega; omega) | ((fail_if_success with_reducible refine noRng1 ?_); (fail_if_success with_reducible refine noRng2 ?_); (fail_if_success with_reducible refine noRng3 ?_); (with_reducible apply opr); rfl) | ((with_reducible refine And.intro ?_ ?_); (first | rfl | decide | assumption | (focus (rw [sizeLine_eq]; simp; done)) | (focus (rw [rangeD_length, sizeLine_eq]; omega)))) | (with_reducible refine Exists.intro _ (And.intro rfl ?_)) | (with_reducible refine Exists.intro _ (Exists.intro _ (And.intro rfl ?_))) | fail))
  refine p_draw h2 (by decide) (by decide) fun r3 l3 hr3 h3 => ?_
  have hone : (⟨#[c]⟩ : Str).cps.toList = [c] := rfl
  have hl1 : (⟨#[c]⟩ : Str).length = 1 := rfl
  have hsz : sizeLine = 16777216 := sizeLine_eq
  (repeat' (first | ((with_reducible apply i_v); rfl) | with_reducible refine i_2 ?_ | with_reducible refine i_1 ?_ | with_reducible refine i_call ?_ | with_reducible refine i_callF ?_ | with_reducible refine i_2F ?_ | with_reducible refine i_if ?_ | with_reducible refine i_sif ?_ | with_reducible refine i_B ?_ | with_reducible refine i_tru ?_ | with_reducible refine i_not ?_ | with_reducible refine i_and ?_ | with_reducible refine i_or ?_ | with_reducible refine i_notV ?_ | with_reducible refine i_andV ?_ | with_reducible refine i_orV ?_ | with_reducible refine i_ch ?_ | with_reducible refine i_tup ?_ | with_reducible refine i_lst ?_ | with_reducible refine i_sl ?_ | with_reducible refine i_fn ?_ | with_reducible refine i_mk ?_ | with_reducible refine i_me0 ?_ | with_reducible refine i_me ?_ | with_reducible refine i_bor ?_ | with_reducible refine i_borT ?_ | with_reducible refine i_join ?_ | with_reducible refine i_js0 ?_ | with_reducible refine i_js1 ?_ | with_reducible refine i_sseq ?_ | with_reducible refine i_sret ?_ | with_reducible refine i_sretF ?_ | with_reducible refine i_sexpr ?_ | with_reducible refine i_sset ?_ | with_reducible refine i_sown ?_ | with_reducible refine i_ssetL ?_ | with_reducible refine i_spar ?_ | with_reducible refine i_sasg ?_ | with_reducible refine i_sitem ?_ | with_reducible refine i_sapp ?_ | with_reducible refine i_sfs ?_ | with_reducible refine i_frz ?_ | with_reducible refine i_sfor ?_ | with_reducible refine i_lc ?_ | with_reducible refine i_snil ?_ | with_reducible refine i_nil ?_ | with_reducible refine i_cons ?_ | with_reducible refine i_pure ?_ | with_reducible refine i_lift ?_ | with_reducible refine i_bind ?_ | ((with_reducible apply i_fnW); rfl) | with_reducible refine nxN ?_ | with_reducible refine nxR ?_ | with_reducible refine nxF ?_ | with_reducible refine nxB ?_ | with_reducible refine nxC ?_ | with_reducible refine brN ?_ | with_reducible refine brT ?_ | with_reducible refine brF ?_ | ((with_reducible refine brYes (decide_eq_true ?_) ?_); omega) | ((with_reducible refine brNo (decide_eq_false ?_) ?_); omega) | ((with_reducible refine brYes ?_ ?_); (focus decide)) | ((with_reducible refine brNo ?_ ?_); (focus decide)) | ((with_reducible refine o_mod ?_ ?_); omega) | ((with_reducible refine o_fdiv ?_ ?_ ?_); omega; omega) | ((with_reducible refine o_mul ?_ ?_); omega) | ((with_reducible refine o_pow ?_ ?_); omega) | ((first | with_reducible refine o_addL ?_ ?_ | with_reducible refine o_addT ?_ ?_); (focus (rw [sizeLine_eq]; simp only [List.length_cons, List.length_nil, List.length_append, List.length_map]; omega))) | ((with_reducible refine o_strI (log_small ?_) ?_); omega) | ((with_reducible refine o_fmtI (log_small ?_) ?_); omega) | ((with_reducible refine o_rng1 ?_ ?_); omega) | ((with_reducible refine o_rng1I ?_ ?_ ?_); omega; omega) | ((fail_if_success with_reducible refine noRng1 ?_); (fail_if_success with_reducible refine noRng2 ?_); (fail_if_success with_reducible refine noRng3 ?_); (with_reducible apply opr); rfl) | ((with_reducible refine And.intro ?_ ?_); (first | rfl | decide | assumption | (focus (rw [sizeLine_eq]; simp; done)) | (focus (rw [rangeD_length, sizeLine_eq]; omega)))) | (with_reducible refine Exists.intro _ (And.intro rfl ?_)) | (with_reducible refine Exists.intro _ (Exists.intro _ (And.intro rfl ?_))) | fail))
  refine br (fun h0 => ?_) (fun h0 => ?_)
  · (repeat' (first | ((with_reducible apply i_v); rfl) | with_reducible refine i_2 ?_ | with_reducible refine i_1 ?_ | with_reducible refine i_call ?_ | with_reducible refine i_callF ?_ | with_reducible refine i_2F ?_ | with_reducible refine i_if ?_ | with_reducible refine i_sif ?_ | with_reducible refine i_B ?_ | with_reducible refine i_tru ?_ | with_reducible refine i_not ?_ | with_reducible refine i_and ?_ | with_reducible refine i_or ?_ | with_reducible refine i_notV ?_ | with_reducible refine i_andV ?_ | with_reducible refine i_orV ?_ | with_reducible refine i_ch ?_ | with_reducible refine i_tup ?_ | with_reducible refine i_lst ?_ | with_reducible refine i_sl ?_ | with_reducible refine i_fn ?_ | with_reducible refine i_mk ?_ | with_reducible refine i_me0 ?_ | with_reducible refine i_me ?_ | with_reducible refine i_bor ?_ | with_reducible refine i_borT ?_ | with_reducible refine i_join ?_ | with_reducible refine i_js0 ?_ | with_reducible refine i_js1 ?_ | with_reducible refine i_sseq ?_ | with_reducible refine i_sret ?_ | with_reducible refine i_sretF ?_ | with_reducible refine i_sexpr ?_ | with_reducible refine i_sset ?_ | with_reducible refine i_sown ?_ | with_reducible refine i_ssetL ?_ | with_reducible refine i_spar ?_ | with_reducible refine i_sasg ?_ | with_reducible refine i_sitem ?_ | with_reducible refine i_sapp ?_ | with_reducible refine i_sfs ?_ | with_reducible refine i_frz ?_ | with_reducible refine i_sfor ?_ | with_reducible refine i_lc ?_ | with_reducible refine i_snil ?_ | with_reducible refine i_nil ?_ | with_reducible refine i_cons ?_ | with_reducible refine i_pure ?_ | with_reducible refine i_lift ?_ | with_reducible refine i_bind ?_ | ((with_reducible apply i_fnW); rfl) | with_reducible refine nxN ?_ | with_reducible refine nxR ?_ | with_reducible refine nxF ?_ | with_reducible refine nxB ?_ | with_reducible refine nxC ?_ | with_reducible refine brN ?_ | with_reducible refine brT ?_ | with_reducible refine brF ?_ | ((with_reducible refine brYes (decide_eq_true ?_) ?_); omega) | ((with_reducible refine brNo (decide_eq_false ?_) ?_); omega) | ((with_reducible refine brYes ?_ ?_); (focus decide)) | ((with_reducible refine brNo ?_ ?_); (focus decide)) | ((with_reducible refine o_mod ?_ ?_); omega) | ((with_reducible refine o_fdiv ?_ ?_ ?_); omega; omega) | ((with_reducible refine o_mul ?_ ?_); omega) | ((with_reducible refine o_pow ?_ ?_); omega) | ((first | with_reducible refine o_addL ?_ ?_ | with_reducible refine o_addT ?_ ?_); (focus (rw [sizeLine_eq]; simp only [List.length_cons, List.length_nil, List.length_append, List.length_map]; omega))) | ((with_reducible refine o_strI (log_small ?_) ?_); omega) | ((with_reducible refine o_fmtI (log_small ?_) ?_); omega) | ((with_reducible refine o_rng1 ?_ ?_); omega) | ((with_reducible refine o_rng1I ?_ ?_ ?_); omega; omega) | ((fail_if_success with_reducible refine noRng1 ?_); (fail_if_success with_reducible refine noRng2 ?_); (fail_if_success with_reducible refine noRng3 ?_); (with_reducible apply opr); rfl) | ((with_reducible refine And.intro ?_ ?_); (first | rfl | decide | assumption | (focus (rw [sizeLine_eq]; simp; done)) | (focus (rw [rangeD_length, sizeLine_eq]; omega)))) | (with_reducible refine Exists.intro _ (And.intro rfl ?_)) | (with_reducible refine Exists.intro _ (Exists.intro _ (And.intro rfl ?_))) | fail))
    refine o_addS (by omega) ?_
    (repeat' (first | ((with_reducible apply i_v); rfl) | with_reducible refine i_2 ?_ | with_reducible refine i_1 ?_ | with_reducible refine i_call ?_ | with_reducible refine i_callF ?_ | with_reducible refine i_2F ?_ | with_reducible refine i_if ?_ | with_reducible refine i_sif ?_ | with_reducible refine i_B ?_ | with_reducible refine i_tru ?_ | with_reducible refine i_not ?_ | with_reducible refine i_and ?_ | with_reducible refine i_or ?_ | with_reducible refine i_notV ?_ | with_reducible refine i_andV ?_ | with_reducible refine i_orV ?_ | with_reducible refine i_ch ?_ | with_reducible refine i_tup ?_ | with_reducible refine i_lst ?_ | with_reducible refine i_sl ?_ | with_reducible refine i_fn ?_ | with_reducible refine i_mk ?_ | with_reducible refine i_me0 ?_ | with_reducible refine i_me ?_ | with_reducible refine i_bor ?_ | with_reducible refine i_borT ?_ | with_reducible refine i_join ?_ | with_reducible refine i_js0 ?_ | with_reducible refine i_js1 ?_ | with_reducible refine i_sseq ?_ | with_reducible refine i_sret ?_ | with_reducible refine i_sretF ?_ | with_reducible refine i_sexpr ?_ | with_reducible refine i_sset ?_ | with_reducible refine i_sown ?_ | with_reducible refine i_ssetL ?_ | with_reducible refine i_spar ?_ | with_reducible refine i_sasg ?_ | with_reducible refine i_sitem ?_ | with_reducible refine i_sapp ?_ | with_reducible refine i_sfs ?_ | with_reducible refine i_frz ?_ | with_reducible refine i_sfor ?_ | with_reducible refine i_lc ?_ | with_reducible refine i_snil ?_ | with_reducible refine i_nil ?_ | with_reducible refine i_cons ?_ | with_reducible refine i_pure ?_ | with_reducible refine i_lift ?_ | with_reducible refine i_bind ?_ | ((with_reducible apply i_fnW); rfl) | with_reducible refine nxN ?_ | with_reducible refine nxR ?_ | with_reducible refine nxF ?_ | with_reducible refine nxB ?_ | with_reducible refine nxC ?_ | with_reducible refine brN ?_ | with_reducible refine brT ?_ | with_reducible refine brF ?_ | ((with_reducible refine brYes (decide_eq_true ?_) ?_); omega) | ((with_reducible refine brNo (decide_eq_false ?_) ?_); omega) | ((with_reducible refine brYes ?_ ?_); (focus decide)) | ((with_reducible refine brNo ?_ ?_); (focus decide)) | ((with_reducible refine o_mod ?_ ?_); omega) | ((with_reducible refine o_fdiv ?_ ?_ ?_); omega; omega) | ((with_reducible refine o_mul ?_ ?_); omega) | ((with_reducible refine o_pow ?_ ?_); omega) | ((first | with_reducible refine o_addL ?_ ?_ | with_reducible refine o_addT ?_ ?_); (focus (rw [sizeLine_eq]; simp only [List.length_cons, List.length_nil, List.length_append, List.length_map]; omega))) | ((with_reducible refine o_strI (log_small ?_) ?_); omega) | ((with_reducible refine o_fmtI (log_small ?_) ?_); omega) | ((with_reducible refine o_rng1 ?_ ?_); omega) | ((with_reducible refine o_rng1I ?_ ?_ ?_); omega; omega) | ((fail_if_success with_reducible refine noRng1 ?_); (fail_if_success with_reducible refine noRng2 ?_); (fail_if_success with_reducible refine noRng3 ?_); (with_reducible apply opr); rfl) | ((with_reducible refine And.intro ?_ ?_); (first | rfl | decide | assumption | (focus (rw [sizeLine_eq]; simp; done)) | (focus (rw [rangeD_length, sizeLine_eq]; omega)))) | (with_reducible refine Exists.intro _ (And.intro rfl ?_)) | (with_reducible refine Exists.intro _ (Exists.intro _ (And.intro rfl ?_))) | fail))
    refine o_slS (by rw [len_toList, app_toList, List.length_append, ← len_toList, ← len_toList]; omega) ?_
    refine ⟨_, _, rfl, rfl, ⟨_, rfl, NameOk.of (L := (x.cps.toList ++ [c]).take 8) ?_ ?_ ?_ ?_⟩, h3⟩
    · have := cutS_to (x ++ ⟨#[c]⟩) 8
      rw [app_toList, hone] at this
      exact this
    · rw [e0]; exact ⟨c0, _, rfl, hc0⟩
    · simp; omega
    · intro d hd
      rcases List.mem_append.mp (List.mem_of_mem_take hd) with hd | hd
      · exact hx.all d hd
      · simp at hd; subst hd; exact List.mem_append_left _ hc
  · (repeat' (first | ((with_reducible apply i_v); rfl) | with_reducible refine i_2 ?_ | with_reducible refine i_1 ?_ | with_reducible refine i_call ?_ | with_reducible refine i_callF ?_ | with_reducible refine i_2F ?_ | with_reducible refine i_if ?_ | with_reducible refine i_sif ?_ | with_reducible refine i_B ?_ | with_reducible refine i_tru ?_ | with_reducible refine i_not ?_ | with_reducible refine i_and ?_ | with_reducible refine i_or ?_ | with_reducible refine i_notV ?_ | with_reducible refine i_andV ?_ | with_reducible refine i_orV ?_ | with_reducible refine i_ch ?_ | with_reducible refine i_tup ?_ | with_reducible refine i_lst ?_ | with_reducible refine i_sl ?_ | with_reducible refine i_fn ?_ | with_reducible refine i_mk ?_ | with_reducible refine i_me0 ?_ | with_reducible refine i_me ?_ | with_reducible refine i_bor ?_ | with_reducible refine i_borT ?_ | with_reducible refine i_join ?_ | with_reducible refine i_js0 ?_ | with_reducible refine i_js1 ?_ | with_reducible refine i_sseq ?_ | with_reducible refine i_sret ?_ | with_reducible refine i_sretF ?_ | with_reducible refine i_sexpr ?_ | with_reducible refine i_sset ?_ | with_reducible refine i_sown ?_ | with_reducible refine i_ssetL ?_ | with_reducible refine i_spar ?_ | with_reducible refine i_sasg ?_ | with_reducible refine i_sitem ?_ | with_reducible refine i_sapp ?_ | with_reducible refine i_sfs ?_ | with_reducible refine i_frz ?_ | with_reducible refine i_sfor ?_ | with_reducible refine i_lc ?_ | with_reducible refine i_snil ?_ | with_reducible refine i_nil ?_ | with_reducible refine i_cons ?_ | with_reducible refine i_pure ?_ | with_reducible refine i_lift ?_ | with_reducible refine i_bind ?_ | ((with_reducible apply i_fnW); rfl) | with_reducible refine nxN ?_ | with_reducible refine nxR ?_ | with_reducible refine nxF ?_ | with_reducible refine nxB ?_ | with_reducible refine nxC ?_ | with_reducible refine brN ?_ | with_reducible refine brT ?_ | with_reducible refine brF ?_ | ((with_reducible refine brYes (decide_eq_true ?_) ?_); omega) | ((with_reducible refine brNo (decide_eq_false ?_) ?_); omega) | ((with_reducible refine brYes ?_ ?_); (focus decide)) | ((with_reducible refine brNo ?_ ?_); (focus decide)) | ((with_reducible refine o_mod ?_ ?_); omega) | ((with_reducible refine o_fdiv ?_ ?_ ?_); omega; omega) | ((with_reducible refine o_mul ?_ ?_); omega) | ((with_reducible refine o_pow ?_ ?_); omega) | ((first | with_reducible refine o_addL ?_ ?_ | with_reducible refine o_addT ?_ ?_); (focus (rw [sizeLine_eq]; simp only [List.length_cons, List.length_nil, List.length_append, List.length_map]; omega))) | ((with_reducible refine o_strI (log_small ?_) ?_); omega) | ((with_reducible refine o_fmtI (log_small ?_) ?_); omega) | ((with_reducible refine o_rng1 ?_ ?_); omega) | ((with_reducible refine o_rng1I ?_ ?_ ?_); omega; omega) | ((fail_if_success with_reducible refine noRng1 ?_); (fail_if_success with_reducible refine noRng2 ?_); (fail_if_success with_reducible refine noRng3 ?_); (with_reducible apply opr); rfl) | ((with_reducible refine And.intro ?_ ?_); (first | rfl | decide | assumption | (focus (rw [sizeLine_eq]; simp; done)) | (focus (rw [rangeD_length, sizeLine_eq]; omega)))) | (with_reducible refine Exists.intro _ (And.intro rfl ?_)) | (with_reducible refine Exists.intro _ (Exists.intro _ (And.intro rfl ?_))) | fail))
    refine o_slS hx.fit ?_
    (repeat' (first | ((with_reducible apply i_v); rfl) | with_reducible refine i_2 ?_ | with_reducible refine i_1 ?_ | with_reducible refine i_call ?_ | with_reducible refine i_callF ?_ | with_reducible refine i_2F ?_ | with_reducible refine i_if ?_ | with_reducible refine i_sif ?_ | with_reducible refine i_B ?_ | with_reducible refine i_tru ?_ | with_reducible refine i_not ?_ | with_reducible refine i_and ?_ | with_reducible refine i_or ?_ | with_reducible refine i_notV ?_ | with_reducible refine i_andV ?_ | with_reducible refine i_orV ?_ | with_reducible refine i_ch ?_ | with_reducible refine i_tup ?_ | with_reducible refine i_lst ?_ | with_reducible refine i_sl ?_ | with_reducible refine i_fn ?_ | with_reducible refine i_mk ?_ | with_reducible refine i_me0 ?_ | with_reducible refine i_me ?_ | with_reducible refine i_bor ?_ | with_reducible refine i_borT ?_ | with_reducible refine i_join ?_ | with_reducible refine i_js0 ?_ | with_reducible refine i_js1 ?_ | with_reducible refine i_sseq ?_ | with_reducible refine i_sret ?_ | with_reducible refine i_sretF ?_ | with_reducible refine i_sexpr ?_ | with_reducible refine i_sset ?_ | with_reducible refine i_sown ?_ | with_reducible refine i_ssetL ?_ | with_reducible refine i_spar ?_ | with_reducible refine i_sasg ?_ | with_reducible refine i_sitem ?_ | with_reducible refine i_sapp ?_ | with_reducible refine i_sfs ?_ | with_reducible refine i_frz ?_ | with_reducible refine i_sfor ?_ | with_reducible refine i_lc ?_ | with_reducible refine i_snil ?_ | with_reducible refine i_nil ?_ | with_reducible refine i_cons ?_ | with_reducible refine i_pure ?_ | with_reducible refine i_lift ?_ | with_reducible refine i_bind ?_ | ((with_reducible apply i_fnW); rfl) | with_reducible refine nxN ?_ | with_reducible refine nxR ?_ | with_reducible refine nxF ?_ | with_reducible refine nxB ?_ | with_reducible refine nxC ?_ | with_reducible refine brN ?_ | with_reducible refine brT ?_ | with_reducible refine brF ?_ | ((with_reducible refine brYes (decide_eq_true ?_) ?_); omega) | ((with_reducible refine brNo (decide_eq_false ?_) ?_); omega) | ((with_reducible refine brYes ?_ ?_); (focus decide)) | ((with_reducible refine brNo ?_ ?_); (focus decide)) | ((with_reducible refine o_mod ?_ ?_); omega) | ((with_reducible refine o_fdiv ?_ ?_ ?_); omega; omega) | ((with_reducible refine o_mul ?_ ?_); omega) | ((with_reducible refine o_pow ?_ ?_); omega) | ((first | with_reducible refine o_addL ?_ ?_ | with_reducible refine o_addT ?_ ?_); (focus (rw [sizeLine_eq]; simp only [List.length_cons, List.length_nil, List.length_append, List.length_map]; omega))) | ((with_reducible refine o_strI (log_small ?_) ?_); omega) | ((with_reducible refine o_fmtI (log_small ?_) ?_); omega) | ((with_reducible refine o_rng1 ?_ ?_); omega) | ((with_reducible refine o_rng1I ?_ ?_ ?_); omega; omega) | ((fail_if_success with_reducible refine noRng1 ?_); (fail_if_success with_reducible refine noRng2 ?_); (fail_if_success with_reducible refine noRng3 ?_); (with_reducible apply opr); rfl) | ((with_reducible refine And.intro ?_ ?_); (first | rfl | decide | assumption | (focus (rw [sizeLine_eq]; simp; done)) | (focus (rw [rangeD_length, sizeLine_eq]; omega)))) | (with_reducible refine Exists.intro _ (And.intro rfl ?_)) | (with_reducible refine Exists.intro _ (Exists.intro _ (And.intro rfl ?_))) | fail))
    have t1 := cutS_to x r2
    have t2 := cutS_from x (r2 + 1)
    have n1 : (cutS x none (some (r2 : Int))).length ≤ 8 := by rw [len_toList, t1, List.length_take, ← len_toList]; omega
    have n2 : (cutS x (some ((r2 + 1 : Nat) : Int)) none).length ≤ 8 := by rw [len_toList, t2, List.length_drop, ← len_toList]; omega
    refine o_addS (by omega) ?_
    (repeat' (first | ((with_reducible apply i_v); rfl) | with_reducible refine i_2 ?_ | with_reducible refine i_1 ?_ | with_reducible refine i_call ?_ | with_reducible refine i_callF ?_ | with_reducible refine i_2F ?_ | with_reducible refine i_if ?_ | with_reducible refine i_sif ?_ | with_reducible refine i_B ?_ | with_reducible refine i_tru ?_ | with_reducible refine i_not ?_ | with_reducible refine i_and ?_ | with_reducible refine i_or ?_ | with_reducible refine i_notV ?_ | with_reducible refine i_andV ?_ | with_reducible refine i_orV ?_ | with_reducible refine i_ch ?_ | with_reducible refine i_tup ?_ | with_reducible refine i_lst ?_ | with_reducible refine i_sl ?_ | with_reducible refine i_fn ?_ | with_reducible refine i_mk ?_ | with_reducible refine i_me0 ?_ | with_reducible refine i_me ?_ | with_reducible refine i_bor ?_ | with_reducible refine i_borT ?_ | with_reducible refine i_join ?_ | with_reducible refine i_js0 ?_ | with_reducible refine i_js1 ?_ | with_reducible refine i_sseq ?_ | with_reducible refine i_sret ?_ | with_reducible refine i_sretF ?_ | with_reducible refine i_sexpr ?_ | with_reducible refine i_sset ?_ | with_reducible refine i_sown ?_ | with_reducible refine i_ssetL ?_ | with_reducible refine i_spar ?_ | with_reducible refine i_sasg ?_ | with_reducible refine i_sitem ?_ | with_reducible refine i_sapp ?_ | with_reducible refine i_sfs ?_ | with_reducible refine i_frz ?_ | with_reducible refine i_sfor ?_ | with_reducible refine i_lc ?_ | with_reducible refine i_snil ?_ | with_reducible refine i_nil ?_ | with_reducible refine i_cons ?_ | with_reducible refine i_pure ?_ | with_reducible refine i_lift ?_ | with_reducible refine i_bind ?_ | ((with_reducible apply i_fnW); rfl) | with_reducible refine nxN ?_ | with_reducible refine nxR ?_ | with_reducible refine nxF ?_ | with_reducible refine nxB ?_ | with_reducible refine nxC ?_ | with_reducible refine brN ?_ | with_reducible refine brT ?_ | with_reducible refine brF ?_ | ((with_reducible refine brYes (decide_eq_true ?_) ?_); omega) | ((with_reducible refine brNo (decide_eq_false ?_) ?_); omega) | ((with_reducible refine brYes ?_ ?_); (focus decide)) | ((with_reducible refine brNo ?_ ?_); (focus decide)) | ((with_reducible refine o_mod ?_ ?_); omega) | ((with_reducible refine o_fdiv ?_ ?_ ?_); omega; omega) | ((with_reducible refine o_mul ?_ ?_); omega) | ((with_reducible refine o_pow ?_ ?_); omega) | ((first | with_reducible refine o_addL ?_ ?_ | with_reducible refine o_addT ?_ ?_); (focus (rw [sizeLine_eq]; simp only [List.length_cons, List.length_nil, List.length_append, List.length_map]; omega))) | ((with_reducible refine o_strI (log_small ?_) ?_); omega) | ((with_reducible refine o_fmtI (log_small ?_) ?_); omega) | ((with_reducible refine o_rng1 ?_ ?_); omega) | ((with_reducible refine o_rng1I ?_ ?_ ?_); omega; omega) | ((fail_if_success with_reducible refine noRng1 ?_); (fail_if_success with_reducible refine noRng2 ?_); (fail_if_success with_reducible refine noRng3 ?_); (with_reducible apply opr); rfl) | ((with_reducible refine And.intro ?_ ?_); (first | rfl | decide | assumption | (focus (rw [sizeLine_eq]; simp; done)) | (focus (rw [rangeD_length, sizeLine_eq]; omega)))) | (with_reducible refine Exists.intro _ (And.intro rfl ?_)) | (with_reducible refine Exists.intro _ (Exists.intro _ (And.intro rfl ?_))) | fail))
    refine o_slS hx.fit ?_
    refine o_addS (by
      have e : (cutS x none (some (r2 : Int)) ++ (⟨#[c]⟩ : Str)).length ≤ 9 := by rw [len_toList, app_toList, List.length_append, ← len_toList, ← len_toList]; omega
      have e2 : (cutS x (some ((r2 : Int) + 1)) none).length ≤ 8 := n2
      omega) ?_
    have hlen : x.cps.toList.length = x.length := (len_toList x).symm
    refine ⟨_, _, rfl, rfl, ⟨_, rfl, NameOk.of (L := x.cps.toList.take r2 ++ [c] ++ x.cps.toList.drop (r2 + 1)) ?_ ?_ ?_ ?_⟩, h3⟩
    · rw [app_toList, app_toList, t1, hone]
      have e : (cutS x (some ((r2 : Int) + 1)) none).cps.toList = x.cps.toList.drop (r2 + 1) := t2
      exact congrArg _ e
    · cases r2 with
      | zero => exact ⟨c, _, rfl, hc⟩
      | succ n => rw [e0]; exact ⟨c0, _, rfl, hc0⟩
    · simp only [List.length_append, List.length_take, List.length_drop, List.length_cons, List.length_nil]
      omega
    · intro d hd
      rcases List.mem_append.mp hd with hd | hd
      · rcases List.mem_append.mp hd with hd | hd
        · exact hx.all d (List.mem_of_mem_take hd)
        · simp at hd; subst hd; exact List.mem_append_left _ hc
      · exact hx.all d (List.mem_of_mem_drop hd)
theorem p_mate {l : List D} {x : Str} (h : WellOk l) (hx : NameOk x) {Q : D × List D → Prop} (q : ∀ x l', NameOk x → WellOk l' → Q (.str x, l')) : Got (F_law_mate l [.str x]) Q := by
  obtain ⟨d, l', e, ⟨x, rfl, hx⟩, w⟩ := p_mate0 h hx
  exact got e (q x l' hx w)
/-! ### some names -/
def qs : List Str := (List.range 10).map fun (j : Nat) => ("q" : Str) ++ (toString ((j : Nat) : Int) : Str)
theorem qs_nodup : qs.Nodup := by decide +kernel
theorem qs_ok : ∀ x ∈ qs, NameOk x := by
  intro x hx
  have key : (qs.all fun x => (match x.cps.toList with
    | c :: _ => letters.contains c
    | [] => false) && (decide (x.length ≤ 8) && x.cps.toList.all fun c => (letters ++ digits).contains c)) = true := by decide +kernel
  have := List.all_eq_true.mp key x hx
  rw [Bool.and_eq_true, Bool.and_eq_true] at this
  obtain ⟨h1, h2, h3⟩ := this
  refine ⟨?_, of_decide_eq_true h2, fun c hc => by simpa using List.all_eq_true.mp h3 c hc⟩
  cases e : x.cps.toList with
  | nil => rw [e] at h1; cases h1
  | cons c r => rw [e] at h1; exact ⟨c, r, rfl, by simpa using h1⟩
theorem lg10 : ∀ k : Nat, k < 10 → (0 + (k : Int) * 1).natAbs.log2 < 1920 := by decide
theorem qfit : ∀ k : Nat, k < 10 → ("q" : Str).length + (toString (0 + (k : Int) * 1) : Str).length ≤ sizeLine := by decide +kernel
theorem qnext : ∀ k : Nat, k < 10 → qs.take (k + 1) = qs.take k ++ [("q" : Str) ++ (toString (0 + (k : Int) * 1) : Str)] := by decide +kernel
theorem any_eqF (x : Str) (xs : List Str) : ((xs.map D.str).any fun y => eqF y (.str x)) = decide (x ∈ xs) := by
  induction xs with
  | nil => rfl
  | cons y ys ih =>
    rw [List.map_cons, List.any_cons, ih]
    show (y == x || decide (x ∈ ys)) = decide (x ∈ y :: ys)
    by_cases h : y = x
    · subst h; simp
    · simp [h, Ne.symm h]
theorem all_flat (xs : List Str) : (xs.map D.str).all flatD = true := by
  rw [List.all_map]
  exact List.all_eq_true.mpr fun _ _ => rfl
theorem o_in {neg : Bool} {x : Str} {xs : List Str} {Q : D → Prop} (q : Q (.bl (decide (x ∈ xs) != neg))) : Op (inD neg (.str x) (.lst (xs.map D.str))) Q :=
  ⟨_, by simp only [inD, flatD, all_flat, and_self, if_true, any_eqF], q⟩
theorem p_names0 {l : List D} (n : Nat) (hn : n ≤ 9) (h : WellOk l) : ∃ d l', F_law_names l [.int n] = some (d, l') ∧ (∃ xs : List Str, d = .lst (xs.map D.str) ∧ xs.length = n ∧ ∀ x ∈ xs, NameOk x) ∧ WellOk l' := by
  refine runW_ex ?_
  unfold m_law_names
  (repeat' (first | ((with_reducible apply i_v); rfl) | with_reducible refine i_2 ?_ | with_reducible refine i_1 ?_ | with_reducible refine i_call ?_ | with_reducible refine i_callF ?_ | with_reducible refine i_2F ?_ | with_reducible refine i_if ?_ | with_reducible refine i_sif ?_ | with_reducible refine i_B ?_ | with_reducible refine i_tru ?_ | with_reducible refine i_not ?_ | with_reducible refine i_and ?_ | with_reducible refine i_or ?_ | with_reducible refine i_notV ?_ | with_reducible refine i_andV ?_ | with_reducible refine i_orV ?_ | with_reducible refine i_ch ?_ | with_reducible refine i_tup ?_ | with_reducible refine i_lst ?_ | with_reducible refine i_sl ?_ | with_reducible refine i_fn ?_ | with_reducible refine i_mk ?_ | with_reducible refine i_me0 ?_ | with_reducible refine i_me ?_ | with_reducible refine i_bor ?_ | with_reducible refine i_borT ?_ | with_reducible refine i_join ?_ | with_reducible refine i_js0 ?_ | with_reducible refine i_js1 ?_ | with_reducible refine i_sseq ?_ | with_reducible refine i_sret ?_ | with_reducible refine i_sretF ?_ | with_reducible refine i_sexpr ?_ | with_reducible refine i_sset ?_ | with_reducible refine i_sown ?_ | with_reducible refine i_ssetL ?_ | with_reducible refine i_spar ?_ | with_reducible refine i_sasg ?_ | with_reducible refine i_sitem ?_ | with_reducible refine i_sapp ?_ | with_reducible refine i_sfs ?_ | with_reducible refine i_frz ?_ | with_reducible refine i_sfor ?_ | with_reducible refine i_lc ?_ | with_reducible refine i_snil ?_ | with_reducible refine i_nil ?_ | with_reducible refine i_cons ?_ | with_reducible refine i_pure ?_ | with_reducible refine i_lift ?_ | with_reducible refine i_bind ?_ | ((with_reducible apply i_fnW); rfl) | with_reducible refine nxN ?_ | with_reducible refine nxR ?_ | with_reducible refine nxF ?_ | with_reducible refine nxB ?_ | with_reducible refine nxC ?_ | with_reducible refine brN ?_ | with_reducible refine brT ?_ | with_reducible refine brF ?_ | ((with_reducible refine brYes (decide_eq_true ?_) ?_); omega) | ((with_reducible refine brNo (decide_eq_false ?_) ?_); omega) | ((with_reducible refine brYes ?_ ?_); (focus decide)) | ((with_reducible refine brNo ?_ ?_); (focus decide)) | ((with_reducible refine o_mod ?_ ?_); omega) | ((with_reducible refine o_fdiv ?_ ?_ ?_); omega; omega) | ((with_reducible refine o_mul ?_ ?_); omega) | ((with_reducible refine o_pow ?_ ?_); omega) | ((first | with_reducible refine o_addL ?_ ?_ | with_reducible refine o_addT ?_ ?_); (focus (rw [sizeLine_eq]; simp only [List.length_cons, List.length_nil, List.length_append, List.length_map]; omega))) | ((with_reducible refine o_strI (log_small ?_) ?_); omega) | ((with_reducible refine o_fmtI (log_small ?_) ?_); omega) | ((with_reducible refine o_rng1 ?_ ?_); omega) | ((with_reducible refine o_rng1I ?_ ?_ ?_); omega; omega) | ((fail_if_success with_reducible refine noRng1 ?_); (fail_if_success with_reducible refine noRng2 ?_); (fail_if_success with_reducible refine noRng3 ?_); (with_reducible apply opr); rfl) | ((with_reducible refine And.intro ?_ ?_); (first | rfl | decide | assumption | (focus (rw [sizeLine_eq]; simp; done)) | (focus (rw [rangeD_length, sizeLine_eq]; omega)))) | (with_reducible refine Exists.intro _ (And.intro rfl ?_)) | (with_reducible refine Exists.intro _ (Exists.intro _ (And.intro rfl ?_))) | fail))
  refine i_forL (fun items τ => ∃ (j : Nat) (xs : List Str) (l : List D) (a b c : Option Sl), j ≤ n ∧ items = (rangeD 0 n 1).drop j ∧ xs.length = j ∧ (∀ x ∈ xs, NameOk x) ∧ WellOk l ∧ τ = [some (.own l), some (.val (.int n)), some (.own (xs.map D.str)), a, b, c, none, none]) ?_ ?_ ?_
  · exact ⟨0, [], l, _, _, _, by omega, by simp, rfl, by simp, h, rfl⟩
  · rintro d ds τ ⟨j, xs, l, a, b, c, hjn0, hi, hj, hx, hw, rfl⟩
    obtain ⟨h1, h2, rfl⟩ := drop_cons hi.symm
    obtain ⟨rfl, hjn⟩ := rangeD_at h2
    (repeat' (first | ((with_reducible apply i_v); rfl) | with_reducible refine i_2 ?_ | with_reducible refine i_1 ?_ | with_reducible refine i_call ?_ | with_reducible refine i_callF ?_ | with_reducible refine i_2F ?_ | with_reducible refine i_if ?_ | with_reducible refine i_sif ?_ | with_reducible refine i_B ?_ | with_reducible refine i_tru ?_ | with_reducible refine i_not ?_ | with_reducible refine i_and ?_ | with_reducible refine i_or ?_ | with_reducible refine i_notV ?_ | with_reducible refine i_andV ?_ | with_reducible refine i_orV ?_ | with_reducible refine i_ch ?_ | with_reducible refine i_tup ?_ | with_reducible refine i_lst ?_ | with_reducible refine i_sl ?_ | with_reducible refine i_fn ?_ | with_reducible refine i_mk ?_ | with_reducible refine i_me0 ?_ | with_reducible refine i_me ?_ | with_reducible refine i_bor ?_ | with_reducible refine i_borT ?_ | with_reducible refine i_join ?_ | with_reducible refine i_js0 ?_ | with_reducible refine i_js1 ?_ | with_reducible refine i_sseq ?_ | with_reducible refine i_sret ?_ | with_reducible refine i_sretF ?_ | with_reducible refine i_sexpr ?_ | with_reducible refine i_sset ?_ | with_reducible refine i_sown ?_ | with_reducible refine i_ssetL ?_ | with_reducible refine i_spar ?_ | with_reducible refine i_sasg ?_ | with_reducible refine i_sitem ?_ | with_reducible refine i_sapp ?_ | with_reducible refine i_sfs ?_ | with_reducible refine i_frz ?_ | with_reducible refine i_sfor ?_ | with_reducible refine i_lc ?_ | with_reducible refine i_snil ?_ | with_reducible refine i_nil ?_ | with_reducible refine i_cons ?_ | with_reducible refine i_pure ?_ | with_reducible refine i_lift ?_ | with_reducible refine i_bind ?_ | ((with_reducible apply i_fnW); rfl) | with_reducible refine nxN ?_ | with_reducible refine nxR ?_ | with_reducible refine nxF ?_ | with_reducible refine nxB ?_ | with_reducible refine nxC ?_ | with_reducible refine brN ?_ | with_reducible refine brT ?_ | with_reducible refine brF ?_ | ((with_reducible refine brYes (decide_eq_true ?_) ?_); omega) | ((with_reducible refine brNo (decide_eq_false ?_) ?_); omega) | ((with_reducible refine brYes ?_ ?_); (focus decide)) | ((with_reducible refine brNo ?_ ?_); (focus decide)) | ((with_reducible refine o_mod ?_ ?_); omega) | ((with_reducible refine o_fdiv ?_ ?_ ?_); omega; omega) | ((with_reducible refine o_mul ?_ ?_); omega) | ((with_reducible refine o_pow ?_ ?_); omega) | ((first | with_reducible refine o_addL ?_ ?_ | with_reducible refine o_addT ?_ ?_); (focus (rw [sizeLine_eq]; simp only [List.length_cons, List.length_nil, List.length_append, List.length_map]; omega))) | ((with_reducible refine o_strI (log_small ?_) ?_); omega) | ((with_reducible refine o_fmtI (log_small ?_) ?_); omega) | ((with_reducible refine o_rng1 ?_ ?_); omega) | ((with_reducible refine o_rng1I ?_ ?_ ?_); omega; omega) | ((fail_if_success with_reducible refine noRng1 ?_); (fail_if_success with_reducible refine noRng2 ?_); (fail_if_success with_reducible refine noRng3 ?_); (with_reducible apply opr); rfl) | ((with_reducible refine And.intro ?_ ?_); (first | rfl | decide | assumption | (focus (rw [sizeLine_eq]; simp; done)) | (focus (rw [rangeD_length, sizeLine_eq]; omega)))) | (with_reducible refine Exists.intro _ (And.intro rfl ?_)) | (with_reducible refine Exists.intro _ (Exists.intro _ (And.intro rfl ?_))) | fail))
    refine p_draw hw (by decide) (by decide) fun r1 l1 hr1 hw1 => ?_
    refine nxN ?_
    refine i_seqR (fun τ => ∃ x l, NameOk x ∧ WellOk l ∧ τ = [some (.own l), some (.val (.int n)), some (.own (xs.map D.str)), some (.val (.int (0 + j * 1))), some (.val (.int r1)), some (.val (.str x)), none, none]) ?_ ?_
    · (repeat' (first | ((with_reducible apply i_v); rfl) | with_reducible refine i_2 ?_ | with_reducible refine i_1 ?_ | with_reducible refine i_call ?_ | with_reducible refine i_callF ?_ | with_reducible refine i_2F ?_ | with_reducible refine i_if ?_ | with_reducible refine i_sif ?_ | with_reducible refine i_B ?_ | with_reducible refine i_tru ?_ | with_reducible refine i_not ?_ | with_reducible refine i_and ?_ | with_reducible refine i_or ?_ | with_reducible refine i_notV ?_ | with_reducible refine i_andV ?_ | with_reducible refine i_orV ?_ | with_reducible refine i_ch ?_ | with_reducible refine i_tup ?_ | with_reducible refine i_lst ?_ | with_reducible refine i_sl ?_ | with_reducible refine i_fn ?_ | with_reducible refine i_mk ?_ | with_reducible refine i_me0 ?_ | with_reducible refine i_me ?_ | with_reducible refine i_bor ?_ | with_reducible refine i_borT ?_ | with_reducible refine i_join ?_ | with_reducible refine i_js0 ?_ | with_reducible refine i_js1 ?_ | with_reducible refine i_sseq ?_ | with_reducible refine i_sret ?_ | with_reducible refine i_sretF ?_ | with_reducible refine i_sexpr ?_ | with_reducible refine i_sset ?_ | with_reducible refine i_sown ?_ | with_reducible refine i_ssetL ?_ | with_reducible refine i_spar ?_ | with_reducible refine i_sasg ?_ | with_reducible refine i_sitem ?_ | with_reducible refine i_sapp ?_ | with_reducible refine i_sfs ?_ | with_reducible refine i_frz ?_ | with_reducible refine i_sfor ?_ | with_reducible refine i_lc ?_ | with_reducible refine i_snil ?_ | with_reducible refine i_nil ?_ | with_reducible refine i_cons ?_ | with_reducible refine i_pure ?_ | with_reducible refine i_lift ?_ | with_reducible refine i_bind ?_ | ((with_reducible apply i_fnW); rfl) | with_reducible refine nxN ?_ | with_reducible refine nxR ?_ | with_reducible refine nxF ?_ | with_reducible refine nxB ?_ | with_reducible refine nxC ?_ | with_reducible refine brN ?_ | with_reducible refine brT ?_ | with_reducible refine brF ?_ | ((with_reducible refine brYes (decide_eq_true ?_) ?_); omega) | ((with_reducible refine brNo (decide_eq_false ?_) ?_); omega) | ((with_reducible refine brYes ?_ ?_); (focus decide)) | ((with_reducible refine brNo ?_ ?_); (focus decide)) | ((with_reducible refine o_mod ?_ ?_); omega) | ((with_reducible refine o_fdiv ?_ ?_ ?_); omega; omega) | ((with_reducible refine o_mul ?_ ?_); omega) | ((with_reducible refine o_pow ?_ ?_); omega) | ((first | with_reducible refine o_addL ?_ ?_ | with_reducible refine o_addT ?_ ?_); (focus (rw [sizeLine_eq]; simp only [List.length_cons, List.length_nil, List.length_append, List.length_map]; omega))) | ((with_reducible refine o_strI (log_small ?_) ?_); omega) | ((with_reducible refine o_fmtI (log_small ?_) ?_); omega) | ((with_reducible refine o_rng1 ?_ ?_); omega) | ((with_reducible refine o_rng1I ?_ ?_ ?_); omega; omega) | ((fail_if_success with_reducible refine noRng1 ?_); (fail_if_success with_reducible refine noRng2 ?_); (fail_if_success with_reducible refine noRng3 ?_); (with_reducible apply opr); rfl) | ((with_reducible refine And.intro ?_ ?_); (first | rfl | decide | assumption | (focus (rw [sizeLine_eq]; simp; done)) | (focus (rw [rangeD_length, sizeLine_eq]; omega)))) | (with_reducible refine Exists.intro _ (And.intro rfl ?_)) | (with_reducible refine Exists.intro _ (Exists.intro _ (And.intro rfl ?_))) | fail))
      refine br (fun e1 => ?_) (fun e1 => ?_)
      · (repeat' (first | ((with_reducible apply i_v); rfl) | with_reducible refine i_2 ?_ | with_reducible refine i_1 ?_ | with_reducible refine i_call ?_ | with_reducible refine i_callF ?_ | with_reducible refine i_2F ?_ | with_reducible refine i_if ?_ | with_reducible refine i_sif ?_ | with_reducible refine i_B ?_ | with_reducible refine i_tru ?_ | with_reducible refine i_not ?_ | with_reducible refine i_and ?_ | with_reducible refine i_or ?_ | with_reducible refine i_notV ?_ | with_reducible refine i_andV ?_ | with_reducible refine i_orV ?_ | with_reducible refine i_ch ?_ | with_reducible refine i_tup ?_ | with_reducible refine i_lst ?_ | with_reducible refine i_sl ?_ | with_reducible refine i_fn ?_ | with_reducible refine i_mk ?_ | with_reducible refine i_me0 ?_ | with_reducible refine i_me ?_ | with_reducible refine i_bor ?_ | with_reducible refine i_borT ?_ | with_reducible refine i_join ?_ | with_reducible refine i_js0 ?_ | with_reducible refine i_js1 ?_ | with_reducible refine i_sseq ?_ | with_reducible refine i_sret ?_ | with_reducible refine i_sretF ?_ | with_reducible refine i_sexpr ?_ | with_reducible refine i_sset ?_ | with_reducible refine i_sown ?_ | with_reducible refine i_ssetL ?_ | with_reducible refine i_spar ?_ | with_reducible refine i_sasg ?_ | with_reducible refine i_sitem ?_ | with_reducible refine i_sapp ?_ | with_reducible refine i_sfs ?_ | with_reducible refine i_frz ?_ | with_reducible refine i_sfor ?_ | with_reducible refine i_lc ?_ | with_reducible refine i_snil ?_ | with_reducible refine i_nil ?_ | with_reducible refine i_cons ?_ | with_reducible refine i_pure ?_ | with_reducible refine i_lift ?_ | with_reducible refine i_bind ?_ | ((with_reducible apply i_fnW); rfl) | with_reducible refine nxN ?_ | with_reducible refine nxR ?_ | with_reducible refine nxF ?_ | with_reducible refine nxB ?_ | with_reducible refine nxC ?_ | with_reducible refine brN ?_ | with_reducible refine brT ?_ | with_reducible refine brF ?_ | ((with_reducible refine brYes (decide_eq_true ?_) ?_); omega) | ((with_reducible refine brNo (decide_eq_false ?_) ?_); omega) | ((with_reducible refine brYes ?_ ?_); (focus decide)) | ((with_reducible refine brNo ?_ ?_); (focus decide)) | ((with_reducible refine o_mod ?_ ?_); omega) | ((with_reducible refine o_fdiv ?_ ?_ ?_); omega; omega) | ((with_reducible refine o_mul ?_ ?_); omega) | ((with_reducible refine o_pow ?_ ?_); omega) | ((first | with_reducible refine o_addL ?_ ?_ | with_reducible refine o_addT ?_ ?_); (focus (rw [sizeLine_eq]; simp only [List.length_cons, List.length_nil, List.length_append, List.length_map]; omega))) | ((with_reducible refine o_strI (log_small ?_) ?_); omega) | ((with_reducible refine o_fmtI (log_small ?_) ?_); omega) | ((with_reducible refine o_rng1 ?_ ?_); omega) | ((with_reducible refine o_rng1I ?_ ?_ ?_); omega; omega) | ((fail_if_success with_reducible refine noRng1 ?_); (fail_if_success with_reducible refine noRng2 ?_); (fail_if_success with_reducible refine noRng3 ?_); (with_reducible apply opr); rfl) | ((with_reducible refine And.intro ?_ ?_); (first | rfl | decide | assumption | (focus (rw [sizeLine_eq]; simp; done)) | (focus (rw [rangeD_length, sizeLine_eq]; omega)))) | (with_reducible refine Exists.intro _ (And.intro rfl ?_)) | (with_reducible refine Exists.intro _ (Exists.intro _ (And.intro rfl ?_))) | fail))
        refine br (fun e2 => ?_) (fun e2 => ?_)
        · have e2 : (0 : Int) < 0 + j * 1 := of_decide_eq_true e2
          obtain ⟨ys, z, rfl⟩ : ∃ ys z, xs = ys ++ [z] := by
            have hne : xs ≠ [] := fun e => by subst e; simp at hj; omega
            exact ⟨xs.dropLast, xs.getLast hne, (List.dropLast_concat_getLast hne).symm⟩
          (repeat' (first | ((with_reducible apply i_v); rfl) | with_reducible refine i_2 ?_ | with_reducible refine i_1 ?_ | with_reducible refine i_call ?_ | with_reducible refine i_callF ?_ | with_reducible refine i_2F ?_ | with_reducible refine i_if ?_ | with_reducible refine i_sif ?_ | with_reducible refine i_B ?_ | with_reducible refine i_tru ?_ | with_reducible refine i_not ?_ | with_reducible refine i_and ?_ | with_reducible refine i_or ?_ | with_reducible refine i_notV ?_ | with_reducible refine i_andV ?_ | with_reducible refine i_orV ?_ | with_reducible refine i_ch ?_ | with_reducible refine i_tup ?_ | with_reducible refine i_lst ?_ | with_reducible refine i_sl ?_ | with_reducible refine i_fn ?_ | with_reducible refine i_mk ?_ | with_reducible refine i_me0 ?_ | with_reducible refine i_me ?_ | with_reducible refine i_bor ?_ | with_reducible refine i_borT ?_ | with_reducible refine i_join ?_ | with_reducible refine i_js0 ?_ | with_reducible refine i_js1 ?_ | with_reducible refine i_sseq ?_ | with_reducible refine i_sret ?_ | with_reducible refine i_sretF ?_ | with_reducible refine i_sexpr ?_ | with_reducible refine i_sset ?_ | with_reducible refine i_sown ?_ | with_reducible refine i_ssetL ?_ | with_reducible refine i_spar ?_ | with_reducible refine i_sasg ?_ | with_reducible refine i_sitem ?_ | with_reducible refine i_sapp ?_ | with_reducible refine i_sfs ?_ | with_reducible refine i_frz ?_ | with_reducible refine i_sfor ?_ | with_reducible refine i_lc ?_ | with_reducible refine i_snil ?_ | with_reducible refine i_nil ?_ | with_reducible refine i_cons ?_ | with_reducible refine i_pure ?_ | with_reducible refine i_lift ?_ | with_reducible refine i_bind ?_ | ((with_reducible apply i_fnW); rfl) | with_reducible refine nxN ?_ | with_reducible refine nxR ?_ | with_reducible refine nxF ?_ | with_reducible refine nxB ?_ | with_reducible refine nxC ?_ | with_reducible refine brN ?_ | with_reducible refine brT ?_ | with_reducible refine brF ?_ | ((with_reducible refine brYes (decide_eq_true ?_) ?_); omega) | ((with_reducible refine brNo (decide_eq_false ?_) ?_); omega) | ((with_reducible refine brYes ?_ ?_); (focus decide)) | ((with_reducible refine brNo ?_ ?_); (focus decide)) | ((with_reducible refine o_mod ?_ ?_); omega) | ((with_reducible refine o_fdiv ?_ ?_ ?_); omega; omega) | ((with_reducible refine o_mul ?_ ?_); omega) | ((with_reducible refine o_pow ?_ ?_); omega) | ((first | with_reducible refine o_addL ?_ ?_ | with_reducible refine o_addT ?_ ?_); (focus (rw [sizeLine_eq]; simp only [List.length_cons, List.length_nil, List.length_append, List.length_map]; omega))) | ((with_reducible refine o_strI (log_small ?_) ?_); omega) | ((with_reducible refine o_fmtI (log_small ?_) ?_); omega) | ((with_reducible refine o_rng1 ?_ ?_); omega) | ((with_reducible refine o_rng1I ?_ ?_ ?_); omega; omega) | ((fail_if_success with_reducible refine noRng1 ?_); (fail_if_success with_reducible refine noRng2 ?_); (fail_if_success with_reducible refine noRng3 ?_); (with_reducible apply opr); rfl) | ((with_reducible refine And.intro ?_ ?_); (first | rfl | decide | assumption | (focus (rw [sizeLine_eq]; simp; done)) | (focus (rw [rangeD_length, sizeLine_eq]; omega)))) | (with_reducible refine Exists.intro _ (And.intro rfl ?_)) | (with_reducible refine Exists.intro _ (Exists.intro _ (And.intro rfl ?_))) | fail))
          refine ⟨.str z, by simp only [ixD, List.map_append, List.map_cons, List.map_nil]; exact at_last, ?_⟩
          (repeat' (first | ((with_reducible apply i_v); rfl) | with_reducible refine i_2 ?_ | with_reducible refine i_1 ?_ | with_reducible refine i_call ?_ | with_reducible refine i_callF ?_ | with_reducible refine i_2F ?_ | with_reducible refine i_if ?_ | with_reducible refine i_sif ?_ | with_reducible refine i_B ?_ | with_reducible refine i_tru ?_ | with_reducible refine i_not ?_ | with_reducible refine i_and ?_ | with_reducible refine i_or ?_ | with_reducible refine i_notV ?_ | with_reducible refine i_andV ?_ | with_reducible refine i_orV ?_ | with_reducible refine i_ch ?_ | with_reducible refine i_tup ?_ | with_reducible refine i_lst ?_ | with_reducible refine i_sl ?_ | with_reducible refine i_fn ?_ | with_reducible refine i_mk ?_ | with_reducible refine i_me0 ?_ | with_reducible refine i_me ?_ | with_reducible refine i_bor ?_ | with_reducible refine i_borT ?_ | with_reducible refine i_join ?_ | with_reducible refine i_js0 ?_ | with_reducible refine i_js1 ?_ | with_reducible refine i_sseq ?_ | with_reducible refine i_sret ?_ | with_reducible refine i_sretF ?_ | with_reducible refine i_sexpr ?_ | with_reducible refine i_sset ?_ | with_reducible refine i_sown ?_ | with_reducible refine i_ssetL ?_ | with_reducible refine i_spar ?_ | with_reducible refine i_sasg ?_ | with_reducible refine i_sitem ?_ | with_reducible refine i_sapp ?_ | with_reducible refine i_sfs ?_ | with_reducible refine i_frz ?_ | with_reducible refine i_sfor ?_ | with_reducible refine i_lc ?_ | with_reducible refine i_snil ?_ | with_reducible refine i_nil ?_ | with_reducible refine i_cons ?_ | with_reducible refine i_pure ?_ | with_reducible refine i_lift ?_ | with_reducible refine i_bind ?_ | ((with_reducible apply i_fnW); rfl) | with_reducible refine nxN ?_ | with_reducible refine nxR ?_ | with_reducible refine nxF ?_ | with_reducible refine nxB ?_ | with_reducible refine nxC ?_ | with_reducible refine brN ?_ | with_reducible refine brT ?_ | with_reducible refine brF ?_ | ((with_reducible refine brYes (decide_eq_true ?_) ?_); omega) | ((with_reducible refine brNo (decide_eq_false ?_) ?_); omega) | ((with_reducible refine brYes ?_ ?_); (focus decide)) | ((with_reducible refine brNo ?_ ?_); (focus decide)) | ((with_reducible refine o_mod ?_ ?_); omega) | ((with_reducible refine o_fdiv ?_ ?_ ?_); omega; omega) | ((with_reducible refine o_mul ?_ ?_); omega) | ((with_reducible refine o_pow ?_ ?_); omega) | ((first | with_reducible refine o_addL ?_ ?_ | with_reducible refine o_addT ?_ ?_); (focus (rw [sizeLine_eq]; simp only [List.length_cons, List.length_nil, List.length_append, List.length_map]; omega))) | ((with_reducible refine o_strI (log_small ?_) ?_); omega) | ((with_reducible refine o_fmtI (log_small ?_) ?_); omega) | ((with_reducible refine o_rng1 ?_ ?_); omega) | ((with_reducible refine o_rng1I ?_ ?_ ?_); omega; omega) | ((fail_if_success with_reducible refine noRng1 ?_); (fail_if_success with_reducible refine noRng2 ?_); (fail_if_success with_reducible refine noRng3 ?_); (with_reducible apply opr); rfl) | ((with_reducible refine And.intro ?_ ?_); (first | rfl | decide | assumption | (focus (rw [sizeLine_eq]; simp; done)) | (focus (rw [rangeD_length, sizeLine_eq]; omega)))) | (with_reducible refine Exists.intro _ (And.intro rfl ?_)) | (with_reducible refine Exists.intro _ (Exists.intro _ (And.intro rfl ?_))) | fail))
          refine p_mate hw1 (hx z (by simp)) fun x l2 hx2 hw2 => ?_
          exact ⟨rfl, x, l2, hx2, hw2, rfl⟩
        · (repeat' (first | ((with_reducible apply i_v); rfl) | with_reducible refine i_2 ?_ | with_reducible refine i_1 ?_ | with_reducible refine i_call ?_ | with_reducible refine i_callF ?_ | with_reducible refine i_2F ?_ | with_reducible refine i_if ?_ | with_reducible refine i_sif ?_ | with_reducible refine i_B ?_ | with_reducible refine i_tru ?_ | with_reducible refine i_not ?_ | with_reducible refine i_and ?_ | with_reducible refine i_or ?_ | with_reducible refine i_notV ?_ | with_reducible refine i_andV ?_ | with_reducible refine i_orV ?_ | with_reducible refine i_ch ?_ | with_reducible refine i_tup ?_ | with_reducible refine i_lst ?_ | with_reducible refine i_sl ?_ | with_reducible refine i_fn ?_ | with_reducible refine i_mk ?_ | with_reducible refine i_me0 ?_ | with_reducible refine i_me ?_ | with_reducible refine i_bor ?_ | with_reducible refine i_borT ?_ | with_reducible refine i_join ?_ | with_reducible refine i_js0 ?_ | with_reducible refine i_js1 ?_ | with_reducible refine i_sseq ?_ | with_reducible refine i_sret ?_ | with_reducible refine i_sretF ?_ | with_reducible refine i_sexpr ?_ | with_reducible refine i_sset ?_ | with_reducible refine i_sown ?_ | with_reducible refine i_ssetL ?_ | with_reducible refine i_spar ?_ | with_reducible refine i_sasg ?_ | with_reducible refine i_sitem ?_ | with_reducible refine i_sapp ?_ | with_reducible refine i_sfs ?_ | with_reducible refine i_frz ?_ | with_reducible refine i_sfor ?_ | with_reducible refine i_lc ?_ | with_reducible refine i_snil ?_ | with_reducible refine i_nil ?_ | with_reducible refine i_cons ?_ | with_reducible refine i_pure ?_ | with_reducible refine i_lift ?_ | with_reducible refine i_bind ?_ | ((with_reducible apply i_fnW); rfl) | with_reducible refine nxN ?_ | with_reducible refine nxR ?_ | with_reducible refine nxF ?_ | with_reducible refine nxB ?_ | with_reducible refine nxC ?_ | with_reducible refine brN ?_ | with_reducible refine brT ?_ | with_reducible refine brF ?_ | ((with_reducible refine brYes (decide_eq_true ?_) ?_); omega) | ((with_reducible refine brNo (decide_eq_false ?_) ?_); omega) | ((with_reducible refine brYes ?_ ?_); (focus decide)) | ((with_reducible refine brNo ?_ ?_); (focus decide)) | ((with_reducible refine o_mod ?_ ?_); omega) | ((with_reducible refine o_fdiv ?_ ?_ ?_); omega; omega) | ((with_reducible refine o_mul ?_ ?_); omega) | ((with_reducible refine o_pow ?_ ?_); omega) | ((first | with_reducible refine o_addL ?_ ?_ | with_reducible refine o_addT ?_ ?_); (focus (rw [sizeLine_eq]; simp only [List.length_cons, List.length_nil, List.length_append, List.length_map]; omega))) | ((with_reducible refine o_strI (log_small ?_) ?_); omega) | ((with_reducible refine o_fmtI (log_small ?_) ?_); omega) | ((with_reducible refine o_rng1 ?_ ?_); omega) | ((with_reducible refine o_rng1I ?_ ?_ ?_); omega; omega) | ((fail_if_success with_reducible refine noRng1 ?_); (fail_if_success with_reducible refine noRng2 ?_); (fail_if_success with_reducible refine noRng3 ?_); (with_reducible apply opr); rfl) | ((with_reducible refine And.intro ?_ ?_); (first | rfl | decide | assumption | (focus (rw [sizeLine_eq]; simp; done)) | (focus (rw [rangeD_length, sizeLine_eq]; omega)))) | (with_reducible refine Exists.intro _ (And.intro rfl ?_)) | (with_reducible refine Exists.intro _ (Exists.intro _ (And.intro rfl ?_))) | fail))
          refine p_name hw1 fun x l2 hx2 hw2 => ?_
          exact ⟨rfl, x, l2, hx2, hw2, rfl⟩
      · (repeat' (first | ((with_reducible apply i_v); rfl) | with_reducible refine i_2 ?_ | with_reducible refine i_1 ?_ | with_reducible refine i_call ?_ | with_reducible refine i_callF ?_ | with_reducible refine i_2F ?_ | with_reducible refine i_if ?_ | with_reducible refine i_sif ?_ | with_reducible refine i_B ?_ | with_reducible refine i_tru ?_ | with_reducible refine i_not ?_ | with_reducible refine i_and ?_ | with_reducible refine i_or ?_ | with_reducible refine i_notV ?_ | with_reducible refine i_andV ?_ | with_reducible refine i_orV ?_ | with_reducible refine i_ch ?_ | with_reducible refine i_tup ?_ | with_reducible refine i_lst ?_ | with_reducible refine i_sl ?_ | with_reducible refine i_fn ?_ | with_reducible refine i_mk ?_ | with_reducible refine i_me0 ?_ | with_reducible refine i_me ?_ | with_reducible refine i_bor ?_ | with_reducible refine i_borT ?_ | with_reducible refine i_join ?_ | with_reducible refine i_js0 ?_ | with_reducible refine i_js1 ?_ | with_reducible refine i_sseq ?_ | with_reducible refine i_sret ?_ | with_reducible refine i_sretF ?_ | with_reducible refine i_sexpr ?_ | with_reducible refine i_sset ?_ | with_reducible refine i_sown ?_ | with_reducible refine i_ssetL ?_ | with_reducible refine i_spar ?_ | with_reducible refine i_sasg ?_ | with_reducible refine i_sitem ?_ | with_reducible refine i_sapp ?_ | with_reducible refine i_sfs ?_ | with_reducible refine i_frz ?_ | with_reducible refine i_sfor ?_ | with_reducible refine i_lc ?_ | with_reducible refine i_snil ?_ | with_reducible refine i_nil ?_ | with_reducible refine i_cons ?_ | with_reducible refine i_pure ?_ | with_reducible refine i_lift ?_ | with_reducible refine i_bind ?_ | ((with_reducible apply i_fnW); rfl) | with_reducible refine nxN ?_ | with_reducible refine nxR ?_ | with_reducible refine nxF ?_ | with_reducible refine nxB ?_ | with_reducible refine nxC ?_ | with_reducible refine brN ?_ | with_reducible refine brT ?_ | with_reducible refine brF ?_ | ((with_reducible refine brYes (decide_eq_true ?_) ?_); omega) | ((with_reducible refine brNo (decide_eq_false ?_) ?_); omega) | ((with_reducible refine brYes ?_ ?_); (focus decide)) | ((with_reducible refine brNo ?_ ?_); (focus decide)) | ((with_reducible refine o_mod ?_ ?_); omega) | ((with_reducible refine o_fdiv ?_ ?_ ?_); omega; omega) | ((with_reducible refine o_mul ?_ ?_); omega) | ((with_reducible refine o_pow ?_ ?_); omega) | ((first | with_reducible refine o_addL ?_ ?_ | with_reducible refine o_addT ?_ ?_); (focus (rw [sizeLine_eq]; simp only [List.length_cons, List.length_nil, List.length_append, List.length_map]; omega))) | ((with_reducible refine o_strI (log_small ?_) ?_); omega) | ((with_reducible refine o_fmtI (log_small ?_) ?_); omega) | ((with_reducible refine o_rng1 ?_ ?_); omega) | ((with_reducible refine o_rng1I ?_ ?_ ?_); omega; omega) | ((fail_if_success with_reducible refine noRng1 ?_); (fail_if_success with_reducible refine noRng2 ?_); (fail_if_success with_reducible refine noRng3 ?_); (with_reducible apply opr); rfl) | ((with_reducible refine And.intro ?_ ?_); (first | rfl | decide | assumption | (focus (rw [sizeLine_eq]; simp; done)) | (focus (rw [rangeD_length, sizeLine_eq]; omega)))) | (with_reducible refine Exists.intro _ (And.intro rfl ?_)) | (with_reducible refine Exists.intro _ (Exists.intro _ (And.intro rfl ?_))) | fail))
        refine p_name hw1 fun x l2 hx2 hw2 => ?_
        exact ⟨rfl, x, l2, hx2, hw2, rfl⟩
    · rintro τ ⟨x, l2, hx2, hw2, rfl⟩
      refine i_seqR (fun τ => ∃ x, NameOk x ∧ τ = [some (.own l2), some (.val (.int n)), some (.own (xs.map D.str)), some (.val (.int (0 + j * 1))), some (.val (.int r1)), some (.val (.str x)), none, none]) ?_ ?_
      · (repeat' (first | ((with_reducible apply i_v); rfl) | with_reducible refine i_2 ?_ | with_reducible refine i_1 ?_ | with_reducible refine i_call ?_ | with_reducible refine i_callF ?_ | with_reducible refine i_2F ?_ | with_reducible refine i_if ?_ | with_reducible refine i_sif ?_ | with_reducible refine i_B ?_ | with_reducible refine i_tru ?_ | with_reducible refine i_not ?_ | with_reducible refine i_and ?_ | with_reducible refine i_or ?_ | with_reducible refine i_notV ?_ | with_reducible refine i_andV ?_ | with_reducible refine i_orV ?_ | with_reducible refine i_ch ?_ | with_reducible refine i_tup ?_ | with_reducible refine i_lst ?_ | with_reducible refine i_sl ?_ | with_reducible refine i_fn ?_ | with_reducible refine i_mk ?_ | with_reducible refine i_me0 ?_ | with_reducible refine i_me ?_ | with_reducible refine i_bor ?_ | with_reducible refine i_borT ?_ | with_reducible refine i_join ?_ | with_reducible refine i_js0 ?_ | with_reducible refine i_js1 ?_ | with_reducible refine i_sseq ?_ | with_reducible refine i_sret ?_ | with_reducible refine i_sretF ?_ | with_reducible refine i_sexpr ?_ | with_reducible refine i_sset ?_ | with_reducible refine i_sown ?_ | with_reducible refine i_ssetL ?_ | with_reducible refine i_spar ?_ | with_reducible refine i_sasg ?_ | with_reducible refine i_sitem ?_ | with_reducible refine i_sapp ?_ | with_reducible refine i_sfs ?_ | with_reducible refine i_frz ?_ | with_reducible refine i_sfor ?_ | with_reducible refine i_lc ?_ | with_reducible refine i_snil ?_ | with_reducible refine i_nil ?_ | with_reducible refine i_cons ?_ | with_reducible refine i_pure ?_ | with_reducible refine i_lift ?_ | with_reducible refine i_bind ?_ | ((with_reducible apply i_fnW); rfl) | with_reducible refine nxN ?_ | with_reducible refine nxR ?_ | with_reducible refine nxF ?_ | with_reducible refine nxB ?_ | with_reducible refine nxC ?_ | with_reducible refine brN ?_ | with_reducible refine brT ?_ | with_reducible refine brF ?_ | ((with_reducible refine brYes (decide_eq_true ?_) ?_); omega) | ((with_reducible refine brNo (decide_eq_false ?_) ?_); omega) | ((with_reducible refine brYes ?_ ?_); (focus decide)) | ((with_reducible refine brNo ?_ ?_); (focus decide)) | ((with_reducible refine o_mod ?_ ?_); omega) | ((with_reducible refine o_fdiv ?_ ?_ ?_); omega; omega) | ((with_reducible refine o_mul ?_ ?_); omega) | ((with_reducible refine o_pow ?_ ?_); omega) | ((first | with_reducible refine o_addL ?_ ?_ | with_reducible refine o_addT ?_ ?_); (focus (rw [sizeLine_eq]; simp only [List.length_cons, List.length_nil, List.length_append, List.length_map]; omega))) | ((with_reducible refine o_strI (log_small ?_) ?_); omega) | ((with_reducible refine o_fmtI (log_small ?_) ?_); omega) | ((with_reducible refine o_rng1 ?_ ?_); omega) | ((with_reducible refine o_rng1I ?_ ?_ ?_); omega; omega) | ((fail_if_success with_reducible refine noRng1 ?_); (fail_if_success with_reducible refine noRng2 ?_); (fail_if_success with_reducible refine noRng3 ?_); (with_reducible apply opr); rfl) | ((with_reducible refine And.intro ?_ ?_); (first | rfl | decide | assumption | (focus (rw [sizeLine_eq]; simp; done)) | (focus (rw [rangeD_length, sizeLine_eq]; omega)))) | (with_reducible refine Exists.intro _ (And.intro rfl ?_)) | (with_reducible refine Exists.intro _ (Exists.intro _ (And.intro rfl ?_))) | fail))
        refine o_in ?_
        (repeat' (first | ((with_reducible apply i_v); rfl) | with_reducible refine i_2 ?_ | with_reducible refine i_1 ?_ | with_reducible refine i_call ?_ | with_reducible refine i_callF ?_ | with_reducible refine i_2F ?_ | with_reducible refine i_if ?_ | with_reducible refine i_sif ?_ | with_reducible refine i_B ?_ | with_reducible refine i_tru ?_ | with_reducible refine i_not ?_ | with_reducible refine i_and ?_ | with_reducible refine i_or ?_ | with_reducible refine i_notV ?_ | with_reducible refine i_andV ?_ | with_reducible refine i_orV ?_ | with_reducible refine i_ch ?_ | with_reducible refine i_tup ?_ | with_reducible refine i_lst ?_ | with_reducible refine i_sl ?_ | with_reducible refine i_fn ?_ | with_reducible refine i_mk ?_ | with_reducible refine i_me0 ?_ | with_reducible refine i_me ?_ | with_reducible refine i_bor ?_ | with_reducible refine i_borT ?_ | with_reducible refine i_join ?_ | with_reducible refine i_js0 ?_ | with_reducible refine i_js1 ?_ | with_reducible refine i_sseq ?_ | with_reducible refine i_sret ?_ | with_reducible refine i_sretF ?_ | with_reducible refine i_sexpr ?_ | with_reducible refine i_sset ?_ | with_reducible refine i_sown ?_ | with_reducible refine i_ssetL ?_ | with_reducible refine i_spar ?_ | with_reducible refine i_sasg ?_ | with_reducible refine i_sitem ?_ | with_reducible refine i_sapp ?_ | with_reducible refine i_sfs ?_ | with_reducible refine i_frz ?_ | with_reducible refine i_sfor ?_ | with_reducible refine i_lc ?_ | with_reducible refine i_snil ?_ | with_reducible refine i_nil ?_ | with_reducible refine i_cons ?_ | with_reducible refine i_pure ?_ | with_reducible refine i_lift ?_ | with_reducible refine i_bind ?_ | ((with_reducible apply i_fnW); rfl) | with_reducible refine nxN ?_ | with_reducible refine nxR ?_ | with_reducible refine nxF ?_ | with_reducible refine nxB ?_ | with_reducible refine nxC ?_ | with_reducible refine brN ?_ | with_reducible refine brT ?_ | with_reducible refine brF ?_ | ((with_reducible refine brYes (decide_eq_true ?_) ?_); omega) | ((with_reducible refine brNo (decide_eq_false ?_) ?_); omega) | ((with_reducible refine brYes ?_ ?_); (focus decide)) | ((with_reducible refine brNo ?_ ?_); (focus decide)) | ((with_reducible refine o_mod ?_ ?_); omega) | ((with_reducible refine o_fdiv ?_ ?_ ?_); omega; omega) | ((with_reducible refine o_mul ?_ ?_); omega) | ((with_reducible refine o_pow ?_ ?_); omega) | ((first | with_reducible refine o_addL ?_ ?_ | with_reducible refine o_addT ?_ ?_); (focus (rw [sizeLine_eq]; simp only [List.length_cons, List.length_nil, List.length_append, List.length_map]; omega))) | ((with_reducible refine o_strI (log_small ?_) ?_); omega) | ((with_reducible refine o_fmtI (log_small ?_) ?_); omega) | ((with_reducible refine o_rng1 ?_ ?_); omega) | ((with_reducible refine o_rng1I ?_ ?_ ?_); omega; omega) | ((fail_if_success with_reducible refine noRng1 ?_); (fail_if_success with_reducible refine noRng2 ?_); (fail_if_success with_reducible refine noRng3 ?_); (with_reducible apply opr); rfl) | ((with_reducible refine And.intro ?_ ?_); (first | rfl | decide | assumption | (focus (rw [sizeLine_eq]; simp; done)) | (focus (rw [rangeD_length, sizeLine_eq]; omega)))) | (with_reducible refine Exists.intro _ (And.intro rfl ?_)) | (with_reducible refine Exists.intro _ (Exists.intro _ (And.intro rfl ?_))) | fail))
        refine br (fun e1 => ?_) (fun e1 => ?_)
        · (repeat' (first | ((with_reducible apply i_v); rfl) | with_reducible refine i_2 ?_ | with_reducible refine i_1 ?_ | with_reducible refine i_call ?_ | with_reducible refine i_callF ?_ | with_reducible refine i_2F ?_ | with_reducible refine i_if ?_ | with_reducible refine i_sif ?_ | with_reducible refine i_B ?_ | with_reducible refine i_tru ?_ | with_reducible refine i_not ?_ | with_reducible refine i_and ?_ | with_reducible refine i_or ?_ | with_reducible refine i_notV ?_ | with_reducible refine i_andV ?_ | with_reducible refine i_orV ?_ | with_reducible refine i_ch ?_ | with_reducible refine i_tup ?_ | with_reducible refine i_lst ?_ | with_reducible refine i_sl ?_ | with_reducible refine i_fn ?_ | with_reducible refine i_mk ?_ | with_reducible refine i_me0 ?_ | with_reducible refine i_me ?_ | with_reducible refine i_bor ?_ | with_reducible refine i_borT ?_ | with_reducible refine i_join ?_ | with_reducible refine i_js0 ?_ | with_reducible refine i_js1 ?_ | with_reducible refine i_sseq ?_ | with_reducible refine i_sret ?_ | with_reducible refine i_sretF ?_ | with_reducible refine i_sexpr ?_ | with_reducible refine i_sset ?_ | with_reducible refine i_sown ?_ | with_reducible refine i_ssetL ?_ | with_reducible refine i_spar ?_ | with_reducible refine i_sasg ?_ | with_reducible refine i_sitem ?_ | with_reducible refine i_sapp ?_ | with_reducible refine i_sfs ?_ | with_reducible refine i_frz ?_ | with_reducible refine i_sfor ?_ | with_reducible refine i_lc ?_ | with_reducible refine i_snil ?_ | with_reducible refine i_nil ?_ | with_reducible refine i_cons ?_ | with_reducible refine i_pure ?_ | with_reducible refine i_lift ?_ | with_reducible refine i_bind ?_ | ((with_reducible apply i_fnW); rfl) | with_reducible refine nxN ?_ | with_reducible refine nxR ?_ | with_reducible refine nxF ?_ | with_reducible refine nxB ?_ | with_reducible refine nxC ?_ | with_reducible refine brN ?_ | with_reducible refine brT ?_ | with_reducible refine brF ?_ | ((with_reducible refine brYes (decide_eq_true ?_) ?_); omega) | ((with_reducible refine brNo (decide_eq_false ?_) ?_); omega) | ((with_reducible refine brYes ?_ ?_); (focus decide)) | ((with_reducible refine brNo ?_ ?_); (focus decide)) | ((with_reducible refine o_mod ?_ ?_); omega) | ((with_reducible refine o_fdiv ?_ ?_ ?_); omega; omega) | ((with_reducible refine o_mul ?_ ?_); omega) | ((with_reducible refine o_pow ?_ ?_); omega) | ((first | with_reducible refine o_addL ?_ ?_ | with_reducible refine o_addT ?_ ?_); (focus (rw [sizeLine_eq]; simp only [List.length_cons, List.length_nil, List.length_append, List.length_map]; omega))) | ((with_reducible refine o_strI (log_small ?_) ?_); omega) | ((with_reducible refine o_fmtI (log_small ?_) ?_); omega) | ((with_reducible refine o_rng1 ?_ ?_); omega) | ((with_reducible refine o_rng1I ?_ ?_ ?_); omega; omega) | ((fail_if_success with_reducible refine noRng1 ?_); (fail_if_success with_reducible refine noRng2 ?_); (fail_if_success with_reducible refine noRng3 ?_); (with_reducible apply opr); rfl) | ((with_reducible refine And.intro ?_ ?_); (first | rfl | decide | assumption | (focus (rw [sizeLine_eq]; simp; done)) | (focus (rw [rangeD_length, sizeLine_eq]; omega)))) | (with_reducible refine Exists.intro _ (And.intro rfl ?_)) | (with_reducible refine Exists.intro _ (Exists.intro _ (And.intro rfl ?_))) | fail))
          refine i_lcL (fun items ys τ => ∃ k : Nat, k ≤ 10 ∧ items = (rangeD 0 10 1).drop k ∧ ys = (qs.take k).map D.str ∧ τ = [some (.own l2), some (.val (.int n)), some (.own (xs.map D.str)), some (.val (.int (0 + j * 1))), some (.val (.int r1)), some (.val (.str x)), none, none]) ?_ ?_ ?_
          · exact ⟨0, by omega, rfl, rfl, rfl⟩
          · rintro d ds ys τ ⟨k, hk, hi, rfl, rfl⟩
            obtain ⟨g1, g2, rfl⟩ := drop_cons hi.symm
            obtain ⟨rfl, hkn⟩ := rangeD_at g2
            (repeat' (first | ((with_reducible apply i_v); rfl) | with_reducible refine i_2 ?_ | with_reducible refine i_1 ?_ | with_reducible refine i_call ?_ | with_reducible refine i_callF ?_ | with_reducible refine i_2F ?_ | with_reducible refine i_if ?_ | with_reducible refine i_sif ?_ | with_reducible refine i_B ?_ | with_reducible refine i_tru ?_ | with_reducible refine i_not ?_ | with_reducible refine i_and ?_ | with_reducible refine i_or ?_ | with_reducible refine i_notV ?_ | with_reducible refine i_andV ?_ | with_reducible refine i_orV ?_ | with_reducible refine i_ch ?_ | with_reducible refine i_tup ?_ | with_reducible refine i_lst ?_ | with_reducible refine i_sl ?_ | with_reducible refine i_fn ?_ | with_reducible refine i_mk ?_ | with_reducible refine i_me0 ?_ | with_reducible refine i_me ?_ | with_reducible refine i_bor ?_ | with_reducible refine i_borT ?_ | with_reducible refine i_join ?_ | with_reducible refine i_js0 ?_ | with_reducible refine i_js1 ?_ | with_reducible refine i_sseq ?_ | with_reducible refine i_sret ?_ | with_reducible refine i_sretF ?_ | with_reducible refine i_sexpr ?_ | with_reducible refine i_sset ?_ | with_reducible refine i_sown ?_ | with_reducible refine i_ssetL ?_ | with_reducible refine i_spar ?_ | with_reducible refine i_sasg ?_ | with_reducible refine i_sitem ?_ | with_reducible refine i_sapp ?_ | with_reducible refine i_sfs ?_ | with_reducible refine i_frz ?_ | with_reducible refine i_sfor ?_ | with_reducible refine i_lc ?_ | with_reducible refine i_snil ?_ | with_reducible refine i_nil ?_ | with_reducible refine i_cons ?_ | with_reducible refine i_pure ?_ | with_reducible refine i_lift ?_ | with_reducible refine i_bind ?_ | ((with_reducible apply i_fnW); rfl) | with_reducible refine nxN ?_ | with_reducible refine nxR ?_ | with_reducible refine nxF ?_ | with_reducible refine nxB ?_ | with_reducible refine nxC ?_ | with_reducible refine brN ?_ | with_reducible refine brT ?_ | with_reducible refine brF ?_ | ((with_reducible refine brYes (decide_eq_true ?_) ?_); omega) | ((with_reducible refine brNo (decide_eq_false ?_) ?_); omega) | ((with_reducible refine brYes ?_ ?_); (focus decide)) | ((with_reducible refine brNo ?_ ?_); (focus decide)) | ((with_reducible refine o_mod ?_ ?_); omega) | ((with_reducible refine o_fdiv ?_ ?_ ?_); omega; omega) | ((with_reducible refine o_mul ?_ ?_); omega) | ((with_reducible refine o_pow ?_ ?_); omega) | ((first | with_reducible refine o_addL ?_ ?_ | with_reducible refine o_addT ?_ ?_); (focus (rw [sizeLine_eq]; simp only [List.length_cons, List.length_nil, List.length_append, List.length_map]; omega))) | ((with_reducible refine o_strI (log_small ?_) ?_); omega) | ((with_reducible refine o_fmtI (log_small ?_) ?_); omega) | ((with_reducible refine o_rng1 ?_ ?_); omega) | ((with_reducible refine o_rng1I ?_ ?_ ?_); omega; omega) | ((fail_if_success with_reducible refine noRng1 ?_); (fail_if_success with_reducible refine noRng2 ?_); (fail_if_success with_reducible refine noRng3 ?_); (with_reducible apply opr); rfl) | ((with_reducible refine And.intro ?_ ?_); (first | rfl | decide | assumption | (focus (rw [sizeLine_eq]; simp; done)) | (focus (rw [rangeD_length, sizeLine_eq]; omega)))) | (with_reducible refine Exists.intro _ (And.intro rfl ?_)) | (with_reducible refine Exists.intro _ (Exists.intro _ (And.intro rfl ?_))) | fail))
            refine o_addS (qfit k hkn) ?_
            exact ⟨k + 1, by omega, rfl, by rw [qnext k hkn, List.map_append]; rfl, rfl⟩
          · rintro ys τ ⟨k, hk, hi, rfl, rfl⟩
            have hk10 : k = 10 := by
              have := congrArg List.length hi
              simp [rangeD_length] at this
              omega
            subst hk10
            (repeat' (first | ((with_reducible apply i_v); rfl) | with_reducible refine i_2 ?_ | with_reducible refine i_1 ?_ | with_reducible refine i_call ?_ | with_reducible refine i_callF ?_ | with_reducible refine i_2F ?_ | with_reducible refine i_if ?_ | with_reducible refine i_sif ?_ | with_reducible refine i_B ?_ | with_reducible refine i_tru ?_ | with_reducible refine i_not ?_ | with_reducible refine i_and ?_ | with_reducible refine i_or ?_ | with_reducible refine i_notV ?_ | with_reducible refine i_andV ?_ | with_reducible refine i_orV ?_ | with_reducible refine i_ch ?_ | with_reducible refine i_tup ?_ | with_reducible refine i_lst ?_ | with_reducible refine i_sl ?_ | with_reducible refine i_fn ?_ | with_reducible refine i_mk ?_ | with_reducible refine i_me0 ?_ | with_reducible refine i_me ?_ | with_reducible refine i_bor ?_ | with_reducible refine i_borT ?_ | with_reducible refine i_join ?_ | with_reducible refine i_js0 ?_ | with_reducible refine i_js1 ?_ | with_reducible refine i_sseq ?_ | with_reducible refine i_sret ?_ | with_reducible refine i_sretF ?_ | with_reducible refine i_sexpr ?_ | with_reducible refine i_sset ?_ | with_reducible refine i_sown ?_ | with_reducible refine i_ssetL ?_ | with_reducible refine i_spar ?_ | with_reducible refine i_sasg ?_ | with_reducible refine i_sitem ?_ | with_reducible refine i_sapp ?_ | with_reducible refine i_sfs ?_ | with_reducible refine i_frz ?_ | with_reducible refine i_sfor ?_ | with_reducible refine i_lc ?_ | with_reducible refine i_snil ?_ | with_reducible refine i_nil ?_ | with_reducible refine i_cons ?_ | with_reducible refine i_pure ?_ | with_reducible refine i_lift ?_ | with_reducible refine i_bind ?_ | ((with_reducible apply i_fnW); rfl) | with_reducible refine nxN ?_ | with_reducible refine nxR ?_ | with_reducible refine nxF ?_ | with_reducible refine nxB ?_ | with_reducible refine nxC ?_ | with_reducible refine brN ?_ | with_reducible refine brT ?_ | with_reducible refine brF ?_ | ((with_reducible refine brYes (decide_eq_true ?_) ?_); omega) | ((with_reducible refine brNo (decide_eq_false ?_) ?_); omega) | ((with_reducible refine brYes ?_ ?_); (focus decide)) | ((with_reducible refine brNo ?_ ?_); (focus decide)) | ((with_reducible refine o_mod ?_ ?_); omega) | ((with_reducible refine o_fdiv ?_ ?_ ?_); omega; omega) | ((with_reducible refine o_mul ?_ ?_); omega) | ((with_reducible refine o_pow ?_ ?_); omega) | ((first | with_reducible refine o_addL ?_ ?_ | with_reducible refine o_addT ?_ ?_); (focus (rw [sizeLine_eq]; simp only [List.length_cons, List.length_nil, List.length_append, List.length_map]; omega))) | ((with_reducible refine o_strI (log_small ?_) ?_); omega) | ((with_reducible refine o_fmtI (log_small ?_) ?_); omega) | ((with_reducible refine o_rng1 ?_ ?_); omega) | ((with_reducible refine o_rng1I ?_ ?_ ?_); omega; omega) | ((fail_if_success with_reducible refine noRng1 ?_); (fail_if_success with_reducible refine noRng2 ?_); (fail_if_success with_reducible refine noRng3 ?_); (with_reducible apply opr); rfl) | ((with_reducible refine And.intro ?_ ?_); (first | rfl | decide | assumption | (focus (rw [sizeLine_eq]; simp; done)) | (focus (rw [rangeD_length, sizeLine_eq]; omega)))) | (with_reducible refine Exists.intro _ (And.intro rfl ?_)) | (with_reducible refine Exists.intro _ (Exists.intro _ (And.intro rfl ?_))) | fail))
            have hq10 : qs.take 10 = qs := by decide +kernel
            have hql : qs.length = 10 := by decide +kernel
            rw [hq10]
            refine i_lcL (fun items ys τ => ∃ k : Nat, k ≤ 10 ∧ items = (qs.map D.str).drop k ∧ ys = ((qs.take k).filter fun y => !decide (y ∈ xs)).map D.str ∧ τ = [some (.own l2), some (.val (.int n)), some (.own (xs.map D.str)), some (.val (.int (0 + j * 1))), some (.val (.int r1)), some (.val (.str x)), none, none]) ?_ ?_ ?_
            · exact ⟨0, by omega, rfl, rfl, rfl⟩
            · rintro d ds ys τ ⟨k, hk, hi, rfl, rfl⟩
              obtain ⟨g1, g2, rfl⟩ := drop_cons hi.symm
              rw [List.getElem?_map] at g2
              obtain ⟨y, g3, rfl⟩ := map_some g2
              have hk1 : k < 10 := by simp [hql] at g1; exact g1
              have hnx : qs.take (k + 1) = qs.take k ++ [y] := by rw [List.take_succ, g3]; rfl
              (repeat' (first | ((with_reducible apply i_v); rfl) | with_reducible refine i_2 ?_ | with_reducible refine i_1 ?_ | with_reducible refine i_call ?_ | with_reducible refine i_callF ?_ | with_reducible refine i_2F ?_ | with_reducible refine i_if ?_ | with_reducible refine i_sif ?_ | with_reducible refine i_B ?_ | with_reducible refine i_tru ?_ | with_reducible refine i_not ?_ | with_reducible refine i_and ?_ | with_reducible refine i_or ?_ | with_reducible refine i_notV ?_ | with_reducible refine i_andV ?_ | with_reducible refine i_orV ?_ | with_reducible refine i_ch ?_ | with_reducible refine i_tup ?_ | with_reducible refine i_lst ?_ | with_reducible refine i_sl ?_ | with_reducible refine i_fn ?_ | with_reducible refine i_mk ?_ | with_reducible refine i_me0 ?_ | with_reducible refine i_me ?_ | with_reducible refine i_bor ?_ | with_reducible refine i_borT ?_ | with_reducible refine i_join ?_ | with_reducible refine i_js0 ?_ | with_reducible refine i_js1 ?_ | with_reducible refine i_sseq ?_ | with_reducible refine i_sret ?_ | with_reducible refine i_sretF ?_ | with_reducible refine i_sexpr ?_ | with_reducible refine i_sset ?_ | with_reducible refine i_sown ?_ | with_reducible refine i_ssetL ?_ | with_reducible refine i_spar ?_ | with_reducible refine i_sasg ?_ | with_reducible refine i_sitem ?_ | with_reducible refine i_sapp ?_ | with_reducible refine i_sfs ?_ | with_reducible refine i_frz ?_ | with_reducible refine i_sfor ?_ | with_reducible refine i_lc ?_ | with_reducible refine i_snil ?_ | with_reducible refine i_nil ?_ | with_reducible refine i_cons ?_ | with_reducible refine i_pure ?_ | with_reducible refine i_lift ?_ | with_reducible refine i_bind ?_ | ((with_reducible apply i_fnW); rfl) | with_reducible refine nxN ?_ | with_reducible refine nxR ?_ | with_reducible refine nxF ?_ | with_reducible refine nxB ?_ | with_reducible refine nxC ?_ | with_reducible refine brN ?_ | with_reducible refine brT ?_ | with_reducible refine brF ?_ | ((with_reducible refine brYes (decide_eq_true ?_) ?_); omega) | ((with_reducible refine brNo (decide_eq_false ?_) ?_); omega) | ((with_reducible refine brYes ?_ ?_); (focus decide)) | ((with_reducible refine brNo ?_ ?_); (focus decide)) | ((with_reducible refine o_mod ?_ ?_); omega) | ((with_reducible refine o_fdiv ?_ ?_ ?_); omega; omega) | ((with_reducible refine o_mul ?_ ?_); omega) | ((with_reducible refine o_pow ?_ ?_); omega) | ((first | with_reducible refine o_addL ?_ ?_ | with_reducible refine o_addT ?_ ?_); (focus (rw [sizeLine_eq]; simp only [List.length_cons, List.length_nil, List.length_append, List.length_map]; omega))) | ((with_reducible refine o_strI (log_small ?_) ?_); omega) | ((with_reducible refine o_fmtI (log_small ?_) ?_); omega) | ((with_reducible refine o_rng1 ?_ ?_); omega) | ((with_reducible refine o_rng1I ?_ ?_ ?_); omega; omega) | ((fail_if_success with_reducible refine noRng1 ?_); (fail_if_success with_reducible refine noRng2 ?_); (fail_if_success with_reducible refine noRng3 ?_); (with_reducible apply opr); rfl) | ((with_reducible refine And.intro ?_ ?_); (first | rfl | decide | assumption | (focus (rw [sizeLine_eq]; simp; done)) | (focus (rw [rangeD_length, sizeLine_eq]; omega)))) | (with_reducible refine Exists.intro _ (And.intro rfl ?_)) | (with_reducible refine Exists.intro _ (Exists.intro _ (And.intro rfl ?_))) | fail))
              refine o_in ?_
              (repeat' (first | ((with_reducible apply i_v); rfl) | with_reducible refine i_2 ?_ | with_reducible refine i_1 ?_ | with_reducible refine i_call ?_ | with_reducible refine i_callF ?_ | with_reducible refine i_2F ?_ | with_reducible refine i_if ?_ | with_reducible refine i_sif ?_ | with_reducible refine i_B ?_ | with_reducible refine i_tru ?_ | with_reducible refine i_not ?_ | with_reducible refine i_and ?_ | with_reducible refine i_or ?_ | with_reducible refine i_notV ?_ | with_reducible refine i_andV ?_ | with_reducible refine i_orV ?_ | with_reducible refine i_ch ?_ | with_reducible refine i_tup ?_ | with_reducible refine i_lst ?_ | with_reducible refine i_sl ?_ | with_reducible refine i_fn ?_ | with_reducible refine i_mk ?_ | with_reducible refine i_me0 ?_ | with_reducible refine i_me ?_ | with_reducible refine i_bor ?_ | with_reducible refine i_borT ?_ | with_reducible refine i_join ?_ | with_reducible refine i_js0 ?_ | with_reducible refine i_js1 ?_ | with_reducible refine i_sseq ?_ | with_reducible refine i_sret ?_ | with_reducible refine i_sretF ?_ | with_reducible refine i_sexpr ?_ | with_reducible refine i_sset ?_ | with_reducible refine i_sown ?_ | with_reducible refine i_ssetL ?_ | with_reducible refine i_spar ?_ | with_reducible refine i_sasg ?_ | with_reducible refine i_sitem ?_ | with_reducible refine i_sapp ?_ | with_reducible refine i_sfs ?_ | with_reducible refine i_frz ?_ | with_reducible refine i_sfor ?_ | with_reducible refine i_lc ?_ | with_reducible refine i_snil ?_ | with_reducible refine i_nil ?_ | with_reducible refine i_cons ?_ | with_reducible refine i_pure ?_ | with_reducible refine i_lift ?_ | with_reducible refine i_bind ?_ | ((with_reducible apply i_fnW); rfl) | with_reducible refine nxN ?_ | with_reducible refine nxR ?_ | with_reducible refine nxF ?_ | with_reducible refine nxB ?_ | with_reducible refine nxC ?_ | with_reducible refine brN ?_ | with_reducible refine brT ?_ | with_reducible refine brF ?_ | ((with_reducible refine brYes (decide_eq_true ?_) ?_); omega) | ((with_reducible refine brNo (decide_eq_false ?_) ?_); omega) | ((with_reducible refine brYes ?_ ?_); (focus decide)) | ((with_reducible refine brNo ?_ ?_); (focus decide)) | ((with_reducible refine o_mod ?_ ?_); omega) | ((with_reducible refine o_fdiv ?_ ?_ ?_); omega; omega) | ((with_reducible refine o_mul ?_ ?_); omega) | ((with_reducible refine o_pow ?_ ?_); omega) | ((first | with_reducible refine o_addL ?_ ?_ | with_reducible refine o_addT ?_ ?_); (focus (rw [sizeLine_eq]; simp only [List.length_cons, List.length_nil, List.length_append, List.length_map]; omega))) | ((with_reducible refine o_strI (log_small ?_) ?_); omega) | ((with_reducible refine o_fmtI (log_small ?_) ?_); omega) | ((with_reducible refine o_rng1 ?_ ?_); omega) | ((with_reducible refine o_rng1I ?_ ?_ ?_); omega; omega) | ((fail_if_success with_reducible refine noRng1 ?_); (fail_if_success with_reducible refine noRng2 ?_); (fail_if_success with_reducible refine noRng3 ?_); (with_reducible apply opr); rfl) | ((with_reducible refine And.intro ?_ ?_); (first | rfl | decide | assumption | (focus (rw [sizeLine_eq]; simp; done)) | (focus (rw [rangeD_length, sizeLine_eq]; omega)))) | (with_reducible refine Exists.intro _ (And.intro rfl ?_)) | (with_reducible refine Exists.intro _ (Exists.intro _ (And.intro rfl ?_))) | fail))
              refine br (fun e2 => ?_) (fun e2 => ?_)
              · (repeat' (first | ((with_reducible apply i_v); rfl) | with_reducible refine i_2 ?_ | with_reducible refine i_1 ?_ | with_reducible refine i_call ?_ | with_reducible refine i_callF ?_ | with_reducible refine i_2F ?_ | with_reducible refine i_if ?_ | with_reducible refine i_sif ?_ | with_reducible refine i_B ?_ | with_reducible refine i_tru ?_ | with_reducible refine i_not ?_ | with_reducible refine i_and ?_ | with_reducible refine i_or ?_ | with_reducible refine i_notV ?_ | with_reducible refine i_andV ?_ | with_reducible refine i_orV ?_ | with_reducible refine i_ch ?_ | with_reducible refine i_tup ?_ | with_reducible refine i_lst ?_ | with_reducible refine i_sl ?_ | with_reducible refine i_fn ?_ | with_reducible refine i_mk ?_ | with_reducible refine i_me0 ?_ | with_reducible refine i_me ?_ | with_reducible refine i_bor ?_ | with_reducible refine i_borT ?_ | with_reducible refine i_join ?_ | with_reducible refine i_js0 ?_ | with_reducible refine i_js1 ?_ | with_reducible refine i_sseq ?_ | with_reducible refine i_sret ?_ | with_reducible refine i_sretF ?_ | with_reducible refine i_sexpr ?_ | with_reducible refine i_sset ?_ | with_reducible refine i_sown ?_ | with_reducible refine i_ssetL ?_ | with_reducible refine i_spar ?_ | with_reducible refine i_sasg ?_ | with_reducible refine i_sitem ?_ | with_reducible refine i_sapp ?_ | with_reducible refine i_sfs ?_ | with_reducible refine i_frz ?_ | with_reducible refine i_sfor ?_ | with_reducible refine i_lc ?_ | with_reducible refine i_snil ?_ | with_reducible refine i_nil ?_ | with_reducible refine i_cons ?_ | with_reducible refine i_pure ?_ | with_reducible refine i_lift ?_ | with_reducible refine i_bind ?_ | ((with_reducible apply i_fnW); rfl) | with_reducible refine nxN ?_ | with_reducible refine nxR ?_ | with_reducible refine nxF ?_ | with_reducible refine nxB ?_ | with_reducible refine nxC ?_ | with_reducible refine brN ?_ | with_reducible refine brT ?_ | with_reducible refine brF ?_ | ((with_reducible refine brYes (decide_eq_true ?_) ?_); omega) | ((with_reducible refine brNo (decide_eq_false ?_) ?_); omega) | ((with_reducible refine brYes ?_ ?_); (focus decide)) | ((with_reducible refine brNo ?_ ?_); (focus decide)) | ((with_reducible refine o_mod ?_ ?_); omega) | ((with_reducible refine o_fdiv ?_ ?_ ?_); omega; omega) | ((with_reducible refine o_mul ?_ ?_); omega) | ((with_reducible refine o_pow ?_ ?_); omega) | ((first | with_reducible refine o_addL ?_ ?_ | with_reducible refine o_addT ?_ ?_); (focus (rw [sizeLine_eq]; simp only [List.length_cons, List.length_nil, List.length_append, List.length_map]; omega))) | ((with_reducible refine o_strI (log_small ?_) ?_); omega) | ((with_reducible refine o_fmtI (log_small ?_) ?_); omega) | ((with_reducible refine o_rng1 ?_ ?_); omega) | ((with_reducible refine o_rng1I ?_ ?_ ?_); omega; omega) | ((fail_if_success with_reducible refine noRng1 ?_); (fail_if_success with_reducible refine noRng2 ?_); (fail_if_success with_reducible refine noRng3 ?_); (with_reducible apply opr); rfl) | ((with_reducible refine And.intro ?_ ?_); (first | rfl | decide | assumption | (focus (rw [sizeLine_eq]; simp; done)) | (focus (rw [rangeD_length, sizeLine_eq]; omega)))) | (with_reducible refine Exists.intro _ (And.intro rfl ?_)) | (with_reducible refine Exists.intro _ (Exists.intro _ (And.intro rfl ?_))) | fail))
                refine ⟨k + 1, by omega, rfl, ?_, rfl⟩
                have : (!decide (y ∈ xs)) = true := by simpa using e2
                rw [hnx, List.filter_append, List.map_append]
                simp [List.filter_cons, this]
              · refine ⟨k + 1, by omega, rfl, ?_, rfl⟩
                have : (!decide (y ∈ xs)) = false := by simpa using e2
                rw [hnx, List.filter_append, List.map_append]
                simp [List.filter_cons, this]
            · rintro ys τ ⟨k, hk, hi, rfl, rfl⟩
              have hk10 : k = 10 := by
                have := congrArg List.length hi
                simp [hql] at this
                omega
              subst hk10
              rw [hq10]
              (repeat' (first | ((with_reducible apply i_v); rfl) | with_reducible refine i_2 ?_ | with_reducible refine i_1 ?_ | with_reducible refine i_call ?_ | with_reducible refine i_callF ?_ | with_reducible refine i_2F ?_ | with_reducible refine i_if ?_ | with_reducible refine i_sif ?_ | with_reducible refine i_B ?_ | with_reducible refine i_tru ?_ | with_reducible refine i_not ?_ | with_reducible refine i_and ?_ | with_reducible refine i_or ?_ | with_reducible refine i_notV ?_ | with_reducible refine i_andV ?_ | with_reducible refine i_orV ?_ | with_reducible refine i_ch ?_ | with_reducible refine i_tup ?_ | with_reducible refine i_lst ?_ | with_reducible refine i_sl ?_ | with_reducible refine i_fn ?_ | with_reducible refine i_mk ?_ | with_reducible refine i_me0 ?_ | with_reducible refine i_me ?_ | with_reducible refine i_bor ?_ | with_reducible refine i_borT ?_ | with_reducible refine i_join ?_ | with_reducible refine i_js0 ?_ | with_reducible refine i_js1 ?_ | with_reducible refine i_sseq ?_ | with_reducible refine i_sret ?_ | with_reducible refine i_sretF ?_ | with_reducible refine i_sexpr ?_ | with_reducible refine i_sset ?_ | with_reducible refine i_sown ?_ | with_reducible refine i_ssetL ?_ | with_reducible refine i_spar ?_ | with_reducible refine i_sasg ?_ | with_reducible refine i_sitem ?_ | with_reducible refine i_sapp ?_ | with_reducible refine i_sfs ?_ | with_reducible refine i_frz ?_ | with_reducible refine i_sfor ?_ | with_reducible refine i_lc ?_ | with_reducible refine i_snil ?_ | with_reducible refine i_nil ?_ | with_reducible refine i_cons ?_ | with_reducible refine i_pure ?_ | with_reducible refine i_lift ?_ | with_reducible refine i_bind ?_ | ((with_reducible apply i_fnW); rfl) | with_reducible refine nxN ?_ | with_reducible refine nxR ?_ | with_reducible refine nxF ?_ | with_reducible refine nxB ?_ | with_reducible refine nxC ?_ | with_reducible refine brN ?_ | with_reducible refine brT ?_ | with_reducible refine brF ?_ | ((with_reducible refine brYes (decide_eq_true ?_) ?_); omega) | ((with_reducible refine brNo (decide_eq_false ?_) ?_); omega) | ((with_reducible refine brYes ?_ ?_); (focus decide)) | ((with_reducible refine brNo ?_ ?_); (focus decide)) | ((with_reducible refine o_mod ?_ ?_); omega) | ((with_reducible refine o_fdiv ?_ ?_ ?_); omega; omega) | ((with_reducible refine o_mul ?_ ?_); omega) | ((with_reducible refine o_pow ?_ ?_); omega) | ((first | with_reducible refine o_addL ?_ ?_ | with_reducible refine o_addT ?_ ?_); (focus (rw [sizeLine_eq]; simp only [List.length_cons, List.length_nil, List.length_append, List.length_map]; omega))) | ((with_reducible refine o_strI (log_small ?_) ?_); omega) | ((with_reducible refine o_fmtI (log_small ?_) ?_); omega) | ((with_reducible refine o_rng1 ?_ ?_); omega) | ((with_reducible refine o_rng1I ?_ ?_ ?_); omega; omega) | ((fail_if_success with_reducible refine noRng1 ?_); (fail_if_success with_reducible refine noRng2 ?_); (fail_if_success with_reducible refine noRng3 ?_); (with_reducible apply opr); rfl) | ((with_reducible refine And.intro ?_ ?_); (first | rfl | decide | assumption | (focus (rw [sizeLine_eq]; simp; done)) | (focus (rw [rangeD_length, sizeLine_eq]; omega)))) | (with_reducible refine Exists.intro _ (And.intro rfl ?_)) | (with_reducible refine Exists.intro _ (Exists.intro _ (And.intro rfl ?_))) | fail))
              cases ef : qs.filter fun y => !decide (y ∈ xs) with
              | nil =>
                have := nodup_sub qs_nodup fun y hy => by
                  have := List.filter_eq_nil_iff.mp ef y hy
                  simpa using this
                omega
              | cons z zs =>
                refine ⟨.str z, by rw [List.map_cons]; exact at_zero, rfl, z, qs_ok z ?_, rfl⟩
                have : z ∈ qs.filter fun y => !decide (y ∈ xs) := by rw [ef]; simp
                exact (List.mem_filter.mp this).1
        · (repeat' (first | ((with_reducible apply i_v); rfl) | with_reducible refine i_2 ?_ | with_reducible refine i_1 ?_ | with_reducible refine i_call ?_ | with_reducible refine i_callF ?_ | with_reducible refine i_2F ?_ | with_reducible refine i_if ?_ | with_reducible refine i_sif ?_ | with_reducible refine i_B ?_ | with_reducible refine i_tru ?_ | with_reducible refine i_not ?_ | with_reducible refine i_and ?_ | with_reducible refine i_or ?_ | with_reducible refine i_notV ?_ | with_reducible refine i_andV ?_ | with_reducible refine i_orV ?_ | with_reducible refine i_ch ?_ | with_reducible refine i_tup ?_ | with_reducible refine i_lst ?_ | with_reducible refine i_sl ?_ | with_reducible refine i_fn ?_ | with_reducible refine i_mk ?_ | with_reducible refine i_me0 ?_ | with_reducible refine i_me ?_ | with_reducible refine i_bor ?_ | with_reducible refine i_borT ?_ | with_reducible refine i_join ?_ | with_reducible refine i_js0 ?_ | with_reducible refine i_js1 ?_ | with_reducible refine i_sseq ?_ | with_reducible refine i_sret ?_ | with_reducible refine i_sretF ?_ | with_reducible refine i_sexpr ?_ | with_reducible refine i_sset ?_ | with_reducible refine i_sown ?_ | with_reducible refine i_ssetL ?_ | with_reducible refine i_spar ?_ | with_reducible refine i_sasg ?_ | with_reducible refine i_sitem ?_ | with_reducible refine i_sapp ?_ | with_reducible refine i_sfs ?_ | with_reducible refine i_frz ?_ | with_reducible refine i_sfor ?_ | with_reducible refine i_lc ?_ | with_reducible refine i_snil ?_ | with_reducible refine i_nil ?_ | with_reducible refine i_cons ?_ | with_reducible refine i_pure ?_ | with_reducible refine i_lift ?_ | with_reducible refine i_bind ?_ | ((with_reducible apply i_fnW); rfl) | with_reducible refine nxN ?_ | with_reducible refine nxR ?_ | with_reducible refine nxF ?_ | with_reducible refine nxB ?_ | with_reducible refine nxC ?_ | with_reducible refine brN ?_ | with_reducible refine brT ?_ | with_reducible refine brF ?_ | ((with_reducible refine brYes (decide_eq_true ?_) ?_); omega) | ((with_reducible refine brNo (decide_eq_false ?_) ?_); omega) | ((with_reducible refine brYes ?_ ?_); (focus decide)) | ((with_reducible refine brNo ?_ ?_); (focus decide)) | ((with_reducible refine o_mod ?_ ?_); omega) | ((with_reducible refine o_fdiv ?_ ?_ ?_); omega; omega) | ((with_reducible refine o_mul ?_ ?_); omega) | ((with_reducible refine o_pow ?_ ?_); omega) | ((first | with_reducible refine o_addL ?_ ?_ | with_reducible refine o_addT ?_ ?_); (focus (rw [sizeLine_eq]; simp only [List.length_cons, List.length_nil, List.length_append, List.length_map]; omega))) | ((with_reducible refine o_strI (log_small ?_) ?_); omega) | ((with_reducible refine o_fmtI (log_small ?_) ?_); omega) | ((with_reducible refine o_rng1 ?_ ?_); omega) | ((with_reducible refine o_rng1I ?_ ?_ ?_); omega; omega) | ((fail_if_success with_reducible refine noRng1 ?_); (fail_if_success with_reducible refine noRng2 ?_); (fail_if_success with_reducible refine noRng3 ?_); (with_reducible apply opr); rfl) | ((with_reducible refine And.intro ?_ ?_); (first | rfl | decide | assumption | (focus (rw [sizeLine_eq]; simp; done)) | (focus (rw [rangeD_length, sizeLine_eq]; omega)))) | (with_reducible refine Exists.intro _ (And.intro rfl ?_)) | (with_reducible refine Exists.intro _ (Exists.intro _ (And.intro rfl ?_))) | fail))
          exact ⟨x, hx2, rfl⟩
      · rintro τ ⟨x, hx3, rfl⟩
        (repeat' (first | ((with_reducible apply i_v); rfl) | with_reducible refine i_2 ?_ | with_reducible refine i_1 ?_ | with_reducible refine i_call ?_ | with_reducible refine i_callF ?_ | with_reducible refine i_2F ?_ | with_reducible refine i_if ?_ | with_reducible refine i_sif ?_ | with_reducible refine i_B ?_ | with_reducible refine i_tru ?_ | with_reducible refine i_not ?_ | with_reducible refine i_and ?_ | with_reducible refine i_or ?_ | with_reducible refine i_notV ?_ | with_reducible refine i_andV ?_ | with_reducible refine i_orV ?_ | with_reducible refine i_ch ?_ | with_reducible refine i_tup ?_ | with_reducible refine i_lst ?_ | with_reducible refine i_sl ?_ | with_reducible refine i_fn ?_ | with_reducible refine i_mk ?_ | with_reducible refine i_me0 ?_ | with_reducible refine i_me ?_ | with_reducible refine i_bor ?_ | with_reducible refine i_borT ?_ | with_reducible refine i_join ?_ | with_reducible refine i_js0 ?_ | with_reducible refine i_js1 ?_ | with_reducible refine i_sseq ?_ | with_reducible refine i_sret ?_ | with_reducible refine i_sretF ?_ | with_reducible refine i_sexpr ?_ | with_reducible refine i_sset ?_ | with_reducible refine i_sown ?_ | with_reducible refine i_ssetL ?_ | with_reducible refine i_spar ?_ | with_reducible refine i_sasg ?_ | with_reducible refine i_sitem ?_ | with_reducible refine i_sapp ?_ | with_reducible refine i_sfs ?_ | with_reducible refine i_frz ?_ | with_reducible refine i_sfor ?_ | with_reducible refine i_lc ?_ | with_reducible refine i_snil ?_ | with_reducible refine i_nil ?_ | with_reducible refine i_cons ?_ | with_reducible refine i_pure ?_ | with_reducible refine i_lift ?_ | with_reducible refine i_bind ?_ | ((with_reducible apply i_fnW); rfl) | with_reducible refine nxN ?_ | with_reducible refine nxR ?_ | with_reducible refine nxF ?_ | with_reducible refine nxB ?_ | with_reducible refine nxC ?_ | with_reducible refine brN ?_ | with_reducible refine brT ?_ | with_reducible refine brF ?_ | ((with_reducible refine brYes (decide_eq_true ?_) ?_); omega) | ((with_reducible refine brNo (decide_eq_false ?_) ?_); omega) | ((with_reducible refine brYes ?_ ?_); (focus decide)) | ((with_reducible refine brNo ?_ ?_); (focus decide)) | ((with_reducible refine o_mod ?_ ?_); omega) | ((with_reducible refine o_fdiv ?_ ?_ ?_); omega; omega) | ((with_reducible refine o_mul ?_ ?_); omega) | ((with_reducible refine o_pow ?_ ?_); omega) | ((first | with_reducible refine o_addL ?_ ?_ | with_reducible refine o_addT ?_ ?_); (focus (rw [sizeLine_eq]; simp only [List.length_cons, List.length_nil, List.length_append, List.length_map]; omega))) | ((with_reducible refine o_strI (log_small ?_) ?_); omega) | ((with_reducible refine o_fmtI (log_small ?_) ?_); omega) | ((with_reducible refine o_rng1 ?_ ?_); omega) | ((with_reducible refine o_rng1I ?_ ?_ ?_); omega; omega) | ((fail_if_success with_reducible refine noRng1 ?_); (fail_if_success with_reducible refine noRng2 ?_); (fail_if_success with_reducible refine noRng3 ?_); (with_reducible apply opr); rfl) | ((with_reducible refine And.intro ?_ ?_); (first | rfl | decide | assumption | (focus (rw [sizeLine_eq]; simp; done)) | (focus (rw [rangeD_length, sizeLine_eq]; omega)))) | (with_reducible refine Exists.intro _ (And.intro rfl ?_)) | (with_reducible refine Exists.intro _ (Exists.intro _ (And.intro rfl ?_))) | fail))
        refine ⟨by simp [sizeLine_eq]; omega, j + 1, xs ++ [x], l2, _, _, _, by omega, rfl, by simp [hj], ?_, hw2, by rw [List.map_append]; rfl⟩
        intro y hy
        rcases List.mem_append.mp hy with hy | hy
        · exact hx y hy
        · simp at hy; subst hy; exact hx3
  · rintro τ ⟨j, xs, l, a, b, c, hjn0, hi, hj, hx, hw, rfl⟩
    have : n ≤ j := by
      have := congrArg List.length hi
      simp [rangeD_length] at this
      omega
    have hl : n = xs.length := by omega
    (repeat' (first | ((with_reducible apply i_v); rfl) | with_reducible refine i_2 ?_ | with_reducible refine i_1 ?_ | with_reducible refine i_call ?_ | with_reducible refine i_callF ?_ | with_reducible refine i_2F ?_ | with_reducible refine i_if ?_ | with_reducible refine i_sif ?_ | with_reducible refine i_B ?_ | with_reducible refine i_tru ?_ | with_reducible refine i_not ?_ | with_reducible refine i_and ?_ | with_reducible refine i_or ?_ | with_reducible refine i_notV ?_ | with_reducible refine i_andV ?_ | with_reducible refine i_orV ?_ | with_reducible refine i_ch ?_ | with_reducible refine i_tup ?_ | with_reducible refine i_lst ?_ | with_reducible refine i_sl ?_ | with_reducible refine i_fn ?_ | with_reducible refine i_mk ?_ | with_reducible refine i_me0 ?_ | with_reducible refine i_me ?_ | with_reducible refine i_bor ?_ | with_reducible refine i_borT ?_ | with_reducible refine i_join ?_ | with_reducible refine i_js0 ?_ | with_reducible refine i_js1 ?_ | with_reducible refine i_sseq ?_ | with_reducible refine i_sret ?_ | with_reducible refine i_sretF ?_ | with_reducible refine i_sexpr ?_ | with_reducible refine i_sset ?_ | with_reducible refine i_sown ?_ | with_reducible refine i_ssetL ?_ | with_reducible refine i_spar ?_ | with_reducible refine i_sasg ?_ | with_reducible refine i_sitem ?_ | with_reducible refine i_sapp ?_ | with_reducible refine i_sfs ?_ | with_reducible refine i_frz ?_ | with_reducible refine i_sfor ?_ | with_reducible refine i_lc ?_ | with_reducible refine i_snil ?_ | with_reducible refine i_nil ?_ | with_reducible refine i_cons ?_ | with_reducible refine i_pure ?_ | with_reducible refine i_lift ?_ | with_reducible refine i_bind ?_ | ((with_reducible apply i_fnW); rfl) | with_reducible refine nxN ?_ | with_reducible refine nxR ?_ | with_reducible refine nxF ?_ | with_reducible refine nxB ?_ | with_reducible refine nxC ?_ | with_reducible refine brN ?_ | with_reducible refine brT ?_ | with_reducible refine brF ?_ | ((with_reducible refine brYes (decide_eq_true ?_) ?_); omega) | ((with_reducible refine brNo (decide_eq_false ?_) ?_); omega) | ((with_reducible refine brYes ?_ ?_); (focus decide)) | ((with_reducible refine brNo ?_ ?_); (focus decide)) | ((with_reducible refine o_mod ?_ ?_); omega) | ((with_reducible refine o_fdiv ?_ ?_ ?_); omega; omega) | ((with_reducible refine o_mul ?_ ?_); omega) | ((with_reducible refine o_pow ?_ ?_); omega) | ((first | with_reducible refine o_addL ?_ ?_ | with_reducible refine o_addT ?_ ?_); (focus (rw [sizeLine_eq]; simp only [List.length_cons, List.length_nil, List.length_append, List.length_map]; omega))) | ((with_reducible refine o_strI (log_small ?_) ?_); omega) | ((with_reducible refine o_fmtI (log_small ?_) ?_); omega) | ((with_reducible refine o_rng1 ?_ ?_); omega) | ((with_reducible refine o_rng1I ?_ ?_ ?_); omega; omega) | ((fail_if_success with_reducible refine noRng1 ?_); (fail_if_success with_reducible refine noRng2 ?_); (fail_if_success with_reducible refine noRng3 ?_); (with_reducible apply opr); rfl) | ((with_reducible refine And.intro ?_ ?_); (first | rfl | decide | assumption | (focus (rw [sizeLine_eq]; simp; done)) | (focus (rw [rangeD_length, sizeLine_eq]; omega)))) | (with_reducible refine Exists.intro _ (And.intro rfl ?_)) | (with_reducible refine Exists.intro _ (Exists.intro _ (And.intro rfl ?_))) | fail))
    exact ⟨_, _, rfl, rfl, ⟨xs, rfl, hl.symm, hx⟩, hw⟩
theorem p_names {l : List D} (n : Nat) (hn : n ≤ 9) (h : WellOk l) {Q : D × List D → Prop} (q : ∀ (xs : List Str) l', xs.length = n → (∀ x ∈ xs, NameOk x) → WellOk l' → Q (.lst (xs.map D.str), l')) : Got (F_law_names l [.int n]) Q := by
  obtain ⟨d, l', e, ⟨xs, rfl, h1, h2⟩, w⟩ := p_names0 n hn h
  exact got e (q xs l' h1 h2 w)
end Lw
set_option Elab.async false
set_option linter.all false
set_option maxRecDepth 100000
set_option maxHeartbeats 4000000
namespace Lw
open PySem L2 Dv
theorem e_isname {x : Str} (hx : NameOk x) : F_is_name [.str x] = some (.bl true) := by
  have hx8 := hx.le
  have hx1 := hx.pos
  obtain ⟨c0, r0, e0, hc0⟩ := hx.ne
  have : ∃ d, F_is_name [.str x] = some d ∧ d = .bl true := by
    refine runD_ex ?_
    unfold m_is_name
    (repeat' (first | ((with_reducible apply i_v); rfl) | with_reducible refine i_2 ?_ | with_reducible refine i_1 ?_ | with_reducible refine i_call ?_ | with_reducible refine i_callF ?_ | with_reducible refine i_2F ?_ | with_reducible refine i_if ?_ | with_reducible refine i_sif ?_ | with_reducible refine i_B ?_ | with_reducible refine i_tru ?_ | with_reducible refine i_not ?_ | with_reducible refine i_and ?_ | with_reducible refine i_or ?_ | with_reducible refine i_notV ?_ | with_reducible refine i_andV ?_ | with_reducible refine i_orV ?_ | with_reducible refine i_ch ?_ | with_reducible refine i_tup ?_ | with_reducible refine i_lst ?_ | with_reducible refine i_sl ?_ | with_reducible refine i_fn ?_ | with_reducible refine i_mk ?_ | with_reducible refine i_me0 ?_ | with_reducible refine i_me ?_ | with_reducible refine i_bor ?_ | with_reducible refine i_borT ?_ | with_reducible refine i_join ?_ | with_reducible refine i_js0 ?_ | with_reducible refine i_js1 ?_ | with_reducible refine i_sseq ?_ | with_reducible refine i_sret ?_ | with_reducible refine i_sretF ?_ | with_reducible refine i_sexpr ?_ | with_reducible refine i_sset ?_ | with_reducible refine i_sown ?_ | with_reducible refine i_ssetL ?_ | with_reducible refine i_spar ?_ | with_reducible refine i_sasg ?_ | with_reducible refine i_sitem ?_ | with_reducible refine i_sapp ?_ | with_reducible refine i_sfs ?_ | with_reducible refine i_frz ?_ | with_reducible refine i_sfor ?_ | with_reducible refine i_lc ?_ | with_reducible refine i_snil ?_ | with_reducible refine i_nil ?_ | with_reducible refine i_cons ?_ | with_reducible refine i_pure ?_ | with_reducible refine i_lift ?_ | with_reducible refine i_bind ?_ | ((with_reducible apply i_fnW); rfl) | with_reducible refine nxN ?_ | with_reducible refine nxR ?_ | with_reducible refine nxF ?_ | with_reducible refine nxB ?_ | with_reducible refine nxC ?_ | with_reducible refine brN ?_ | with_reducible refine brT ?_ | with_reducible refine brF ?_ | ((with_reducible refine brYes (decide_eq_true ?_) ?_); omega) | ((with_reducible refine brNo (decide_eq_false ?_) ?_); omega) | ((with_reducible refine brYes ?_ ?_); (focus decide)) | ((with_reducible refine brNo ?_ ?_); (focus decide)) | ((with_reducible refine o_mod ?_ ?_); omega) | ((with_reducible refine o_fdiv ?_ ?_ ?_); omega; omega) | ((with_reducible refine o_mul ?_ ?_); omega) | ((with_reducible refine o_pow ?_ ?_); omega) | ((first | with_reducible refine o_addL ?_ ?_ | with_reducible refine o_addT ?_ ?_); (focus (rw [sizeLine_eq]; simp only [List.length_cons, List.length_nil, List.length_append, List.length_map]; omega))) | ((with_reducible refine o_strI (log_small ?_) ?_); omega) | ((with_reducible refine o_fmtI (log_small ?_) ?_); omega) | ((with_reducible refine o_rng1 ?_ ?_); omega) | ((with_reducible refine o_rng1I ?_ ?_ ?_); omega; omega) | ((fail_if_success with_reducible refine noRng1 ?_); (fail_if_success with_reducible refine noRng2 ?_); (fail_if_success with_reducible refine noRng3 ?_); (with_reducible apply opr); rfl) | ((with_reducible refine And.intro ?_ ?_); (first | rfl | decide | assumption | (focus (rw [sizeLine_eq]; simp; done)) | (focus (rw [rangeD_length, sizeLine_eq]; omega)))) | (with_reducible refine Exists.intro _ (And.intro rfl ?_)) | (with_reducible refine Exists.intro _ (Exists.intro _ (And.intro rfl ?_))) | fail))
    refine o_lenS hx.fit ?_
    (repeat' (first | ((with_reducible apply i_v); rfl) | with_reducible refine i_2 ?_ | with_reducible refine i_1 ?_ | with_reducible refine i_call ?_ | with_reducible refine i_callF ?_ | with_reducible refine i_2F ?_ | with_reducible refine i_if ?_ | with_reducible refine i_sif ?_ | with_reducible refine i_B ?_ | with_reducible refine i_tru ?_ | with_reducible refine i_not ?_ | with_reducible refine i_and ?_ | with_reducible refine i_or ?_ | with_reducible refine i_notV ?_ | with_reducible refine i_andV ?_ | with_reducible refine i_orV ?_ | with_reducible refine i_ch ?_ | with_reducible refine i_tup ?_ | with_reducible refine i_lst ?_ | with_reducible refine i_sl ?_ | with_reducible refine i_fn ?_ | with_reducible refine i_mk ?_ | with_reducible refine i_me0 ?_ | with_reducible refine i_me ?_ | with_reducible refine i_bor ?_ | with_reducible refine i_borT ?_ | with_reducible refine i_join ?_ | with_reducible refine i_js0 ?_ | with_reducible refine i_js1 ?_ | with_reducible refine i_sseq ?_ | with_reducible refine i_sret ?_ | with_reducible refine i_sretF ?_ | with_reducible refine i_sexpr ?_ | with_reducible refine i_sset ?_ | with_reducible refine i_sown ?_ | with_reducible refine i_ssetL ?_ | with_reducible refine i_spar ?_ | with_reducible refine i_sasg ?_ | with_reducible refine i_sitem ?_ | with_reducible refine i_sapp ?_ | with_reducible refine i_sfs ?_ | with_reducible refine i_frz ?_ | with_reducible refine i_sfor ?_ | with_reducible refine i_lc ?_ | with_reducible refine i_snil ?_ | with_reducible refine i_nil ?_ | with_reducible refine i_cons ?_ | with_reducible refine i_pure ?_ | with_reducible refine i_lift ?_ | with_reducible refine i_bind ?_ | ((with_reducible apply i_fnW); rfl) | with_reducible refine nxN ?_ | with_reducible refine nxR ?_ | with_reducible refine nxF ?_ | with_reducible refine nxB ?_ | with_reducible refine nxC ?_ | with_reducible refine brN ?_ | with_reducible refine brT ?_ | with_reducible refine brF ?_ | ((with_reducible refine brYes (decide_eq_true ?_) ?_); omega) | ((with_reducible refine brNo (decide_eq_false ?_) ?_); omega) | ((with_reducible refine brYes ?_ ?_); (focus decide)) | ((with_reducible refine brNo ?_ ?_); (focus decide)) | ((with_reducible refine o_mod ?_ ?_); omega) | ((with_reducible refine o_fdiv ?_ ?_ ?_); omega; omega) | ((with_reducible refine o_mul ?_ ?_); omega) | ((with_reducible refine o_pow ?_ ?_); omega) | ((first | with_reducible refine o_addL ?_ ?_ | with_reducible refine o_addT ?_ ?_); (focus (rw [sizeLine_eq]; simp only [List.length_cons, List.length_nil, List.length_append, List.length_map]; omega))) | ((with_reducible refine o_strI (log_small ?_) ?_); omega) | ((with_reducible refine o_fmtI (log_small ?_) ?_); omega) | ((with_reducible refine o_rng1 ?_ ?_); omega) | ((with_reducible refine o_rng1I ?_ ?_ ?_); omega; omega) | ((fail_if_success with_reducible refine noRng1 ?_); (fail_if_success with_reducible refine noRng2 ?_); (fail_if_success with_reducible refine noRng3 ?_); (with_reducible apply opr); rfl) | ((with_reducible refine And.intro ?_ ?_); (first | rfl | decide | assumption | (focus (rw [sizeLine_eq]; simp; done)) | (focus (rw [rangeD_length, sizeLine_eq]; omega)))) | (with_reducible refine Exists.intro _ (And.intro rfl ?_)) | (with_reducible refine Exists.intro _ (Exists.intro _ (And.intro rfl ?_))) | fail))
    refine o_ixH e0 hx.fit ?_
    (repeat' (first | ((with_reducible apply i_v); rfl) | with_reducible refine i_2 ?_ | with_reducible refine i_1 ?_ | with_reducible refine i_call ?_ | with_reducible refine i_callF ?_ | with_reducible refine i_2F ?_ | with_reducible refine i_if ?_ | with_reducible refine i_sif ?_ | with_reducible refine i_B ?_ | with_reducible refine i_tru ?_ | with_reducible refine i_not ?_ | with_reducible refine i_and ?_ | with_reducible refine i_or ?_ | with_reducible refine i_notV ?_ | with_reducible refine i_andV ?_ | with_reducible refine i_orV ?_ | with_reducible refine i_ch ?_ | with_reducible refine i_tup ?_ | with_reducible refine i_lst ?_ | with_reducible refine i_sl ?_ | with_reducible refine i_fn ?_ | with_reducible refine i_mk ?_ | with_reducible refine i_me0 ?_ | with_reducible refine i_me ?_ | with_reducible refine i_bor ?_ | with_reducible refine i_borT ?_ | with_reducible refine i_join ?_ | with_reducible refine i_js0 ?_ | with_reducible refine i_js1 ?_ | with_reducible refine i_sseq ?_ | with_reducible refine i_sret ?_ | with_reducible refine i_sretF ?_ | with_reducible refine i_sexpr ?_ | with_reducible refine i_sset ?_ | with_reducible refine i_sown ?_ | with_reducible refine i_ssetL ?_ | with_reducible refine i_spar ?_ | with_reducible refine i_sasg ?_ | with_reducible refine i_sitem ?_ | with_reducible refine i_sapp ?_ | with_reducible refine i_sfs ?_ | with_reducible refine i_frz ?_ | with_reducible refine i_sfor ?_ | with_reducible refine i_lc ?_ | with_reducible refine i_snil ?_ | with_reducible refine i_nil ?_ | with_reducible refine i_cons ?_ | with_reducible refine i_pure ?_ | with_reducible refine i_lift ?_ | with_reducible refine i_bind ?_ | ((with_reducible apply i_fnW); rfl) | with_reducible refine nxN ?_ | with_reducible refine nxR ?_ | with_reducible refine nxF ?_ | with_reducible refine nxB ?_ | with_reducible refine nxC ?_ | with_reducible refine brN ?_ | with_reducible refine brT ?_ | with_reducible refine brF ?_ | ((with_reducible refine brYes (decide_eq_true ?_) ?_); omega) | ((with_reducible refine brNo (decide_eq_false ?_) ?_); omega) | ((with_reducible refine brYes ?_ ?_); (focus decide)) | ((with_reducible refine brNo ?_ ?_); (focus decide)) | ((with_reducible refine o_mod ?_ ?_); omega) | ((with_reducible refine o_fdiv ?_ ?_ ?_); omega; omega) | ((with_reducible refine o_mul ?_ ?_); omega) | ((with_reducible refine o_pow ?_ ?_); omega) | ((first | with_reducible refine o_addL ?_ ?_ | with_reducible refine o_addT ?_ ?_); (focus (rw [sizeLine_eq]; simp only [List.length_cons, List.length_nil, List.length_append, List.length_map]; omega))) | ((with_reducible refine o_strI (log_small ?_) ?_); omega) | ((with_reducible refine o_fmtI (log_small ?_) ?_); omega) | ((with_reducible refine o_rng1 ?_ ?_); omega) | ((with_reducible refine o_rng1I ?_ ?_ ?_); omega; omega) | ((fail_if_success with_reducible refine noRng1 ?_); (fail_if_success with_reducible refine noRng2 ?_); (fail_if_success with_reducible refine noRng3 ?_); (with_reducible apply opr); rfl) | ((with_reducible refine And.intro ?_ ?_); (first | rfl | decide | assumption | (focus (rw [sizeLine_eq]; simp; done)) | (focus (rw [rangeD_length, sizeLine_eq]; omega)))) | (with_reducible refine Exists.intro _ (And.intro rfl ?_)) | (with_reducible refine Exists.intro _ (Exists.intro _ (And.intro rfl ?_))) | fail))
    refine brNo (by rw [ls_letters, decide_eq_true hc0]; rfl) ?_
    (repeat' (first | ((with_reducible apply i_v); rfl) | with_reducible refine i_2 ?_ | with_reducible refine i_1 ?_ | with_reducible refine i_call ?_ | with_reducible refine i_callF ?_ | with_reducible refine i_2F ?_ | with_reducible refine i_if ?_ | with_reducible refine i_sif ?_ | with_reducible refine i_B ?_ | with_reducible refine i_tru ?_ | with_reducible refine i_not ?_ | with_reducible refine i_and ?_ | with_reducible refine i_or ?_ | with_reducible refine i_notV ?_ | with_reducible refine i_andV ?_ | with_reducible refine i_orV ?_ | with_reducible refine i_ch ?_ | with_reducible refine i_tup ?_ | with_reducible refine i_lst ?_ | with_reducible refine i_sl ?_ | with_reducible refine i_fn ?_ | with_reducible refine i_mk ?_ | with_reducible refine i_me0 ?_ | with_reducible refine i_me ?_ | with_reducible refine i_bor ?_ | with_reducible refine i_borT ?_ | with_reducible refine i_join ?_ | with_reducible refine i_js0 ?_ | with_reducible refine i_js1 ?_ | with_reducible refine i_sseq ?_ | with_reducible refine i_sret ?_ | with_reducible refine i_sretF ?_ | with_reducible refine i_sexpr ?_ | with_reducible refine i_sset ?_ | with_reducible refine i_sown ?_ | with_reducible refine i_ssetL ?_ | with_reducible refine i_spar ?_ | with_reducible refine i_sasg ?_ | with_reducible refine i_sitem ?_ | with_reducible refine i_sapp ?_ | with_reducible refine i_sfs ?_ | with_reducible refine i_frz ?_ | with_reducible refine i_sfor ?_ | with_reducible refine i_lc ?_ | with_reducible refine i_snil ?_ | with_reducible refine i_nil ?_ | with_reducible refine i_cons ?_ | with_reducible refine i_pure ?_ | with_reducible refine i_lift ?_ | with_reducible refine i_bind ?_ | ((with_reducible apply i_fnW); rfl) | with_reducible refine nxN ?_ | with_reducible refine nxR ?_ | with_reducible refine nxF ?_ | with_reducible refine nxB ?_ | with_reducible refine nxC ?_ | with_reducible refine brN ?_ | with_reducible refine brT ?_ | with_reducible refine brF ?_ | ((with_reducible refine brYes (decide_eq_true ?_) ?_); omega) | ((with_reducible refine brNo (decide_eq_false ?_) ?_); omega) | ((with_reducible refine brYes ?_ ?_); (focus decide)) | ((with_reducible refine brNo ?_ ?_); (focus decide)) | ((with_reducible refine o_mod ?_ ?_); omega) | ((with_reducible refine o_fdiv ?_ ?_ ?_); omega; omega) | ((with_reducible refine o_mul ?_ ?_); omega) | ((with_reducible refine o_pow ?_ ?_); omega) | ((first | with_reducible refine o_addL ?_ ?_ | with_reducible refine o_addT ?_ ?_); (focus (rw [sizeLine_eq]; simp only [List.length_cons, List.length_nil, List.length_append, List.length_map]; omega))) | ((with_reducible refine o_strI (log_small ?_) ?_); omega) | ((with_reducible refine o_fmtI (log_small ?_) ?_); omega) | ((with_reducible refine o_rng1 ?_ ?_); omega) | ((with_reducible refine o_rng1I ?_ ?_ ?_); omega; omega) | ((fail_if_success with_reducible refine noRng1 ?_); (fail_if_success with_reducible refine noRng2 ?_); (fail_if_success with_reducible refine noRng3 ?_); (with_reducible apply opr); rfl) | ((with_reducible refine And.intro ?_ ?_); (first | rfl | decide | assumption | (focus (rw [sizeLine_eq]; simp; done)) | (focus (rw [rangeD_length, sizeLine_eq]; omega)))) | (with_reducible refine Exists.intro _ (And.intro rfl ?_)) | (with_reducible refine Exists.intro _ (Exists.intro _ (And.intro rfl ?_))) | fail))
    refine ⟨by simp only [signsD, List.length_map, ← len_toList]; exact hx.fit, ?_⟩
    refine i_lcL (fun items ys τ => (∃ L : List Nat, (∀ c ∈ L, c ∈ letters ++ digits) ∧ items = L.map fun c => D.str ⟨#[c]⟩) ∧ (∃ n, ys = List.replicate n (.bl true)) ∧ τ = [some (.val (.str x)), none]) ?_ ?_ ?_
    · exact ⟨⟨x.cps.toList, hx.all, rfl⟩, ⟨0, rfl⟩, rfl⟩
    · rintro d ds ys τ ⟨⟨L, hL, hi⟩, ⟨n, rfl⟩, rfl⟩
      cases L with
      | nil => cases hi
      | cons c L =>
        cases hi
        (repeat' (first | ((with_reducible apply i_v); rfl) | with_reducible refine i_2 ?_ | with_reducible refine i_1 ?_ | with_reducible refine i_call ?_ | with_reducible refine i_callF ?_ | with_reducible refine i_2F ?_ | with_reducible refine i_if ?_ | with_reducible refine i_sif ?_ | with_reducible refine i_B ?_ | with_reducible refine i_tru ?_ | with_reducible refine i_not ?_ | with_reducible refine i_and ?_ | with_reducible refine i_or ?_ | with_reducible refine i_notV ?_ | with_reducible refine i_andV ?_ | with_reducible refine i_orV ?_ | with_reducible refine i_ch ?_ | with_reducible refine i_tup ?_ | with_reducible refine i_lst ?_ | with_reducible refine i_sl ?_ | with_reducible refine i_fn ?_ | with_reducible refine i_mk ?_ | with_reducible refine i_me0 ?_ | with_reducible refine i_me ?_ | with_reducible refine i_bor ?_ | with_reducible refine i_borT ?_ | with_reducible refine i_join ?_ | with_reducible refine i_js0 ?_ | with_reducible refine i_js1 ?_ | with_reducible refine i_sseq ?_ | with_reducible refine i_sret ?_ | with_reducible refine i_sretF ?_ | with_reducible refine i_sexpr ?_ | with_reducible refine i_sset ?_ | with_reducible refine i_sown ?_ | with_reducible refine i_ssetL ?_ | with_reducible refine i_spar ?_ | with_reducible refine i_sasg ?_ | with_reducible refine i_sitem ?_ | with_reducible refine i_sapp ?_ | with_reducible refine i_sfs ?_ | with_reducible refine i_frz ?_ | with_reducible refine i_sfor ?_ | with_reducible refine i_lc ?_ | with_reducible refine i_snil ?_ | with_reducible refine i_nil ?_ | with_reducible refine i_cons ?_ | with_reducible refine i_pure ?_ | with_reducible refine i_lift ?_ | with_reducible refine i_bind ?_ | ((with_reducible apply i_fnW); rfl) | with_reducible refine nxN ?_ | with_reducible refine nxR ?_ | with_reducible refine nxF ?_ | with_reducible refine nxB ?_ | with_reducible refine nxC ?_ | with_reducible refine brN ?_ | with_reducible refine brT ?_ | with_reducible refine brF ?_ | ((with_reducible refine brYes (decide_eq_true ?_) ?_); omega) | ((with_reducible refine brNo (decide_eq_false ?_) ?_); omega) | ((with_reducible refine brYes ?_ ?_); (focus decide)) | ((with_reducible refine brNo ?_ ?_); (focus decide)) | ((with_reducible refine o_mod ?_ ?_); omega) | ((with_reducible refine o_fdiv ?_ ?_ ?_); omega; omega) | ((with_reducible refine o_mul ?_ ?_); omega) | ((with_reducible refine o_pow ?_ ?_); omega) | ((first | with_reducible refine o_addL ?_ ?_ | with_reducible refine o_addT ?_ ?_); (focus (rw [sizeLine_eq]; simp only [List.length_cons, List.length_nil, List.length_append, List.length_map]; omega))) | ((with_reducible refine o_strI (log_small ?_) ?_); omega) | ((with_reducible refine o_fmtI (log_small ?_) ?_); omega) | ((with_reducible refine o_rng1 ?_ ?_); omega) | ((with_reducible refine o_rng1I ?_ ?_ ?_); omega; omega) | ((fail_if_success with_reducible refine noRng1 ?_); (fail_if_success with_reducible refine noRng2 ?_); (fail_if_success with_reducible refine noRng3 ?_); (with_reducible apply opr); rfl) | ((with_reducible refine And.intro ?_ ?_); (first | rfl | decide | assumption | (focus (rw [sizeLine_eq]; simp; done)) | (focus (rw [rangeD_length, sizeLine_eq]; omega)))) | (with_reducible refine Exists.intro _ (And.intro rfl ?_)) | (with_reducible refine Exists.intro _ (Exists.intro _ (And.intro rfl ?_))) | fail))
        rw [ls_signs, decide_eq_true (hL c (by simp))]
        exact ⟨⟨L, fun c hc => hL c (by simp [hc]), rfl⟩, ⟨n + 1, by rw [List.replicate_succ']; rfl⟩, rfl⟩
    · rintro ys τ ⟨_, ⟨n, rfl⟩, rfl⟩
      (repeat' (first | ((with_reducible apply i_v); rfl) | with_reducible refine i_2 ?_ | with_reducible refine i_1 ?_ | with_reducible refine i_call ?_ | with_reducible refine i_callF ?_ | with_reducible refine i_2F ?_ | with_reducible refine i_if ?_ | with_reducible refine i_sif ?_ | with_reducible refine i_B ?_ | with_reducible refine i_tru ?_ | with_reducible refine i_not ?_ | with_reducible refine i_and ?_ | with_reducible refine i_or ?_ | with_reducible refine i_notV ?_ | with_reducible refine i_andV ?_ | with_reducible refine i_orV ?_ | with_reducible refine i_ch ?_ | with_reducible refine i_tup ?_ | with_reducible refine i_lst ?_ | with_reducible refine i_sl ?_ | with_reducible refine i_fn ?_ | with_reducible refine i_mk ?_ | with_reducible refine i_me0 ?_ | with_reducible refine i_me ?_ | with_reducible refine i_bor ?_ | with_reducible refine i_borT ?_ | with_reducible refine i_join ?_ | with_reducible refine i_js0 ?_ | with_reducible refine i_js1 ?_ | with_reducible refine i_sseq ?_ | with_reducible refine i_sret ?_ | with_reducible refine i_sretF ?_ | with_reducible refine i_sexpr ?_ | with_reducible refine i_sset ?_ | with_reducible refine i_sown ?_ | with_reducible refine i_ssetL ?_ | with_reducible refine i_spar ?_ | with_reducible refine i_sasg ?_ | with_reducible refine i_sitem ?_ | with_reducible refine i_sapp ?_ | with_reducible refine i_sfs ?_ | with_reducible refine i_frz ?_ | with_reducible refine i_sfor ?_ | with_reducible refine i_lc ?_ | with_reducible refine i_snil ?_ | with_reducible refine i_nil ?_ | with_reducible refine i_cons ?_ | with_reducible refine i_pure ?_ | with_reducible refine i_lift ?_ | with_reducible refine i_bind ?_ | ((with_reducible apply i_fnW); rfl) | with_reducible refine nxN ?_ | with_reducible refine nxR ?_ | with_reducible refine nxF ?_ | with_reducible refine nxB ?_ | with_reducible refine nxC ?_ | with_reducible refine brN ?_ | with_reducible refine brT ?_ | with_reducible refine brF ?_ | ((with_reducible refine brYes (decide_eq_true ?_) ?_); omega) | ((with_reducible refine brNo (decide_eq_false ?_) ?_); omega) | ((with_reducible refine brYes ?_ ?_); (focus decide)) | ((with_reducible refine brNo ?_ ?_); (focus decide)) | ((with_reducible refine o_mod ?_ ?_); omega) | ((with_reducible refine o_fdiv ?_ ?_ ?_); omega; omega) | ((with_reducible refine o_mul ?_ ?_); omega) | ((with_reducible refine o_pow ?_ ?_); omega) | ((first | with_reducible refine o_addL ?_ ?_ | with_reducible refine o_addT ?_ ?_); (focus (rw [sizeLine_eq]; simp only [List.length_cons, List.length_nil, List.length_append, List.length_map]; omega))) | ((with_reducible refine o_strI (log_small ?_) ?_); omega) | ((with_reducible refine o_fmtI (log_small ?_) ?_); omega) | ((with_reducible refine o_rng1 ?_ ?_); omega) | ((with_reducible refine o_rng1I ?_ ?_ ?_); omega; omega) | ((fail_if_success with_reducible refine noRng1 ?_); (fail_if_success with_reducible refine noRng2 ?_); (fail_if_success with_reducible refine noRng3 ?_); (with_reducible apply opr); rfl) | ((with_reducible refine And.intro ?_ ?_); (first | rfl | decide | assumption | (focus (rw [sizeLine_eq]; simp; done)) | (focus (rw [rangeD_length, sizeLine_eq]; omega)))) | (with_reducible refine Exists.intro _ (And.intro rfl ?_)) | (with_reducible refine Exists.intro _ (Exists.intro _ (And.intro rfl ?_))) | fail))
      refine o_allT ?_
      exact ⟨_, rfl, rfl⟩
  obtain ⟨d, e, rfl⟩ := this
  exact e
theorem e_check {x : Str} (hx : NameOk x) : F_check_name [.str x] = some .non := by
  refine runD_eq ?_
  unfold m_check_name
  (repeat' (first | ((with_reducible apply i_v); rfl) | with_reducible refine i_2 ?_ | with_reducible refine i_1 ?_ | with_reducible refine i_call ?_ | with_reducible refine i_callF ?_ | with_reducible refine i_2F ?_ | with_reducible refine i_if ?_ | with_reducible refine i_sif ?_ | with_reducible refine i_B ?_ | with_reducible refine i_tru ?_ | with_reducible refine i_not ?_ | with_reducible refine i_and ?_ | with_reducible refine i_or ?_ | with_reducible refine i_notV ?_ | with_reducible refine i_andV ?_ | with_reducible refine i_orV ?_ | with_reducible refine i_ch ?_ | with_reducible refine i_tup ?_ | with_reducible refine i_lst ?_ | with_reducible refine i_sl ?_ | with_reducible refine i_fn ?_ | with_reducible refine i_mk ?_ | with_reducible refine i_me0 ?_ | with_reducible refine i_me ?_ | with_reducible refine i_bor ?_ | with_reducible refine i_borT ?_ | with_reducible refine i_join ?_ | with_reducible refine i_js0 ?_ | with_reducible refine i_js1 ?_ | with_reducible refine i_sseq ?_ | with_reducible refine i_sret ?_ | with_reducible refine i_sretF ?_ | with_reducible refine i_sexpr ?_ | with_reducible refine i_sset ?_ | with_reducible refine i_sown ?_ | with_reducible refine i_ssetL ?_ | with_reducible refine i_spar ?_ | with_reducible refine i_sasg ?_ | with_reducible refine i_sitem ?_ | with_reducible refine i_sapp ?_ | with_reducible refine i_sfs ?_ | with_reducible refine i_frz ?_ | with_reducible refine i_sfor ?_ | with_reducible refine i_lc ?_ | with_reducible refine i_snil ?_ | with_reducible refine i_nil ?_ | with_reducible refine i_cons ?_ | with_reducible refine i_pure ?_ | with_reducible refine i_lift ?_ | with_reducible refine i_bind ?_ | ((with_reducible apply i_fnW); rfl) | with_reducible refine nxN ?_ | with_reducible refine nxR ?_ | with_reducible refine nxF ?_ | with_reducible refine nxB ?_ | with_reducible refine nxC ?_ | with_reducible refine brN ?_ | with_reducible refine brT ?_ | with_reducible refine brF ?_ | ((with_reducible refine brYes (decide_eq_true ?_) ?_); omega) | ((with_reducible refine brNo (decide_eq_false ?_) ?_); omega) | ((with_reducible refine brYes ?_ ?_); (focus decide)) | ((with_reducible refine brNo ?_ ?_); (focus decide)) | ((with_reducible refine o_mod ?_ ?_); omega) | ((with_reducible refine o_fdiv ?_ ?_ ?_); omega; omega) | ((with_reducible refine o_mul ?_ ?_); omega) | ((with_reducible refine o_pow ?_ ?_); omega) | ((first | with_reducible refine o_addL ?_ ?_ | with_reducible refine o_addT ?_ ?_); (focus (rw [sizeLine_eq]; simp only [List.length_cons, List.length_nil, List.length_append, List.length_map]; omega))) | ((with_reducible refine o_strI (log_small ?_) ?_); omega) | ((with_reducible refine o_fmtI (log_small ?_) ?_); omega) | ((with_reducible refine o_rng1 ?_ ?_); omega) | ((with_reducible refine o_rng1I ?_ ?_ ?_); omega; omega) | ((fail_if_success with_reducible refine noRng1 ?_); (fail_if_success with_reducible refine noRng2 ?_); (fail_if_success with_reducible refine noRng3 ?_); (with_reducible apply opr); rfl) | ((with_reducible refine And.intro ?_ ?_); (first | rfl | decide | assumption | (focus (rw [sizeLine_eq]; simp; done)) | (focus (rw [rangeD_length, sizeLine_eq]; omega)))) | (with_reducible refine Exists.intro _ (And.intro rfl ?_)) | (with_reducible refine Exists.intro _ (Exists.intro _ (And.intro rfl ?_))) | fail))
  refine got (e_isname hx) ?_
  (repeat' (first | ((with_reducible apply i_v); rfl) | with_reducible refine i_2 ?_ | with_reducible refine i_1 ?_ | with_reducible refine i_call ?_ | with_reducible refine i_callF ?_ | with_reducible refine i_2F ?_ | with_reducible refine i_if ?_ | with_reducible refine i_sif ?_ | with_reducible refine i_B ?_ | with_reducible refine i_tru ?_ | with_reducible refine i_not ?_ | with_reducible refine i_and ?_ | with_reducible refine i_or ?_ | with_reducible refine i_notV ?_ | with_reducible refine i_andV ?_ | with_reducible refine i_orV ?_ | with_reducible refine i_ch ?_ | with_reducible refine i_tup ?_ | with_reducible refine i_lst ?_ | with_reducible refine i_sl ?_ | with_reducible refine i_fn ?_ | with_reducible refine i_mk ?_ | with_reducible refine i_me0 ?_ | with_reducible refine i_me ?_ | with_reducible refine i_bor ?_ | with_reducible refine i_borT ?_ | with_reducible refine i_join ?_ | with_reducible refine i_js0 ?_ | with_reducible refine i_js1 ?_ | with_reducible refine i_sseq ?_ | with_reducible refine i_sret ?_ | with_reducible refine i_sretF ?_ | with_reducible refine i_sexpr ?_ | with_reducible refine i_sset ?_ | with_reducible refine i_sown ?_ | with_reducible refine i_ssetL ?_ | with_reducible refine i_spar ?_ | with_reducible refine i_sasg ?_ | with_reducible refine i_sitem ?_ | with_reducible refine i_sapp ?_ | with_reducible refine i_sfs ?_ | with_reducible refine i_frz ?_ | with_reducible refine i_sfor ?_ | with_reducible refine i_lc ?_ | with_reducible refine i_snil ?_ | with_reducible refine i_nil ?_ | with_reducible refine i_cons ?_ | with_reducible refine i_pure ?_ | with_reducible refine i_lift ?_ | with_reducible refine i_bind ?_ | ((with_reducible apply i_fnW); rfl) | with_reducible refine nxN ?_ | with_reducible refine nxR ?_ | with_reducible refine nxF ?_ | with_reducible refine nxB ?_ | with_reducible refine nxC ?_ | with_reducible refine brN ?_ | with_reducible refine brT ?_ | with_reducible refine brF ?_ | ((with_reducible refine brYes (decide_eq_true ?_) ?_); omega) | ((with_reducible refine brNo (decide_eq_false ?_) ?_); omega) | ((with_reducible refine brYes ?_ ?_); (focus decide)) | ((with_reducible refine brNo ?_ ?_); (focus decide)) | ((with_reducible refine o_mod ?_ ?_); omega) | ((with_reducible refine o_fdiv ?_ ?_ ?_); omega; omega) | ((with_reducible refine o_mul ?_ ?_); omega) | ((with_reducible refine o_pow ?_ ?_); omega) | ((first | with_reducible refine o_addL ?_ ?_ | with_reducible refine o_addT ?_ ?_); (focus (rw [sizeLine_eq]; simp only [List.length_cons, List.length_nil, List.length_append, List.length_map]; omega))) | ((with_reducible refine o_strI (log_small ?_) ?_); omega) | ((with_reducible refine o_fmtI (log_small ?_) ?_); omega) | ((with_reducible refine o_rng1 ?_ ?_); omega) | ((with_reducible refine o_rng1I ?_ ?_ ?_); omega; omega) | ((fail_if_success with_reducible refine noRng1 ?_); (fail_if_success with_reducible refine noRng2 ?_); (fail_if_success with_reducible refine noRng3 ?_); (with_reducible apply opr); rfl) | ((with_reducible refine And.intro ?_ ?_); (first | rfl | decide | assumption | (focus (rw [sizeLine_eq]; simp; done)) | (focus (rw [rangeD_length, sizeLine_eq]; omega)))) | (with_reducible refine Exists.intro _ (And.intro rfl ?_)) | (with_reducible refine Exists.intro _ (Exists.intro _ (And.intro rfl ?_))) | fail))
  rfl
theorem e_flag (b : Bool) : F_check_flag [.bl b] = some .non := by cases b <;> rfl
theorem e_isint (i : Int) : F_is_integer [.int i] = some (.bl true) := rfl
def HandsOk (d : D) : Prop := d = .non ∨ ∃ i : Int, d = .int i ∧ 1 ≤ i ∧ i ≤ 4
theorem e_station {x : Str} {h : D} (hx : NameOk x) (hh : HandsOk h) (t : Bool) : F_Stationx_initx [.str x, h, .bl t] = some [.tup [.str x, h, .bl t]] := by
  refine runI_eq ?_
  unfold m_Stationx_initx
  rcases hh with rfl | ⟨i, rfl, h1, h2⟩
  · (repeat' (first | ((with_reducible apply i_v); rfl) | ((with_reducible refine gotE (e_check hx) ?_ ?_); rfl) | ((with_reducible refine gotE (e_flag t) ?_ ?_); rfl) | with_reducible refine i_2 ?_ | with_reducible refine i_1 ?_ | with_reducible refine i_call ?_ | with_reducible refine i_callF ?_ | with_reducible refine i_2F ?_ | with_reducible refine i_if ?_ | with_reducible refine i_sif ?_ | with_reducible refine i_B ?_ | with_reducible refine i_tru ?_ | with_reducible refine i_not ?_ | with_reducible refine i_and ?_ | with_reducible refine i_or ?_ | with_reducible refine i_notV ?_ | with_reducible refine i_andV ?_ | with_reducible refine i_orV ?_ | with_reducible refine i_ch ?_ | with_reducible refine i_tup ?_ | with_reducible refine i_lst ?_ | with_reducible refine i_sl ?_ | with_reducible refine i_fn ?_ | with_reducible refine i_mk ?_ | with_reducible refine i_me0 ?_ | with_reducible refine i_me ?_ | with_reducible refine i_bor ?_ | with_reducible refine i_borT ?_ | with_reducible refine i_join ?_ | with_reducible refine i_js0 ?_ | with_reducible refine i_js1 ?_ | with_reducible refine i_sseq ?_ | with_reducible refine i_sret ?_ | with_reducible refine i_sretF ?_ | with_reducible refine i_sexpr ?_ | with_reducible refine i_sset ?_ | with_reducible refine i_sown ?_ | with_reducible refine i_ssetL ?_ | with_reducible refine i_spar ?_ | with_reducible refine i_sasg ?_ | with_reducible refine i_sitem ?_ | with_reducible refine i_sapp ?_ | with_reducible refine i_sfs ?_ | with_reducible refine i_frz ?_ | with_reducible refine i_sfor ?_ | with_reducible refine i_lc ?_ | with_reducible refine i_snil ?_ | with_reducible refine i_nil ?_ | with_reducible refine i_cons ?_ | with_reducible refine i_pure ?_ | with_reducible refine i_lift ?_ | with_reducible refine i_bind ?_ | ((with_reducible apply i_fnW); rfl) | with_reducible refine nxN ?_ | with_reducible refine nxR ?_ | with_reducible refine nxF ?_ | with_reducible refine nxB ?_ | with_reducible refine nxC ?_ | with_reducible refine brN ?_ | with_reducible refine brT ?_ | with_reducible refine brF ?_ | ((with_reducible refine brYes (decide_eq_true ?_) ?_); omega) | ((with_reducible refine brNo (decide_eq_false ?_) ?_); omega) | ((with_reducible refine brYes ?_ ?_); (focus decide)) | ((with_reducible refine brNo ?_ ?_); (focus decide)) | ((with_reducible refine o_mod ?_ ?_); omega) | ((with_reducible refine o_fdiv ?_ ?_ ?_); omega; omega) | ((with_reducible refine o_mul ?_ ?_); omega) | ((with_reducible refine o_pow ?_ ?_); omega) | ((first | with_reducible refine o_addL ?_ ?_ | with_reducible refine o_addT ?_ ?_); (focus (rw [sizeLine_eq]; simp only [List.length_cons, List.length_nil, List.length_append, List.length_map]; omega))) | ((with_reducible refine o_strI (log_small ?_) ?_); omega) | ((with_reducible refine o_fmtI (log_small ?_) ?_); omega) | ((with_reducible refine o_rng1 ?_ ?_); omega) | ((with_reducible refine o_rng1I ?_ ?_ ?_); omega; omega) | ((fail_if_success with_reducible refine noRng1 ?_); (fail_if_success with_reducible refine noRng2 ?_); (fail_if_success with_reducible refine noRng3 ?_); (with_reducible apply opr); rfl) | ((with_reducible refine And.intro ?_ ?_); (first | rfl | decide | assumption | (focus (rw [sizeLine_eq]; simp; done)) | (focus (rw [rangeD_length, sizeLine_eq]; omega)))) | (with_reducible refine Exists.intro _ (And.intro rfl ?_)) | (with_reducible refine Exists.intro _ (Exists.intro _ (And.intro rfl ?_))) | fail))
    rfl
  · (repeat' (first | ((with_reducible apply i_v); rfl) | ((with_reducible refine gotE (e_check hx) ?_ ?_); rfl) | ((with_reducible refine gotE (e_flag t) ?_ ?_); rfl) | ((with_reducible refine gotE (e_isint i) ?_ ?_); rfl) | with_reducible refine i_2 ?_ | with_reducible refine i_1 ?_ | with_reducible refine i_call ?_ | with_reducible refine i_callF ?_ | with_reducible refine i_2F ?_ | with_reducible refine i_if ?_ | with_reducible refine i_sif ?_ | with_reducible refine i_B ?_ | with_reducible refine i_tru ?_ | with_reducible refine i_not ?_ | with_reducible refine i_and ?_ | with_reducible refine i_or ?_ | with_reducible refine i_notV ?_ | with_reducible refine i_andV ?_ | with_reducible refine i_orV ?_ | with_reducible refine i_ch ?_ | with_reducible refine i_tup ?_ | with_reducible refine i_lst ?_ | with_reducible refine i_sl ?_ | with_reducible refine i_fn ?_ | with_reducible refine i_mk ?_ | with_reducible refine i_me0 ?_ | with_reducible refine i_me ?_ | with_reducible refine i_bor ?_ | with_reducible refine i_borT ?_ | with_reducible refine i_join ?_ | with_reducible refine i_js0 ?_ | with_reducible refine i_js1 ?_ | with_reducible refine i_sseq ?_ | with_reducible refine i_sret ?_ | with_reducible refine i_sretF ?_ | with_reducible refine i_sexpr ?_ | with_reducible refine i_sset ?_ | with_reducible refine i_sown ?_ | with_reducible refine i_ssetL ?_ | with_reducible refine i_spar ?_ | with_reducible refine i_sasg ?_ | with_reducible refine i_sitem ?_ | with_reducible refine i_sapp ?_ | with_reducible refine i_sfs ?_ | with_reducible refine i_frz ?_ | with_reducible refine i_sfor ?_ | with_reducible refine i_lc ?_ | with_reducible refine i_snil ?_ | with_reducible refine i_nil ?_ | with_reducible refine i_cons ?_ | with_reducible refine i_pure ?_ | with_reducible refine i_lift ?_ | with_reducible refine i_bind ?_ | ((with_reducible apply i_fnW); rfl) | with_reducible refine nxN ?_ | with_reducible refine nxR ?_ | with_reducible refine nxF ?_ | with_reducible refine nxB ?_ | with_reducible refine nxC ?_ | with_reducible refine brN ?_ | with_reducible refine brT ?_ | with_reducible refine brF ?_ | ((with_reducible refine brYes (decide_eq_true ?_) ?_); omega) | ((with_reducible refine brNo (decide_eq_false ?_) ?_); omega) | ((with_reducible refine brYes ?_ ?_); (focus decide)) | ((with_reducible refine brNo ?_ ?_); (focus decide)) | ((with_reducible refine o_mod ?_ ?_); omega) | ((with_reducible refine o_fdiv ?_ ?_ ?_); omega; omega) | ((with_reducible refine o_mul ?_ ?_); omega) | ((with_reducible refine o_pow ?_ ?_); omega) | ((first | with_reducible refine o_addL ?_ ?_ | with_reducible refine o_addT ?_ ?_); (focus (rw [sizeLine_eq]; simp only [List.length_cons, List.length_nil, List.length_append, List.length_map]; omega))) | ((with_reducible refine o_strI (log_small ?_) ?_); omega) | ((with_reducible refine o_fmtI (log_small ?_) ?_); omega) | ((with_reducible refine o_rng1 ?_ ?_); omega) | ((with_reducible refine o_rng1I ?_ ?_ ?_); omega; omega) | ((fail_if_success with_reducible refine noRng1 ?_); (fail_if_success with_reducible refine noRng2 ?_); (fail_if_success with_reducible refine noRng3 ?_); (with_reducible apply opr); rfl) | ((with_reducible refine And.intro ?_ ?_); (first | rfl | decide | assumption | (focus (rw [sizeLine_eq]; simp; done)) | (focus (rw [rangeD_length, sizeLine_eq]; omega)))) | (with_reducible refine Exists.intro _ (And.intro rfl ?_)) | (with_reducible refine Exists.intro _ (Exists.intro _ (And.intro rfl ?_))) | fail))
    rfl
theorem e_link {x y : Str} {i : Int} (hx : NameOk x) (hy : NameOk y) (h1 : 0 ≤ i) (h2 : i ≤ 5) (t : Bool) : F_Linkx_initx [.str x, .str y, .int i, .bl t] = some [.tup [.str x, .str y, .int i, .bl t]] := by
  refine runI_eq ?_
  unfold m_Linkx_initx
  (repeat' (first | ((with_reducible apply i_v); rfl) | ((with_reducible refine gotE (e_check hx) ?_ ?_); rfl) | ((with_reducible refine gotE (e_check hy) ?_ ?_); rfl) | ((with_reducible refine gotE (e_flag t) ?_ ?_); rfl) | ((with_reducible refine gotE (e_isint i) ?_ ?_); rfl) | with_reducible refine i_2 ?_ | with_reducible refine i_1 ?_ | with_reducible refine i_call ?_ | with_reducible refine i_callF ?_ | with_reducible refine i_2F ?_ | with_reducible refine i_if ?_ | with_reducible refine i_sif ?_ | with_reducible refine i_B ?_ | with_reducible refine i_tru ?_ | with_reducible refine i_not ?_ | with_reducible refine i_and ?_ | with_reducible refine i_or ?_ | with_reducible refine i_notV ?_ | with_reducible refine i_andV ?_ | with_reducible refine i_orV ?_ | with_reducible refine i_ch ?_ | with_reducible refine i_tup ?_ | with_reducible refine i_lst ?_ | with_reducible refine i_sl ?_ | with_reducible refine i_fn ?_ | with_reducible refine i_mk ?_ | with_reducible refine i_me0 ?_ | with_reducible refine i_me ?_ | with_reducible refine i_bor ?_ | with_reducible refine i_borT ?_ | with_reducible refine i_join ?_ | with_reducible refine i_js0 ?_ | with_reducible refine i_js1 ?_ | with_reducible refine i_sseq ?_ | with_reducible refine i_sret ?_ | with_reducible refine i_sretF ?_ | with_reducible refine i_sexpr ?_ | with_reducible refine i_sset ?_ | with_reducible refine i_sown ?_ | with_reducible refine i_ssetL ?_ | with_reducible refine i_spar ?_ | with_reducible refine i_sasg ?_ | with_reducible refine i_sitem ?_ | with_reducible refine i_sapp ?_ | with_reducible refine i_sfs ?_ | with_reducible refine i_frz ?_ | with_reducible refine i_sfor ?_ | with_reducible refine i_lc ?_ | with_reducible refine i_snil ?_ | with_reducible refine i_nil ?_ | with_reducible refine i_cons ?_ | with_reducible refine i_pure ?_ | with_reducible refine i_lift ?_ | with_reducible refine i_bind ?_ | ((with_reducible apply i_fnW); rfl) | with_reducible refine nxN ?_ | with_reducible refine nxR ?_ | with_reducible refine nxF ?_ | with_reducible refine nxB ?_ | with_reducible refine nxC ?_ | with_reducible refine brN ?_ | with_reducible refine brT ?_ | with_reducible refine brF ?_ | ((with_reducible refine brYes (decide_eq_true ?_) ?_); omega) | ((with_reducible refine brNo (decide_eq_false ?_) ?_); omega) | ((with_reducible refine brYes ?_ ?_); (focus decide)) | ((with_reducible refine brNo ?_ ?_); (focus decide)) | ((with_reducible refine o_mod ?_ ?_); omega) | ((with_reducible refine o_fdiv ?_ ?_ ?_); omega; omega) | ((with_reducible refine o_mul ?_ ?_); omega) | ((with_reducible refine o_pow ?_ ?_); omega) | ((first | with_reducible refine o_addL ?_ ?_ | with_reducible refine o_addT ?_ ?_); (focus (rw [sizeLine_eq]; simp only [List.length_cons, List.length_nil, List.length_append, List.length_map]; omega))) | ((with_reducible refine o_strI (log_small ?_) ?_); omega) | ((with_reducible refine o_fmtI (log_small ?_) ?_); omega) | ((with_reducible refine o_rng1 ?_ ?_); omega) | ((with_reducible refine o_rng1I ?_ ?_ ?_); omega; omega) | ((fail_if_success with_reducible refine noRng1 ?_); (fail_if_success with_reducible refine noRng2 ?_); (fail_if_success with_reducible refine noRng3 ?_); (with_reducible apply opr); rfl) | ((with_reducible refine And.intro ?_ ?_); (first | rfl | decide | assumption | (focus (rw [sizeLine_eq]; simp; done)) | (focus (rw [rangeD_length, sizeLine_eq]; omega)))) | (with_reducible refine Exists.intro _ (And.intro rfl ?_)) | (with_reducible refine Exists.intro _ (Exists.intro _ (And.intro rfl ?_))) | fail))
  rfl
def hText : D → Str
  | .int i => toString i
  | _ => "any"
def stRow (x : Str) (h : D) (t : Bool) : Str := ("station " : Str) ++ x ++ (": hands " : Str) ++ hText h ++ (if t = true then ("" : Str) else (", no time" : Str))
theorem hands4 {i : Int} (h1 : 1 ≤ i) (h2 : i ≤ 4) : i = 1 ∨ i = 2 ∨ i = 3 ∨ i = 4 := by omega
theorem hText_len {h : D} (hh : HandsOk h) : (hText h).length ≤ 3 := by
  rcases hh with rfl | ⟨i, rfl, h1, h2⟩
  · decide +kernel
  · rcases hands4 h1 h2 with rfl | rfl | rfl | rfl <;> decide +kernel
theorem L_a : ("station " : Str).length = 8 := by decide +kernel
theorem L_b : (": hands " : Str).length = 8 := by decide +kernel
theorem L_c : (", no time" : Str).length = 9 := by decide +kernel
theorem L_d : ("" : Str).length = 0 := by decide +kernel
theorem L_e : Str.empty.length = 0 := by decide +kernel
theorem L_f : ("any" : Str).length = 3 := by decide +kernel
theorem e_strow {x : Str} {h : D} (hx : NameOk x) (hh : HandsOk h) (t : Bool) : F_law_station_row [.tup [.str x, h, .bl t]] = some (.str (stRow x h t)) := by
  refine runD_eq ?_
  unfold m_law_station_row
  have := hx.le
  have := hText_len hh
  rcases hh with rfl | ⟨i, rfl, h1, h2⟩
  · cases t <;> (repeat' (first | ((with_reducible apply i_v); rfl) | ((with_reducible refine o_addS ?_ ?_); (focus (rw [sizeLine_eq]; (try simp only [strLen_append, L_a, L_b, L_c, L_d, L_f]); omega))) | ((with_reducible refine o_fmtS ?_ ?_); (focus (rw [sizeLine_eq]; (try simp only [strLen_append, L_a, L_b, L_c, L_d, L_f]); omega))) | ((with_reducible refine o_lenS ?_ ?_); (focus (rw [sizeLine_eq]; (try simp only [strLen_append, L_a, L_b, L_c, L_d, L_f]); omega))) | ((with_reducible refine And.intro ?_ ?_); (focus (rw [sizeLine_eq]; (try simp only [strLen_append, L_a, L_b, L_c, L_d, L_f]); omega))) | with_reducible refine i_2 ?_ | with_reducible refine i_1 ?_ | with_reducible refine i_call ?_ | with_reducible refine i_callF ?_ | with_reducible refine i_2F ?_ | with_reducible refine i_if ?_ | with_reducible refine i_sif ?_ | with_reducible refine i_B ?_ | with_reducible refine i_tru ?_ | with_reducible refine i_not ?_ | with_reducible refine i_and ?_ | with_reducible refine i_or ?_ | with_reducible refine i_notV ?_ | with_reducible refine i_andV ?_ | with_reducible refine i_orV ?_ | with_reducible refine i_ch ?_ | with_reducible refine i_tup ?_ | with_reducible refine i_lst ?_ | with_reducible refine i_sl ?_ | with_reducible refine i_fn ?_ | with_reducible refine i_mk ?_ | with_reducible refine i_me0 ?_ | with_reducible refine i_me ?_ | with_reducible refine i_bor ?_ | with_reducible refine i_borT ?_ | with_reducible refine i_join ?_ | with_reducible refine i_js0 ?_ | with_reducible refine i_js1 ?_ | with_reducible refine i_sseq ?_ | with_reducible refine i_sret ?_ | with_reducible refine i_sretF ?_ | with_reducible refine i_sexpr ?_ | with_reducible refine i_sset ?_ | with_reducible refine i_sown ?_ | with_reducible refine i_ssetL ?_ | with_reducible refine i_spar ?_ | with_reducible refine i_sasg ?_ | with_reducible refine i_sitem ?_ | with_reducible refine i_sapp ?_ | with_reducible refine i_sfs ?_ | with_reducible refine i_frz ?_ | with_reducible refine i_sfor ?_ | with_reducible refine i_lc ?_ | with_reducible refine i_snil ?_ | with_reducible refine i_nil ?_ | with_reducible refine i_cons ?_ | with_reducible refine i_pure ?_ | with_reducible refine i_lift ?_ | with_reducible refine i_bind ?_ | ((with_reducible apply i_fnW); rfl) | with_reducible refine nxN ?_ | with_reducible refine nxR ?_ | with_reducible refine nxF ?_ | with_reducible refine nxB ?_ | with_reducible refine nxC ?_ | with_reducible refine brN ?_ | with_reducible refine brT ?_ | with_reducible refine brF ?_ | ((with_reducible refine brYes (decide_eq_true ?_) ?_); omega) | ((with_reducible refine brNo (decide_eq_false ?_) ?_); omega) | ((with_reducible refine brYes ?_ ?_); (focus decide)) | ((with_reducible refine brNo ?_ ?_); (focus decide)) | ((with_reducible refine o_mod ?_ ?_); omega) | ((with_reducible refine o_fdiv ?_ ?_ ?_); omega; omega) | ((with_reducible refine o_mul ?_ ?_); omega) | ((with_reducible refine o_pow ?_ ?_); omega) | ((first | with_reducible refine o_addL ?_ ?_ | with_reducible refine o_addT ?_ ?_); (focus (rw [sizeLine_eq]; simp only [List.length_cons, List.length_nil, List.length_append, List.length_map]; omega))) | ((with_reducible refine o_strI (log_small ?_) ?_); omega) | ((with_reducible refine o_fmtI (log_small ?_) ?_); omega) | ((with_reducible refine o_rng1 ?_ ?_); omega) | ((with_reducible refine o_rng1I ?_ ?_ ?_); omega; omega) | ((fail_if_success with_reducible refine noRng1 ?_); (fail_if_success with_reducible refine noRng2 ?_); (fail_if_success with_reducible refine noRng3 ?_); (with_reducible apply opr); rfl) | ((with_reducible refine And.intro ?_ ?_); (first | rfl | decide | assumption | (focus (rw [sizeLine_eq]; simp; done)) | (focus (rw [rangeD_length, sizeLine_eq]; omega)))) | (with_reducible refine Exists.intro _ (And.intro rfl ?_)) | (with_reducible refine Exists.intro _ (Exists.intro _ (And.intro rfl ?_))) | fail)) <;> rfl
  · have this : ((toString i : String) : Str).length ≤ 3 := this
    cases t <;> (repeat' (first | ((with_reducible apply i_v); rfl) | ((with_reducible refine o_addS ?_ ?_); (focus (rw [sizeLine_eq]; (try simp only [strLen_append, L_a, L_b, L_c, L_d, L_f]); omega))) | ((with_reducible refine o_fmtS ?_ ?_); (focus (rw [sizeLine_eq]; (try simp only [strLen_append, L_a, L_b, L_c, L_d, L_f]); omega))) | ((with_reducible refine o_lenS ?_ ?_); (focus (rw [sizeLine_eq]; (try simp only [strLen_append, L_a, L_b, L_c, L_d, L_f]); omega))) | ((with_reducible refine And.intro ?_ ?_); (focus (rw [sizeLine_eq]; (try simp only [strLen_append, L_a, L_b, L_c, L_d, L_f]); omega))) | with_reducible refine i_2 ?_ | with_reducible refine i_1 ?_ | with_reducible refine i_call ?_ | with_reducible refine i_callF ?_ | with_reducible refine i_2F ?_ | with_reducible refine i_if ?_ | with_reducible refine i_sif ?_ | with_reducible refine i_B ?_ | with_reducible refine i_tru ?_ | with_reducible refine i_not ?_ | with_reducible refine i_and ?_ | with_reducible refine i_or ?_ | with_reducible refine i_notV ?_ | with_reducible refine i_andV ?_ | with_reducible refine i_orV ?_ | with_reducible refine i_ch ?_ | with_reducible refine i_tup ?_ | with_reducible refine i_lst ?_ | with_reducible refine i_sl ?_ | with_reducible refine i_fn ?_ | with_reducible refine i_mk ?_ | with_reducible refine i_me0 ?_ | with_reducible refine i_me ?_ | with_reducible refine i_bor ?_ | with_reducible refine i_borT ?_ | with_reducible refine i_join ?_ | with_reducible refine i_js0 ?_ | with_reducible refine i_js1 ?_ | with_reducible refine i_sseq ?_ | with_reducible refine i_sret ?_ | with_reducible refine i_sretF ?_ | with_reducible refine i_sexpr ?_ | with_reducible refine i_sset ?_ | with_reducible refine i_sown ?_ | with_reducible refine i_ssetL ?_ | with_reducible refine i_spar ?_ | with_reducible refine i_sasg ?_ | with_reducible refine i_sitem ?_ | with_reducible refine i_sapp ?_ | with_reducible refine i_sfs ?_ | with_reducible refine i_frz ?_ | with_reducible refine i_sfor ?_ | with_reducible refine i_lc ?_ | with_reducible refine i_snil ?_ | with_reducible refine i_nil ?_ | with_reducible refine i_cons ?_ | with_reducible refine i_pure ?_ | with_reducible refine i_lift ?_ | with_reducible refine i_bind ?_ | ((with_reducible apply i_fnW); rfl) | with_reducible refine nxN ?_ | with_reducible refine nxR ?_ | with_reducible refine nxF ?_ | with_reducible refine nxB ?_ | with_reducible refine nxC ?_ | with_reducible refine brN ?_ | with_reducible refine brT ?_ | with_reducible refine brF ?_ | ((with_reducible refine brYes (decide_eq_true ?_) ?_); omega) | ((with_reducible refine brNo (decide_eq_false ?_) ?_); omega) | ((with_reducible refine brYes ?_ ?_); (focus decide)) | ((with_reducible refine brNo ?_ ?_); (focus decide)) | ((with_reducible refine o_mod ?_ ?_); omega) | ((with_reducible refine o_fdiv ?_ ?_ ?_); omega; omega) | ((with_reducible refine o_mul ?_ ?_); omega) | ((with_reducible refine o_pow ?_ ?_); omega) | ((first | with_reducible refine o_addL ?_ ?_ | with_reducible refine o_addT ?_ ?_); (focus (rw [sizeLine_eq]; simp only [List.length_cons, List.length_nil, List.length_append, List.length_map]; omega))) | ((with_reducible refine o_strI (log_small ?_) ?_); omega) | ((with_reducible refine o_fmtI (log_small ?_) ?_); omega) | ((with_reducible refine o_rng1 ?_ ?_); omega) | ((with_reducible refine o_rng1I ?_ ?_ ?_); omega; omega) | ((fail_if_success with_reducible refine noRng1 ?_); (fail_if_success with_reducible refine noRng2 ?_); (fail_if_success with_reducible refine noRng3 ?_); (with_reducible apply opr); rfl) | ((with_reducible refine And.intro ?_ ?_); (first | rfl | decide | assumption | (focus (rw [sizeLine_eq]; simp; done)) | (focus (rw [rangeD_length, sizeLine_eq]; omega)))) | (with_reducible refine Exists.intro _ (And.intro rfl ?_)) | (with_reducible refine Exists.intro _ (Exists.intro _ (And.intro rfl ?_))) | fail)) <;> rfl
theorem e_ststr {x : Str} {h : D} (hx : NameOk x) (hh : HandsOk h) (t : Bool) : F_Stationx_strx [.obj 2 [.tup [.str x, h, .bl t]]] = some (.str (stRow x h t)) := by
  refine runD_eq ?_
  unfold m_Stationx_strx
  have := hx.le
  have := hText_len hh
  rcases hh with rfl | ⟨i, rfl, h1, h2⟩
  · cases t <;> (repeat' (first | ((with_reducible apply i_v); rfl) | ((with_reducible refine o_addS ?_ ?_); (focus (rw [sizeLine_eq]; (try simp only [strLen_append, L_a, L_b, L_c, L_d, L_e, L_f]); omega))) | ((with_reducible refine o_fmtS ?_ ?_); (focus (rw [sizeLine_eq]; (try simp only [strLen_append, L_a, L_b, L_c, L_d, L_e, L_f]); omega))) | ((with_reducible refine o_lenS ?_ ?_); (focus (rw [sizeLine_eq]; (try simp only [strLen_append, L_a, L_b, L_c, L_d, L_e, L_f]); omega))) | ((with_reducible refine And.intro ?_ ?_); (focus (rw [sizeLine_eq]; (try simp only [strLen_append, L_a, L_b, L_c, L_d, L_e, L_f]); omega))) | with_reducible refine i_2 ?_ | with_reducible refine i_1 ?_ | with_reducible refine i_call ?_ | with_reducible refine i_callF ?_ | with_reducible refine i_2F ?_ | with_reducible refine i_if ?_ | with_reducible refine i_sif ?_ | with_reducible refine i_B ?_ | with_reducible refine i_tru ?_ | with_reducible refine i_not ?_ | with_reducible refine i_and ?_ | with_reducible refine i_or ?_ | with_reducible refine i_notV ?_ | with_reducible refine i_andV ?_ | with_reducible refine i_orV ?_ | with_reducible refine i_ch ?_ | with_reducible refine i_tup ?_ | with_reducible refine i_lst ?_ | with_reducible refine i_sl ?_ | with_reducible refine i_fn ?_ | with_reducible refine i_mk ?_ | with_reducible refine i_me0 ?_ | with_reducible refine i_me ?_ | with_reducible refine i_bor ?_ | with_reducible refine i_borT ?_ | with_reducible refine i_join ?_ | with_reducible refine i_js0 ?_ | with_reducible refine i_js1 ?_ | with_reducible refine i_sseq ?_ | with_reducible refine i_sret ?_ | with_reducible refine i_sretF ?_ | with_reducible refine i_sexpr ?_ | with_reducible refine i_sset ?_ | with_reducible refine i_sown ?_ | with_reducible refine i_ssetL ?_ | with_reducible refine i_spar ?_ | with_reducible refine i_sasg ?_ | with_reducible refine i_sitem ?_ | with_reducible refine i_sapp ?_ | with_reducible refine i_sfs ?_ | with_reducible refine i_frz ?_ | with_reducible refine i_sfor ?_ | with_reducible refine i_lc ?_ | with_reducible refine i_snil ?_ | with_reducible refine i_nil ?_ | with_reducible refine i_cons ?_ | with_reducible refine i_pure ?_ | with_reducible refine i_lift ?_ | with_reducible refine i_bind ?_ | ((with_reducible apply i_fnW); rfl) | with_reducible refine nxN ?_ | with_reducible refine nxR ?_ | with_reducible refine nxF ?_ | with_reducible refine nxB ?_ | with_reducible refine nxC ?_ | with_reducible refine brN ?_ | with_reducible refine brT ?_ | with_reducible refine brF ?_ | ((with_reducible refine brYes (decide_eq_true ?_) ?_); omega) | ((with_reducible refine brNo (decide_eq_false ?_) ?_); omega) | ((with_reducible refine brYes ?_ ?_); (focus decide)) | ((with_reducible refine brNo ?_ ?_); (focus decide)) | ((with_reducible refine o_mod ?_ ?_); omega) | ((with_reducible refine o_fdiv ?_ ?_ ?_); omega; omega) | ((with_reducible refine o_mul ?_ ?_); omega) | ((with_reducible refine o_pow ?_ ?_); omega) | ((first | with_reducible refine o_addL ?_ ?_ | with_reducible refine o_addT ?_ ?_); (focus (rw [sizeLine_eq]; simp only [List.length_cons, List.length_nil, List.length_append, List.length_map]; omega))) | ((with_reducible refine o_strI (log_small ?_) ?_); omega) | ((with_reducible refine o_fmtI (log_small ?_) ?_); omega) | ((with_reducible refine o_rng1 ?_ ?_); omega) | ((with_reducible refine o_rng1I ?_ ?_ ?_); omega; omega) | ((fail_if_success with_reducible refine noRng1 ?_); (fail_if_success with_reducible refine noRng2 ?_); (fail_if_success with_reducible refine noRng3 ?_); (with_reducible apply opr); rfl) | ((with_reducible refine And.intro ?_ ?_); (first | rfl | decide | assumption | (focus (rw [sizeLine_eq]; simp; done)) | (focus (rw [rangeD_length, sizeLine_eq]; omega)))) | (with_reducible refine Exists.intro _ (And.intro rfl ?_)) | (with_reducible refine Exists.intro _ (Exists.intro _ (And.intro rfl ?_))) | fail)) <;> (rw [emp]; rfl)
  · have this : ((toString i : String) : Str).length ≤ 3 := this
    cases t <;> (repeat' (first | ((with_reducible apply i_v); rfl) | ((with_reducible refine o_addS ?_ ?_); (focus (rw [sizeLine_eq]; (try simp only [strLen_append, L_a, L_b, L_c, L_d, L_e, L_f]); omega))) | ((with_reducible refine o_fmtS ?_ ?_); (focus (rw [sizeLine_eq]; (try simp only [strLen_append, L_a, L_b, L_c, L_d, L_e, L_f]); omega))) | ((with_reducible refine o_lenS ?_ ?_); (focus (rw [sizeLine_eq]; (try simp only [strLen_append, L_a, L_b, L_c, L_d, L_e, L_f]); omega))) | ((with_reducible refine And.intro ?_ ?_); (focus (rw [sizeLine_eq]; (try simp only [strLen_append, L_a, L_b, L_c, L_d, L_e, L_f]); omega))) | with_reducible refine i_2 ?_ | with_reducible refine i_1 ?_ | with_reducible refine i_call ?_ | with_reducible refine i_callF ?_ | with_reducible refine i_2F ?_ | with_reducible refine i_if ?_ | with_reducible refine i_sif ?_ | with_reducible refine i_B ?_ | with_reducible refine i_tru ?_ | with_reducible refine i_not ?_ | with_reducible refine i_and ?_ | with_reducible refine i_or ?_ | with_reducible refine i_notV ?_ | with_reducible refine i_andV ?_ | with_reducible refine i_orV ?_ | with_reducible refine i_ch ?_ | with_reducible refine i_tup ?_ | with_reducible refine i_lst ?_ | with_reducible refine i_sl ?_ | with_reducible refine i_fn ?_ | with_reducible refine i_mk ?_ | with_reducible refine i_me0 ?_ | with_reducible refine i_me ?_ | with_reducible refine i_bor ?_ | with_reducible refine i_borT ?_ | with_reducible refine i_join ?_ | with_reducible refine i_js0 ?_ | with_reducible refine i_js1 ?_ | with_reducible refine i_sseq ?_ | with_reducible refine i_sret ?_ | with_reducible refine i_sretF ?_ | with_reducible refine i_sexpr ?_ | with_reducible refine i_sset ?_ | with_reducible refine i_sown ?_ | with_reducible refine i_ssetL ?_ | with_reducible refine i_spar ?_ | with_reducible refine i_sasg ?_ | with_reducible refine i_sitem ?_ | with_reducible refine i_sapp ?_ | with_reducible refine i_sfs ?_ | with_reducible refine i_frz ?_ | with_reducible refine i_sfor ?_ | with_reducible refine i_lc ?_ | with_reducible refine i_snil ?_ | with_reducible refine i_nil ?_ | with_reducible refine i_cons ?_ | with_reducible refine i_pure ?_ | with_reducible refine i_lift ?_ | with_reducible refine i_bind ?_ | ((with_reducible apply i_fnW); rfl) | with_reducible refine nxN ?_ | with_reducible refine nxR ?_ | with_reducible refine nxF ?_ | with_reducible refine nxB ?_ | with_reducible refine nxC ?_ | with_reducible refine brN ?_ | with_reducible refine brT ?_ | with_reducible refine brF ?_ | ((with_reducible refine brYes (decide_eq_true ?_) ?_); omega) | ((with_reducible refine brNo (decide_eq_false ?_) ?_); omega) | ((with_reducible refine brYes ?_ ?_); (focus decide)) | ((with_reducible refine brNo ?_ ?_); (focus decide)) | ((with_reducible refine o_mod ?_ ?_); omega) | ((with_reducible refine o_fdiv ?_ ?_ ?_); omega; omega) | ((with_reducible refine o_mul ?_ ?_); omega) | ((with_reducible refine o_pow ?_ ?_); omega) | ((first | with_reducible refine o_addL ?_ ?_ | with_reducible refine o_addT ?_ ?_); (focus (rw [sizeLine_eq]; simp only [List.length_cons, List.length_nil, List.length_append, List.length_map]; omega))) | ((with_reducible refine o_strI (log_small ?_) ?_); omega) | ((with_reducible refine o_fmtI (log_small ?_) ?_); omega) | ((with_reducible refine o_rng1 ?_ ?_); omega) | ((with_reducible refine o_rng1I ?_ ?_ ?_); omega; omega) | ((fail_if_success with_reducible refine noRng1 ?_); (fail_if_success with_reducible refine noRng2 ?_); (fail_if_success with_reducible refine noRng3 ?_); (with_reducible apply opr); rfl) | ((with_reducible refine And.intro ?_ ?_); (first | rfl | decide | assumption | (focus (rw [sizeLine_eq]; simp; done)) | (focus (rw [rangeD_length, sizeLine_eq]; omega)))) | (with_reducible refine Exists.intro _ (And.intro rfl ?_)) | (with_reducible refine Exists.intro _ (Exists.intro _ (And.intro rfl ?_))) | fail)) <;> (rw [emp]; rfl)
def lkRow (x y : Str) (i : Int) (t : Bool) : Str := ("link " : Str) ++ x ++ (" -> " : Str) ++ y ++ (": stock " : Str) ++ ((toString i : String) : Str) ++ (if t = true then (", early" : Str) else ("" : Str))
theorem L_g : ("link " : Str).length = 5 := by decide +kernel
theorem L_h : (" -> " : Str).length = 4 := by decide +kernel
theorem L_i : (": stock " : Str).length = 8 := by decide +kernel
theorem L_j : (", early" : Str).length = 7 := by decide +kernel
theorem stock_len {i : Int} (h1 : 0 ≤ i) (h2 : i ≤ 5) : ((toString i : String) : Str).length ≤ 13 := niceI_len (i := i) (decide_eq_true (by omega))
theorem e_lkrow {x y : Str} {i : Int} (hx : NameOk x) (hy : NameOk y) (h1 : 0 ≤ i) (h2 : i ≤ 5) (t : Bool) : F_law_link_row [.tup [.str x, .str y, .int i, .bl t]] = some (.str (lkRow x y i t)) := by
  refine runD_eq ?_
  unfold m_law_link_row
  have := hx.le
  have := hy.le
  have := stock_len h1 h2
  cases t <;> (repeat' (first | ((with_reducible apply i_v); rfl) | ((with_reducible refine o_addS ?_ ?_); (focus (rw [sizeLine_eq]; (try simp only [strLen_append, L_d, L_g, L_h, L_i, L_j]); omega))) | ((with_reducible refine o_fmtS ?_ ?_); (focus (rw [sizeLine_eq]; (try simp only [strLen_append, L_d, L_g, L_h, L_i, L_j]); omega))) | ((with_reducible refine o_lenS ?_ ?_); (focus (rw [sizeLine_eq]; (try simp only [strLen_append, L_d, L_g, L_h, L_i, L_j]); omega))) | ((with_reducible refine And.intro ?_ ?_); (focus (rw [sizeLine_eq]; (try simp only [strLen_append, L_d, L_g, L_h, L_i, L_j]); omega))) | with_reducible refine i_2 ?_ | with_reducible refine i_1 ?_ | with_reducible refine i_call ?_ | with_reducible refine i_callF ?_ | with_reducible refine i_2F ?_ | with_reducible refine i_if ?_ | with_reducible refine i_sif ?_ | with_reducible refine i_B ?_ | with_reducible refine i_tru ?_ | with_reducible refine i_not ?_ | with_reducible refine i_and ?_ | with_reducible refine i_or ?_ | with_reducible refine i_notV ?_ | with_reducible refine i_andV ?_ | with_reducible refine i_orV ?_ | with_reducible refine i_ch ?_ | with_reducible refine i_tup ?_ | with_reducible refine i_lst ?_ | with_reducible refine i_sl ?_ | with_reducible refine i_fn ?_ | with_reducible refine i_mk ?_ | with_reducible refine i_me0 ?_ | with_reducible refine i_me ?_ | with_reducible refine i_bor ?_ | with_reducible refine i_borT ?_ | with_reducible refine i_join ?_ | with_reducible refine i_js0 ?_ | with_reducible refine i_js1 ?_ | with_reducible refine i_sseq ?_ | with_reducible refine i_sret ?_ | with_reducible refine i_sretF ?_ | with_reducible refine i_sexpr ?_ | with_reducible refine i_sset ?_ | with_reducible refine i_sown ?_ | with_reducible refine i_ssetL ?_ | with_reducible refine i_spar ?_ | with_reducible refine i_sasg ?_ | with_reducible refine i_sitem ?_ | with_reducible refine i_sapp ?_ | with_reducible refine i_sfs ?_ | with_reducible refine i_frz ?_ | with_reducible refine i_sfor ?_ | with_reducible refine i_lc ?_ | with_reducible refine i_snil ?_ | with_reducible refine i_nil ?_ | with_reducible refine i_cons ?_ | with_reducible refine i_pure ?_ | with_reducible refine i_lift ?_ | with_reducible refine i_bind ?_ | ((with_reducible apply i_fnW); rfl) | with_reducible refine nxN ?_ | with_reducible refine nxR ?_ | with_reducible refine nxF ?_ | with_reducible refine nxB ?_ | with_reducible refine nxC ?_ | with_reducible refine brN ?_ | with_reducible refine brT ?_ | with_reducible refine brF ?_ | ((with_reducible refine brYes (decide_eq_true ?_) ?_); omega) | ((with_reducible refine brNo (decide_eq_false ?_) ?_); omega) | ((with_reducible refine brYes ?_ ?_); (focus decide)) | ((with_reducible refine brNo ?_ ?_); (focus decide)) | ((with_reducible refine o_mod ?_ ?_); omega) | ((with_reducible refine o_fdiv ?_ ?_ ?_); omega; omega) | ((with_reducible refine o_mul ?_ ?_); omega) | ((with_reducible refine o_pow ?_ ?_); omega) | ((first | with_reducible refine o_addL ?_ ?_ | with_reducible refine o_addT ?_ ?_); (focus (rw [sizeLine_eq]; simp only [List.length_cons, List.length_nil, List.length_append, List.length_map]; omega))) | ((with_reducible refine o_strI (log_small ?_) ?_); omega) | ((with_reducible refine o_fmtI (log_small ?_) ?_); omega) | ((with_reducible refine o_rng1 ?_ ?_); omega) | ((with_reducible refine o_rng1I ?_ ?_ ?_); omega; omega) | ((fail_if_success with_reducible refine noRng1 ?_); (fail_if_success with_reducible refine noRng2 ?_); (fail_if_success with_reducible refine noRng3 ?_); (with_reducible apply opr); rfl) | ((with_reducible refine And.intro ?_ ?_); (first | rfl | decide | assumption | (focus (rw [sizeLine_eq]; simp; done)) | (focus (rw [rangeD_length, sizeLine_eq]; omega)))) | (with_reducible refine Exists.intro _ (And.intro rfl ?_)) | (with_reducible refine Exists.intro _ (Exists.intro _ (And.intro rfl ?_))) | fail)) <;> rfl
theorem e_lkstr {x y : Str} {i : Int} (hx : NameOk x) (hy : NameOk y) (h1 : 0 ≤ i) (h2 : i ≤ 5) (t : Bool) : F_Linkx_strx [.obj 3 [.tup [.str x, .str y, .int i, .bl t]]] = some (.str (lkRow x y i t)) := by
  refine runD_eq ?_
  unfold m_Linkx_strx
  have := hx.le
  have := hy.le
  have := stock_len h1 h2
  cases t <;> (repeat' (first | ((with_reducible apply i_v); rfl) | ((with_reducible refine o_addS ?_ ?_); (focus (rw [sizeLine_eq]; (try simp only [strLen_append, L_d, L_e, L_g, L_h, L_i, L_j]); omega))) | ((with_reducible refine o_fmtS ?_ ?_); (focus (rw [sizeLine_eq]; (try simp only [strLen_append, L_d, L_e, L_g, L_h, L_i, L_j]); omega))) | ((with_reducible refine o_lenS ?_ ?_); (focus (rw [sizeLine_eq]; (try simp only [strLen_append, L_d, L_e, L_g, L_h, L_i, L_j]); omega))) | ((with_reducible refine And.intro ?_ ?_); (focus (rw [sizeLine_eq]; (try simp only [strLen_append, L_d, L_e, L_g, L_h, L_i, L_j]); omega))) | with_reducible refine i_2 ?_ | with_reducible refine i_1 ?_ | with_reducible refine i_call ?_ | with_reducible refine i_callF ?_ | with_reducible refine i_2F ?_ | with_reducible refine i_if ?_ | with_reducible refine i_sif ?_ | with_reducible refine i_B ?_ | with_reducible refine i_tru ?_ | with_reducible refine i_not ?_ | with_reducible refine i_and ?_ | with_reducible refine i_or ?_ | with_reducible refine i_notV ?_ | with_reducible refine i_andV ?_ | with_reducible refine i_orV ?_ | with_reducible refine i_ch ?_ | with_reducible refine i_tup ?_ | with_reducible refine i_lst ?_ | with_reducible refine i_sl ?_ | with_reducible refine i_fn ?_ | with_reducible refine i_mk ?_ | with_reducible refine i_me0 ?_ | with_reducible refine i_me ?_ | with_reducible refine i_bor ?_ | with_reducible refine i_borT ?_ | with_reducible refine i_join ?_ | with_reducible refine i_js0 ?_ | with_reducible refine i_js1 ?_ | with_reducible refine i_sseq ?_ | with_reducible refine i_sret ?_ | with_reducible refine i_sretF ?_ | with_reducible refine i_sexpr ?_ | with_reducible refine i_sset ?_ | with_reducible refine i_sown ?_ | with_reducible refine i_ssetL ?_ | with_reducible refine i_spar ?_ | with_reducible refine i_sasg ?_ | with_reducible refine i_sitem ?_ | with_reducible refine i_sapp ?_ | with_reducible refine i_sfs ?_ | with_reducible refine i_frz ?_ | with_reducible refine i_sfor ?_ | with_reducible refine i_lc ?_ | with_reducible refine i_snil ?_ | with_reducible refine i_nil ?_ | with_reducible refine i_cons ?_ | with_reducible refine i_pure ?_ | with_reducible refine i_lift ?_ | with_reducible refine i_bind ?_ | ((with_reducible apply i_fnW); rfl) | with_reducible refine nxN ?_ | with_reducible refine nxR ?_ | with_reducible refine nxF ?_ | with_reducible refine nxB ?_ | with_reducible refine nxC ?_ | with_reducible refine brN ?_ | with_reducible refine brT ?_ | with_reducible refine brF ?_ | ((with_reducible refine brYes (decide_eq_true ?_) ?_); omega) | ((with_reducible refine brNo (decide_eq_false ?_) ?_); omega) | ((with_reducible refine brYes ?_ ?_); (focus decide)) | ((with_reducible refine brNo ?_ ?_); (focus decide)) | ((with_reducible refine o_mod ?_ ?_); omega) | ((with_reducible refine o_fdiv ?_ ?_ ?_); omega; omega) | ((with_reducible refine o_mul ?_ ?_); omega) | ((with_reducible refine o_pow ?_ ?_); omega) | ((first | with_reducible refine o_addL ?_ ?_ | with_reducible refine o_addT ?_ ?_); (focus (rw [sizeLine_eq]; simp only [List.length_cons, List.length_nil, List.length_append, List.length_map]; omega))) | ((with_reducible refine o_strI (log_small ?_) ?_); omega) | ((with_reducible refine o_fmtI (log_small ?_) ?_); omega) | ((with_reducible refine o_rng1 ?_ ?_); omega) | ((with_reducible refine o_rng1I ?_ ?_ ?_); omega; omega) | ((fail_if_success with_reducible refine noRng1 ?_); (fail_if_success with_reducible refine noRng2 ?_); (fail_if_success with_reducible refine noRng3 ?_); (with_reducible apply opr); rfl) | ((with_reducible refine And.intro ?_ ?_); (first | rfl | decide | assumption | (focus (rw [sizeLine_eq]; simp; done)) | (focus (rw [rangeD_length, sizeLine_eq]; omega)))) | (with_reducible refine Exists.intro _ (And.intro rfl ?_)) | (with_reducible refine Exists.intro _ (Exists.intro _ (And.intro rfl ?_))) | fail)) <;> (rw [emp]; rfl)
end Lw
set_option Elab.async false
set_option linter.all false
set_option maxRecDepth 100000
set_option maxHeartbeats 4000000
namespace Lw
open PySem L2 Dv
theorem NameOk.nice {x : Str} (h : NameOk x) : niceS x = true := by
  refine niceS_ok.mpr fun c hc => ?_
  have := h.all c hc
  simp only [letters, digits, List.mem_append, List.mem_cons, List.not_mem_nil, or_false] at this
  omega
theorem hands_nice {h : D} (hh : HandsOk h) : nice h = true ∧ dep h = 0 ∧ wei h ≤ 40 := by
  rcases hh with rfl | ⟨i, rfl, h1, h2⟩
  · exact ⟨rfl, rfl, by decide⟩
  · exact ⟨decide_eq_true (by omega), rfl, Nat.le_refl _⟩
theorem int_nice {i : Int} (h1 : 0 ≤ i) (h2 : i ≤ 5) : nice (.int i) = true := decide_eq_true (by omega)
theorem st_nice {x : Str} {h : D} (hx : NameOk x) (hh : HandsOk h) (t : Bool) : nices [.str x, h, .bl t] = true := by
  simp only [nices, nice, hx.nice, (hands_nice hh).1, Bool.and_self]
theorem st_dep {x : Str} {h : D} (hh : HandsOk h) (t : Bool) : deps [.str x, h, .bl t] = 0 := by
  simp only [deps, dep, (hands_nice hh).2.1]; rfl
theorem st_wei {x : Str} {h : D} (hx : NameOk x) (hh : HandsOk h) (t : Bool) : weis [.str x, h, .bl t] ≤ 100 := by
  have := (hands_nice hh).2.2
  have := hx.le
  simp only [weis, wei]; omega
theorem lk_nice {x y : Str} {i : Int} (hx : NameOk x) (hy : NameOk y) (h1 : 0 ≤ i) (h2 : i ≤ 5) (t : Bool) : nices [.str x, .str y, .int i, .bl t] = true := by
  have := int_nice h1 h2
  simp only [nice] at this
  simp only [nices, nice, hx.nice, hy.nice, this, Bool.and_self]
theorem lk_wei {x y : Str} {i : Int} (hx : NameOk x) (hy : NameOk y) (t : Bool) : weis [.str x, .str y, .int i, .bl t] ≤ 100 := by
  have := hx.le
  have := hy.le
  simp only [weis, wei]; omega
theorem r_st {x : Str} {h : D} (hx : NameOk x) (hh : HandsOk h) (t : Bool) : reprD [.lst [.str x, h, .bl t]] = some (.str (shD (.lst [.str x, h, .bl t]))) :=
  reprD_nice (st_nice hx hh t) (by rw [dep, st_dep hh]; decide) (by have := st_wei hx hh t; rw [wei]; omega)
theorem r_lk {x y : Str} {i : Int} (hx : NameOk x) (hy : NameOk y) (h1 : 0 ≤ i) (h2 : i ≤ 5) (t : Bool) : reprD [.lst [.str x, .str y, .int i, .bl t]] = some (.str (shD (.lst [.str x, .str y, .int i, .bl t]))) :=
  reprD_nice (lk_nice hx hy h1 h2 t) (by simp [dep, deps]) (by have := lk_wei (i := i) hx hy t; rw [wei]; omega)
theorem r_b3 (a b c : Bool) : reprD [.lst [.bl a, .bl b, .bl c]] = some (.str (shD (.lst [.bl a, .bl b, .bl c]))) := reprD_nice rfl (by simp [dep, deps]) (by simp [wei, weis])
theorem r_b4 (a b c d : Bool) : reprD [.lst [.bl a, .bl b, .bl c, .bl d]] = some (.str (shD (.lst [.bl a, .bl b, .bl c, .bl d]))) := reprD_nice rfl (by simp [dep, deps]) (by simp [wei, weis])
theorem r_12 (t : Bool) : reprD [.lst [.int 1, .bl t]] = some (.str (shD (.lst [.int 1, .bl t]))) := reprD_nice rfl (by simp [dep, deps]) (by simp [wei, weis])
theorem ne_same (a : Str) : neX (.str a) (.str a) = some (.bl false) := by
  show some (D.bl (decide (a = a) != true)) = _
  simp
theorem eq_lit {a b : Str} (h : a = b) : eqX (.str a) (.str b) = some (.bl true) := by
  show some (D.bl (decide (a = b) != false)) = _
  simp [h]
theorem eq_st {x y : Str} {h k : D} {t u : Bool} (hx : NameOk x) (hy : NameOk y) (hh : HandsOk h) (hk : HandsOk k) : F_Stationx_eqx [.obj 2 [.tup [.str x, h, .bl t]], .obj 2 [.tup [.str y, k, .bl u]]] = some (.bl (eqvD (.tup [.str x, h, .bl t]) (.tup [.str y, k, .bl u]))) := by
  have e := eqD_nice (neg := false) (a := .tup [.str x, h, .bl t]) (b := .tup [.str y, k, .bl u]) (st_nice hx hh t) (st_nice hy hk u) (by rw [dep, st_dep hh]; decide) (by rw [dep, st_dep hk]; decide)
  refine runD_eq ?_
  unfold m_Stationx_eqx
  (repeat' (first | ((with_reducible apply i_v); rfl) | with_reducible apply opr (e) | with_reducible refine i_2 ?_ | with_reducible refine i_1 ?_ | with_reducible refine i_call ?_ | with_reducible refine i_callF ?_ | with_reducible refine i_2F ?_ | with_reducible refine i_if ?_ | with_reducible refine i_sif ?_ | with_reducible refine i_B ?_ | with_reducible refine i_tru ?_ | with_reducible refine i_not ?_ | with_reducible refine i_and ?_ | with_reducible refine i_or ?_ | with_reducible refine i_notV ?_ | with_reducible refine i_andV ?_ | with_reducible refine i_orV ?_ | with_reducible refine i_ch ?_ | with_reducible refine i_tup ?_ | with_reducible refine i_lst ?_ | with_reducible refine i_sl ?_ | with_reducible refine i_fn ?_ | with_reducible refine i_mk ?_ | with_reducible refine i_me0 ?_ | with_reducible refine i_me ?_ | with_reducible refine i_bor ?_ | with_reducible refine i_borT ?_ | with_reducible refine i_join ?_ | with_reducible refine i_js0 ?_ | with_reducible refine i_js1 ?_ | with_reducible refine i_sseq ?_ | with_reducible refine i_sret ?_ | with_reducible refine i_sretF ?_ | with_reducible refine i_sexpr ?_ | with_reducible refine i_sset ?_ | with_reducible refine i_sown ?_ | with_reducible refine i_ssetL ?_ | with_reducible refine i_spar ?_ | with_reducible refine i_sasg ?_ | with_reducible refine i_sitem ?_ | with_reducible refine i_sapp ?_ | with_reducible refine i_sfs ?_ | with_reducible refine i_frz ?_ | with_reducible refine i_sfor ?_ | with_reducible refine i_lc ?_ | with_reducible refine i_snil ?_ | with_reducible refine i_nil ?_ | with_reducible refine i_cons ?_ | with_reducible refine i_pure ?_ | with_reducible refine i_lift ?_ | with_reducible refine i_bind ?_ | ((with_reducible apply i_fnW); rfl) | with_reducible refine nxN ?_ | with_reducible refine nxR ?_ | with_reducible refine nxF ?_ | with_reducible refine nxB ?_ | with_reducible refine nxC ?_ | with_reducible refine brN ?_ | with_reducible refine brT ?_ | with_reducible refine brF ?_ | ((with_reducible refine brYes (decide_eq_true ?_) ?_); omega) | ((with_reducible refine brNo (decide_eq_false ?_) ?_); omega) | ((with_reducible refine brYes ?_ ?_); (focus decide)) | ((with_reducible refine brNo ?_ ?_); (focus decide)) | ((with_reducible refine o_mod ?_ ?_); omega) | ((with_reducible refine o_fdiv ?_ ?_ ?_); omega; omega) | ((with_reducible refine o_mul ?_ ?_); omega) | ((with_reducible refine o_pow ?_ ?_); omega) | ((first | with_reducible refine o_addL ?_ ?_ | with_reducible refine o_addT ?_ ?_); (focus (rw [sizeLine_eq]; simp only [List.length_cons, List.length_nil, List.length_append, List.length_map]; omega))) | ((with_reducible refine o_strI (log_small ?_) ?_); omega) | ((with_reducible refine o_fmtI (log_small ?_) ?_); omega) | ((with_reducible refine o_rng1 ?_ ?_); omega) | ((with_reducible refine o_rng1I ?_ ?_ ?_); omega; omega) | ((fail_if_success with_reducible refine noRng1 ?_); (fail_if_success with_reducible refine noRng2 ?_); (fail_if_success with_reducible refine noRng3 ?_); (with_reducible apply opr); rfl) | ((with_reducible refine And.intro ?_ ?_); (first | rfl | decide | assumption | (focus (rw [sizeLine_eq]; simp; done)) | (focus (rw [rangeD_length, sizeLine_eq]; omega)))) | (with_reducible refine Exists.intro _ (And.intro rfl ?_)) | (with_reducible refine Exists.intro _ (Exists.intro _ (And.intro rfl ?_))) | fail))
  simp [retFl]
theorem eq_lk {x y x' y' : Str} {i j : Int} {t u : Bool} (hx : NameOk x) (hy : NameOk y) (hx' : NameOk x') (hy' : NameOk y') (h1 : 0 ≤ i) (h2 : i ≤ 5) (h3 : 0 ≤ j) (h4 : j ≤ 5) : F_Linkx_eqx [.obj 3 [.tup [.str x, .str y, .int i, .bl t]], .obj 3 [.tup [.str x', .str y', .int j, .bl u]]] = some (.bl (eqvD (.tup [.str x, .str y, .int i, .bl t]) (.tup [.str x', .str y', .int j, .bl u]))) := by
  have e := eqD_nice (neg := false) (a := .tup [.str x, .str y, .int i, .bl t]) (b := .tup [.str x', .str y', .int j, .bl u]) (lk_nice hx hy h1 h2 t) (lk_nice hx' hy' h3 h4 u) (by simp [dep, deps]) (by simp [dep, deps])
  refine runD_eq ?_
  unfold m_Linkx_eqx
  (repeat' (first | ((with_reducible apply i_v); rfl) | with_reducible apply opr (e) | with_reducible refine i_2 ?_ | with_reducible refine i_1 ?_ | with_reducible refine i_call ?_ | with_reducible refine i_callF ?_ | with_reducible refine i_2F ?_ | with_reducible refine i_if ?_ | with_reducible refine i_sif ?_ | with_reducible refine i_B ?_ | with_reducible refine i_tru ?_ | with_reducible refine i_not ?_ | with_reducible refine i_and ?_ | with_reducible refine i_or ?_ | with_reducible refine i_notV ?_ | with_reducible refine i_andV ?_ | with_reducible refine i_orV ?_ | with_reducible refine i_ch ?_ | with_reducible refine i_tup ?_ | with_reducible refine i_lst ?_ | with_reducible refine i_sl ?_ | with_reducible refine i_fn ?_ | with_reducible refine i_mk ?_ | with_reducible refine i_me0 ?_ | with_reducible refine i_me ?_ | with_reducible refine i_bor ?_ | with_reducible refine i_borT ?_ | with_reducible refine i_join ?_ | with_reducible refine i_js0 ?_ | with_reducible refine i_js1 ?_ | with_reducible refine i_sseq ?_ | with_reducible refine i_sret ?_ | with_reducible refine i_sretF ?_ | with_reducible refine i_sexpr ?_ | with_reducible refine i_sset ?_ | with_reducible refine i_sown ?_ | with_reducible refine i_ssetL ?_ | with_reducible refine i_spar ?_ | with_reducible refine i_sasg ?_ | with_reducible refine i_sitem ?_ | with_reducible refine i_sapp ?_ | with_reducible refine i_sfs ?_ | with_reducible refine i_frz ?_ | with_reducible refine i_sfor ?_ | with_reducible refine i_lc ?_ | with_reducible refine i_snil ?_ | with_reducible refine i_nil ?_ | with_reducible refine i_cons ?_ | with_reducible refine i_pure ?_ | with_reducible refine i_lift ?_ | with_reducible refine i_bind ?_ | ((with_reducible apply i_fnW); rfl) | with_reducible refine nxN ?_ | with_reducible refine nxR ?_ | with_reducible refine nxF ?_ | with_reducible refine nxB ?_ | with_reducible refine nxC ?_ | with_reducible refine brN ?_ | with_reducible refine brT ?_ | with_reducible refine brF ?_ | ((with_reducible refine brYes (decide_eq_true ?_) ?_); omega) | ((with_reducible refine brNo (decide_eq_false ?_) ?_); omega) | ((with_reducible refine brYes ?_ ?_); (focus decide)) | ((with_reducible refine brNo ?_ ?_); (focus decide)) | ((with_reducible refine o_mod ?_ ?_); omega) | ((with_reducible refine o_fdiv ?_ ?_ ?_); omega; omega) | ((with_reducible refine o_mul ?_ ?_); omega) | ((with_reducible refine o_pow ?_ ?_); omega) | ((first | with_reducible refine o_addL ?_ ?_ | with_reducible refine o_addT ?_ ?_); (focus (rw [sizeLine_eq]; simp only [List.length_cons, List.length_nil, List.length_append, List.length_map]; omega))) | ((with_reducible refine o_strI (log_small ?_) ?_); omega) | ((with_reducible refine o_fmtI (log_small ?_) ?_); omega) | ((with_reducible refine o_rng1 ?_ ?_); omega) | ((with_reducible refine o_rng1I ?_ ?_ ?_); omega; omega) | ((fail_if_success with_reducible refine noRng1 ?_); (fail_if_success with_reducible refine noRng2 ?_); (fail_if_success with_reducible refine noRng3 ?_); (with_reducible apply opr); rfl) | ((with_reducible refine And.intro ?_ ?_); (first | rfl | decide | assumption | (focus (rw [sizeLine_eq]; simp; done)) | (focus (rw [rangeD_length, sizeLine_eq]; omega)))) | (with_reducible refine Exists.intro _ (And.intro rfl ?_)) | (with_reducible refine Exists.intro _ (Exists.intro _ (And.intro rfl ?_))) | fail))
  simp [retFl]
theorem eqX_st {x y : Str} {h k : D} {t u : Bool} (hx : NameOk x) (hy : NameOk y) (hh : HandsOk h) (hk : HandsOk k) : eqX (.obj 2 [.tup [.str x, h, .bl t]]) (.obj 2 [.tup [.str y, k, .bl u]]) = some (.bl (eqvD (.tup [.str x, h, .bl t]) (.tup [.str y, k, .bl u]))) := by
  have : eqO t_Stationx_eqx F_Stationx_eqx (.obj 2 [.tup [.str x, h, .bl t]]) (.obj 2 [.tup [.str y, k, .bl u]]) = some (.bl (eqvD (.tup [.str x, h, .bl t]) (.tup [.str y, k, .bl u]))) := eq_st hx hy hh hk
  show (none : Option D).or ((eqO t_Stationx_eqx F_Stationx_eqx _ _).or _) = _
  rw [this]
  rfl
theorem neX_st {x y : Str} {h k : D} {t u : Bool} (hx : NameOk x) (hy : NameOk y) (hh : HandsOk h) (hk : HandsOk k) : neX (.obj 2 [.tup [.str x, h, .bl t]]) (.obj 2 [.tup [.str y, k, .bl u]]) = some (.bl (!eqvD (.tup [.str x, h, .bl t]) (.tup [.str y, k, .bl u]))) := by
  have : eqO t_Stationx_eqx F_Stationx_eqx (.obj 2 [.tup [.str x, h, .bl t]]) (.obj 2 [.tup [.str y, k, .bl u]]) = some (.bl (eqvD (.tup [.str x, h, .bl t]) (.tup [.str y, k, .bl u]))) := eq_st hx hy hh hk
  show (none : Option D).or (((eqO t_Stationx_eqx F_Stationx_eqx _ _).bind notB).or _) = _
  rw [this]
  rfl
theorem eqX_tt {A B : List D} (ha : nices A = true) (hb : nices B = true) (da : deps A = 0) (db : deps B = 0) : eqX (.tup A) (.tup B) = some (.bl (eqvD (.tup A) (.tup B))) := by
  have e := eqD_nice (neg := false) (a := .tup A) (b := .tup B) ha hb (by rw [dep, da]; decide) (by rw [dep, db]; decide)
  unfold eqX
  rw [e]
  simp
theorem neX_tt {A B : List D} (ha : nices A = true) (hb : nices B = true) (da : deps A = 0) (db : deps B = 0) : neX (.tup A) (.tup B) = some (.bl (!eqvD (.tup A) (.tup B))) := by
  have e := eqD_nice (neg := true) (a := .tup A) (b := .tup B) ha hb (by rw [dep, da]; decide) (by rw [dep, db]; decide)
  unfold neX
  rw [e]
  simp
theorem strX_st {x : Str} {h : D} (hx : NameOk x) (hh : HandsOk h) (t : Bool) : strX [.obj 2 [.tup [.str x, h, .bl t]]] = some (.str (stRow x h t)) := by
  have : strO [2] F_Stationx_strx [.obj 2 [.tup [.str x, h, .bl t]]] = some (.str (stRow x h t)) := by
    simp only [strO, List.mem_cons, List.not_mem_nil, or_false, if_true, e_ststr hx hh t]
  show (none : Option D).or ((strO [2] F_Stationx_strx _).or _) = _
  rw [this]
  rfl
theorem hands1 : HandsOk (.int 1) := .inr ⟨1, rfl, by decide, by decide⟩
theorem e_name (x : D) (h t : D) : F_Station_name [.obj 2 [.tup [x, h, t]]] = some x := rfl
theorem e_hands (x : D) (h t : D) : F_Station_hands [.obj 2 [.tup [x, h, t]]] = some h := rfl
theorem e_timed (x : D) (h t : D) : F_Station_timed [.obj 2 [.tup [x, h, t]]] = some t := rfl
theorem eqX_self {x : Str} {h : D} {t : Bool} (hx : NameOk x) (hh : HandsOk h) : eqX (.obj 2 [.tup [.str x, h, .bl t]]) (.obj 2 [.tup [.str x, h, .bl t]]) = some (.bl true) := by
  rw [eqX_st hx hx hh hh, eqv_refl (d := .tup [.str x, h, .bl t]) (st_nice hx hh t)]
theorem eqX_so (A : D) (B : List D) : eqX (.obj 2 [A]) (.tup B) = some (.bl false) := rfl
theorem neX_so (A : D) (B : List D) : neX (.obj 2 [A]) (.tup B) = some (.bl true) := rfl
theorem eqX_ss (A : D) (B : Str) : eqX (.obj 2 [A]) (.str B) = some (.bl false) := rfl
theorem lit4 : shD (.lst [.bl false, .bl true, .bl false, .bl false]) = ("[False, True, False, False]" : Str) := by decide +kernel
theorem lit3 : shD (.lst [.bl false, .bl true, .bl false]) = ("[False, True, False]" : Str) := by decide +kernel
theorem p_stright {x y : Str} {h k : D} {t u : Bool} (hx : NameOk x) (hy : NameOk y) (hh : HandsOk h) (hk : HandsOk k) : F_law_station_right [.tup [.str x, h, .bl t], .tup [.str y, k, .bl u]] = some (.bl true) := by
  refine runD_eq ?_
  unfold m_law_station_right
  (repeat' (first | ((with_reducible apply i_v); rfl) | ((with_reducible refine gotE (e_station hx hh t) ?_ ?_); rfl) | ((with_reducible refine gotE (e_station hy hk u) ?_ ?_); rfl) | ((with_reducible refine gotE (e_station hx hands1 true) ?_ ?_); rfl) | ((with_reducible refine gotE (e_station hx hands1 t) ?_ ?_); rfl) | ((with_reducible refine gotE (e_station hx hh true) ?_ ?_); rfl) | ((with_reducible refine gotE (e_link hx hx (show (0 : Int) ≤ 0 by decide) (show (0 : Int) ≤ 5 by decide) false) ?_ ?_); rfl) | with_reducible apply opr (r_st hx hh t) | with_reducible apply opr (r_st hy hk u) | with_reducible apply opr (r_st hx hands1 true) | with_reducible apply opr (r_b3 _ _ _) | with_reducible apply opr (r_b4 _ _ _ _) | with_reducible apply opr (r_12 _) | with_reducible apply opr (ne_same _) | with_reducible apply opr (strX_st hx hh t) | with_reducible apply opr (strX_st hy hk u) | ((with_reducible refine gotE (e_strow hx hh t) ?_ ?_); rfl) | ((with_reducible refine gotE (e_strow hy hk u) ?_ ?_); rfl) | with_reducible apply got (e_name _ _ _) | with_reducible apply got (e_hands _ _ _) | with_reducible apply got (e_timed _ _ _) | with_reducible apply opr (eqX_self hx hh) | with_reducible apply opr (eqX_st hx hy hh hk) | with_reducible apply opr (neX_st hx hy hh hk) | with_reducible apply opr (eqX_tt (st_nice hx hh t) (st_nice hy hk u) (st_dep hh t) (st_dep hk u)) | with_reducible apply opr (neX_tt (st_nice hx hh t) (st_nice hy hk u) (st_dep hh t) (st_dep hk u)) | with_reducible apply opr (eqX_so _ _) | with_reducible apply opr (neX_so _ _) | with_reducible apply opr (eqX_ss _ _) | with_reducible apply opr (eq_lit lit4) | with_reducible refine i_2 ?_ | with_reducible refine i_1 ?_ | with_reducible refine i_call ?_ | with_reducible refine i_callF ?_ | with_reducible refine i_2F ?_ | with_reducible refine i_if ?_ | with_reducible refine i_sif ?_ | with_reducible refine i_B ?_ | with_reducible refine i_tru ?_ | with_reducible refine i_not ?_ | with_reducible refine i_and ?_ | with_reducible refine i_or ?_ | with_reducible refine i_notV ?_ | with_reducible refine i_andV ?_ | with_reducible refine i_orV ?_ | with_reducible refine i_ch ?_ | with_reducible refine i_tup ?_ | with_reducible refine i_lst ?_ | with_reducible refine i_sl ?_ | with_reducible refine i_fn ?_ | with_reducible refine i_mk ?_ | with_reducible refine i_me0 ?_ | with_reducible refine i_me ?_ | with_reducible refine i_bor ?_ | with_reducible refine i_borT ?_ | with_reducible refine i_join ?_ | with_reducible refine i_js0 ?_ | with_reducible refine i_js1 ?_ | with_reducible refine i_sseq ?_ | with_reducible refine i_sret ?_ | with_reducible refine i_sretF ?_ | with_reducible refine i_sexpr ?_ | with_reducible refine i_sset ?_ | with_reducible refine i_sown ?_ | with_reducible refine i_ssetL ?_ | with_reducible refine i_spar ?_ | with_reducible refine i_sasg ?_ | with_reducible refine i_sitem ?_ | with_reducible refine i_sapp ?_ | with_reducible refine i_sfs ?_ | with_reducible refine i_frz ?_ | with_reducible refine i_sfor ?_ | with_reducible refine i_lc ?_ | with_reducible refine i_snil ?_ | with_reducible refine i_nil ?_ | with_reducible refine i_cons ?_ | with_reducible refine i_pure ?_ | with_reducible refine i_lift ?_ | with_reducible refine i_bind ?_ | ((with_reducible apply i_fnW); rfl) | with_reducible refine nxN ?_ | with_reducible refine nxR ?_ | with_reducible refine nxF ?_ | with_reducible refine nxB ?_ | with_reducible refine nxC ?_ | with_reducible refine brN ?_ | with_reducible refine brT ?_ | with_reducible refine brF ?_ | ((with_reducible refine brYes (decide_eq_true ?_) ?_); omega) | ((with_reducible refine brNo (decide_eq_false ?_) ?_); omega) | ((with_reducible refine brYes ?_ ?_); (focus decide)) | ((with_reducible refine brNo ?_ ?_); (focus decide)) | ((with_reducible refine o_mod ?_ ?_); omega) | ((with_reducible refine o_fdiv ?_ ?_ ?_); omega; omega) | ((with_reducible refine o_mul ?_ ?_); omega) | ((with_reducible refine o_pow ?_ ?_); omega) | ((first | with_reducible refine o_addL ?_ ?_ | with_reducible refine o_addT ?_ ?_); (focus (rw [sizeLine_eq]; simp only [List.length_cons, List.length_nil, List.length_append, List.length_map]; omega))) | ((with_reducible refine o_strI (log_small ?_) ?_); omega) | ((with_reducible refine o_fmtI (log_small ?_) ?_); omega) | ((with_reducible refine o_rng1 ?_ ?_); omega) | ((with_reducible refine o_rng1I ?_ ?_ ?_); omega; omega) | ((fail_if_success with_reducible refine noRng1 ?_); (fail_if_success with_reducible refine noRng2 ?_); (fail_if_success with_reducible refine noRng3 ?_); (with_reducible apply opr); rfl) | ((with_reducible refine And.intro ?_ ?_); (first | rfl | decide | assumption | (focus (rw [sizeLine_eq]; simp; done)) | (focus (rw [rangeD_length, sizeLine_eq]; omega)))) | (with_reducible refine Exists.intro _ (And.intro rfl ?_)) | (with_reducible refine Exists.intro _ (Exists.intro _ (And.intro rfl ?_))) | fail))
  rfl
theorem lk_dep {x y : Str} {i : Int} (t : Bool) : deps [.str x, .str y, .int i, .bl t] = 0 := rfl
theorem eqX_lk {x y x' y' : Str} {i j : Int} {t u : Bool} (hx : NameOk x) (hy : NameOk y) (hx' : NameOk x') (hy' : NameOk y') (h1 : 0 ≤ i) (h2 : i ≤ 5) (h3 : 0 ≤ j) (h4 : j ≤ 5) : eqX (.obj 3 [.tup [.str x, .str y, .int i, .bl t]]) (.obj 3 [.tup [.str x', .str y', .int j, .bl u]]) = some (.bl (eqvD (.tup [.str x, .str y, .int i, .bl t]) (.tup [.str x', .str y', .int j, .bl u]))) := by
  have : eqO t_Linkx_eqx F_Linkx_eqx (.obj 3 [.tup [.str x, .str y, .int i, .bl t]]) (.obj 3 [.tup [.str x', .str y', .int j, .bl u]]) = some (.bl (eqvD (.tup [.str x, .str y, .int i, .bl t]) (.tup [.str x', .str y', .int j, .bl u]))) := eq_lk hx hy hx' hy' h1 h2 h3 h4
  show (none : Option D).or ((none : Option D).or (eqO t_Linkx_eqx F_Linkx_eqx _ _)) = _
  rw [this]
  rfl
theorem neX_lk {x y x' y' : Str} {i j : Int} {t u : Bool} (hx : NameOk x) (hy : NameOk y) (hx' : NameOk x') (hy' : NameOk y') (h1 : 0 ≤ i) (h2 : i ≤ 5) (h3 : 0 ≤ j) (h4 : j ≤ 5) : neX (.obj 3 [.tup [.str x, .str y, .int i, .bl t]]) (.obj 3 [.tup [.str x', .str y', .int j, .bl u]]) = some (.bl (!eqvD (.tup [.str x, .str y, .int i, .bl t]) (.tup [.str x', .str y', .int j, .bl u]))) := by
  have : eqO t_Linkx_eqx F_Linkx_eqx (.obj 3 [.tup [.str x, .str y, .int i, .bl t]]) (.obj 3 [.tup [.str x', .str y', .int j, .bl u]]) = some (.bl (eqvD (.tup [.str x, .str y, .int i, .bl t]) (.tup [.str x', .str y', .int j, .bl u]))) := eq_lk hx hy hx' hy' h1 h2 h3 h4
  show (none : Option D).or ((none : Option D).or ((eqO t_Linkx_eqx F_Linkx_eqx _ _).bind notB)) = _
  rw [this]
  rfl
theorem eqX_lself {x y : Str} {i : Int} {t : Bool} (hx : NameOk x) (hy : NameOk y) (h1 : 0 ≤ i) (h2 : i ≤ 5) : eqX (.obj 3 [.tup [.str x, .str y, .int i, .bl t]]) (.obj 3 [.tup [.str x, .str y, .int i, .bl t]]) = some (.bl true) := by
  rw [eqX_lk hx hy hx hy h1 h2 h1 h2, eqv_refl (d := .tup [.str x, .str y, .int i, .bl t]) (lk_nice hx hy h1 h2 t)]
theorem strX_lk {x y : Str} {i : Int} (hx : NameOk x) (hy : NameOk y) (h1 : 0 ≤ i) (h2 : i ≤ 5) (t : Bool) : strX [.obj 3 [.tup [.str x, .str y, .int i, .bl t]]] = some (.str (lkRow x y i t)) := by
  have : strO [3] F_Linkx_strx [.obj 3 [.tup [.str x, .str y, .int i, .bl t]]] = some (.str (lkRow x y i t)) := by
    simp only [strO, List.mem_cons, List.not_mem_nil, or_false, if_true, e_lkstr hx hy h1 h2 t]
  show (none : Option D).or ((none : Option D).or (strO [3] F_Linkx_strx _)) = _
  rw [this]
  rfl
theorem eqX_lo (A : D) (B : List D) : eqX (.obj 3 [A]) (.tup B) = some (.bl false) := rfl
theorem neX_lo (A : D) (B : List D) : neX (.obj 3 [A]) (.tup B) = some (.bl true) := rfl
theorem eqX_ls (A B : D) : eqX (.obj 3 [A]) (.obj 2 [B]) = some (.bl false) := rfl
theorem e_source (x y i t : D) : F_Link_source [.obj 3 [.tup [x, y, i, t]]] = some x := rfl
theorem e_target (x y i t : D) : F_Link_target [.obj 3 [.tup [x, y, i, t]]] = some y := rfl
theorem e_stock (x y i t : D) : F_Link_stock [.obj 3 [.tup [x, y, i, t]]] = some i := rfl
theorem e_early (x y i t : D) : F_Link_early [.obj 3 [.tup [x, y, i, t]]] = some t := rfl
theorem i0 : (0 : Int) ≤ 0 := by decide
theorem i5 : (0 : Int) ≤ 5 := by decide
theorem neX_i (i j : Int) : neX (.int i) (.int j) = some (.bl (decide (i = j) != true)) := rfl
theorem p_lkright {x y x' y' : Str} {i j : Int} {t u : Bool} (hx : NameOk x) (hy : NameOk y) (hx' : NameOk x') (hy' : NameOk y') (h1 : 0 ≤ i) (h2 : i ≤ 5) (h3 : 0 ≤ j) (h4 : j ≤ 5) : F_law_link_right [.tup [.str x, .str y, .int i, .bl t], .tup [.str x', .str y', .int j, .bl u]] = some (.bl true) := by
  refine runD_eq ?_
  unfold m_law_link_right
  (repeat' (first | ((with_reducible apply i_v); rfl) | ((with_reducible refine gotE (e_link hx hy h1 h2 t) ?_ ?_); rfl) | ((with_reducible refine gotE (e_link hx' hy' h3 h4 u) ?_ ?_); rfl) | ((with_reducible refine gotE (e_link hx hy i0 i5 false) ?_ ?_); rfl) | ((with_reducible refine gotE (e_link hx hy h1 h2 false) ?_ ?_); rfl) | ((with_reducible refine gotE (e_link hx hy i0 i5 t) ?_ ?_); rfl) | ((with_reducible refine gotE (e_station hx hands1 true) ?_ ?_); rfl) | with_reducible apply opr (r_lk hx hy h1 h2 t) | with_reducible apply opr (r_lk hx' hy' h3 h4 u) | with_reducible apply opr (r_lk hx hy i0 i5 false) | with_reducible apply opr (r_b3 _ _ _) | with_reducible apply opr (ne_same _) | with_reducible apply opr (strX_lk hx hy h1 h2 t) | with_reducible apply opr (strX_lk hx' hy' h3 h4 u) | ((with_reducible refine gotE (e_lkrow hx hy h1 h2 t) ?_ ?_); rfl) | ((with_reducible refine gotE (e_lkrow hx' hy' h3 h4 u) ?_ ?_); rfl) | with_reducible apply got (e_source _ _ _ _) | with_reducible apply got (e_target _ _ _ _) | with_reducible apply got (e_stock _ _ _ _) | with_reducible apply got (e_early _ _ _ _) | with_reducible apply opr (eqX_lself hx hy h1 h2) | with_reducible apply opr (eqX_lk hx hy hx' hy' h1 h2 h3 h4) | with_reducible apply opr (neX_lk hx hy hx' hy' h1 h2 h3 h4) | with_reducible apply opr (eqX_tt (lk_nice hx hy h1 h2 t) (lk_nice hx' hy' h3 h4 u) (lk_dep t) (lk_dep u)) | with_reducible apply opr (neX_tt (lk_nice hx hy h1 h2 t) (lk_nice hx' hy' h3 h4 u) (lk_dep t) (lk_dep u)) | with_reducible apply opr (eqX_lo _ _) | with_reducible apply opr (neX_lo _ _) | with_reducible apply opr (eqX_ls _ _) | with_reducible apply opr (neX_i _ _) | with_reducible apply opr (eq_lit lit3) | with_reducible refine i_2 ?_ | with_reducible refine i_1 ?_ | with_reducible refine i_call ?_ | with_reducible refine i_callF ?_ | with_reducible refine i_2F ?_ | with_reducible refine i_if ?_ | with_reducible refine i_sif ?_ | with_reducible refine i_B ?_ | with_reducible refine i_tru ?_ | with_reducible refine i_not ?_ | with_reducible refine i_and ?_ | with_reducible refine i_or ?_ | with_reducible refine i_notV ?_ | with_reducible refine i_andV ?_ | with_reducible refine i_orV ?_ | with_reducible refine i_ch ?_ | with_reducible refine i_tup ?_ | with_reducible refine i_lst ?_ | with_reducible refine i_sl ?_ | with_reducible refine i_fn ?_ | with_reducible refine i_mk ?_ | with_reducible refine i_me0 ?_ | with_reducible refine i_me ?_ | with_reducible refine i_bor ?_ | with_reducible refine i_borT ?_ | with_reducible refine i_join ?_ | with_reducible refine i_js0 ?_ | with_reducible refine i_js1 ?_ | with_reducible refine i_sseq ?_ | with_reducible refine i_sret ?_ | with_reducible refine i_sretF ?_ | with_reducible refine i_sexpr ?_ | with_reducible refine i_sset ?_ | with_reducible refine i_sown ?_ | with_reducible refine i_ssetL ?_ | with_reducible refine i_spar ?_ | with_reducible refine i_sasg ?_ | with_reducible refine i_sitem ?_ | with_reducible refine i_sapp ?_ | with_reducible refine i_sfs ?_ | with_reducible refine i_frz ?_ | with_reducible refine i_sfor ?_ | with_reducible refine i_lc ?_ | with_reducible refine i_snil ?_ | with_reducible refine i_nil ?_ | with_reducible refine i_cons ?_ | with_reducible refine i_pure ?_ | with_reducible refine i_lift ?_ | with_reducible refine i_bind ?_ | ((with_reducible apply i_fnW); rfl) | with_reducible refine nxN ?_ | with_reducible refine nxR ?_ | with_reducible refine nxF ?_ | with_reducible refine nxB ?_ | with_reducible refine nxC ?_ | with_reducible refine brN ?_ | with_reducible refine brT ?_ | with_reducible refine brF ?_ | ((with_reducible refine brYes (decide_eq_true ?_) ?_); omega) | ((with_reducible refine brNo (decide_eq_false ?_) ?_); omega) | ((with_reducible refine brYes ?_ ?_); (focus decide)) | ((with_reducible refine brNo ?_ ?_); (focus decide)) | ((with_reducible refine o_mod ?_ ?_); omega) | ((with_reducible refine o_fdiv ?_ ?_ ?_); omega; omega) | ((with_reducible refine o_mul ?_ ?_); omega) | ((with_reducible refine o_pow ?_ ?_); omega) | ((first | with_reducible refine o_addL ?_ ?_ | with_reducible refine o_addT ?_ ?_); (focus (rw [sizeLine_eq]; simp only [List.length_cons, List.length_nil, List.length_append, List.length_map]; omega))) | ((with_reducible refine o_strI (log_small ?_) ?_); omega) | ((with_reducible refine o_fmtI (log_small ?_) ?_); omega) | ((with_reducible refine o_rng1 ?_ ?_); omega) | ((with_reducible refine o_rng1I ?_ ?_ ?_); omega; omega) | ((fail_if_success with_reducible refine noRng1 ?_); (fail_if_success with_reducible refine noRng2 ?_); (fail_if_success with_reducible refine noRng3 ?_); (with_reducible apply opr); rfl) | ((with_reducible refine And.intro ?_ ?_); (first | rfl | decide | assumption | (focus (rw [sizeLine_eq]; simp; done)) | (focus (rw [rangeD_length, sizeLine_eq]; omega)))) | (with_reducible refine Exists.intro _ (And.intro rfl ?_)) | (with_reducible refine Exists.intro _ (Exists.intro _ (And.intro rfl ?_))) | fail))
  rfl
end Lw
set_option Elab.async false
set_option linter.all false
set_option maxRecDepth 100000
set_option maxHeartbeats 4000000
namespace Lw
open PySem L2 Dv
def IsSt (d : D) : Prop := ∃ x h t, d = .tup [.str x, h, .bl t] ∧ NameOk x ∧ HandsOk h
def IsLk (d : D) : Prop := ∃ x y i t, d = .tup [.str x, .str y, .int i, .bl t] ∧ NameOk x ∧ NameOk y ∧ 0 ≤ i ∧ i ≤ 5
theorem hands_mem {d : D} (h : d ∈ [D.int 1, .int 2, .int 3, .int 4, .non]) : HandsOk d := by
  simp only [List.mem_cons, List.not_mem_nil, or_false] at h
  rcases h with rfl | rfl | rfl | rfl | rfl
  · exact .inr ⟨1, rfl, by decide, by decide⟩
  · exact .inr ⟨2, rfl, by decide, by decide⟩
  · exact .inr ⟨3, rfl, by decide, by decide⟩
  · exact .inr ⟨4, rfl, by decide, by decide⟩
  · exact .inl rfl
theorem p_turn0 {l : List D} (h : WellOk l) : ∃ d l', F_law_turn l [] = some (d, l') ∧ d = .bl true ∧ WellOk l' := by
  refine runW_ex ?_
  unfold m_law_turn
  (repeat' (first | ((with_reducible apply i_v); rfl) | with_reducible refine i_2 ?_ | with_reducible refine i_1 ?_ | with_reducible refine i_call ?_ | with_reducible refine i_callF ?_ | with_reducible refine i_2F ?_ | with_reducible refine i_if ?_ | with_reducible refine i_sif ?_ | with_reducible refine i_B ?_ | with_reducible refine i_tru ?_ | with_reducible refine i_not ?_ | with_reducible refine i_and ?_ | with_reducible refine i_or ?_ | with_reducible refine i_notV ?_ | with_reducible refine i_andV ?_ | with_reducible refine i_orV ?_ | with_reducible refine i_ch ?_ | with_reducible refine i_tup ?_ | with_reducible refine i_lst ?_ | with_reducible refine i_sl ?_ | with_reducible refine i_fn ?_ | with_reducible refine i_mk ?_ | with_reducible refine i_me0 ?_ | with_reducible refine i_me ?_ | with_reducible refine i_bor ?_ | with_reducible refine i_borT ?_ | with_reducible refine i_join ?_ | with_reducible refine i_js0 ?_ | with_reducible refine i_js1 ?_ | with_reducible refine i_sseq ?_ | with_reducible refine i_sret ?_ | with_reducible refine i_sretF ?_ | with_reducible refine i_sexpr ?_ | with_reducible refine i_sset ?_ | with_reducible refine i_sown ?_ | with_reducible refine i_ssetL ?_ | with_reducible refine i_spar ?_ | with_reducible refine i_sasg ?_ | with_reducible refine i_sitem ?_ | with_reducible refine i_sapp ?_ | with_reducible refine i_sfs ?_ | with_reducible refine i_frz ?_ | with_reducible refine i_sfor ?_ | with_reducible refine i_lc ?_ | with_reducible refine i_snil ?_ | with_reducible refine i_nil ?_ | with_reducible refine i_cons ?_ | with_reducible refine i_pure ?_ | with_reducible refine i_lift ?_ | with_reducible refine i_bind ?_ | ((with_reducible apply i_fnW); rfl) | with_reducible refine nxN ?_ | with_reducible refine nxR ?_ | with_reducible refine nxF ?_ | with_reducible refine nxB ?_ | with_reducible refine nxC ?_ | with_reducible refine brN ?_ | with_reducible refine brT ?_ | with_reducible refine brF ?_ | ((with_reducible refine brYes (decide_eq_true ?_) ?_); omega) | ((with_reducible refine brNo (decide_eq_false ?_) ?_); omega) | ((with_reducible refine brYes ?_ ?_); (focus decide)) | ((with_reducible refine brNo ?_ ?_); (focus decide)) | ((with_reducible refine o_mod ?_ ?_); omega) | ((with_reducible refine o_fdiv ?_ ?_ ?_); omega; omega) | ((with_reducible refine o_mul ?_ ?_); omega) | ((with_reducible refine o_pow ?_ ?_); omega) | ((first | with_reducible refine o_addL ?_ ?_ | with_reducible refine o_addT ?_ ?_); (focus (rw [sizeLine_eq]; simp only [List.length_cons, List.length_nil, List.length_append, List.length_map]; omega))) | ((with_reducible refine o_strI (log_small ?_) ?_); omega) | ((with_reducible refine o_fmtI (log_small ?_) ?_); omega) | ((with_reducible refine o_rng1 ?_ ?_); omega) | ((with_reducible refine o_rng1I ?_ ?_ ?_); omega; omega) | ((fail_if_success with_reducible refine noRng1 ?_); (fail_if_success with_reducible refine noRng2 ?_); (fail_if_success with_reducible refine noRng3 ?_); (with_reducible apply opr); rfl) | ((with_reducible refine And.intro ?_ ?_); (first | rfl | decide | assumption | (focus (rw [sizeLine_eq]; simp; done)) | (focus (rw [rangeD_length, sizeLine_eq]; omega)))) | (with_reducible refine Exists.intro _ (And.intro rfl ?_)) | (with_reducible refine Exists.intro _ (Exists.intro _ (And.intro rfl ?_))) | fail))
  refine p_names 4 (by decide) h fun xs l1 hl hx h1 => ?_
  obtain ⟨x0, x1, x2, x3, rfl⟩ : ∃ x0 x1 x2 x3, xs = [x0, x1, x2, x3] := by
    match xs, hl with
    | [a, b, c, d], _ => exact ⟨a, b, c, d, rfl⟩
  have n0 := hx x0 (by simp)
  have n1 := hx x1 (by simp)
  have n2 := hx x2 (by simp)
  have n3 := hx x3 (by simp)
  simp only [List.map_cons, List.map_nil]
  try simp only [start0, List.map_cons, List.map_nil, List.length_cons, List.length_nil, Nat.reduceSub, Nat.reduceAdd, Nat.sub_zero, Nat.zero_add, List.replicate_succ, List.replicate_zero, List.cons_append, List.nil_append, List.set_cons_zero, List.set_cons_succ]
  (repeat' (first | ((with_reducible apply i_v); rfl) | with_reducible refine i_2 ?_ | with_reducible refine i_1 ?_ | with_reducible refine i_call ?_ | with_reducible refine i_callF ?_ | with_reducible refine i_2F ?_ | with_reducible refine i_if ?_ | with_reducible refine i_sif ?_ | with_reducible refine i_B ?_ | with_reducible refine i_tru ?_ | with_reducible refine i_not ?_ | with_reducible refine i_and ?_ | with_reducible refine i_or ?_ | with_reducible refine i_notV ?_ | with_reducible refine i_andV ?_ | with_reducible refine i_orV ?_ | with_reducible refine i_ch ?_ | with_reducible refine i_tup ?_ | with_reducible refine i_lst ?_ | with_reducible refine i_sl ?_ | with_reducible refine i_fn ?_ | with_reducible refine i_mk ?_ | with_reducible refine i_me0 ?_ | with_reducible refine i_me ?_ | with_reducible refine i_bor ?_ | with_reducible refine i_borT ?_ | with_reducible refine i_join ?_ | with_reducible refine i_js0 ?_ | with_reducible refine i_js1 ?_ | with_reducible refine i_sseq ?_ | with_reducible refine i_sret ?_ | with_reducible refine i_sretF ?_ | with_reducible refine i_sexpr ?_ | with_reducible refine i_sset ?_ | with_reducible refine i_sown ?_ | with_reducible refine i_ssetL ?_ | with_reducible refine i_spar ?_ | with_reducible refine i_sasg ?_ | with_reducible refine i_sitem ?_ | with_reducible refine i_sapp ?_ | with_reducible refine i_sfs ?_ | with_reducible refine i_frz ?_ | with_reducible refine i_sfor ?_ | with_reducible refine i_lc ?_ | with_reducible refine i_snil ?_ | with_reducible refine i_nil ?_ | with_reducible refine i_cons ?_ | with_reducible refine i_pure ?_ | with_reducible refine i_lift ?_ | with_reducible refine i_bind ?_ | ((with_reducible apply i_fnW); rfl) | with_reducible refine nxN ?_ | with_reducible refine nxR ?_ | with_reducible refine nxF ?_ | with_reducible refine nxB ?_ | with_reducible refine nxC ?_ | with_reducible refine brN ?_ | with_reducible refine brT ?_ | with_reducible refine brF ?_ | ((with_reducible refine brYes (decide_eq_true ?_) ?_); omega) | ((with_reducible refine brNo (decide_eq_false ?_) ?_); omega) | ((with_reducible refine brYes ?_ ?_); (focus decide)) | ((with_reducible refine brNo ?_ ?_); (focus decide)) | ((with_reducible refine o_mod ?_ ?_); omega) | ((with_reducible refine o_fdiv ?_ ?_ ?_); omega; omega) | ((with_reducible refine o_mul ?_ ?_); omega) | ((with_reducible refine o_pow ?_ ?_); omega) | ((first | with_reducible refine o_addL ?_ ?_ | with_reducible refine o_addT ?_ ?_); (focus (rw [sizeLine_eq]; simp only [List.length_cons, List.length_nil, List.length_append, List.length_map]; omega))) | ((with_reducible refine o_strI (log_small ?_) ?_); omega) | ((with_reducible refine o_fmtI (log_small ?_) ?_); omega) | ((with_reducible refine o_rng1 ?_ ?_); omega) | ((with_reducible refine o_rng1I ?_ ?_ ?_); omega; omega) | ((fail_if_success with_reducible refine noRng1 ?_); (fail_if_success with_reducible refine noRng2 ?_); (fail_if_success with_reducible refine noRng3 ?_); (with_reducible apply opr); rfl) | ((with_reducible refine And.intro ?_ ?_); (first | rfl | decide | assumption | (focus (rw [sizeLine_eq]; simp; done)) | (focus (rw [rangeD_length, sizeLine_eq]; omega)))) | (with_reducible refine Exists.intro _ (And.intro rfl ?_)) | (with_reducible refine Exists.intro _ (Exists.intro _ (And.intro rfl ?_))) | fail))
  refine p_draw h1 (by decide) (by decide) fun r1 l2 hr1 h2 => ?_
  refine o_ixL (by simp; omega) fun ha hha => ?_
  have hha := hands_mem hha
  try simp only [start0, List.map_cons, List.map_nil, List.length_cons, List.length_nil, Nat.reduceSub, Nat.reduceAdd, Nat.sub_zero, Nat.zero_add, List.replicate_succ, List.replicate_zero, List.cons_append, List.nil_append, List.set_cons_zero, List.set_cons_succ]
  (repeat' (first | ((with_reducible apply i_v); rfl) | with_reducible refine i_2 ?_ | with_reducible refine i_1 ?_ | with_reducible refine i_call ?_ | with_reducible refine i_callF ?_ | with_reducible refine i_2F ?_ | with_reducible refine i_if ?_ | with_reducible refine i_sif ?_ | with_reducible refine i_B ?_ | with_reducible refine i_tru ?_ | with_reducible refine i_not ?_ | with_reducible refine i_and ?_ | with_reducible refine i_or ?_ | with_reducible refine i_notV ?_ | with_reducible refine i_andV ?_ | with_reducible refine i_orV ?_ | with_reducible refine i_ch ?_ | with_reducible refine i_tup ?_ | with_reducible refine i_lst ?_ | with_reducible refine i_sl ?_ | with_reducible refine i_fn ?_ | with_reducible refine i_mk ?_ | with_reducible refine i_me0 ?_ | with_reducible refine i_me ?_ | with_reducible refine i_bor ?_ | with_reducible refine i_borT ?_ | with_reducible refine i_join ?_ | with_reducible refine i_js0 ?_ | with_reducible refine i_js1 ?_ | with_reducible refine i_sseq ?_ | with_reducible refine i_sret ?_ | with_reducible refine i_sretF ?_ | with_reducible refine i_sexpr ?_ | with_reducible refine i_sset ?_ | with_reducible refine i_sown ?_ | with_reducible refine i_ssetL ?_ | with_reducible refine i_spar ?_ | with_reducible refine i_sasg ?_ | with_reducible refine i_sitem ?_ | with_reducible refine i_sapp ?_ | with_reducible refine i_sfs ?_ | with_reducible refine i_frz ?_ | with_reducible refine i_sfor ?_ | with_reducible refine i_lc ?_ | with_reducible refine i_snil ?_ | with_reducible refine i_nil ?_ | with_reducible refine i_cons ?_ | with_reducible refine i_pure ?_ | with_reducible refine i_lift ?_ | with_reducible refine i_bind ?_ | ((with_reducible apply i_fnW); rfl) | with_reducible refine nxN ?_ | with_reducible refine nxR ?_ | with_reducible refine nxF ?_ | with_reducible refine nxB ?_ | with_reducible refine nxC ?_ | with_reducible refine brN ?_ | with_reducible refine brT ?_ | with_reducible refine brF ?_ | ((with_reducible refine brYes (decide_eq_true ?_) ?_); omega) | ((with_reducible refine brNo (decide_eq_false ?_) ?_); omega) | ((with_reducible refine brYes ?_ ?_); (focus decide)) | ((with_reducible refine brNo ?_ ?_); (focus decide)) | ((with_reducible refine o_mod ?_ ?_); omega) | ((with_reducible refine o_fdiv ?_ ?_ ?_); omega; omega) | ((with_reducible refine o_mul ?_ ?_); omega) | ((with_reducible refine o_pow ?_ ?_); omega) | ((first | with_reducible refine o_addL ?_ ?_ | with_reducible refine o_addT ?_ ?_); (focus (rw [sizeLine_eq]; simp only [List.length_cons, List.length_nil, List.length_append, List.length_map]; omega))) | ((with_reducible refine o_strI (log_small ?_) ?_); omega) | ((with_reducible refine o_fmtI (log_small ?_) ?_); omega) | ((with_reducible refine o_rng1 ?_ ?_); omega) | ((with_reducible refine o_rng1I ?_ ?_ ?_); omega; omega) | ((fail_if_success with_reducible refine noRng1 ?_); (fail_if_success with_reducible refine noRng2 ?_); (fail_if_success with_reducible refine noRng3 ?_); (with_reducible apply opr); rfl) | ((with_reducible refine And.intro ?_ ?_); (first | rfl | decide | assumption | (focus (rw [sizeLine_eq]; simp; done)) | (focus (rw [rangeD_length, sizeLine_eq]; omega)))) | (with_reducible refine Exists.intro _ (And.intro rfl ?_)) | (with_reducible refine Exists.intro _ (Exists.intro _ (And.intro rfl ?_))) | fail))
  refine p_draw h2 (by decide) (by decide) fun r2 l3 hr2 h3 => ?_
  try simp only [start0, List.map_cons, List.map_nil, List.length_cons, List.length_nil, Nat.reduceSub, Nat.reduceAdd, Nat.sub_zero, Nat.zero_add, List.replicate_succ, List.replicate_zero, List.cons_append, List.nil_append, List.set_cons_zero, List.set_cons_succ]
  (repeat' (first | ((with_reducible apply i_v); rfl) | with_reducible refine i_2 ?_ | with_reducible refine i_1 ?_ | with_reducible refine i_call ?_ | with_reducible refine i_callF ?_ | with_reducible refine i_2F ?_ | with_reducible refine i_if ?_ | with_reducible refine i_sif ?_ | with_reducible refine i_B ?_ | with_reducible refine i_tru ?_ | with_reducible refine i_not ?_ | with_reducible refine i_and ?_ | with_reducible refine i_or ?_ | with_reducible refine i_notV ?_ | with_reducible refine i_andV ?_ | with_reducible refine i_orV ?_ | with_reducible refine i_ch ?_ | with_reducible refine i_tup ?_ | with_reducible refine i_lst ?_ | with_reducible refine i_sl ?_ | with_reducible refine i_fn ?_ | with_reducible refine i_mk ?_ | with_reducible refine i_me0 ?_ | with_reducible refine i_me ?_ | with_reducible refine i_bor ?_ | with_reducible refine i_borT ?_ | with_reducible refine i_join ?_ | with_reducible refine i_js0 ?_ | with_reducible refine i_js1 ?_ | with_reducible refine i_sseq ?_ | with_reducible refine i_sret ?_ | with_reducible refine i_sretF ?_ | with_reducible refine i_sexpr ?_ | with_reducible refine i_sset ?_ | with_reducible refine i_sown ?_ | with_reducible refine i_ssetL ?_ | with_reducible refine i_spar ?_ | with_reducible refine i_sasg ?_ | with_reducible refine i_sitem ?_ | with_reducible refine i_sapp ?_ | with_reducible refine i_sfs ?_ | with_reducible refine i_frz ?_ | with_reducible refine i_sfor ?_ | with_reducible refine i_lc ?_ | with_reducible refine i_snil ?_ | with_reducible refine i_nil ?_ | with_reducible refine i_cons ?_ | with_reducible refine i_pure ?_ | with_reducible refine i_lift ?_ | with_reducible refine i_bind ?_ | ((with_reducible apply i_fnW); rfl) | with_reducible refine nxN ?_ | with_reducible refine nxR ?_ | with_reducible refine nxF ?_ | with_reducible refine nxB ?_ | with_reducible refine nxC ?_ | with_reducible refine brN ?_ | with_reducible refine brT ?_ | with_reducible refine brF ?_ | ((with_reducible refine brYes (decide_eq_true ?_) ?_); omega) | ((with_reducible refine brNo (decide_eq_false ?_) ?_); omega) | ((with_reducible refine brYes ?_ ?_); (focus decide)) | ((with_reducible refine brNo ?_ ?_); (focus decide)) | ((with_reducible refine o_mod ?_ ?_); omega) | ((with_reducible refine o_fdiv ?_ ?_ ?_); omega; omega) | ((with_reducible refine o_mul ?_ ?_); omega) | ((with_reducible refine o_pow ?_ ?_); omega) | ((first | with_reducible refine o_addL ?_ ?_ | with_reducible refine o_addT ?_ ?_); (focus (rw [sizeLine_eq]; simp only [List.length_cons, List.length_nil, List.length_append, List.length_map]; omega))) | ((with_reducible refine o_strI (log_small ?_) ?_); omega) | ((with_reducible refine o_fmtI (log_small ?_) ?_); omega) | ((with_reducible refine o_rng1 ?_ ?_); omega) | ((with_reducible refine o_rng1I ?_ ?_ ?_); omega; omega) | ((fail_if_success with_reducible refine noRng1 ?_); (fail_if_success with_reducible refine noRng2 ?_); (fail_if_success with_reducible refine noRng3 ?_); (with_reducible apply opr); rfl) | ((with_reducible refine And.intro ?_ ?_); (first | rfl | decide | assumption | (focus (rw [sizeLine_eq]; simp; done)) | (focus (rw [rangeD_length, sizeLine_eq]; omega)))) | (with_reducible refine Exists.intro _ (And.intro rfl ?_)) | (with_reducible refine Exists.intro _ (Exists.intro _ (And.intro rfl ?_))) | fail))
  refine p_draw h3 (by decide) (by decide) fun r3 l4 hr3 h4 => ?_
  refine o_ixL (by simp; omega) fun hb hhb => ?_
  have hhb := hands_mem hhb
  try simp only [start0, List.map_cons, List.map_nil, List.length_cons, List.length_nil, Nat.reduceSub, Nat.reduceAdd, Nat.sub_zero, Nat.zero_add, List.replicate_succ, List.replicate_zero, List.cons_append, List.nil_append, List.set_cons_zero, List.set_cons_succ]
  (repeat' (first | ((with_reducible apply i_v); rfl) | with_reducible refine i_2 ?_ | with_reducible refine i_1 ?_ | with_reducible refine i_call ?_ | with_reducible refine i_callF ?_ | with_reducible refine i_2F ?_ | with_reducible refine i_if ?_ | with_reducible refine i_sif ?_ | with_reducible refine i_B ?_ | with_reducible refine i_tru ?_ | with_reducible refine i_not ?_ | with_reducible refine i_and ?_ | with_reducible refine i_or ?_ | with_reducible refine i_notV ?_ | with_reducible refine i_andV ?_ | with_reducible refine i_orV ?_ | with_reducible refine i_ch ?_ | with_reducible refine i_tup ?_ | with_reducible refine i_lst ?_ | with_reducible refine i_sl ?_ | with_reducible refine i_fn ?_ | with_reducible refine i_mk ?_ | with_reducible refine i_me0 ?_ | with_reducible refine i_me ?_ | with_reducible refine i_bor ?_ | with_reducible refine i_borT ?_ | with_reducible refine i_join ?_ | with_reducible refine i_js0 ?_ | with_reducible refine i_js1 ?_ | with_reducible refine i_sseq ?_ | with_reducible refine i_sret ?_ | with_reducible refine i_sretF ?_ | with_reducible refine i_sexpr ?_ | with_reducible refine i_sset ?_ | with_reducible refine i_sown ?_ | with_reducible refine i_ssetL ?_ | with_reducible refine i_spar ?_ | with_reducible refine i_sasg ?_ | with_reducible refine i_sitem ?_ | with_reducible refine i_sapp ?_ | with_reducible refine i_sfs ?_ | with_reducible refine i_frz ?_ | with_reducible refine i_sfor ?_ | with_reducible refine i_lc ?_ | with_reducible refine i_snil ?_ | with_reducible refine i_nil ?_ | with_reducible refine i_cons ?_ | with_reducible refine i_pure ?_ | with_reducible refine i_lift ?_ | with_reducible refine i_bind ?_ | ((with_reducible apply i_fnW); rfl) | with_reducible refine nxN ?_ | with_reducible refine nxR ?_ | with_reducible refine nxF ?_ | with_reducible refine nxB ?_ | with_reducible refine nxC ?_ | with_reducible refine brN ?_ | with_reducible refine brT ?_ | with_reducible refine brF ?_ | ((with_reducible refine brYes (decide_eq_true ?_) ?_); omega) | ((with_reducible refine brNo (decide_eq_false ?_) ?_); omega) | ((with_reducible refine brYes ?_ ?_); (focus decide)) | ((with_reducible refine brNo ?_ ?_); (focus decide)) | ((with_reducible refine o_mod ?_ ?_); omega) | ((with_reducible refine o_fdiv ?_ ?_ ?_); omega; omega) | ((with_reducible refine o_mul ?_ ?_); omega) | ((with_reducible refine o_pow ?_ ?_); omega) | ((first | with_reducible refine o_addL ?_ ?_ | with_reducible refine o_addT ?_ ?_); (focus (rw [sizeLine_eq]; simp only [List.length_cons, List.length_nil, List.length_append, List.length_map]; omega))) | ((with_reducible refine o_strI (log_small ?_) ?_); omega) | ((with_reducible refine o_fmtI (log_small ?_) ?_); omega) | ((with_reducible refine o_rng1 ?_ ?_); omega) | ((with_reducible refine o_rng1I ?_ ?_ ?_); omega; omega) | ((fail_if_success with_reducible refine noRng1 ?_); (fail_if_success with_reducible refine noRng2 ?_); (fail_if_success with_reducible refine noRng3 ?_); (with_reducible apply opr); rfl) | ((with_reducible refine And.intro ?_ ?_); (first | rfl | decide | assumption | (focus (rw [sizeLine_eq]; simp; done)) | (focus (rw [rangeD_length, sizeLine_eq]; omega)))) | (with_reducible refine Exists.intro _ (And.intro rfl ?_)) | (with_reducible refine Exists.intro _ (Exists.intro _ (And.intro rfl ?_))) | fail))
  refine p_draw h4 (by decide) (by decide) fun r4 l5 hr4 h5 => ?_
  try simp only [start0, List.map_cons, List.map_nil, List.length_cons, List.length_nil, Nat.reduceSub, Nat.reduceAdd, Nat.sub_zero, Nat.zero_add, List.replicate_succ, List.replicate_zero, List.cons_append, List.nil_append, List.set_cons_zero, List.set_cons_succ]
  (repeat' (first | ((with_reducible apply i_v); rfl) | with_reducible refine i_2 ?_ | with_reducible refine i_1 ?_ | with_reducible refine i_call ?_ | with_reducible refine i_callF ?_ | with_reducible refine i_2F ?_ | with_reducible refine i_if ?_ | with_reducible refine i_sif ?_ | with_reducible refine i_B ?_ | with_reducible refine i_tru ?_ | with_reducible refine i_not ?_ | with_reducible refine i_and ?_ | with_reducible refine i_or ?_ | with_reducible refine i_notV ?_ | with_reducible refine i_andV ?_ | with_reducible refine i_orV ?_ | with_reducible refine i_ch ?_ | with_reducible refine i_tup ?_ | with_reducible refine i_lst ?_ | with_reducible refine i_sl ?_ | with_reducible refine i_fn ?_ | with_reducible refine i_mk ?_ | with_reducible refine i_me0 ?_ | with_reducible refine i_me ?_ | with_reducible refine i_bor ?_ | with_reducible refine i_borT ?_ | with_reducible refine i_join ?_ | with_reducible refine i_js0 ?_ | with_reducible refine i_js1 ?_ | with_reducible refine i_sseq ?_ | with_reducible refine i_sret ?_ | with_reducible refine i_sretF ?_ | with_reducible refine i_sexpr ?_ | with_reducible refine i_sset ?_ | with_reducible refine i_sown ?_ | with_reducible refine i_ssetL ?_ | with_reducible refine i_spar ?_ | with_reducible refine i_sasg ?_ | with_reducible refine i_sitem ?_ | with_reducible refine i_sapp ?_ | with_reducible refine i_sfs ?_ | with_reducible refine i_frz ?_ | with_reducible refine i_sfor ?_ | with_reducible refine i_lc ?_ | with_reducible refine i_snil ?_ | with_reducible refine i_nil ?_ | with_reducible refine i_cons ?_ | with_reducible refine i_pure ?_ | with_reducible refine i_lift ?_ | with_reducible refine i_bind ?_ | ((with_reducible apply i_fnW); rfl) | with_reducible refine nxN ?_ | with_reducible refine nxR ?_ | with_reducible refine nxF ?_ | with_reducible refine nxB ?_ | with_reducible refine nxC ?_ | with_reducible refine brN ?_ | with_reducible refine brT ?_ | with_reducible refine brF ?_ | ((with_reducible refine brYes (decide_eq_true ?_) ?_); omega) | ((with_reducible refine brNo (decide_eq_false ?_) ?_); omega) | ((with_reducible refine brYes ?_ ?_); (focus decide)) | ((with_reducible refine brNo ?_ ?_); (focus decide)) | ((with_reducible refine o_mod ?_ ?_); omega) | ((with_reducible refine o_fdiv ?_ ?_ ?_); omega; omega) | ((with_reducible refine o_mul ?_ ?_); omega) | ((with_reducible refine o_pow ?_ ?_); omega) | ((first | with_reducible refine o_addL ?_ ?_ | with_reducible refine o_addT ?_ ?_); (focus (rw [sizeLine_eq]; simp only [List.length_cons, List.length_nil, List.length_append, List.length_map]; omega))) | ((with_reducible refine o_strI (log_small ?_) ?_); omega) | ((with_reducible refine o_fmtI (log_small ?_) ?_); omega) | ((with_reducible refine o_rng1 ?_ ?_); omega) | ((with_reducible refine o_rng1I ?_ ?_ ?_); omega; omega) | ((fail_if_success with_reducible refine noRng1 ?_); (fail_if_success with_reducible refine noRng2 ?_); (fail_if_success with_reducible refine noRng3 ?_); (with_reducible apply opr); rfl) | ((with_reducible refine And.intro ?_ ?_); (first | rfl | decide | assumption | (focus (rw [sizeLine_eq]; simp; done)) | (focus (rw [rangeD_length, sizeLine_eq]; omega)))) | (with_reducible refine Exists.intro _ (And.intro rfl ?_)) | (with_reducible refine Exists.intro _ (Exists.intro _ (And.intro rfl ?_))) | fail))
  refine p_draw h5 (by decide) (by decide) fun r5 l6 hr5 h6 => ?_
  try simp only [start0, List.map_cons, List.map_nil, List.length_cons, List.length_nil, Nat.reduceSub, Nat.reduceAdd, Nat.sub_zero, Nat.zero_add, List.replicate_succ, List.replicate_zero, List.cons_append, List.nil_append, List.set_cons_zero, List.set_cons_succ]
  (repeat' (first | ((with_reducible apply i_v); rfl) | with_reducible refine i_2 ?_ | with_reducible refine i_1 ?_ | with_reducible refine i_call ?_ | with_reducible refine i_callF ?_ | with_reducible refine i_2F ?_ | with_reducible refine i_if ?_ | with_reducible refine i_sif ?_ | with_reducible refine i_B ?_ | with_reducible refine i_tru ?_ | with_reducible refine i_not ?_ | with_reducible refine i_and ?_ | with_reducible refine i_or ?_ | with_reducible refine i_notV ?_ | with_reducible refine i_andV ?_ | with_reducible refine i_orV ?_ | with_reducible refine i_ch ?_ | with_reducible refine i_tup ?_ | with_reducible refine i_lst ?_ | with_reducible refine i_sl ?_ | with_reducible refine i_fn ?_ | with_reducible refine i_mk ?_ | with_reducible refine i_me0 ?_ | with_reducible refine i_me ?_ | with_reducible refine i_bor ?_ | with_reducible refine i_borT ?_ | with_reducible refine i_join ?_ | with_reducible refine i_js0 ?_ | with_reducible refine i_js1 ?_ | with_reducible refine i_sseq ?_ | with_reducible refine i_sret ?_ | with_reducible refine i_sretF ?_ | with_reducible refine i_sexpr ?_ | with_reducible refine i_sset ?_ | with_reducible refine i_sown ?_ | with_reducible refine i_ssetL ?_ | with_reducible refine i_spar ?_ | with_reducible refine i_sasg ?_ | with_reducible refine i_sitem ?_ | with_reducible refine i_sapp ?_ | with_reducible refine i_sfs ?_ | with_reducible refine i_frz ?_ | with_reducible refine i_sfor ?_ | with_reducible refine i_lc ?_ | with_reducible refine i_snil ?_ | with_reducible refine i_nil ?_ | with_reducible refine i_cons ?_ | with_reducible refine i_pure ?_ | with_reducible refine i_lift ?_ | with_reducible refine i_bind ?_ | ((with_reducible apply i_fnW); rfl) | with_reducible refine nxN ?_ | with_reducible refine nxR ?_ | with_reducible refine nxF ?_ | with_reducible refine nxB ?_ | with_reducible refine nxC ?_ | with_reducible refine brN ?_ | with_reducible refine brT ?_ | with_reducible refine brF ?_ | ((with_reducible refine brYes (decide_eq_true ?_) ?_); omega) | ((with_reducible refine brNo (decide_eq_false ?_) ?_); omega) | ((with_reducible refine brYes ?_ ?_); (focus decide)) | ((with_reducible refine brNo ?_ ?_); (focus decide)) | ((with_reducible refine o_mod ?_ ?_); omega) | ((with_reducible refine o_fdiv ?_ ?_ ?_); omega; omega) | ((with_reducible refine o_mul ?_ ?_); omega) | ((with_reducible refine o_pow ?_ ?_); omega) | ((first | with_reducible refine o_addL ?_ ?_ | with_reducible refine o_addT ?_ ?_); (focus (rw [sizeLine_eq]; simp only [List.length_cons, List.length_nil, List.length_append, List.length_map]; omega))) | ((with_reducible refine o_strI (log_small ?_) ?_); omega) | ((with_reducible refine o_fmtI (log_small ?_) ?_); omega) | ((with_reducible refine o_rng1 ?_ ?_); omega) | ((with_reducible refine o_rng1I ?_ ?_ ?_); omega; omega) | ((fail_if_success with_reducible refine noRng1 ?_); (fail_if_success with_reducible refine noRng2 ?_); (fail_if_success with_reducible refine noRng3 ?_); (with_reducible apply opr); rfl) | ((with_reducible refine And.intro ?_ ?_); (first | rfl | decide | assumption | (focus (rw [sizeLine_eq]; simp; done)) | (focus (rw [rangeD_length, sizeLine_eq]; omega)))) | (with_reducible refine Exists.intro _ (And.intro rfl ?_)) | (with_reducible refine Exists.intro _ (Exists.intro _ (And.intro rfl ?_))) | fail))
  refine o_ixL (by simp; omega) fun db hdb => ?_
  obtain ⟨y, k, u, rfl, hy, hk⟩ : IsSt db := by
    simp only [List.mem_cons, List.not_mem_nil, or_false] at hdb
    rcases hdb with rfl | rfl | rfl | rfl | rfl
    · exact ⟨_, _, _, rfl, n0, hha⟩
    · exact ⟨_, _, _, rfl, n1, hha⟩
    · exact ⟨_, _, _, rfl, n0, hhb⟩
    · exact ⟨_, _, _, rfl, n0, hha⟩
    · exact ⟨_, _, _, rfl, n0, hhb⟩
  try simp only [start0, List.map_cons, List.map_nil, List.length_cons, List.length_nil, Nat.reduceSub, Nat.reduceAdd, Nat.sub_zero, Nat.zero_add, List.replicate_succ, List.replicate_zero, List.cons_append, List.nil_append, List.set_cons_zero, List.set_cons_succ]
  (repeat' (first | ((with_reducible apply i_v); rfl) | with_reducible refine i_2 ?_ | with_reducible refine i_1 ?_ | with_reducible refine i_call ?_ | with_reducible refine i_callF ?_ | with_reducible refine i_2F ?_ | with_reducible refine i_if ?_ | with_reducible refine i_sif ?_ | with_reducible refine i_B ?_ | with_reducible refine i_tru ?_ | with_reducible refine i_not ?_ | with_reducible refine i_and ?_ | with_reducible refine i_or ?_ | with_reducible refine i_notV ?_ | with_reducible refine i_andV ?_ | with_reducible refine i_orV ?_ | with_reducible refine i_ch ?_ | with_reducible refine i_tup ?_ | with_reducible refine i_lst ?_ | with_reducible refine i_sl ?_ | with_reducible refine i_fn ?_ | with_reducible refine i_mk ?_ | with_reducible refine i_me0 ?_ | with_reducible refine i_me ?_ | with_reducible refine i_bor ?_ | with_reducible refine i_borT ?_ | with_reducible refine i_join ?_ | with_reducible refine i_js0 ?_ | with_reducible refine i_js1 ?_ | with_reducible refine i_sseq ?_ | with_reducible refine i_sret ?_ | with_reducible refine i_sretF ?_ | with_reducible refine i_sexpr ?_ | with_reducible refine i_sset ?_ | with_reducible refine i_sown ?_ | with_reducible refine i_ssetL ?_ | with_reducible refine i_spar ?_ | with_reducible refine i_sasg ?_ | with_reducible refine i_sitem ?_ | with_reducible refine i_sapp ?_ | with_reducible refine i_sfs ?_ | with_reducible refine i_frz ?_ | with_reducible refine i_sfor ?_ | with_reducible refine i_lc ?_ | with_reducible refine i_snil ?_ | with_reducible refine i_nil ?_ | with_reducible refine i_cons ?_ | with_reducible refine i_pure ?_ | with_reducible refine i_lift ?_ | with_reducible refine i_bind ?_ | ((with_reducible apply i_fnW); rfl) | with_reducible refine nxN ?_ | with_reducible refine nxR ?_ | with_reducible refine nxF ?_ | with_reducible refine nxB ?_ | with_reducible refine nxC ?_ | with_reducible refine brN ?_ | with_reducible refine brT ?_ | with_reducible refine brF ?_ | ((with_reducible refine brYes (decide_eq_true ?_) ?_); omega) | ((with_reducible refine brNo (decide_eq_false ?_) ?_); omega) | ((with_reducible refine brYes ?_ ?_); (focus decide)) | ((with_reducible refine brNo ?_ ?_); (focus decide)) | ((with_reducible refine o_mod ?_ ?_); omega) | ((with_reducible refine o_fdiv ?_ ?_ ?_); omega; omega) | ((with_reducible refine o_mul ?_ ?_); omega) | ((with_reducible refine o_pow ?_ ?_); omega) | ((first | with_reducible refine o_addL ?_ ?_ | with_reducible refine o_addT ?_ ?_); (focus (rw [sizeLine_eq]; simp only [List.length_cons, List.length_nil, List.length_append, List.length_map]; omega))) | ((with_reducible refine o_strI (log_small ?_) ?_); omega) | ((with_reducible refine o_fmtI (log_small ?_) ?_); omega) | ((with_reducible refine o_rng1 ?_ ?_); omega) | ((with_reducible refine o_rng1I ?_ ?_ ?_); omega; omega) | ((fail_if_success with_reducible refine noRng1 ?_); (fail_if_success with_reducible refine noRng2 ?_); (fail_if_success with_reducible refine noRng3 ?_); (with_reducible apply opr); rfl) | ((with_reducible refine And.intro ?_ ?_); (first | rfl | decide | assumption | (focus (rw [sizeLine_eq]; simp; done)) | (focus (rw [rangeD_length, sizeLine_eq]; omega)))) | (with_reducible refine Exists.intro _ (And.intro rfl ?_)) | (with_reducible refine Exists.intro _ (Exists.intro _ (And.intro rfl ?_))) | fail))
  refine got (p_stright n0 hy hha hk) ?_
  try simp only [start0, List.map_cons, List.map_nil, List.length_cons, List.length_nil, Nat.reduceSub, Nat.reduceAdd, Nat.sub_zero, Nat.zero_add, List.replicate_succ, List.replicate_zero, List.cons_append, List.nil_append, List.set_cons_zero, List.set_cons_succ]
  (repeat' (first | ((with_reducible apply i_v); rfl) | with_reducible refine i_2 ?_ | with_reducible refine i_1 ?_ | with_reducible refine i_call ?_ | with_reducible refine i_callF ?_ | with_reducible refine i_2F ?_ | with_reducible refine i_if ?_ | with_reducible refine i_sif ?_ | with_reducible refine i_B ?_ | with_reducible refine i_tru ?_ | with_reducible refine i_not ?_ | with_reducible refine i_and ?_ | with_reducible refine i_or ?_ | with_reducible refine i_notV ?_ | with_reducible refine i_andV ?_ | with_reducible refine i_orV ?_ | with_reducible refine i_ch ?_ | with_reducible refine i_tup ?_ | with_reducible refine i_lst ?_ | with_reducible refine i_sl ?_ | with_reducible refine i_fn ?_ | with_reducible refine i_mk ?_ | with_reducible refine i_me0 ?_ | with_reducible refine i_me ?_ | with_reducible refine i_bor ?_ | with_reducible refine i_borT ?_ | with_reducible refine i_join ?_ | with_reducible refine i_js0 ?_ | with_reducible refine i_js1 ?_ | with_reducible refine i_sseq ?_ | with_reducible refine i_sret ?_ | with_reducible refine i_sretF ?_ | with_reducible refine i_sexpr ?_ | with_reducible refine i_sset ?_ | with_reducible refine i_sown ?_ | with_reducible refine i_ssetL ?_ | with_reducible refine i_spar ?_ | with_reducible refine i_sasg ?_ | with_reducible refine i_sitem ?_ | with_reducible refine i_sapp ?_ | with_reducible refine i_sfs ?_ | with_reducible refine i_frz ?_ | with_reducible refine i_sfor ?_ | with_reducible refine i_lc ?_ | with_reducible refine i_snil ?_ | with_reducible refine i_nil ?_ | with_reducible refine i_cons ?_ | with_reducible refine i_pure ?_ | with_reducible refine i_lift ?_ | with_reducible refine i_bind ?_ | ((with_reducible apply i_fnW); rfl) | with_reducible refine nxN ?_ | with_reducible refine nxR ?_ | with_reducible refine nxF ?_ | with_reducible refine nxB ?_ | with_reducible refine nxC ?_ | with_reducible refine brN ?_ | with_reducible refine brT ?_ | with_reducible refine brF ?_ | ((with_reducible refine brYes (decide_eq_true ?_) ?_); omega) | ((with_reducible refine brNo (decide_eq_false ?_) ?_); omega) | ((with_reducible refine brYes ?_ ?_); (focus decide)) | ((with_reducible refine brNo ?_ ?_); (focus decide)) | ((with_reducible refine o_mod ?_ ?_); omega) | ((with_reducible refine o_fdiv ?_ ?_ ?_); omega; omega) | ((with_reducible refine o_mul ?_ ?_); omega) | ((with_reducible refine o_pow ?_ ?_); omega) | ((first | with_reducible refine o_addL ?_ ?_ | with_reducible refine o_addT ?_ ?_); (focus (rw [sizeLine_eq]; simp only [List.length_cons, List.length_nil, List.length_append, List.length_map]; omega))) | ((with_reducible refine o_strI (log_small ?_) ?_); omega) | ((with_reducible refine o_fmtI (log_small ?_) ?_); omega) | ((with_reducible refine o_rng1 ?_ ?_); omega) | ((with_reducible refine o_rng1I ?_ ?_ ?_); omega; omega) | ((fail_if_success with_reducible refine noRng1 ?_); (fail_if_success with_reducible refine noRng2 ?_); (fail_if_success with_reducible refine noRng3 ?_); (with_reducible apply opr); rfl) | ((with_reducible refine And.intro ?_ ?_); (first | rfl | decide | assumption | (focus (rw [sizeLine_eq]; simp; done)) | (focus (rw [rangeD_length, sizeLine_eq]; omega)))) | (with_reducible refine Exists.intro _ (And.intro rfl ?_)) | (with_reducible refine Exists.intro _ (Exists.intro _ (And.intro rfl ?_))) | fail))
  refine p_draw h6 (by decide) (by decide) fun r6 l7 hr6 h7 => ?_
  refine o_ixL (by simp; omega) fun dm hdm => ?_
  obtain ⟨xm, rfl, nm⟩ : ∃ x, dm = .str x ∧ NameOk x := by
    simp only [List.mem_cons, List.not_mem_nil, or_false] at hdm
    rcases hdm with rfl | rfl | rfl | rfl
    · exact ⟨_, rfl, n0⟩
    · exact ⟨_, rfl, n1⟩
    · exact ⟨_, rfl, n2⟩
    · exact ⟨_, rfl, n3⟩
  try simp only [start0, List.map_cons, List.map_nil, List.length_cons, List.length_nil, Nat.reduceSub, Nat.reduceAdd, Nat.sub_zero, Nat.zero_add, List.replicate_succ, List.replicate_zero, List.cons_append, List.nil_append, List.set_cons_zero, List.set_cons_succ]
  (repeat' (first | ((with_reducible apply i_v); rfl) | with_reducible refine i_2 ?_ | with_reducible refine i_1 ?_ | with_reducible refine i_call ?_ | with_reducible refine i_callF ?_ | with_reducible refine i_2F ?_ | with_reducible refine i_if ?_ | with_reducible refine i_sif ?_ | with_reducible refine i_B ?_ | with_reducible refine i_tru ?_ | with_reducible refine i_not ?_ | with_reducible refine i_and ?_ | with_reducible refine i_or ?_ | with_reducible refine i_notV ?_ | with_reducible refine i_andV ?_ | with_reducible refine i_orV ?_ | with_reducible refine i_ch ?_ | with_reducible refine i_tup ?_ | with_reducible refine i_lst ?_ | with_reducible refine i_sl ?_ | with_reducible refine i_fn ?_ | with_reducible refine i_mk ?_ | with_reducible refine i_me0 ?_ | with_reducible refine i_me ?_ | with_reducible refine i_bor ?_ | with_reducible refine i_borT ?_ | with_reducible refine i_join ?_ | with_reducible refine i_js0 ?_ | with_reducible refine i_js1 ?_ | with_reducible refine i_sseq ?_ | with_reducible refine i_sret ?_ | with_reducible refine i_sretF ?_ | with_reducible refine i_sexpr ?_ | with_reducible refine i_sset ?_ | with_reducible refine i_sown ?_ | with_reducible refine i_ssetL ?_ | with_reducible refine i_spar ?_ | with_reducible refine i_sasg ?_ | with_reducible refine i_sitem ?_ | with_reducible refine i_sapp ?_ | with_reducible refine i_sfs ?_ | with_reducible refine i_frz ?_ | with_reducible refine i_sfor ?_ | with_reducible refine i_lc ?_ | with_reducible refine i_snil ?_ | with_reducible refine i_nil ?_ | with_reducible refine i_cons ?_ | with_reducible refine i_pure ?_ | with_reducible refine i_lift ?_ | with_reducible refine i_bind ?_ | ((with_reducible apply i_fnW); rfl) | with_reducible refine nxN ?_ | with_reducible refine nxR ?_ | with_reducible refine nxF ?_ | with_reducible refine nxB ?_ | with_reducible refine nxC ?_ | with_reducible refine brN ?_ | with_reducible refine brT ?_ | with_reducible refine brF ?_ | ((with_reducible refine brYes (decide_eq_true ?_) ?_); omega) | ((with_reducible refine brNo (decide_eq_false ?_) ?_); omega) | ((with_reducible refine brYes ?_ ?_); (focus decide)) | ((with_reducible refine brNo ?_ ?_); (focus decide)) | ((with_reducible refine o_mod ?_ ?_); omega) | ((with_reducible refine o_fdiv ?_ ?_ ?_); omega; omega) | ((with_reducible refine o_mul ?_ ?_); omega) | ((with_reducible refine o_pow ?_ ?_); omega) | ((first | with_reducible refine o_addL ?_ ?_ | with_reducible refine o_addT ?_ ?_); (focus (rw [sizeLine_eq]; simp only [List.length_cons, List.length_nil, List.length_append, List.length_map]; omega))) | ((with_reducible refine o_strI (log_small ?_) ?_); omega) | ((with_reducible refine o_fmtI (log_small ?_) ?_); omega) | ((with_reducible refine o_rng1 ?_ ?_); omega) | ((with_reducible refine o_rng1I ?_ ?_ ?_); omega; omega) | ((fail_if_success with_reducible refine noRng1 ?_); (fail_if_success with_reducible refine noRng2 ?_); (fail_if_success with_reducible refine noRng3 ?_); (with_reducible apply opr); rfl) | ((with_reducible refine And.intro ?_ ?_); (first | rfl | decide | assumption | (focus (rw [sizeLine_eq]; simp; done)) | (focus (rw [rangeD_length, sizeLine_eq]; omega)))) | (with_reducible refine Exists.intro _ (And.intro rfl ?_)) | (with_reducible refine Exists.intro _ (Exists.intro _ (And.intro rfl ?_))) | fail))
  refine p_draw h7 (by decide) (by decide) fun r7 l8 hr7 h8 => ?_
  try simp only [start0, List.map_cons, List.map_nil, List.length_cons, List.length_nil, Nat.reduceSub, Nat.reduceAdd, Nat.sub_zero, Nat.zero_add, List.replicate_succ, List.replicate_zero, List.cons_append, List.nil_append, List.set_cons_zero, List.set_cons_succ]
  (repeat' (first | ((with_reducible apply i_v); rfl) | with_reducible refine i_2 ?_ | with_reducible refine i_1 ?_ | with_reducible refine i_call ?_ | with_reducible refine i_callF ?_ | with_reducible refine i_2F ?_ | with_reducible refine i_if ?_ | with_reducible refine i_sif ?_ | with_reducible refine i_B ?_ | with_reducible refine i_tru ?_ | with_reducible refine i_not ?_ | with_reducible refine i_and ?_ | with_reducible refine i_or ?_ | with_reducible refine i_notV ?_ | with_reducible refine i_andV ?_ | with_reducible refine i_orV ?_ | with_reducible refine i_ch ?_ | with_reducible refine i_tup ?_ | with_reducible refine i_lst ?_ | with_reducible refine i_sl ?_ | with_reducible refine i_fn ?_ | with_reducible refine i_mk ?_ | with_reducible refine i_me0 ?_ | with_reducible refine i_me ?_ | with_reducible refine i_bor ?_ | with_reducible refine i_borT ?_ | with_reducible refine i_join ?_ | with_reducible refine i_js0 ?_ | with_reducible refine i_js1 ?_ | with_reducible refine i_sseq ?_ | with_reducible refine i_sret ?_ | with_reducible refine i_sretF ?_ | with_reducible refine i_sexpr ?_ | with_reducible refine i_sset ?_ | with_reducible refine i_sown ?_ | with_reducible refine i_ssetL ?_ | with_reducible refine i_spar ?_ | with_reducible refine i_sasg ?_ | with_reducible refine i_sitem ?_ | with_reducible refine i_sapp ?_ | with_reducible refine i_sfs ?_ | with_reducible refine i_frz ?_ | with_reducible refine i_sfor ?_ | with_reducible refine i_lc ?_ | with_reducible refine i_snil ?_ | with_reducible refine i_nil ?_ | with_reducible refine i_cons ?_ | with_reducible refine i_pure ?_ | with_reducible refine i_lift ?_ | with_reducible refine i_bind ?_ | ((with_reducible apply i_fnW); rfl) | with_reducible refine nxN ?_ | with_reducible refine nxR ?_ | with_reducible refine nxF ?_ | with_reducible refine nxB ?_ | with_reducible refine nxC ?_ | with_reducible refine brN ?_ | with_reducible refine brT ?_ | with_reducible refine brF ?_ | ((with_reducible refine brYes (decide_eq_true ?_) ?_); omega) | ((with_reducible refine brNo (decide_eq_false ?_) ?_); omega) | ((with_reducible refine brYes ?_ ?_); (focus decide)) | ((with_reducible refine brNo ?_ ?_); (focus decide)) | ((with_reducible refine o_mod ?_ ?_); omega) | ((with_reducible refine o_fdiv ?_ ?_ ?_); omega; omega) | ((with_reducible refine o_mul ?_ ?_); omega) | ((with_reducible refine o_pow ?_ ?_); omega) | ((first | with_reducible refine o_addL ?_ ?_ | with_reducible refine o_addT ?_ ?_); (focus (rw [sizeLine_eq]; simp only [List.length_cons, List.length_nil, List.length_append, List.length_map]; omega))) | ((with_reducible refine o_strI (log_small ?_) ?_); omega) | ((with_reducible refine o_fmtI (log_small ?_) ?_); omega) | ((with_reducible refine o_rng1 ?_ ?_); omega) | ((with_reducible refine o_rng1I ?_ ?_ ?_); omega; omega) | ((fail_if_success with_reducible refine noRng1 ?_); (fail_if_success with_reducible refine noRng2 ?_); (fail_if_success with_reducible refine noRng3 ?_); (with_reducible apply opr); rfl) | ((with_reducible refine And.intro ?_ ?_); (first | rfl | decide | assumption | (focus (rw [sizeLine_eq]; simp; done)) | (focus (rw [rangeD_length, sizeLine_eq]; omega)))) | (with_reducible refine Exists.intro _ (And.intro rfl ?_)) | (with_reducible refine Exists.intro _ (Exists.intro _ (And.intro rfl ?_))) | fail))
  refine p_draw h8 (by decide) (by decide) fun r8 l9 hr8 h9 => ?_
  try simp only [start0, List.map_cons, List.map_nil, List.length_cons, List.length_nil, Nat.reduceSub, Nat.reduceAdd, Nat.sub_zero, Nat.zero_add, List.replicate_succ, List.replicate_zero, List.cons_append, List.nil_append, List.set_cons_zero, List.set_cons_succ]
  (repeat' (first | ((with_reducible apply i_v); rfl) | with_reducible refine i_2 ?_ | with_reducible refine i_1 ?_ | with_reducible refine i_call ?_ | with_reducible refine i_callF ?_ | with_reducible refine i_2F ?_ | with_reducible refine i_if ?_ | with_reducible refine i_sif ?_ | with_reducible refine i_B ?_ | with_reducible refine i_tru ?_ | with_reducible refine i_not ?_ | with_reducible refine i_and ?_ | with_reducible refine i_or ?_ | with_reducible refine i_notV ?_ | with_reducible refine i_andV ?_ | with_reducible refine i_orV ?_ | with_reducible refine i_ch ?_ | with_reducible refine i_tup ?_ | with_reducible refine i_lst ?_ | with_reducible refine i_sl ?_ | with_reducible refine i_fn ?_ | with_reducible refine i_mk ?_ | with_reducible refine i_me0 ?_ | with_reducible refine i_me ?_ | with_reducible refine i_bor ?_ | with_reducible refine i_borT ?_ | with_reducible refine i_join ?_ | with_reducible refine i_js0 ?_ | with_reducible refine i_js1 ?_ | with_reducible refine i_sseq ?_ | with_reducible refine i_sret ?_ | with_reducible refine i_sretF ?_ | with_reducible refine i_sexpr ?_ | with_reducible refine i_sset ?_ | with_reducible refine i_sown ?_ | with_reducible refine i_ssetL ?_ | with_reducible refine i_spar ?_ | with_reducible refine i_sasg ?_ | with_reducible refine i_sitem ?_ | with_reducible refine i_sapp ?_ | with_reducible refine i_sfs ?_ | with_reducible refine i_frz ?_ | with_reducible refine i_sfor ?_ | with_reducible refine i_lc ?_ | with_reducible refine i_snil ?_ | with_reducible refine i_nil ?_ | with_reducible refine i_cons ?_ | with_reducible refine i_pure ?_ | with_reducible refine i_lift ?_ | with_reducible refine i_bind ?_ | ((with_reducible apply i_fnW); rfl) | with_reducible refine nxN ?_ | with_reducible refine nxR ?_ | with_reducible refine nxF ?_ | with_reducible refine nxB ?_ | with_reducible refine nxC ?_ | with_reducible refine brN ?_ | with_reducible refine brT ?_ | with_reducible refine brF ?_ | ((with_reducible refine brYes (decide_eq_true ?_) ?_); omega) | ((with_reducible refine brNo (decide_eq_false ?_) ?_); omega) | ((with_reducible refine brYes ?_ ?_); (focus decide)) | ((with_reducible refine brNo ?_ ?_); (focus decide)) | ((with_reducible refine o_mod ?_ ?_); omega) | ((with_reducible refine o_fdiv ?_ ?_ ?_); omega; omega) | ((with_reducible refine o_mul ?_ ?_); omega) | ((with_reducible refine o_pow ?_ ?_); omega) | ((first | with_reducible refine o_addL ?_ ?_ | with_reducible refine o_addT ?_ ?_); (focus (rw [sizeLine_eq]; simp only [List.length_cons, List.length_nil, List.length_append, List.length_map]; omega))) | ((with_reducible refine o_strI (log_small ?_) ?_); omega) | ((with_reducible refine o_fmtI (log_small ?_) ?_); omega) | ((with_reducible refine o_rng1 ?_ ?_); omega) | ((with_reducible refine o_rng1I ?_ ?_ ?_); omega; omega) | ((fail_if_success with_reducible refine noRng1 ?_); (fail_if_success with_reducible refine noRng2 ?_); (fail_if_success with_reducible refine noRng3 ?_); (with_reducible apply opr); rfl) | ((with_reducible refine And.intro ?_ ?_); (first | rfl | decide | assumption | (focus (rw [sizeLine_eq]; simp; done)) | (focus (rw [rangeD_length, sizeLine_eq]; omega)))) | (with_reducible refine Exists.intro _ (And.intro rfl ?_)) | (with_reducible refine Exists.intro _ (Exists.intro _ (And.intro rfl ?_))) | fail))
  refine p_draw h9 (by decide) (by decide) fun r9 l10 hr9 h10 => ?_
  try simp only [start0, List.map_cons, List.map_nil, List.length_cons, List.length_nil, Nat.reduceSub, Nat.reduceAdd, Nat.sub_zero, Nat.zero_add, List.replicate_succ, List.replicate_zero, List.cons_append, List.nil_append, List.set_cons_zero, List.set_cons_succ]
  (repeat' (first | ((with_reducible apply i_v); rfl) | with_reducible refine i_2 ?_ | with_reducible refine i_1 ?_ | with_reducible refine i_call ?_ | with_reducible refine i_callF ?_ | with_reducible refine i_2F ?_ | with_reducible refine i_if ?_ | with_reducible refine i_sif ?_ | with_reducible refine i_B ?_ | with_reducible refine i_tru ?_ | with_reducible refine i_not ?_ | with_reducible refine i_and ?_ | with_reducible refine i_or ?_ | with_reducible refine i_notV ?_ | with_reducible refine i_andV ?_ | with_reducible refine i_orV ?_ | with_reducible refine i_ch ?_ | with_reducible refine i_tup ?_ | with_reducible refine i_lst ?_ | with_reducible refine i_sl ?_ | with_reducible refine i_fn ?_ | with_reducible refine i_mk ?_ | with_reducible refine i_me0 ?_ | with_reducible refine i_me ?_ | with_reducible refine i_bor ?_ | with_reducible refine i_borT ?_ | with_reducible refine i_join ?_ | with_reducible refine i_js0 ?_ | with_reducible refine i_js1 ?_ | with_reducible refine i_sseq ?_ | with_reducible refine i_sret ?_ | with_reducible refine i_sretF ?_ | with_reducible refine i_sexpr ?_ | with_reducible refine i_sset ?_ | with_reducible refine i_sown ?_ | with_reducible refine i_ssetL ?_ | with_reducible refine i_spar ?_ | with_reducible refine i_sasg ?_ | with_reducible refine i_sitem ?_ | with_reducible refine i_sapp ?_ | with_reducible refine i_sfs ?_ | with_reducible refine i_frz ?_ | with_reducible refine i_sfor ?_ | with_reducible refine i_lc ?_ | with_reducible refine i_snil ?_ | with_reducible refine i_nil ?_ | with_reducible refine i_cons ?_ | with_reducible refine i_pure ?_ | with_reducible refine i_lift ?_ | with_reducible refine i_bind ?_ | ((with_reducible apply i_fnW); rfl) | with_reducible refine nxN ?_ | with_reducible refine nxR ?_ | with_reducible refine nxF ?_ | with_reducible refine nxB ?_ | with_reducible refine nxC ?_ | with_reducible refine brN ?_ | with_reducible refine brT ?_ | with_reducible refine brF ?_ | ((with_reducible refine brYes (decide_eq_true ?_) ?_); omega) | ((with_reducible refine brNo (decide_eq_false ?_) ?_); omega) | ((with_reducible refine brYes ?_ ?_); (focus decide)) | ((with_reducible refine brNo ?_ ?_); (focus decide)) | ((with_reducible refine o_mod ?_ ?_); omega) | ((with_reducible refine o_fdiv ?_ ?_ ?_); omega; omega) | ((with_reducible refine o_mul ?_ ?_); omega) | ((with_reducible refine o_pow ?_ ?_); omega) | ((first | with_reducible refine o_addL ?_ ?_ | with_reducible refine o_addT ?_ ?_); (focus (rw [sizeLine_eq]; simp only [List.length_cons, List.length_nil, List.length_append, List.length_map]; omega))) | ((with_reducible refine o_strI (log_small ?_) ?_); omega) | ((with_reducible refine o_fmtI (log_small ?_) ?_); omega) | ((with_reducible refine o_rng1 ?_ ?_); omega) | ((with_reducible refine o_rng1I ?_ ?_ ?_); omega; omega) | ((fail_if_success with_reducible refine noRng1 ?_); (fail_if_success with_reducible refine noRng2 ?_); (fail_if_success with_reducible refine noRng3 ?_); (with_reducible apply opr); rfl) | ((with_reducible refine And.intro ?_ ?_); (first | rfl | decide | assumption | (focus (rw [sizeLine_eq]; simp; done)) | (focus (rw [rangeD_length, sizeLine_eq]; omega)))) | (with_reducible refine Exists.intro _ (And.intro rfl ?_)) | (with_reducible refine Exists.intro _ (Exists.intro _ (And.intro rfl ?_))) | fail))
  refine p_draw h10 (by decide) (by decide) fun r10 l11 hr10 h11 => ?_
  refine o_ixL (by simp; omega) fun dl hdl => ?_
  obtain ⟨x', y', j, u', rfl, hx', hy', hj1, hj2⟩ : IsLk dl := by
    simp only [List.cons_append, List.nil_append, List.mem_cons, List.not_mem_nil, or_false] at hdl
    rcases hdl with rfl | rfl | rfl | rfl | rfl | rfl | rfl
    all_goals exact ⟨_, _, _, _, rfl, by assumption, by assumption, by omega, by omega⟩
  try simp only [start0, List.map_cons, List.map_nil, List.length_cons, List.length_nil, Nat.reduceSub, Nat.reduceAdd, Nat.sub_zero, Nat.zero_add, List.replicate_succ, List.replicate_zero, List.cons_append, List.nil_append, List.set_cons_zero, List.set_cons_succ]
  (repeat' (first | ((with_reducible apply i_v); rfl) | with_reducible refine i_2 ?_ | with_reducible refine i_1 ?_ | with_reducible refine i_call ?_ | with_reducible refine i_callF ?_ | with_reducible refine i_2F ?_ | with_reducible refine i_if ?_ | with_reducible refine i_sif ?_ | with_reducible refine i_B ?_ | with_reducible refine i_tru ?_ | with_reducible refine i_not ?_ | with_reducible refine i_and ?_ | with_reducible refine i_or ?_ | with_reducible refine i_notV ?_ | with_reducible refine i_andV ?_ | with_reducible refine i_orV ?_ | with_reducible refine i_ch ?_ | with_reducible refine i_tup ?_ | with_reducible refine i_lst ?_ | with_reducible refine i_sl ?_ | with_reducible refine i_fn ?_ | with_reducible refine i_mk ?_ | with_reducible refine i_me0 ?_ | with_reducible refine i_me ?_ | with_reducible refine i_bor ?_ | with_reducible refine i_borT ?_ | with_reducible refine i_join ?_ | with_reducible refine i_js0 ?_ | with_reducible refine i_js1 ?_ | with_reducible refine i_sseq ?_ | with_reducible refine i_sret ?_ | with_reducible refine i_sretF ?_ | with_reducible refine i_sexpr ?_ | with_reducible refine i_sset ?_ | with_reducible refine i_sown ?_ | with_reducible refine i_ssetL ?_ | with_reducible refine i_spar ?_ | with_reducible refine i_sasg ?_ | with_reducible refine i_sitem ?_ | with_reducible refine i_sapp ?_ | with_reducible refine i_sfs ?_ | with_reducible refine i_frz ?_ | with_reducible refine i_sfor ?_ | with_reducible refine i_lc ?_ | with_reducible refine i_snil ?_ | with_reducible refine i_nil ?_ | with_reducible refine i_cons ?_ | with_reducible refine i_pure ?_ | with_reducible refine i_lift ?_ | with_reducible refine i_bind ?_ | ((with_reducible apply i_fnW); rfl) | with_reducible refine nxN ?_ | with_reducible refine nxR ?_ | with_reducible refine nxF ?_ | with_reducible refine nxB ?_ | with_reducible refine nxC ?_ | with_reducible refine brN ?_ | with_reducible refine brT ?_ | with_reducible refine brF ?_ | ((with_reducible refine brYes (decide_eq_true ?_) ?_); omega) | ((with_reducible refine brNo (decide_eq_false ?_) ?_); omega) | ((with_reducible refine brYes ?_ ?_); (focus decide)) | ((with_reducible refine brNo ?_ ?_); (focus decide)) | ((with_reducible refine o_mod ?_ ?_); omega) | ((with_reducible refine o_fdiv ?_ ?_ ?_); omega; omega) | ((with_reducible refine o_mul ?_ ?_); omega) | ((with_reducible refine o_pow ?_ ?_); omega) | ((first | with_reducible refine o_addL ?_ ?_ | with_reducible refine o_addT ?_ ?_); (focus (rw [sizeLine_eq]; simp only [List.length_cons, List.length_nil, List.length_append, List.length_map]; omega))) | ((with_reducible refine o_strI (log_small ?_) ?_); omega) | ((with_reducible refine o_fmtI (log_small ?_) ?_); omega) | ((with_reducible refine o_rng1 ?_ ?_); omega) | ((with_reducible refine o_rng1I ?_ ?_ ?_); omega; omega) | ((fail_if_success with_reducible refine noRng1 ?_); (fail_if_success with_reducible refine noRng2 ?_); (fail_if_success with_reducible refine noRng3 ?_); (with_reducible apply opr); rfl) | ((with_reducible refine And.intro ?_ ?_); (first | rfl | decide | assumption | (focus (rw [sizeLine_eq]; simp; done)) | (focus (rw [rangeD_length, sizeLine_eq]; omega)))) | (with_reducible refine Exists.intro _ (And.intro rfl ?_)) | (with_reducible refine Exists.intro _ (Exists.intro _ (And.intro rfl ?_))) | fail))
  refine got (p_lkright n0 nm hx' hy' (by omega) (by omega) hj1 hj2) ?_
  try simp only [start0, List.map_cons, List.map_nil, List.length_cons, List.length_nil, Nat.reduceSub, Nat.reduceAdd, Nat.sub_zero, Nat.zero_add, List.replicate_succ, List.replicate_zero, List.cons_append, List.nil_append, List.set_cons_zero, List.set_cons_succ]
  (repeat' (first | ((with_reducible apply i_v); rfl) | with_reducible refine i_2 ?_ | with_reducible refine i_1 ?_ | with_reducible refine i_call ?_ | with_reducible refine i_callF ?_ | with_reducible refine i_2F ?_ | with_reducible refine i_if ?_ | with_reducible refine i_sif ?_ | with_reducible refine i_B ?_ | with_reducible refine i_tru ?_ | with_reducible refine i_not ?_ | with_reducible refine i_and ?_ | with_reducible refine i_or ?_ | with_reducible refine i_notV ?_ | with_reducible refine i_andV ?_ | with_reducible refine i_orV ?_ | with_reducible refine i_ch ?_ | with_reducible refine i_tup ?_ | with_reducible refine i_lst ?_ | with_reducible refine i_sl ?_ | with_reducible refine i_fn ?_ | with_reducible refine i_mk ?_ | with_reducible refine i_me0 ?_ | with_reducible refine i_me ?_ | with_reducible refine i_bor ?_ | with_reducible refine i_borT ?_ | with_reducible refine i_join ?_ | with_reducible refine i_js0 ?_ | with_reducible refine i_js1 ?_ | with_reducible refine i_sseq ?_ | with_reducible refine i_sret ?_ | with_reducible refine i_sretF ?_ | with_reducible refine i_sexpr ?_ | with_reducible refine i_sset ?_ | with_reducible refine i_sown ?_ | with_reducible refine i_ssetL ?_ | with_reducible refine i_spar ?_ | with_reducible refine i_sasg ?_ | with_reducible refine i_sitem ?_ | with_reducible refine i_sapp ?_ | with_reducible refine i_sfs ?_ | with_reducible refine i_frz ?_ | with_reducible refine i_sfor ?_ | with_reducible refine i_lc ?_ | with_reducible refine i_snil ?_ | with_reducible refine i_nil ?_ | with_reducible refine i_cons ?_ | with_reducible refine i_pure ?_ | with_reducible refine i_lift ?_ | with_reducible refine i_bind ?_ | ((with_reducible apply i_fnW); rfl) | with_reducible refine nxN ?_ | with_reducible refine nxR ?_ | with_reducible refine nxF ?_ | with_reducible refine nxB ?_ | with_reducible refine nxC ?_ | with_reducible refine brN ?_ | with_reducible refine brT ?_ | with_reducible refine brF ?_ | ((with_reducible refine brYes (decide_eq_true ?_) ?_); omega) | ((with_reducible refine brNo (decide_eq_false ?_) ?_); omega) | ((with_reducible refine brYes ?_ ?_); (focus decide)) | ((with_reducible refine brNo ?_ ?_); (focus decide)) | ((with_reducible refine o_mod ?_ ?_); omega) | ((with_reducible refine o_fdiv ?_ ?_ ?_); omega; omega) | ((with_reducible refine o_mul ?_ ?_); omega) | ((with_reducible refine o_pow ?_ ?_); omega) | ((first | with_reducible refine o_addL ?_ ?_ | with_reducible refine o_addT ?_ ?_); (focus (rw [sizeLine_eq]; simp only [List.length_cons, List.length_nil, List.length_append, List.length_map]; omega))) | ((with_reducible refine o_strI (log_small ?_) ?_); omega) | ((with_reducible refine o_fmtI (log_small ?_) ?_); omega) | ((with_reducible refine o_rng1 ?_ ?_); omega) | ((with_reducible refine o_rng1I ?_ ?_ ?_); omega; omega) | ((fail_if_success with_reducible refine noRng1 ?_); (fail_if_success with_reducible refine noRng2 ?_); (fail_if_success with_reducible refine noRng3 ?_); (with_reducible apply opr); rfl) | ((with_reducible refine And.intro ?_ ?_); (first | rfl | decide | assumption | (focus (rw [sizeLine_eq]; simp; done)) | (focus (rw [rangeD_length, sizeLine_eq]; omega)))) | (with_reducible refine Exists.intro _ (And.intro rfl ?_)) | (with_reducible refine Exists.intro _ (Exists.intro _ (And.intro rfl ?_))) | fail))
  exact ⟨_, _, rfl, rfl, rfl, h11⟩
theorem p_turn {l : List D} (h : WellOk l) {Q : D × List D → Prop} (q : ∀ l', WellOk l' → Q (.bl true, l')) : Got (F_law_turn l []) Q := by
  obtain ⟨d, l', e, rfl, w⟩ := p_turn0 h
  exact got e (q l' w)
theorem law_pure (ns : List Int) (hl : ns.length ≤ 63) : F_law [.scr ns] = some (.bl true) := by
  refine runD_eq ?_
  unfold m_law
  (repeat' (first | ((with_reducible apply i_v); rfl) | with_reducible refine i_2 ?_ | with_reducible refine i_1 ?_ | with_reducible refine i_call ?_ | with_reducible refine i_callF ?_ | with_reducible refine i_2F ?_ | with_reducible refine i_if ?_ | with_reducible refine i_sif ?_ | with_reducible refine i_B ?_ | with_reducible refine i_tru ?_ | with_reducible refine i_not ?_ | with_reducible refine i_and ?_ | with_reducible refine i_or ?_ | with_reducible refine i_notV ?_ | with_reducible refine i_andV ?_ | with_reducible refine i_orV ?_ | with_reducible refine i_ch ?_ | with_reducible refine i_tup ?_ | with_reducible refine i_lst ?_ | with_reducible refine i_sl ?_ | with_reducible refine i_fn ?_ | with_reducible refine i_mk ?_ | with_reducible refine i_me0 ?_ | with_reducible refine i_me ?_ | with_reducible refine i_bor ?_ | with_reducible refine i_borT ?_ | with_reducible refine i_join ?_ | with_reducible refine i_js0 ?_ | with_reducible refine i_js1 ?_ | with_reducible refine i_sseq ?_ | with_reducible refine i_sret ?_ | with_reducible refine i_sretF ?_ | with_reducible refine i_sexpr ?_ | with_reducible refine i_sset ?_ | with_reducible refine i_sown ?_ | with_reducible refine i_ssetL ?_ | with_reducible refine i_spar ?_ | with_reducible refine i_sasg ?_ | with_reducible refine i_sitem ?_ | with_reducible refine i_sapp ?_ | with_reducible refine i_sfs ?_ | with_reducible refine i_frz ?_ | with_reducible refine i_sfor ?_ | with_reducible refine i_lc ?_ | with_reducible refine i_snil ?_ | with_reducible refine i_nil ?_ | with_reducible refine i_cons ?_ | with_reducible refine i_pure ?_ | with_reducible refine i_lift ?_ | with_reducible refine i_bind ?_ | ((with_reducible apply i_fnW); rfl) | with_reducible refine nxN ?_ | with_reducible refine nxR ?_ | with_reducible refine nxF ?_ | with_reducible refine nxB ?_ | with_reducible refine nxC ?_ | with_reducible refine brN ?_ | with_reducible refine brT ?_ | with_reducible refine brF ?_ | ((with_reducible refine brYes (decide_eq_true ?_) ?_); omega) | ((with_reducible refine brNo (decide_eq_false ?_) ?_); omega) | ((with_reducible refine brYes ?_ ?_); (focus decide)) | ((with_reducible refine brNo ?_ ?_); (focus decide)) | ((with_reducible refine o_mod ?_ ?_); omega) | ((with_reducible refine o_fdiv ?_ ?_ ?_); omega; omega) | ((with_reducible refine o_mul ?_ ?_); omega) | ((with_reducible refine o_pow ?_ ?_); omega) | ((first | with_reducible refine o_addL ?_ ?_ | with_reducible refine o_addT ?_ ?_); (focus (rw [sizeLine_eq]; simp only [List.length_cons, List.length_nil, List.length_append, List.length_map]; omega))) | ((with_reducible refine o_strI (log_small ?_) ?_); omega) | ((with_reducible refine o_fmtI (log_small ?_) ?_); omega) | ((with_reducible refine o_rng1 ?_ ?_); omega) | ((with_reducible refine o_rng1I ?_ ?_ ?_); omega; omega) | ((fail_if_success with_reducible refine noRng1 ?_); (fail_if_success with_reducible refine noRng2 ?_); (fail_if_success with_reducible refine noRng3 ?_); (with_reducible apply opr); rfl) | ((with_reducible refine And.intro ?_ ?_); (first | rfl | decide | assumption | (focus (rw [sizeLine_eq]; simp; done)) | (focus (rw [rangeD_length, sizeLine_eq]; omega)))) | (with_reducible refine Exists.intro _ (And.intro rfl ?_)) | (with_reducible refine Exists.intro _ (Exists.intro _ (And.intro rfl ?_))) | fail))
  refine i_forL (fun items τ => (∀ d ∈ items, ∃ k : Nat, d = .int k) ∧ ∃ a b c, τ = [some (.val (.scr ns)), a, b, c]) ?_ ?_ ?_
  · exact ⟨fun d hd => by obtain ⟨i, _, rfl⟩ := rangeN hd; exact ⟨i, rfl⟩, _, _, _, rfl⟩
  · rintro d ds τ ⟨h1, a, b, c, rfl⟩
    obtain ⟨k, rfl⟩ := h1 d (by simp)
    obtain ⟨w, ew, hw⟩ := p_well ns k
    (repeat' (first | ((with_reducible apply i_v); rfl) | ((with_reducible refine gotE (ew) ?_ ?_); rfl) | with_reducible refine i_2 ?_ | with_reducible refine i_1 ?_ | with_reducible refine i_call ?_ | with_reducible refine i_callF ?_ | with_reducible refine i_2F ?_ | with_reducible refine i_if ?_ | with_reducible refine i_sif ?_ | with_reducible refine i_B ?_ | with_reducible refine i_tru ?_ | with_reducible refine i_not ?_ | with_reducible refine i_and ?_ | with_reducible refine i_or ?_ | with_reducible refine i_notV ?_ | with_reducible refine i_andV ?_ | with_reducible refine i_orV ?_ | with_reducible refine i_ch ?_ | with_reducible refine i_tup ?_ | with_reducible refine i_lst ?_ | with_reducible refine i_sl ?_ | with_reducible refine i_fn ?_ | with_reducible refine i_mk ?_ | with_reducible refine i_me0 ?_ | with_reducible refine i_me ?_ | with_reducible refine i_bor ?_ | with_reducible refine i_borT ?_ | with_reducible refine i_join ?_ | with_reducible refine i_js0 ?_ | with_reducible refine i_js1 ?_ | with_reducible refine i_sseq ?_ | with_reducible refine i_sret ?_ | with_reducible refine i_sretF ?_ | with_reducible refine i_sexpr ?_ | with_reducible refine i_sset ?_ | with_reducible refine i_sown ?_ | with_reducible refine i_ssetL ?_ | with_reducible refine i_spar ?_ | with_reducible refine i_sasg ?_ | with_reducible refine i_sitem ?_ | with_reducible refine i_sapp ?_ | with_reducible refine i_sfs ?_ | with_reducible refine i_frz ?_ | with_reducible refine i_sfor ?_ | with_reducible refine i_lc ?_ | with_reducible refine i_snil ?_ | with_reducible refine i_nil ?_ | with_reducible refine i_cons ?_ | with_reducible refine i_pure ?_ | with_reducible refine i_lift ?_ | with_reducible refine i_bind ?_ | ((with_reducible apply i_fnW); rfl) | with_reducible refine nxN ?_ | with_reducible refine nxR ?_ | with_reducible refine nxF ?_ | with_reducible refine nxB ?_ | with_reducible refine nxC ?_ | with_reducible refine brN ?_ | with_reducible refine brT ?_ | with_reducible refine brF ?_ | ((with_reducible refine brYes (decide_eq_true ?_) ?_); omega) | ((with_reducible refine brNo (decide_eq_false ?_) ?_); omega) | ((with_reducible refine brYes ?_ ?_); (focus decide)) | ((with_reducible refine brNo ?_ ?_); (focus decide)) | ((with_reducible refine o_mod ?_ ?_); omega) | ((with_reducible refine o_fdiv ?_ ?_ ?_); omega; omega) | ((with_reducible refine o_mul ?_ ?_); omega) | ((with_reducible refine o_pow ?_ ?_); omega) | ((first | with_reducible refine o_addL ?_ ?_ | with_reducible refine o_addT ?_ ?_); (focus (rw [sizeLine_eq]; simp only [List.length_cons, List.length_nil, List.length_append, List.length_map]; omega))) | ((with_reducible refine o_strI (log_small ?_) ?_); omega) | ((with_reducible refine o_fmtI (log_small ?_) ?_); omega) | ((with_reducible refine o_rng1 ?_ ?_); omega) | ((with_reducible refine o_rng1I ?_ ?_ ?_); omega; omega) | ((fail_if_success with_reducible refine noRng1 ?_); (fail_if_success with_reducible refine noRng2 ?_); (fail_if_success with_reducible refine noRng3 ?_); (with_reducible apply opr); rfl) | ((with_reducible refine And.intro ?_ ?_); (first | rfl | decide | assumption | (focus (rw [sizeLine_eq]; simp; done)) | (focus (rw [rangeD_length, sizeLine_eq]; omega)))) | (with_reducible refine Exists.intro _ (And.intro rfl ?_)) | (with_reducible refine Exists.intro _ (Exists.intro _ (And.intro rfl ?_))) | fail))
    refine i_lcL (fun items ys τ => ys = [] ∧ ∃ l, WellOk l ∧ τ = [some (.val (.scr ns)), some (.val (.int k)), some (.own l), none]) ?_ ?_ ?_
    · exact And.intro rfl ⟨w, hw, rfl⟩
    · rintro d ds ys τ ⟨rfl, l, hl, rfl⟩
      (repeat' (first | ((with_reducible apply i_v); rfl) | with_reducible refine i_2 ?_ | with_reducible refine i_1 ?_ | with_reducible refine i_call ?_ | with_reducible refine i_callF ?_ | with_reducible refine i_2F ?_ | with_reducible refine i_if ?_ | with_reducible refine i_sif ?_ | with_reducible refine i_B ?_ | with_reducible refine i_tru ?_ | with_reducible refine i_not ?_ | with_reducible refine i_and ?_ | with_reducible refine i_or ?_ | with_reducible refine i_notV ?_ | with_reducible refine i_andV ?_ | with_reducible refine i_orV ?_ | with_reducible refine i_ch ?_ | with_reducible refine i_tup ?_ | with_reducible refine i_lst ?_ | with_reducible refine i_sl ?_ | with_reducible refine i_fn ?_ | with_reducible refine i_mk ?_ | with_reducible refine i_me0 ?_ | with_reducible refine i_me ?_ | with_reducible refine i_bor ?_ | with_reducible refine i_borT ?_ | with_reducible refine i_join ?_ | with_reducible refine i_js0 ?_ | with_reducible refine i_js1 ?_ | with_reducible refine i_sseq ?_ | with_reducible refine i_sret ?_ | with_reducible refine i_sretF ?_ | with_reducible refine i_sexpr ?_ | with_reducible refine i_sset ?_ | with_reducible refine i_sown ?_ | with_reducible refine i_ssetL ?_ | with_reducible refine i_spar ?_ | with_reducible refine i_sasg ?_ | with_reducible refine i_sitem ?_ | with_reducible refine i_sapp ?_ | with_reducible refine i_sfs ?_ | with_reducible refine i_frz ?_ | with_reducible refine i_sfor ?_ | with_reducible refine i_lc ?_ | with_reducible refine i_snil ?_ | with_reducible refine i_nil ?_ | with_reducible refine i_cons ?_ | with_reducible refine i_pure ?_ | with_reducible refine i_lift ?_ | with_reducible refine i_bind ?_ | ((with_reducible apply i_fnW); rfl) | with_reducible refine nxN ?_ | with_reducible refine nxR ?_ | with_reducible refine nxF ?_ | with_reducible refine nxB ?_ | with_reducible refine nxC ?_ | with_reducible refine brN ?_ | with_reducible refine brT ?_ | with_reducible refine brF ?_ | ((with_reducible refine brYes (decide_eq_true ?_) ?_); omega) | ((with_reducible refine brNo (decide_eq_false ?_) ?_); omega) | ((with_reducible refine brYes ?_ ?_); (focus decide)) | ((with_reducible refine brNo ?_ ?_); (focus decide)) | ((with_reducible refine o_mod ?_ ?_); omega) | ((with_reducible refine o_fdiv ?_ ?_ ?_); omega; omega) | ((with_reducible refine o_mul ?_ ?_); omega) | ((with_reducible refine o_pow ?_ ?_); omega) | ((first | with_reducible refine o_addL ?_ ?_ | with_reducible refine o_addT ?_ ?_); (focus (rw [sizeLine_eq]; simp only [List.length_cons, List.length_nil, List.length_append, List.length_map]; omega))) | ((with_reducible refine o_strI (log_small ?_) ?_); omega) | ((with_reducible refine o_fmtI (log_small ?_) ?_); omega) | ((with_reducible refine o_rng1 ?_ ?_); omega) | ((with_reducible refine o_rng1I ?_ ?_ ?_); omega; omega) | ((fail_if_success with_reducible refine noRng1 ?_); (fail_if_success with_reducible refine noRng2 ?_); (fail_if_success with_reducible refine noRng3 ?_); (with_reducible apply opr); rfl) | ((with_reducible refine And.intro ?_ ?_); (first | rfl | decide | assumption | (focus (rw [sizeLine_eq]; simp; done)) | (focus (rw [rangeD_length, sizeLine_eq]; omega)))) | (with_reducible refine Exists.intro _ (And.intro rfl ?_)) | (with_reducible refine Exists.intro _ (Exists.intro _ (And.intro rfl ?_))) | fail))
      refine p_turn hl fun l' hl' => ?_
      (repeat' (first | ((with_reducible apply i_v); rfl) | with_reducible refine i_2 ?_ | with_reducible refine i_1 ?_ | with_reducible refine i_call ?_ | with_reducible refine i_callF ?_ | with_reducible refine i_2F ?_ | with_reducible refine i_if ?_ | with_reducible refine i_sif ?_ | with_reducible refine i_B ?_ | with_reducible refine i_tru ?_ | with_reducible refine i_not ?_ | with_reducible refine i_and ?_ | with_reducible refine i_or ?_ | with_reducible refine i_notV ?_ | with_reducible refine i_andV ?_ | with_reducible refine i_orV ?_ | with_reducible refine i_ch ?_ | with_reducible refine i_tup ?_ | with_reducible refine i_lst ?_ | with_reducible refine i_sl ?_ | with_reducible refine i_fn ?_ | with_reducible refine i_mk ?_ | with_reducible refine i_me0 ?_ | with_reducible refine i_me ?_ | with_reducible refine i_bor ?_ | with_reducible refine i_borT ?_ | with_reducible refine i_join ?_ | with_reducible refine i_js0 ?_ | with_reducible refine i_js1 ?_ | with_reducible refine i_sseq ?_ | with_reducible refine i_sret ?_ | with_reducible refine i_sretF ?_ | with_reducible refine i_sexpr ?_ | with_reducible refine i_sset ?_ | with_reducible refine i_sown ?_ | with_reducible refine i_ssetL ?_ | with_reducible refine i_spar ?_ | with_reducible refine i_sasg ?_ | with_reducible refine i_sitem ?_ | with_reducible refine i_sapp ?_ | with_reducible refine i_sfs ?_ | with_reducible refine i_frz ?_ | with_reducible refine i_sfor ?_ | with_reducible refine i_lc ?_ | with_reducible refine i_snil ?_ | with_reducible refine i_nil ?_ | with_reducible refine i_cons ?_ | with_reducible refine i_pure ?_ | with_reducible refine i_lift ?_ | with_reducible refine i_bind ?_ | ((with_reducible apply i_fnW); rfl) | with_reducible refine nxN ?_ | with_reducible refine nxR ?_ | with_reducible refine nxF ?_ | with_reducible refine nxB ?_ | with_reducible refine nxC ?_ | with_reducible refine brN ?_ | with_reducible refine brT ?_ | with_reducible refine brF ?_ | ((with_reducible refine brYes (decide_eq_true ?_) ?_); omega) | ((with_reducible refine brNo (decide_eq_false ?_) ?_); omega) | ((with_reducible refine brYes ?_ ?_); (focus decide)) | ((with_reducible refine brNo ?_ ?_); (focus decide)) | ((with_reducible refine o_mod ?_ ?_); omega) | ((with_reducible refine o_fdiv ?_ ?_ ?_); omega; omega) | ((with_reducible refine o_mul ?_ ?_); omega) | ((with_reducible refine o_pow ?_ ?_); omega) | ((first | with_reducible refine o_addL ?_ ?_ | with_reducible refine o_addT ?_ ?_); (focus (rw [sizeLine_eq]; simp only [List.length_cons, List.length_nil, List.length_append, List.length_map]; omega))) | ((with_reducible refine o_strI (log_small ?_) ?_); omega) | ((with_reducible refine o_fmtI (log_small ?_) ?_); omega) | ((with_reducible refine o_rng1 ?_ ?_); omega) | ((with_reducible refine o_rng1I ?_ ?_ ?_); omega; omega) | ((fail_if_success with_reducible refine noRng1 ?_); (fail_if_success with_reducible refine noRng2 ?_); (fail_if_success with_reducible refine noRng3 ?_); (with_reducible apply opr); rfl) | ((with_reducible refine And.intro ?_ ?_); (first | rfl | decide | assumption | (focus (rw [sizeLine_eq]; simp; done)) | (focus (rw [rangeD_length, sizeLine_eq]; omega)))) | (with_reducible refine Exists.intro _ (And.intro rfl ?_)) | (with_reducible refine Exists.intro _ (Exists.intro _ (And.intro rfl ?_))) | fail))
      exact ⟨l', hl', rfl⟩
    · rintro ys τ ⟨rfl, l, hl, rfl⟩
      (repeat' (first | ((with_reducible apply i_v); rfl) | with_reducible refine i_2 ?_ | with_reducible refine i_1 ?_ | with_reducible refine i_call ?_ | with_reducible refine i_callF ?_ | with_reducible refine i_2F ?_ | with_reducible refine i_if ?_ | with_reducible refine i_sif ?_ | with_reducible refine i_B ?_ | with_reducible refine i_tru ?_ | with_reducible refine i_not ?_ | with_reducible refine i_and ?_ | with_reducible refine i_or ?_ | with_reducible refine i_notV ?_ | with_reducible refine i_andV ?_ | with_reducible refine i_orV ?_ | with_reducible refine i_ch ?_ | with_reducible refine i_tup ?_ | with_reducible refine i_lst ?_ | with_reducible refine i_sl ?_ | with_reducible refine i_fn ?_ | with_reducible refine i_mk ?_ | with_reducible refine i_me0 ?_ | with_reducible refine i_me ?_ | with_reducible refine i_bor ?_ | with_reducible refine i_borT ?_ | with_reducible refine i_join ?_ | with_reducible refine i_js0 ?_ | with_reducible refine i_js1 ?_ | with_reducible refine i_sseq ?_ | with_reducible refine i_sret ?_ | with_reducible refine i_sretF ?_ | with_reducible refine i_sexpr ?_ | with_reducible refine i_sset ?_ | with_reducible refine i_sown ?_ | with_reducible refine i_ssetL ?_ | with_reducible refine i_spar ?_ | with_reducible refine i_sasg ?_ | with_reducible refine i_sitem ?_ | with_reducible refine i_sapp ?_ | with_reducible refine i_sfs ?_ | with_reducible refine i_frz ?_ | with_reducible refine i_sfor ?_ | with_reducible refine i_lc ?_ | with_reducible refine i_snil ?_ | with_reducible refine i_nil ?_ | with_reducible refine i_cons ?_ | with_reducible refine i_pure ?_ | with_reducible refine i_lift ?_ | with_reducible refine i_bind ?_ | ((with_reducible apply i_fnW); rfl) | with_reducible refine nxN ?_ | with_reducible refine nxR ?_ | with_reducible refine nxF ?_ | with_reducible refine nxB ?_ | with_reducible refine nxC ?_ | with_reducible refine brN ?_ | with_reducible refine brT ?_ | with_reducible refine brF ?_ | ((with_reducible refine brYes (decide_eq_true ?_) ?_); omega) | ((with_reducible refine brNo (decide_eq_false ?_) ?_); omega) | ((with_reducible refine brYes ?_ ?_); (focus decide)) | ((with_reducible refine brNo ?_ ?_); (focus decide)) | ((with_reducible refine o_mod ?_ ?_); omega) | ((with_reducible refine o_fdiv ?_ ?_ ?_); omega; omega) | ((with_reducible refine o_mul ?_ ?_); omega) | ((with_reducible refine o_pow ?_ ?_); omega) | ((first | with_reducible refine o_addL ?_ ?_ | with_reducible refine o_addT ?_ ?_); (focus (rw [sizeLine_eq]; simp only [List.length_cons, List.length_nil, List.length_append, List.length_map]; omega))) | ((with_reducible refine o_strI (log_small ?_) ?_); omega) | ((with_reducible refine o_fmtI (log_small ?_) ?_); omega) | ((with_reducible refine o_rng1 ?_ ?_); omega) | ((with_reducible refine o_rng1I ?_ ?_ ?_); omega; omega) | ((fail_if_success with_reducible refine noRng1 ?_); (fail_if_success with_reducible refine noRng2 ?_); (fail_if_success with_reducible refine noRng3 ?_); (with_reducible apply opr); rfl) | ((with_reducible refine And.intro ?_ ?_); (first | rfl | decide | assumption | (focus (rw [sizeLine_eq]; simp; done)) | (focus (rw [rangeD_length, sizeLine_eq]; omega)))) | (with_reducible refine Exists.intro _ (And.intro rfl ?_)) | (with_reducible refine Exists.intro _ (Exists.intro _ (And.intro rfl ?_))) | fail))
      exact ⟨fun d hd => h1 d (by simp [hd]), _, _, _, rfl⟩
  · rintro τ ⟨_, a, b, c, rfl⟩
    (repeat' (first | ((with_reducible apply i_v); rfl) | with_reducible refine i_2 ?_ | with_reducible refine i_1 ?_ | with_reducible refine i_call ?_ | with_reducible refine i_callF ?_ | with_reducible refine i_2F ?_ | with_reducible refine i_if ?_ | with_reducible refine i_sif ?_ | with_reducible refine i_B ?_ | with_reducible refine i_tru ?_ | with_reducible refine i_not ?_ | with_reducible refine i_and ?_ | with_reducible refine i_or ?_ | with_reducible refine i_notV ?_ | with_reducible refine i_andV ?_ | with_reducible refine i_orV ?_ | with_reducible refine i_ch ?_ | with_reducible refine i_tup ?_ | with_reducible refine i_lst ?_ | with_reducible refine i_sl ?_ | with_reducible refine i_fn ?_ | with_reducible refine i_mk ?_ | with_reducible refine i_me0 ?_ | with_reducible refine i_me ?_ | with_reducible refine i_bor ?_ | with_reducible refine i_borT ?_ | with_reducible refine i_join ?_ | with_reducible refine i_js0 ?_ | with_reducible refine i_js1 ?_ | with_reducible refine i_sseq ?_ | with_reducible refine i_sret ?_ | with_reducible refine i_sretF ?_ | with_reducible refine i_sexpr ?_ | with_reducible refine i_sset ?_ | with_reducible refine i_sown ?_ | with_reducible refine i_ssetL ?_ | with_reducible refine i_spar ?_ | with_reducible refine i_sasg ?_ | with_reducible refine i_sitem ?_ | with_reducible refine i_sapp ?_ | with_reducible refine i_sfs ?_ | with_reducible refine i_frz ?_ | with_reducible refine i_sfor ?_ | with_reducible refine i_lc ?_ | with_reducible refine i_snil ?_ | with_reducible refine i_nil ?_ | with_reducible refine i_cons ?_ | with_reducible refine i_pure ?_ | with_reducible refine i_lift ?_ | with_reducible refine i_bind ?_ | ((with_reducible apply i_fnW); rfl) | with_reducible refine nxN ?_ | with_reducible refine nxR ?_ | with_reducible refine nxF ?_ | with_reducible refine nxB ?_ | with_reducible refine nxC ?_ | with_reducible refine brN ?_ | with_reducible refine brT ?_ | with_reducible refine brF ?_ | ((with_reducible refine brYes (decide_eq_true ?_) ?_); omega) | ((with_reducible refine brNo (decide_eq_false ?_) ?_); omega) | ((with_reducible refine brYes ?_ ?_); (focus decide)) | ((with_reducible refine brNo ?_ ?_); (focus decide)) | ((with_reducible refine o_mod ?_ ?_); omega) | ((with_reducible refine o_fdiv ?_ ?_ ?_); omega; omega) | ((with_reducible refine o_mul ?_ ?_); omega) | ((with_reducible refine o_pow ?_ ?_); omega) | ((first | with_reducible refine o_addL ?_ ?_ | with_reducible refine o_addT ?_ ?_); (focus (rw [sizeLine_eq]; simp only [List.length_cons, List.length_nil, List.length_append, List.length_map]; omega))) | ((with_reducible refine o_strI (log_small ?_) ?_); omega) | ((with_reducible refine o_fmtI (log_small ?_) ?_); omega) | ((with_reducible refine o_rng1 ?_ ?_); omega) | ((with_reducible refine o_rng1I ?_ ?_ ?_); omega; omega) | ((fail_if_success with_reducible refine noRng1 ?_); (fail_if_success with_reducible refine noRng2 ?_); (fail_if_success with_reducible refine noRng3 ?_); (with_reducible apply opr); rfl) | ((with_reducible refine And.intro ?_ ?_); (first | rfl | decide | assumption | (focus (rw [sizeLine_eq]; simp; done)) | (focus (rw [rangeD_length, sizeLine_eq]; omega)))) | (with_reducible refine Exists.intro _ (And.intro rfl ?_)) | (with_reducible refine Exists.intro _ (Exists.intro _ (And.intro rfl ?_))) | fail))
    rfl
end Lw
set_option Elab.async false
set_option linter.all false
set_option maxRecDepth 100000
set_option maxHeartbeats 0
namespace Lw
open PySem PySem.Spec PyProof.Rows L2 Dv
def ls0 : List Str := ["WrongValue", "InvalidName", "InvalidHands", "InvalidStock", "InvalidFlag", "MOST_HANDS", "MOST_STOCK", "LETTERS", "DIGITS", "MOST_SIGNS", "is_integer", "is_name", "check_name", "check_flag", "Station", "Link", "_law_cell", "_law_well", "_law_draw", "_law_name", "_law_mate", "_law_names", "_law_station_row", "_law_link_row", "_law_station_right", "_law_link_right", "_law_turn"]
def ls : List Str := ls0
abbrev R : PySem.W.OpenRow := PySem.W.OpenLaw.row PySem.Challenge.rw_owntimes_k12_stations_and_links_made
abbrev hk : PySem.W.Hook := hookX 5 fa fn
def ob (s : PySem.W.SharedT) : He.AlD := obXG 5 fa fn (HandSHeadRun.getT s)
theorem ob_eq (s : PySem.W.SharedT) : ob s = hk.obs s.abs := obXG_eq (HandSHeadRun.getT_eq s)
theorem run (w : World) : HandSHeadRun.RunEq R (PySem.W.view R.prog [31]) hk ob 6000 ls w := by
  intro os
  kernel_rfl
theorem facts {K : PySem.W.Frag} {h : Heap} {mg : Str → Option Value} {f : Addr} (w : World) (X : K.In h) (G : h.Ns mainGlobals mg) (hf : mg ("law" : Str) = some (.ref f)) (c : SaysX fa fn K) :
    ∃ fd : FuncData, (∀ (s : Shared) (v : Value), BindsTo s fd ⟨[v], []⟩ [(P_law[0], v)]) ∧ ∀ base : Heap, K.In base → base.Ns mainGlobals mg → FnG (PySem.Challenge.rw_owntimes_k12_stations_and_links_made).prog w K mg base 7 f fd P_law (spD K mg 1 F_law) := by
  have x : Fx K h mg := ⟨X, G, c⟩
  have e := hf.symm.trans x.g_law
  cases e
  have F := x.c.def_ 28 (d := d_law)
  obtain ⟨fd, F⟩ := F
  have b := FunD.bindsA (ps := P_law) F fun _ _ _ _ _ _ us hl => match us, hl with | [_], _ => rfl
  exact ⟨fd, fun s v => b s [v] rfl, fun base _ _ => fnD F sc_law (b_law x)⟩
end Lw
open PySem PySem.W PySem.Calls PyProof.Rows in
theorem PySem.Challenge.cw_owntimes_k12_stations_and_links_made_holds : PySem.Challenge.rw_owntimes_k12_stations_and_links_made.Holds := by
  w_on; o_law
  refine HandSHeadRun.head_any (r := OpenLaw.row PySem.Challenge.rw_owntimes_k12_stations_and_links_made) (q := view (OpenLaw.row PySem.Challenge.rw_owntimes_k12_stations_and_links_made).prog [31]) (H := Lw.hk) (ob := Lw.ob) (M := 6000) (loose := Lw.ls) (d := HandSHeadRun.topDef (OpenLaw.row PySem.Challenge.rw_owntimes_k12_stations_and_links_made).prog 31) (kwd := []) Lw.ob_eq
    (by kernel_rfl) (fun s => by kernel_rfl) Lw.run (by kernel_rfl) (by kernel_rfl) (by kernel_rfl) (by rfl) (by first | assumption | decide +kernel) (by decide +kernel) ⟨rfl, rfl, rfl, rfl, rfl, by decide +kernel⟩ ?hw ?hc
  case hw => w_witness2
  case hc =>
    refine Dv.walkG (l := PySem.Challenge.rw_owntimes_k12_stations_and_links_made) (n := 63) (k := 7) (x := Lw.P_law[0]) rfl (by decide) (by kernel_rfl) ⟨rfl, by decide, by decide⟩ ?F
    intro w mg fa h Y G hmg0
    obtain ⟨K, KX, c⟩ := Y
    have hmg : mg ("law" : PySem.Str) = some (.ref fa) := by
      have e : (HandSHeadRun.topDef (OpenLaw.row PySem.Challenge.rw_owntimes_k12_stations_and_links_made).prog 31).name = ("law" : PySem.Str) := by kernel_rfl
      rw [← e]
      exact hmg0
    obtain ⟨fd, hb, hF⟩ := Lw.facts w KX G hmg c
    exact ⟨K, fd, Lw.F_law, KX, hb, fun ns hl => Lw.law_pure ns hl, hF⟩
