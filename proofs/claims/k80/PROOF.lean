import PyProof.Rows.All
import Wide.All
import OpenK.AllK
import Wide.FinOn
import KE.KStateDown
import HandS.ForMost
import HandS.ForExc
import HandS.Defaults
import HandS.Zip
import HandS.Style
import HandS.TupAny
import HandS.TupMul
import HandS.CallSlots
import HandS.IsInst
import HandS.Wide
import HandS.Walk
import KE.GoesEnum
import KE.GoesNew
import HandS.Star
import KE.SortData
import KE.KExcSuper
import KE.KExcTry
import HandS.FStr
import HandS.FStrTup
import HandS.ExcInit
import HandS.ExcField
import HandS.Lambda
import HandS.Words
import PySem.Challenge.RW_digitwords_k80_whole_beginnings_that_equ
import HandS.HeadHook1
import HandS.HeadHook2
import HandS.HeadEnd
import Lean
import HandS.Head0
import HandS.Head1
import HandS.Head2
set_option Elab.async false
set_option linter.all false
set_option maxRecDepth 100000
section
set_option maxHeartbeats 2000000
/-! Sh1: plain data over the hand layer: what a value represents, frames, the judgements of the shallow layer. -/
namespace Sh
open PySem PySem.Spec PyProof.Rows L2

/-- plain data -/
inductive D where
  | non | bl (b : Bool) | int (i : Int) | str (s : Str) | tup (xs : List D) | lst (xs : List D) | dice | exn (a od : Addr) (fld : Str) (d : D) | raw (v : V)
/-- the dice: three whole numbers -/
abbrev Di := Int × Int × Int

mutual
/-- a value of the hand layer, read in a heap, is a datum -/
inductive Rep (K : PySem.W.Frag) (pd : Addr) (H : Hp) : V → D → Prop
  | non : Rep K pd H .non .non
  | bl (b : Bool) : Rep K pd H (.bl b) (.bl b)
  | int (i : Int) : Rep K pd H (.int i) (.int i)
  | str (s : Str) : Rep K pd H (.str s) (.str s)
  | tup {a : Addr} {vs : List V} {ds : List D} : SqT K H a vs → Reps K pd H vs ds → Rep K pd H (.ref a) (.tup ds)
  | lst {a : Addr} {vs : List V} {ds : List D} : H a = some (.lst vs) → Reps K pd H vs ds → Rep K pd H (.ref a) (.lst ds)
  | dice : Rep K pd H (.ref pd) .dice
  | exn {a od : Addr} {fld : Str} {v : V} {d : D} : H od = some (.xd [(fld, v)]) → Rep K pd H v d → Rep K pd H (.ref a) (.exn a od fld d)
  | raw (v : V) : Rep K pd H v (.raw v)
inductive Reps (K : PySem.W.Frag) (pd : Addr) (H : Hp) : List V → List D → Prop
  | nil : Reps K pd H [] []
  | cons {v : V} {d : D} {vs : List V} {ds : List D} : Rep K pd H v d → Reps K pd H vs ds → Reps K pd H (v :: vs) (d :: ds)
end

/-- some addresses hidden -/
def hid (O : List Addr) (H : Hp) : Hp := fun b => if b ∈ O then none else H b
/-- all but the dice's list is as it was -/
def Grow (pd : Addr) (H H' : Hp) : Prop := ∀ b o, b ≠ pd → H b = some o → H' b = some o
def DiceAt (pd : Addr) (δ : Di) (H : Hp) : Prop := H pd = some (.lst [.int δ.1, .int δ.2.1, .int δ.2.2])

theorem Grow.refl {pd : Addr} {H : Hp} : Grow pd H H := fun _ _ _ h => h
theorem Grow.trans {pd : Addr} {H H1 H2 : Hp} (a : Grow pd H H1) (b : Grow pd H1 H2) : Grow pd H H2 := fun c o n h => b c o n (a c o n h)
theorem Grow.of {pd : Addr} {H H' : Hp} (s : Same H H') : Grow pd H H' := fun b o _ h => s b o h
theorem hid_le {pd : Addr} {O : List Addr} {H H' : Hp} (g : Grow pd H H') : Same (hid (pd :: O) H) (hid (pd :: O) H') := fun b o h => by
  unfold hid at h ⊢
  by_cases hb : b ∈ pd :: O
  · rw [if_pos hb] at h; cases h
  · rw [if_neg hb] at h ⊢
    exact g b o (fun e => hb (by rw [e]; exact List.mem_cons_self)) h
theorem hid_sub {O O' : List Addr} {H : Hp} (h : ∀ a ∈ O, a ∈ O') : Same (hid O' H) (hid O H) := fun b o q => by
  unfold hid at q ⊢
  by_cases hb : b ∈ O'
  · rw [if_pos hb] at q; cases q
  · rw [if_neg hb] at q
    rw [if_neg fun z => hb (h b z)]
    exact q
theorem hid_of {O : List Addr} {H : Hp} {b : Addr} (n : b ∉ O) : hid O H b = H b := if_neg n
theorem hid_get {O : List Addr} {H : Hp} {b : Addr} {o : HO} (h : hid O H b = some o) : H b = some o := by
  unfold hid at h
  by_cases hb : b ∈ O
  · rw [if_pos hb] at h; cases h
  · rw [if_neg hb] at h; exact h
theorem hid_same {O : List Addr} {H : Hp} : Same (hid O H) H := fun _ _ h => hid_get h

theorem Rd.same {H H' : Hp} {a : Addr} {u : HO} (e : Same H H') (h : Rd H a u) : Rd H' a u := by
  rcases h with h | ⟨o, h⟩
  · exact .inl (e _ _ h)
  · exact .inr ⟨o, e _ _ h⟩
theorem sqT_same {K : PySem.W.Frag} {H H' : Hp} {a : Addr} {xs : List V} (e : Same H H') (h : SqT K H a xs) : SqT K H' a xs := by
  rcases h with h | h
  · exact .inl (Rd.same e h)
  · exact .inr h
mutual
theorem Rep.same {K : PySem.W.Frag} {pd : Addr} {H H' : Hp} {v : V} {d : D} (e : Same H H') : Rep K pd H v d → Rep K pd H' v d
  | .non => .non
  | .bl b => .bl b
  | .int i => .int i
  | .str s => .str s
  | .tup h r => .tup (sqT_same e h) (Reps.same e r)
  | .lst h r => .lst (e _ _ h) (Reps.same e r)
  | .dice => .dice
  | .exn h r => .exn (e _ _ h) (Rep.same e r)
  | .raw v => .raw v
theorem Reps.same {K : PySem.W.Frag} {pd : Addr} {H H' : Hp} {vs : List V} {ds : List D} (e : Same H H') : Reps K pd H vs ds → Reps K pd H' vs ds
  | .nil => .nil
  | .cons h r => .cons (Rep.same e h) (Reps.same e r)
end
theorem Reps.length {K : PySem.W.Frag} {pd : Addr} {H : Hp} : ∀ {vs : List V} {ds : List D}, Reps K pd H vs ds → vs.length = ds.length
  | _, _, .nil => rfl
  | _, _, .cons _ r => by rw [List.length_cons, List.length_cons, Reps.length r]
theorem Reps.app {K : PySem.W.Frag} {pd : Addr} {H : Hp} : ∀ {vs ws : List V} {ds es : List D}, Reps K pd H vs ds → Reps K pd H ws es → Reps K pd H (vs ++ ws) (ds ++ es)
  | _, _, _, _, .nil, r => r
  | _, _, _, _, .cons h t, r => .cons h (Reps.app t r)
theorem Reps.get {K : PySem.W.Frag} {pd : Addr} {H : Hp} : ∀ {vs : List V} {ds : List D} {i : Nat} {d : D}, Reps K pd H vs ds → ds[i]? = some d → ∃ v, vs[i]? = some v ∧ Rep K pd H v d
  | _, _, _, _, .nil, h => by simp at h
  | _, _, 0, _, .cons h _, e => by simp at e; subst e; exact ⟨_, rfl, h⟩
  | _, _, i + 1, d, .cons _ r, e => by
    obtain ⟨v, h1, h2⟩ := Reps.get (i := i) (d := d) r (by simpa using e)
    exact ⟨v, by simpa using h1, h2⟩
theorem Reps.get' {K : PySem.W.Frag} {pd : Addr} {H : Hp} {vs : List V} {ds : List D} {i : Nat} {v : V} (r : Reps K pd H vs ds) (e : vs[i]? = some v) : ∃ d, ds[i]? = some d ∧ Rep K pd H v d := by
  have hi : i < ds.length := by rw [← r.length]; exact (List.getElem?_eq_some_iff.mp e).1
  obtain ⟨w, h1, h2⟩ := r.get (List.getElem?_eq_getElem hi)
  rw [e] at h1; cases h1
  exact ⟨_, List.getElem?_eq_getElem hi, h2⟩
theorem Reps.set {K : PySem.W.Frag} {pd : Addr} {H : Hp} {v : V} {d : D} (h : Rep K pd H v d) : ∀ {vs : List V} {ds : List D} (i : Nat), Reps K pd H vs ds → Reps K pd H (vs.set i v) (ds.set i d)
  | _, _, _, .nil => .nil
  | _, _, 0, .cons _ r => .cons h r
  | _, _, i + 1, .cons q r => .cons q (Reps.set h i r)
theorem Reps.take {K : PySem.W.Frag} {pd : Addr} {H : Hp} : ∀ {vs : List V} {ds : List D} (n : Nat), Reps K pd H vs ds → Reps K pd H (vs.take n) (ds.take n)
  | _, _, 0, _ => .nil
  | _, _, _ + 1, .nil => .nil
  | _, _, n + 1, .cons h r => .cons h (Reps.take n r)
theorem Reps.drop {K : PySem.W.Frag} {pd : Addr} {H : Hp} : ∀ {vs : List V} {ds : List D} (n : Nat), Reps K pd H vs ds → Reps K pd H (vs.drop n) (ds.drop n)
  | _, _, 0, r => r
  | _, _, _ + 1, .nil => .nil
  | _, _, n + 1, .cons _ r => Reps.drop n r
theorem Reps.rev {K : PySem.W.Frag} {pd : Addr} {H : Hp} : ∀ {vs : List V} {ds : List D}, Reps K pd H vs ds → Reps K pd H vs.reverse ds.reverse
  | _, _, .nil => .nil
  | _, _, .cons h r => by rw [List.reverse_cons, List.reverse_cons]; exact Reps.app (Reps.rev r) (.cons h .nil)
theorem Reps.rep {K : PySem.W.Frag} {pd : Addr} {H : Hp} {vs : List V} {ds : List D} (r : Reps K pd H vs ds) : ∀ n : Nat, Reps K pd H (List.replicate n vs).flatten (List.replicate n ds).flatten
  | 0 => .nil
  | n + 1 => by rw [List.replicate_succ, List.replicate_succ, List.flatten_cons, List.flatten_cons]; exact Reps.app r (Reps.rep r n)

/-! ### outcomes -/
/-- an exception: its class's name, its field and what it holds -/
structure Ex where
  cls : Str
  fld : Str
  arg : D
/-- an exception as it lies: the class at the module's name; its own dict holds the one field -/
def ExR (K : PySem.W.Frag) (mg : Str → Option Value) (pd : Addr) (H : Hp) (cls : Value) (od : Option Addr) (x : Ex) : Prop :=
  mg x.cls = some cls ∧ ∃ (d : Addr) (v : V), od = some d ∧ H d = some (.xd [(x.fld, v)]) ∧ Rep K pd H v x.arg
theorem ExR.same {K : PySem.W.Frag} {mg : Str → Option Value} {pd : Addr} {H H' : Hp} {cls : Value} {od : Option Addr} {x : Ex} (e : Same H H') (h : ExR K mg pd H cls od x) : ExR K mg pd H' cls od x := by
  obtain ⟨a, d, v, b, c, r⟩ := h
  exact ⟨a, d, v, b, e _ _ c, r.same e⟩
inductive Out (α : Type) where
  | ok (a : α) (δ : Di)
  | er (x : Ex) (δ : Di)
  | bad
def Out.bind {α β : Type} (o : Out α) (f : α → Di → Out β) : Out β := match o with
  | .ok a δ => f a δ
  | .er x δ => .er x δ
  | .bad => .bad
theorem Out.bind_ok {α β : Type} {o : Out α} {f : α → Di → Out β} {b : β} {δ : Di} (h : o.bind f = .ok b δ) : ∃ a δ1, o = .ok a δ1 ∧ f a δ1 = .ok b δ := by
  cases o with
  | ok a d => exact ⟨a, d, rfl, h⟩
  | er x d => cases h
  | bad => cases h
theorem Out.bind_er {α β : Type} {o : Out α} {f : α → Di → Out β} {x : Ex} {δ : Di} (h : o.bind f = .er x δ) : o = .er x δ ∨ ∃ a δ1, o = .ok a δ1 ∧ f a δ1 = .er x δ := by
  cases o with
  | ok a d => exact .inr ⟨a, d, rfl, h⟩
  | er y d =>
    have h' : (Out.er y d : Out β) = .er x δ := h
    cases h'
    exact .inl rfl
  | bad => cases h
def Out.get {α : Type} (o : Option α) (δ : Di) : Out α := match o with
  | some a => .ok a δ
  | none => .bad
theorem Out.get_ok {α : Type} {o : Option α} {δ δ' : Di} {a : α} (h : Out.get o δ = .ok a δ') : o = some a ∧ δ' = δ := by
  cases o with
  | some b =>
    have h' : (Out.ok b δ : Out α) = .ok a δ' := h
    cases h'
    exact ⟨rfl, rfl⟩
  | none => cases h
theorem Out.get_er {α : Type} {o : Option α} {δ δ' : Di} {x : Ex} (h : Out.get o δ = .er x δ') : False := by
  cases o <;> cases h

/-! ### slots, frames -/
inductive Sl where
  | em | va (d : D) | ow (xs : List D)
abbrev Ev := List Sl
abbrev Sg := L2.St
/-- the frame: H0 the heap at the entry, Oc what the callers hide, O all that is hidden -/
structure FR (K : PySem.W.Frag) (pd : Addr) (H0 : Hp) (Oc O : List Addr) (ρ : Ev) (δ : Di) (σ : Sg) (H : Hp) : Prop where
  grow : Grow pd H0 H
  dice : DiceAt pd δ H
  sub : ∀ a ∈ Oc, a ∈ O
  oc0 : ∀ a ∈ Oc, H0 a ≠ none
  al : ∀ a ∈ O, H a ≠ none
  len : σ.length = ρ.length
  va : ∀ (i : Nat) (d : D), ρ[i]? = some (.va d) → ∃ v, σ[i]? = some (some v) ∧ Rep K pd (hid (pd :: O) H) v d
  ow : ∀ (i : Nat) (xs : List D), ρ[i]? = some (.ow xs) → ∃ a vs, σ[i]? = some (some (.ref a)) ∧ a ∈ O ∧ H0 a = none ∧ a ≠ pd ∧ H a = some (.lst vs) ∧ Reps K pd (hid (pd :: O) H) vs xs
  dis : ∀ (i j : Nat) (xs ys : List D) (a : Addr), ρ[i]? = some (.ow xs) → ρ[j]? = some (.ow ys) → σ[i]? = some (some (.ref a)) → σ[j]? = some (some (.ref a)) → i = j
theorem FR.pdn {K : PySem.W.Frag} {pd : Addr} {H0 : Hp} {Oc O : List Addr} {ρ : Ev} {δ : Di} {σ : Sg} {H : Hp} (F : FR K pd H0 Oc O ρ δ σ H) : ∀ a ∈ pd :: O, H a ≠ none := fun a ha => by
  rcases List.mem_cons.mp ha with e | e
  · rw [e, F.dice]; exact fun z => by cases z
  · exact F.al a e
theorem FR.next {K : PySem.W.Frag} {pd : Addr} {H0 : Hp} {Oc O : List Addr} {ρ : Ev} {δ δ' : Di} {σ : Sg} {H H' : Hp} (F : FR K pd H0 Oc O ρ δ σ H) (g : Grow pd H H') (d : DiceAt pd δ' H') : FR K pd H0 Oc O ρ δ' σ H' where
  grow := F.grow.trans g
  dice := d
  sub := F.sub
  oc0 := F.oc0
  al := fun a ha => by
    by_cases e : a = pd
    · rw [e, d]; exact fun z => by cases z
    · cases q : H a with
      | none => exact absurd q (F.al a ha)
      | some o => rw [g a o e q]; exact fun z => by cases z
  len := F.len
  va := fun i x h => by
    obtain ⟨v, a, r⟩ := F.va i x h
    exact ⟨v, a, r.same (hid_le g)⟩
  ow := fun i xs h => by
    obtain ⟨a, vs, h1, h2, h3, h4, h5, h6⟩ := F.ow i xs h
    exact ⟨a, vs, h1, h2, h3, h4, g _ _ h4 h5, h6.same (hid_le g)⟩
  dis := F.dis

/-! ### judgements -/
abbrev EF := Ev → Di → Out D
abbrev TF := Ev → Di → Out Bool
abbrev AF := Ev → Di → Out (List D)
def wE (X : Cx) (e : Expr) (σ : Sg) (H : Hp) (Q : VK) : Prop := ∀ (pins : List (Addr × Obj)) (s : Shared), Inv X pins σ H s → wpAny (model X.prog X.w) X.A (eval e X.env) (EP X pins σ Q) X.xe s
def wT (X : Cx) (e : Expr) (σ : Sg) (H : Hp) (Q : Bool → Hp → Prop) : Prop := ∀ (pins : List (Addr × Obj)) (s : Shared), Inv X pins σ H s → wpAny (model X.prog X.w) X.A (isTrue e X.env (eval e X.env)) (TP X pins σ Q) X.xe s
def wW (X : Cx) (e : Expr) (σ : Sg) (H : Hp) (Q : Bool → Hp → Prop) : Prop := ∀ (whole : Sem Value) (pins : List (Addr × Obj)) (s : Shared), Inv X pins σ H s → wpAny (model X.prog X.w) X.A (isTrue e X.env whole) (TP X pins σ Q) X.xe s
def wA (X : Cx) (es : List Expr) (σ : Sg) (H : Hp) (Q : List V → Hp → Prop) : Prop := ∀ (pos : Pos) (pins : List (Addr × Obj)) (s : Shared), Inv X pins σ H s → wpAny (model X.prog X.w) X.A (spliced (backTo pos (starEach es X.env))) (AP X pins σ Q) X.xe s
theorem pe_w {X : Cx} {e : Expr} : PE X e (wE X e) := ⟨fun pins s _ _ _ I h => h pins s I⟩
theorem pt_w {X : Cx} {e : Expr} : PT X e (wT X e) := ⟨fun pins s _ _ _ I h => h pins s I⟩
theorem pw_w {X : Cx} {e : Expr} : PW X e (wW X e) := ⟨fun wh pins s _ _ _ I h => h wh pins s I⟩
theorem pa_w {X : Cx} {es : List Expr} : PA X es (wA X es) := ⟨fun pos pins s _ _ _ I h => h pos pins s I⟩
theorem wE_of {X : Cx} {e : Expr} {t : TE} (p : PE X e t) {σ : Sg} {H : Hp} {Q : VK} (h : t σ H Q) : wE X e σ H Q := fun pins s I => p.run pins s σ H Q I h
theorem wT_of {X : Cx} {e : Expr} {t : TT} (p : PT X e t) {σ : Sg} {H : Hp} {Q : Bool → Hp → Prop} (h : t σ H Q) : wT X e σ H Q := fun pins s I => p.run pins s σ H Q I h
theorem wW_of {X : Cx} {e : Expr} {t : TT} (p : PW X e t) {σ : Sg} {H : Hp} {Q : Bool → Hp → Prop} (h : t σ H Q) : wW X e σ H Q := fun wh pins s I => p.run wh pins s σ H Q I h
theorem wA_of {X : Cx} {es : List Expr} {t : TA} (p : PA X es t) {σ : Sg} {H : Hp} {Q : List V → Hp → Prop} (h : t σ H Q) : wA X es σ H Q := fun pos pins s I => p.run pos pins s σ H Q I h
theorem wE_mono {X : Cx} {e : Expr} {σ : Sg} {H : Hp} {Q Q' : VK} (h : wE X e σ H Q) (i : ∀ v H', Q v H' → Q' v H') : wE X e σ H Q' := fun pins s I => thn (h pins s I) fun _ _ ⟨v, H', I', r, q⟩ => ⟨v, H', I', r, i v H' q⟩

/-- what is asked of an exception's end -/
def ErW (X : Cx) (pd : Addr) (O : List Addr) (W : WX) (σ : Sg) (H : Hp) (x : Ex) (δ' : Di) : Prop :=
  ∀ cls od H', Grow pd H H' → DiceAt pd δ' H' → ExR X.K X.mg pd (hid (pd :: O) H') cls od x → W cls od σ H'

structure SE (X : Cx) (e : Expr) (f : EF) : Prop where
  ok : ∀ {pd H0 Oc O ρ δ σ H d δ'}, FR X.K pd H0 Oc O ρ δ σ H → f ρ δ = .ok d δ' → ∀ Q : VK, (∀ v H', Grow pd H H' → DiceAt pd δ' H' → Rep X.K pd (hid (pd :: O) H') v d → Q v H') → wE X e σ H Q
  er : ∀ {pd H0 Oc O ρ δ σ H x δ'}, FR X.K pd H0 Oc O ρ δ σ H → f ρ δ = .er x δ' → ∀ (W : WX) (Q : VK), Takes X W → ErW X pd O W σ H x δ' → wE X e σ H Q
structure ST (X : Cx) (e : Expr) (f : TF) : Prop where
  ok : ∀ {pd H0 Oc O ρ δ σ H b δ'}, FR X.K pd H0 Oc O ρ δ σ H → f ρ δ = .ok b δ' → ∀ Q : Bool → Hp → Prop, (∀ H', Grow pd H H' → DiceAt pd δ' H' → Q b H') → wT X e σ H Q
  er : ∀ {pd H0 Oc O ρ δ σ H x δ'}, FR X.K pd H0 Oc O ρ δ σ H → f ρ δ = .er x δ' → ∀ (W : WX) (Q : Bool → Hp → Prop), Takes X W → ErW X pd O W σ H x δ' → wT X e σ H Q
structure SW (X : Cx) (e : Expr) (f : TF) : Prop where
  ok : ∀ {pd H0 Oc O ρ δ σ H b δ'}, FR X.K pd H0 Oc O ρ δ σ H → f ρ δ = .ok b δ' → ∀ Q : Bool → Hp → Prop, (∀ H', Grow pd H H' → DiceAt pd δ' H' → Q b H') → wW X e σ H Q
  er : ∀ {pd H0 Oc O ρ δ σ H x δ'}, FR X.K pd H0 Oc O ρ δ σ H → f ρ δ = .er x δ' → ∀ (W : WX) (Q : Bool → Hp → Prop), Takes X W → ErW X pd O W σ H x δ' → wW X e σ H Q
structure SA (X : Cx) (es : List Expr) (f : AF) : Prop where
  ok : ∀ {pd H0 Oc O ρ δ σ H ds δ'}, FR X.K pd H0 Oc O ρ δ σ H → f ρ δ = .ok ds δ' → ∀ Q : List V → Hp → Prop, (∀ vs H', Grow pd H H' → DiceAt pd δ' H' → Reps X.K pd (hid (pd :: O) H') vs ds → Q vs H') → wA X es σ H Q
  er : ∀ {pd H0 Oc O ρ δ σ H x δ'}, FR X.K pd H0 Oc O ρ δ σ H → f ρ δ = .er x δ' → ∀ (W : WX) (Q : List V → Hp → Prop), Takes X W → ErW X pd O W σ H x δ' → wA X es σ H Q
theorem ErW.next {X : Cx} {pd : Addr} {O : List Addr} {W : WX} {σ : Sg} {H H1 : Hp} {x : Ex} {δ' : Di} (h : ErW X pd O W σ H x δ') (g : Grow pd H H1) : ErW X pd O W σ H1 x δ' := fun cls od H' g' d r => h cls od H' (g.trans g') d r
end Sh
end
section
set_option maxHeartbeats 2000000
/-! Sh2: operators over plain data. -/
namespace Sh
open PySem PySem.Spec PyProof.Rows L2

/-- all hidden places are taken -/
def Taken (O : List Addr) (H : Hp) : Prop := ∀ a ∈ O, H a ≠ none
/-- a two-place operation of the machine that does g -/
def OpD (X : Cx) (f : Value → Value → Sem Value) (g : D → D → Option D) : Prop := ∃ r : R2, OpR X f r ∧
  ∀ (pd : Addr) (O : List Addr) (H : Hp) (v w : V) (x y z : D) (Q : VK), g x y = some z → Taken (pd :: O) H → Rep X.K pd (hid (pd :: O) H) v x → Rep X.K pd (hid (pd :: O) H) w y →
    (∀ u H', Same H H' → Rep X.K pd (hid (pd :: O) H') u z → Q u H') → r v w H Q

theorem same_upd {H : Hp} {p : Addr} {o : HO} (h : H p = none) : Same H (upd H p o) := fun b x e => by
  rw [upd_ne (ne_of_none e h)]
  exact e
theorem hid_new {O : List Addr} {H : Hp} {p : Addr} {o : HO} (t : Taken O H) (h : H p = none) : hid O (upd H p o) p = some o := by
  rw [hid_of fun z => t p z h, upd_same]
theorem hid_le' {O : List Addr} {H H' : Hp} (g : Same H H') : Same (hid O H) (hid O H') := fun b o h => by
  unfold hid at h ⊢
  by_cases hb : b ∈ O
  · rw [if_pos hb] at h; cases h
  · rw [if_neg hb] at h ⊢
    exact g b o h
theorem sqT_get {K : PySem.W.Frag} {O : List Addr} {H : Hp} {a : Addr} {xs : List V} (h : SqT K (hid O H) a xs) : SqT K H a xs := sqT_same hid_same h
/-- a new tuple, a new list -/
theorem rep_newT {K : PySem.W.Frag} {pd : Addr} {O : List Addr} {H : Hp} {p : Addr} {vs : List V} {ds : List D} (t : Taken O H) (h : H p = none) (r : Reps K pd (hid O H) vs ds) : Rep K pd (hid O (upd H p (.tup vs))) (.ref p) (.tup ds) :=
  .tup (.inl (.inl (hid_new t h))) (r.same (hid_le' (same_upd h)))
theorem rep_newL {K : PySem.W.Frag} {pd : Addr} {O : List Addr} {H : Hp} {p : Addr} {vs : List V} {ds : List D} (t : Taken O H) (h : H p = none) (r : Reps K pd (hid O H) vs ds) : Rep K pd (hid O (upd H p (.lst vs))) (.ref p) (.lst ds) :=
  .lst (hid_new t h) (r.same (hid_le' (same_upd h)))

abbrev lim : Nat := 16777216
theorem lim_eq : sizeLine = lim := sizeLine_eq
def addD : D → D → Option D
  | .int i, .int j => some (.int (i + j))
  | .str a, .str b => if a.length + b.length ≤ lim then some (.str (a ++ b)) else none
  | .tup a, .tup b => if a.length + b.length ≤ lim then some (.tup (a ++ b)) else none
  | .lst a, .lst b => if a.length + b.length ≤ lim then some (.lst (a ++ b)) else none
  | _, _ => none
theorem od_add {X : Cx} : OpD X (binaryOp .Add) addD := by
  refine ⟨_, (op_add.or (op_add_str.or (op_catA.or op_cat))), ?_⟩
  intro pd O H v w x y z Q hg ht hx hy hq
  cases hx with
  | int i => cases hy with
    | int j => cases hg; exact .inl ⟨i, j, rfl, rfl, hq _ H (Same.refl H) (.int _)⟩
    | _ => cases hg
  | str a => cases hy with
    | str b =>
      have hg : (if a.length + b.length ≤ lim then some (D.str (a ++ b)) else none) = some z := hg
      by_cases h : a.length + b.length ≤ lim
      · rw [if_pos h] at hg; cases hg
        exact .inr (.inl ⟨a, b, rfl, rfl, by rw [lim_eq]; exact h, hq _ H (Same.refl H) (.str _)⟩)
      · rw [if_neg h] at hg; cases hg
    | _ => cases hg
  | @tup a vs ds ha ra => cases hy with
    | @tup b ws es hb rb =>
      have hg : (if ds.length + es.length ≤ lim then some (D.tup (ds ++ es)) else none) = some z := hg
      by_cases h : ds.length + es.length ≤ lim
      · rw [if_pos h] at hg; cases hg
        refine .inr (.inr (.inl ⟨a, b, vs, ws, rfl, rfl, sqT_get ha, sqT_get hb, by rw [lim_eq, ra.length, rb.length]; exact h, fun e => ?_, fun _ e => ?_, fun _ _ p hp => ?_⟩))
        · subst e; cases ra; exact hq _ H (Same.refl H) (.tup hb rb)
        · subst e; cases rb; exact hq _ H (Same.refl H) (by rw [List.append_nil]; exact .tup ha ra)
        · exact hq _ _ (same_upd hp) (rep_newT ht hp (ra.app rb))
      · rw [if_neg h] at hg; cases hg
    | _ => cases hg
  | @lst a vs ds ha ra => cases hy with
    | @lst b ws es hb rb =>
      have hg : (if ds.length + es.length ≤ lim then some (D.lst (ds ++ es)) else none) = some z := hg
      by_cases h : ds.length + es.length ≤ lim
      · rw [if_pos h] at hg; cases hg
        exact .inr (.inr (.inr ⟨a, b, vs, ws, rfl, rfl, hid_get ha, hid_get hb, by rw [lim_eq, ra.length, rb.length]; exact h, fun p hp => hq _ _ (same_upd hp) (rep_newL ht hp (ra.app rb))⟩))
      · rw [if_neg h] at hg; cases hg
    | _ => cases hg
  | _ => cases hg
def intD (g : Int → Int → Option D) : D → D → Option D
  | .int i, .int j => g i j
  | _, _ => none
/-- whole numbers, by a rule of theirs -/
theorem od_int {X : Cx} {f : Value → Value → Sem Value} {C : Int → Int → Prop} {g : Int → Int → V} {h : Int → Int → Option D} (ho : OpR X f (rI C g))
    (hh : ∀ i j z, h i j = some z → C i j ∧ ∀ (K : PySem.W.Frag) (pd : Addr) (H : Hp), Rep K pd H (g i j) z) : OpD X f (intD h) := by
  refine ⟨_, ho, ?_⟩
  intro pd O H v w x y z Q hg ht hx hy hq
  cases hx with
  | int i => cases hy with
    | int j =>
      obtain ⟨c, r⟩ := hh i j z hg
      exact ⟨i, j, rfl, rfl, c, hq _ H (Same.refl H) (r _ _ _)⟩
    | _ => cases hg
  | _ => cases hg
theorem od_int0 {X : Cx} {f : Value → Value → Sem Value} {g : Int → Int → V} {h : Int → Int → Option D} (ho : OpR X f (rI0 g))
    (hh : ∀ i j z, h i j = some z → ∀ (K : PySem.W.Frag) (pd : Addr) (H : Hp), Rep K pd H (g i j) z) : OpD X f (intD h) := by
  refine ⟨_, ho, ?_⟩
  intro pd O H v w x y z Q hg ht hx hy hq
  cases hx with
  | int i => cases hy with
    | int j => exact ⟨i, j, rfl, rfl, hq _ H (Same.refl H) (hh i j z hg _ _ _)⟩
    | _ => cases hg
  | _ => cases hg
def subD : D → D → Option D := intD fun i j => some (.int (i - j))
theorem od_sub {X : Cx} : OpD X (binaryOp .Sub) subD := od_int0 op_sub fun i j z h K pd H => by cases h; exact .int _
def modD : D → D → Option D := intD fun i j => if 0 < j then some (.int (i % j)) else none
theorem od_mod {X : Cx} : OpD X (binaryOp .Mod) modD := od_int op_mod fun i j z h => by
  by_cases c : 0 < j
  · rw [if_pos c] at h; cases h; exact ⟨c, fun K pd H => .int _⟩
  · rw [if_neg c] at h; cases h
def fdivD : D → D → Option D := intD fun i j => if 0 < j ∧ j < 1073741824 then some (.int (i / j)) else none
theorem od_fdiv {X : Cx} : OpD X (binaryOp .FloorDiv) fdivD := od_int op_fdiv fun i j z h => by
  by_cases c : 0 < j ∧ j < 1073741824
  · rw [if_pos c] at h; cases h; exact ⟨c, fun K pd H => .int _⟩
  · rw [if_neg c] at h; cases h
def powD : D → D → Option D := intD fun i j => if 0 ≤ j ∧ j ≤ 1000000 ∧ i.natAbs < 2 ^ 64 then some (.int (i ^ j.toNat)) else none
theorem od_pow {X : Cx} : OpD X (binaryOp .Pow) powD := od_int op_pow fun i j z h => by
  by_cases c : 0 ≤ j ∧ j ≤ 1000000 ∧ i.natAbs < 2 ^ 64
  · rw [if_pos c] at h; cases h; exact ⟨c, fun K pd H => .int _⟩
  · rw [if_neg c] at h; cases h
abbrev mulB (i : Int) : Prop := -18446744073709551616 < i ∧ i < 18446744073709551616
def mulD : D → D → Option D
  | .int i, .int j => if mulB i ∨ mulB j then some (.int (i * j)) else none
  | .lst a, .int k => if -9223372036854775808 ≤ k ∧ k < 9223372036854775808 ∧ a.length * k.toNat ≤ lim then some (.lst (List.replicate k.toNat a).flatten) else none
  | .tup a, .int k => if a ≠ [] ∧ 2 ≤ k ∧ k ≤ 1000 ∧ a.length ≤ 1000 then some (.tup (List.replicate k.toNat a).flatten) else none
  | _, _ => none
theorem od_mul {X : Cx} : OpD X (binaryOp .Mult) mulD := by
  refine ⟨_, (op_mul.or (op_rep.or op_repT)), ?_⟩
  intro pd O H v w x y z Q hg ht hx hy hq
  cases hx with
  | int i => cases hy with
    | int j =>
      have hg : (if mulB i ∨ mulB j then some (D.int (i * j)) else none) = some z := hg
      by_cases h : mulB i ∨ mulB j
      · rw [if_pos h] at hg; cases hg
        exact .inl ⟨i, j, rfl, rfl, h, hq _ H (Same.refl H) (.int _)⟩
      · rw [if_neg h] at hg; cases hg
    | _ => cases hg
  | @lst a vs ds ha ra => cases hy with
    | int k =>
      have hg : (if -9223372036854775808 ≤ k ∧ k < 9223372036854775808 ∧ ds.length * k.toNat ≤ lim then some (D.lst (List.replicate k.toNat ds).flatten) else none) = some z := hg
      by_cases h : -9223372036854775808 ≤ k ∧ k < 9223372036854775808 ∧ ds.length * k.toNat ≤ lim
      · rw [if_pos h] at hg; cases hg
        exact .inr (.inl ⟨a, k, vs, rfl, rfl, hid_get ha, h.1, h.2.1, by rw [lim_eq, ra.length]; exact h.2.2, fun p hp => hq _ _ (same_upd hp) (rep_newL ht hp (ra.rep _))⟩)
      · rw [if_neg h] at hg; cases hg
    | _ => cases hg
  | @tup a vs ds ha ra => cases hy with
    | int k =>
      have hg : (if ds ≠ [] ∧ 2 ≤ k ∧ k ≤ 1000 ∧ ds.length ≤ 1000 then some (D.tup (List.replicate k.toNat ds).flatten) else none) = some z := hg
      by_cases h : ds ≠ [] ∧ 2 ≤ k ∧ k ≤ 1000 ∧ ds.length ≤ 1000
      · rw [if_pos h] at hg; cases hg
        refine .inr (.inr ⟨a, k, vs, rfl, rfl, sqT_get ha, fun e => ?_, h.2.1, h.2.2.1, by rw [ra.length]; exact h.2.2.2, fun p hp => hq _ _ (same_upd hp) (rep_newT ht hp (ra.rep _))⟩)
        subst e; cases ra; exact h.1 rfl
      · rw [if_neg h] at hg; cases hg
    | _ => cases hg
  | _ => cases hg

/-! ### comparisons -/
def ltD : D → D → Option D := intD fun i j => some (.bl (decide (i < j)))
def leD : D → D → Option D := intD fun i j => some (.bl (decide (i ≤ j)))
def gtD : D → D → Option D := intD fun i j => some (.bl (decide (j < i)))
def geD : D → D → Option D := intD fun i j => some (.bl (decide (j ≤ i)))
theorem od_lt {X : Cx} : OpD X (compareOp .Lt) ltD := od_int0 op_lt fun i j z h K pd H => by cases h; exact .bl _
theorem od_le {X : Cx} : OpD X (compareOp .LtE) leD := od_int0 op_le fun i j z h K pd H => by cases h; exact .bl _
theorem od_gt {X : Cx} : OpD X (compareOp .Gt) gtD := od_int0 op_gt fun i j z h K pd H => by cases h; exact .bl _
theorem od_ge {X : Cx} : OpD X (compareOp .GtE) geD := od_int0 op_ge fun i j z h K pd H => by cases h; exact .bl _
mutual
def D.py : D → PyData
  | .non => .none
  | .bl b => .bool b
  | .int i => .int i
  | .str s => .str s
  | .tup xs => .tuple (pyL xs)
  | .lst xs => .list (pyL xs)
  | .dice => .none
  | .exn _ _ _ _ => .none
  | .raw _ => .none
def pyL : List D → List PyData
  | [] => []
  | x :: xs => x.py :: pyL xs
end
mutual
/-- no dice within -/
def D.nod : D → Bool
  | .tup xs => nodL xs
  | .lst xs => nodL xs
  | .dice => false
  | .exn _ _ _ _ => false
  | .raw _ => false
  | _ => true
def nodL : List D → Bool
  | [] => true
  | x :: xs => x.nod && nodL xs
end
mutual
theorem Rep.dp {K : PySem.W.Frag} {pd : Addr} {H : Hp} {v : V} {d : D} : Rep K pd H v d → d.nod = true → Dp K H v d.py
  | .non, _ => .non
  | .bl b, _ => .bl b
  | .int i, _ => .int i
  | .str s, _ => .str s
  | .tup h r, n => .tup h (Reps.dp r n)
  | .lst h r, n => .lst (.inl (.inl h)) (Reps.dp r n)
  | .dice, n => Bool.noConfusion n
  | .exn _ _, n => Bool.noConfusion n
  | .raw _, n => Bool.noConfusion n
theorem Reps.dp {K : PySem.W.Frag} {pd : Addr} {H : Hp} {vs : List V} {ds : List D} : Reps K pd H vs ds → nodL ds = true → DpAll K H vs (pyL ds)
  | .nil, _ => .nil
  | .cons h r, n => .cons (Rep.dp h (Bool.and_eq_true_iff.mp n).1) (Reps.dp r (Bool.and_eq_true_iff.mp n).2)
end
def eqOk (x y : D) : Bool := x.nod && y.nod && SeqAt.shaped x.py && SeqAt.shaped y.py
def eqD (x y : D) : Option D := if eqOk x y = true then some (.bl (PyData.eqv x.py y.py)) else none
def neD (x y : D) : Option D := if eqOk x y = true then some (.bl (!PyData.eqv x.py y.py)) else none
theorem eqOk_all {x y : D} (h : eqOk x y = true) : x.nod = true ∧ y.nod = true ∧ SeqAt.shaped x.py = true ∧ SeqAt.shaped y.py = true := by
  unfold eqOk at h
  simp only [Bool.and_eq_true] at h
  exact ⟨h.1.1.1, h.1.1.2, h.1.2, h.2⟩
theorem od_eq {X : Cx} (hu : X.A.units + 64 < cLine) : OpD X (compareOp .Eq) eqD := by
  refine ⟨_, op_eqD hu, ?_⟩
  intro pd O H v w x y z Q hg ht hx hy hq
  unfold eqD at hg
  by_cases c : eqOk x y = true
  · rw [if_pos c] at hg; cases hg
    obtain ⟨n1, n2, s1, s2⟩ := eqOk_all c
    exact ⟨_, _, (hx.same hid_same).dp n1, (hy.same hid_same).dp n2, s1, s2, hq _ H (Same.refl H) (.bl _)⟩
  · rw [if_neg c] at hg; cases hg
theorem od_ne {X : Cx} (hu : X.A.units + 64 < cLine) : OpD X (compareOp .NotEq) neD := by
  refine ⟨_, op_neD hu, ?_⟩
  intro pd O H v w x y z Q hg ht hx hy hq
  unfold neD at hg
  by_cases c : eqOk x y = true
  · rw [if_pos c] at hg; cases hg
    obtain ⟨n1, n2, s1, s2⟩ := eqOk_all c
    exact ⟨_, _, (hx.same hid_same).dp n1, (hy.same hid_same).dp n2, s1, s2, hq _ H (Same.refl H) (.bl _)⟩
  · rw [if_neg c] at hg; cases hg
/-- flat data, as one datum is in a list of them -/
def flD : D → Option V
  | .non => some .non
  | .bl b => some (.bl b)
  | .int i => some (.int i)
  | .str s => some (.str s)
  | _ => none
theorem flD_rep {K : PySem.W.Frag} {pd : Addr} {H : Hp} {v v' : V} {d : D} (r : Rep K pd H v d) (h : flD d = some v') : v = v' ∧ flatV v = true := by
  cases r with
  | non => cases h; exact ⟨rfl, rfl⟩
  | bl b => cases h; exact ⟨rfl, rfl⟩
  | int i => cases h; exact ⟨rfl, rfl⟩
  | str s => cases h; exact ⟨rfl, rfl⟩
  | tup _ _ => cases h
  | lst _ _ => cases h
  | dice => cases h
  | exn _ _ => cases h
  | raw _ => cases h
def flL : List D → Option (List V)
  | [] => some []
  | d :: ds => match flD d, flL ds with
    | some v, some vs => some (v :: vs)
    | _, _ => none
theorem flL_rep {K : PySem.W.Frag} {pd : Addr} {H : Hp} : ∀ {vs vs' : List V} {ds : List D}, Reps K pd H vs ds → flL ds = some vs' → vs = vs' ∧ vs.all flatV = true
  | _, _, _, .nil, h => by cases h; exact ⟨rfl, rfl⟩
  | v :: vs, vs', d :: ds, .cons r rs, h => by
    have h : (match flD d, flL ds with
      | some v, some vs => some (v :: vs)
      | _, _ => none) = some vs' := h
    cases e1 : flD d with
    | none => rw [e1] at h; cases h
    | some u =>
      cases e2 : flL ds with
      | none => rw [e1, e2] at h; cases h
      | some us =>
        rw [e1, e2] at h; cases h
        obtain ⟨a, b⟩ := flD_rep r e1
        obtain ⟨c, d⟩ := flL_rep rs e2
        rw [a, c]
        rw [a] at b; rw [c] at d
        exact ⟨rfl, by rw [List.all_cons, b, d]; rfl⟩
def seqOf : D → Option (List D)
  | .tup xs => some xs
  | .lst xs => some xs
  | _ => none
/-- x in y: y a list or a tuple of flat data -/
def inD (neg : Bool) (x y : D) : Option D := match flD x, (seqOf y).bind flL with
  | some v, some vs => some (.bl (if neg then !inV v vs else inV v vs))
  | _, _ => none
theorem inD_rep {K : PySem.W.Frag} {pd : Addr} {O : List Addr} {H : Hp} {v w : V} {x y z : D} {neg : Bool} {Q : VK} (hg : inD neg x y = some z) (hx : Rep K pd (hid O H) v x) (hy : Rep K pd (hid O H) w y) (hq : ∀ u, Rep K pd (hid O H) u z → Q u H) : rIn K neg v w H Q := by
  unfold inD at hg
  cases e1 : flD x with
  | none => rw [e1] at hg; cases hg
  | some u =>
    cases e2 : (seqOf y).bind flL with
    | none => rw [e1, e2] at hg; cases hg
    | some us =>
      rw [e1, e2] at hg
      have hg : some (D.bl (if neg then !inV u us else inV u us)) = some z := hg
      cases hg
      obtain ⟨a, b⟩ := flD_rep hx e1
      subst a
      cases hy with
      | @tup p vs ds h r =>
        obtain ⟨c, d⟩ := flL_rep r e2
        subst c
        exact ⟨p, vs, rfl, .inr (sqT_get h), b, d, hq _ (.bl _)⟩
      | @lst p vs ds h r =>
        obtain ⟨c, d⟩ := flL_rep r e2
        subst c
        exact ⟨p, vs, rfl, .inl (.inl (.inl (hid_get h))), b, d, hq _ (.bl _)⟩
      | _ => cases e2
theorem od_in {X : Cx} : OpD X (compareOp .In) (inD false) := ⟨_, op_in_seq, fun pd O H v w x y z Q hg ht hx hy hq => inD_rep hg hx hy fun u r => hq u H (Same.refl H) r⟩
theorem od_notIn {X : Cx} : OpD X (compareOp .NotIn) (inD true) := ⟨_, op_notIn_seq, fun pd O H v w x y z Q hg ht hx hy hq => inD_rep hg hx hy fun u r => hq u H (Same.refl H) r⟩
end Sh
end
section
set_option maxHeartbeats 2000000
/-! Sh3: expressions. -/
namespace Sh
open PySem PySem.Spec PyProof.Rows L2
variable {X : Cx} {pos : Pos}

/-! ### names, constants -/
def eVar (i : Nat) : EF := fun ρ δ => match ρ[i]? with
  | some (.va d) => .ok d δ
  | _ => .bad
theorem se_var (i : Nat) {x : Str} (hN : X.N[i]? = some x := by rfl) (hv : Vis X.env.scope x := by first | exact Or.inl rfl | exact Or.inr (Or.inl rfl) | exact Or.inr (Or.inr rfl)) (hd : (x == ("__debug__" : Str)) = false := by decide)
    (hcd : (x == ("__classdict__" : Str)) = false := by decide) : SE X (.Name x pos) (eVar i) where
  ok := fun {pd H0 Oc O ρ δ σ H d δ'} F e Q hq => by
    unfold eVar at e
    split at e
    · rename_i d' hd'
      cases e
      obtain ⟨v, h1, h2⟩ := F.va i _ hd'
      exact wE_of (pe_var hN hv hd hcd) ⟨v, h1, hq v H Grow.refl F.dice h2⟩
    · cases e
  er := fun F e => by
    unfold eVar at e
    split at e <;> cases e
def eC (d : D) : EF := fun _ δ => .ok d δ
theorem se_const {e : Expr} {v : V} {d : D} (p : PE X e (tC v)) (h : ∀ pd H, Rep X.K pd H v d) : SE X e (eC d) where
  ok := fun {pd H0 Oc O ρ δ σ H d' δ'} F e Q hq => by
    cases e
    exact wE_of p (hq v H Grow.refl F.dice (h pd _))
  er := fun F e => by cases e
theorem se_int {i j} : SE X (.Constant (.int i) j pos) (eC (.int i)) := se_const pe_int fun _ _ => .int i
theorem se_bl {b j} : SE X (.Constant (.bool b) j pos) (eC (.bl b)) := se_const pe_bl fun _ _ => .bl b
theorem se_non {j} : SE X (.Constant .none j pos) (eC .non) := se_const pe_non fun _ _ => .non
theorem se_str {x j} : SE X (.Constant (.str x) j pos) (eC (.str x)) := se_const pe_str fun _ _ => .str x
/-- a module's constant -/
theorem se_glob {x : Str} {v : V} {u : Value} {d : D} (hg : Gl X x) (hm : X.mg x = some u) (r : RelV v u) (h : ∀ pd H, Rep X.K pd H v d) (hd : (x == ("__debug__" : Str)) = false := by decide) : SE X (.Name x pos) (eC d) := se_const (pe_glob hg hm r hd) h

/-! ### operators -/
def eBin (g : D → D → Option D) (fa fb : EF) : EF := fun ρ δ => (fa ρ δ).bind fun x δ1 => (fb ρ δ1).bind fun y δ2 => Out.get (g x y) δ2
theorem bin_ok {g : D → D → Option D} {fa fb : EF} {ρ : Ev} {δ δ' : Di} {d : D} (e : eBin g fa fb ρ δ = .ok d δ') : ∃ x y δ1, fa ρ δ = .ok x δ1 ∧ fb ρ δ1 = .ok y δ' ∧ g x y = some d := by
  obtain ⟨x, δ1, h1, h2⟩ := Out.bind_ok e
  obtain ⟨y, δ2, h3, h4⟩ := Out.bind_ok h2
  obtain ⟨h5, h6⟩ := Out.get_ok h4
  exact ⟨x, y, δ1, h1, by rw [h3, h6], h5⟩
theorem bin_er {g : D → D → Option D} {fa fb : EF} {ρ : Ev} {δ δ' : Di} {x : Ex} (e : eBin g fa fb ρ δ = .er x δ') : fa ρ δ = .er x δ' ∨ ∃ y δ1, fa ρ δ = .ok y δ1 ∧ fb ρ δ1 = .er x δ' := by
  rcases Out.bind_er e with h | ⟨a, δ1, h1, h2⟩
  · exact .inl h
  · rcases Out.bind_er h2 with h | ⟨b, δ2, h3, h4⟩
    · exact .inr ⟨a, δ1, h1, h⟩
    · exact (Out.get_er h4).elim
theorem bin_run {a b : Expr} {fa fb : EF} {f : Value → Value → Sem Value} {g : D → D → Option D} {r : R2} (hr : ∀ (pd : Addr) (O : List Addr) (H : Hp) (v w : V) (x y z : D) (Q : VK), g x y = some z → Taken (pd :: O) H → Rep X.K pd (hid (pd :: O) H) v x → Rep X.K pd (hid (pd :: O) H) w y →
    (∀ u H', Same H H' → Rep X.K pd (hid (pd :: O) H') u z → Q u H') → r v w H Q) (ha : SE X a fa) (hb : SE X b fb)
    {pd H0 Oc O ρ δ σ H d δ'} (F : FR X.K pd H0 Oc O ρ δ σ H) (e : eBin g fa fb ρ δ = .ok d δ') (Q : VK) (hq : ∀ v H', Grow pd H H' → DiceAt pd δ' H' → Rep X.K pd (hid (pd :: O) H') v d → Q v H') : tOp r (wE X a) (wE X b) σ H Q := by
  obtain ⟨x, y, δ1, h1, h2, h3⟩ := bin_ok e
  refine ha.ok F h1 _ fun v H1 g1 d1 r1 => ?_
  have F1 := F.next g1 d1
  refine hb.ok F1 h2 _ fun w H2 g2 d2 r2 => ?_
  have F2 := F1.next g2 d2
  refine hr pd O H2 v w x y d _ h3 F2.pdn (r1.same (hid_le g2)) r2 fun u H3 s3 r3 => ?_
  exact hq u H3 ((g1.trans g2).trans (Grow.of s3)) (s3 _ _ d2) r3
theorem bin_runE {a b : Expr} {fa fb : EF} {g : D → D → Option D} {r : R2} (ha : SE X a fa) (hb : SE X b fb)
    {pd H0 Oc O ρ δ σ H x δ'} (F : FR X.K pd H0 Oc O ρ δ σ H) (e : eBin g fa fb ρ δ = .er x δ') (W : WX) (Q : VK) (tk : Takes X W) (hw : ErW X pd O W σ H x δ') : tOp r (wE X a) (wE X b) σ H Q := by
  rcases bin_er e with h | ⟨y, δ1, h1, h2⟩
  · exact ha.er F h W _ tk hw
  · refine ha.ok F h1 _ fun v H1 g1 d1 r1 => ?_
    exact hb.er (F.next g1 d1) h2 W _ tk (hw.next g1)
theorem se_bin {op : Operator} {a b : Expr} {fa fb : EF} {g : D → D → Option D} (ho : OpD X (binaryOp op) g) (ha : SE X a fa) (hb : SE X b fb) : SE X (.BinOp a op b pos) (eBin g fa fb) := by
  obtain ⟨r, h1, h2⟩ := ho
  exact ⟨fun F e Q hq => wE_of (pe_op h1 pe_w pe_w) (bin_run (f := binaryOp op) h2 ha hb F e Q hq), fun F e W Q tk hw => wE_of (pe_op h1 pe_w pe_w) (bin_runE ha hb F e W Q tk hw)⟩
theorem se_cmp {op : CmpOp} {a b : Expr} {fa fb : EF} {g : D → D → Option D} (ho : OpD X (compareOp op) g) (ha : SE X a fa) (hb : SE X b fb) (hm : behindInMarks op b = false) : SE X (.Compare a [op] [b] pos) (eBin g fa fb) := by
  obtain ⟨r, h1, h2⟩ := ho
  exact ⟨fun F e Q hq => wE_of (pe_cmpR h1 pe_w pe_w hm) (bin_run (f := compareOp op) h2 ha hb F e Q hq), fun F e W Q tk hw => wE_of (pe_cmpR h1 pe_w pe_w hm) (bin_runE ha hb F e W Q tk hw)⟩
/-- as a test -/
def tOf (f : EF) : TF := fun ρ δ => (f ρ δ).bind fun d δ1 => match d with
  | .bl b => .ok b δ1
  | _ => .bad
theorem tOf_ok {f : EF} {ρ : Ev} {δ δ' : Di} {b : Bool} (e : tOf f ρ δ = .ok b δ') : f ρ δ = .ok (.bl b) δ' := by
  obtain ⟨d, δ1, h1, h2⟩ := Out.bind_ok e
  cases d with
  | bl c => cases h2; exact h1
  | _ => cases h2
theorem tOf_er {f : EF} {ρ : Ev} {δ δ' : Di} {x : Ex} (e : tOf f ρ δ = .er x δ') : f ρ δ = .er x δ' := by
  rcases Out.bind_er e with h | ⟨d, δ1, h1, h2⟩
  · exact h
  · cases d <;> cases h2
theorem Rep.bl_inv {K : PySem.W.Frag} {pd : Addr} {H : Hp} {v : V} {b : Bool} (r : Rep K pd H v (.bl b)) : v = .bl b := by cases r; rfl
theorem Rep.int_inv {K : PySem.W.Frag} {pd : Addr} {H : Hp} {v : V} {b : Int} (r : Rep K pd H v (.int b)) : v = .int b := by cases r; rfl
theorem st_cmp {op : CmpOp} {a b : Expr} {fa fb : EF} {g : D → D → Option D} (ho : OpD X (compareOp op) g) (ha : SE X a fa) (hb : SE X b fb) (hm : behindInMarks op b = false) : ST X (.Compare a [op] [b] pos) (tOf (eBin g fa fb)) := by
  obtain ⟨r, h1, h2⟩ := ho
  refine ⟨fun F e Q hq => wT_of (pt_cmpR h1 pe_w pe_w hm) (bin_run (f := compareOp op) h2 ha hb F (tOf_ok e) _ fun v H' g1 d1 r1 => ?_), fun F e W Q tk hw => wT_of (pt_cmpR h1 pe_w pe_w hm) (bin_runE ha hb F (tOf_er e) W _ tk hw)⟩
  exact ⟨_, r1.bl_inv, hq H' g1 d1⟩
/-- an expression that gives a bool, as a test -/
theorem st_val {e : Expr} {f : EF} (h : SE X e f) (he : ∀ whole, isTrue e X.env whole = (do let v ← whole; standAt e.pos; holding [v] (truthy v)) := by intro _; rfl) : ST X e (tOf f) where
  ok := fun F ee Q hq => wT_of (pt_val pe_w he) (h.ok F (tOf_ok ee) _ fun v H' g1 d1 r1 => ⟨_, r1.bl_inv, hq H' g1 d1⟩)
  er := fun F ee W Q tk hw => wT_of (pt_val pe_w he) (h.er F (tOf_er ee) W _ tk hw)
/-- a < b < c -/
def eChain (g g' : D → D → Option D) (fa fb fc : EF) : EF := fun ρ δ => (fa ρ δ).bind fun x δ1 => (fb ρ δ1).bind fun y δ2 => match g x y with
  | some (.bl true) => (fc ρ δ2).bind fun z δ3 => Out.get (g' y z) δ3
  | some (.bl false) => .ok (.bl false) δ2
  | _ => .bad
theorem chain_run {a b c : Expr} {fa fb fc : EF} {g g' : D → D → Option D} {r r' : R2}
    (hr : ∀ (pd : Addr) (O : List Addr) (H : Hp) (v w : V) (x y z : D) (Q : VK), g x y = some z → Taken (pd :: O) H → Rep X.K pd (hid (pd :: O) H) v x → Rep X.K pd (hid (pd :: O) H) w y → (∀ u H', Same H H' → Rep X.K pd (hid (pd :: O) H') u z → Q u H') → r v w H Q)
    (hr' : ∀ (pd : Addr) (O : List Addr) (H : Hp) (v w : V) (x y z : D) (Q : VK), g' x y = some z → Taken (pd :: O) H → Rep X.K pd (hid (pd :: O) H) v x → Rep X.K pd (hid (pd :: O) H) w y → (∀ u H', Same H H' → Rep X.K pd (hid (pd :: O) H') u z → Q u H') → r' v w H Q)
    (ha : SE X a fa) (hb : SE X b fb) (hc : SE X c fc) {pd H0 Oc O ρ δ σ H d δ'} (F : FR X.K pd H0 Oc O ρ δ σ H) (e : eChain g g' fa fb fc ρ δ = .ok d δ') (Q : VK)
    (hq : ∀ v H', Grow pd H H' → DiceAt pd δ' H' → Rep X.K pd (hid (pd :: O) H') v d → Q v H') : tChain r r' (wE X a) (wE X b) (wE X c) σ H Q := by
  obtain ⟨x, δ1, h1, e⟩ := Out.bind_ok e
  obtain ⟨y, δ2, h2, e⟩ := Out.bind_ok e
  refine ha.ok F h1 _ fun v H1 g1 d1 r1 => ?_
  have F1 := F.next g1 d1
  refine hb.ok F1 h2 _ fun w H2 g2 d2 r2 => ?_
  have F2 := F1.next g2 d2
  split at e
  · rename_i hg
    refine hr pd O H2 v w x y _ _ hg F2.pdn (r1.same (hid_le g2)) r2 fun u H3 s3 r3 => ⟨true, r3.bl_inv, ?_⟩
    rw [if_pos rfl]
    obtain ⟨z, δ3, h3, e⟩ := Out.bind_ok e
    obtain ⟨h4, h5⟩ := Out.get_ok e
    have F3 := F2.next (Grow.of s3) (s3 _ _ d2)
    refine hc.ok F3 h3 _ fun t H4 g4 d4 r4 => ?_
    have F4 := F3.next g4 d4
    refine hr' pd O H4 w t y z d _ h4 F4.pdn (r2.same fun b o q => (hid_le g4) b o ((hid_le (Grow.of s3)) b o q)) r4 fun u5 H5 s5 r5 => ?_
    exact hq u5 H5 ((((g1.trans g2).trans (Grow.of s3)).trans g4).trans (Grow.of s5)) (by rw [h5]; exact s5 _ _ d4) r5
  · rename_i hg
    cases e
    refine hr pd O H2 v w x y _ _ hg F2.pdn (r1.same (hid_le g2)) r2 fun u H3 s3 r3 => ⟨false, r3.bl_inv, ?_⟩
    rw [if_neg Bool.false_ne_true]
    exact hq _ H3 ((g1.trans g2).trans (Grow.of s3)) (s3 _ _ d2) (.bl false)
  · cases e
theorem chain_runE {a b c : Expr} {fa fb fc : EF} {g g' : D → D → Option D} {r r' : R2}
    (hr : ∀ (pd : Addr) (O : List Addr) (H : Hp) (v w : V) (x y z : D) (Q : VK), g x y = some z → Taken (pd :: O) H → Rep X.K pd (hid (pd :: O) H) v x → Rep X.K pd (hid (pd :: O) H) w y → (∀ u H', Same H H' → Rep X.K pd (hid (pd :: O) H') u z → Q u H') → r v w H Q)
    (ha : SE X a fa) (hb : SE X b fb) (hc : SE X c fc) {pd H0 Oc O ρ δ σ H x' δ'} (F : FR X.K pd H0 Oc O ρ δ σ H) (e : eChain g g' fa fb fc ρ δ = .er x' δ') (W : WX) (Q : VK) (tk : Takes X W) (hw : ErW X pd O W σ H x' δ') :
    tChain r r' (wE X a) (wE X b) (wE X c) σ H Q := by
  rcases Out.bind_er e with e | ⟨x, δ1, h1, e⟩
  · exact ha.er F e W _ tk hw
  · refine ha.ok F h1 _ fun v H1 g1 d1 r1 => ?_
    have F1 := F.next g1 d1
    rcases Out.bind_er e with e | ⟨y, δ2, h2, e⟩
    · exact hb.er F1 e W _ tk (hw.next g1)
    · refine hb.ok F1 h2 _ fun w H2 g2 d2 r2 => ?_
      have F2 := F1.next g2 d2
      split at e
      · rename_i hg
        refine hr pd O H2 v w x y _ _ hg F2.pdn (r1.same (hid_le g2)) r2 fun u H3 s3 r3 => ⟨true, r3.bl_inv, ?_⟩
        rw [if_pos rfl]
        have F3 := F2.next (Grow.of s3) (s3 _ _ d2)
        rcases Out.bind_er e with e | ⟨z, δ3, h3, e⟩
        · exact hc.er F3 e W _ tk ((hw.next g1).next (g2.trans (Grow.of s3)))
        · exact (Out.get_er e).elim
      · cases e
      · cases e
theorem se_chain {op op' : CmpOp} {a b c : Expr} {fa fb fc : EF} {g g' : D → D → Option D} (ho : OpD X (compareOp op) g) (ho' : OpD X (compareOp op') g') (ha : SE X a fa) (hb : SE X b fb) (hc : SE X c fc)
    (hm : lastMarks [op, op'] [b, c] = false := by with_unfolding_all rfl) : SE X (.Compare a [op, op'] [b, c] pos) (eChain g g' fa fb fc) := by
  obtain ⟨r, h1, h2⟩ := ho
  obtain ⟨r', h1', h2'⟩ := ho'
  exact ⟨fun F e Q hq => wE_of (pe_chain h1 h1' pe_w pe_w pe_w hm) (chain_run h2 h2' ha hb hc F e Q hq), fun F e W Q tk hw => wE_of (pe_chain h1 h1' pe_w pe_w pe_w hm) (chain_runE h2 ha hb hc F e W Q tk hw)⟩
theorem st_chain {op op' : CmpOp} {a b c : Expr} {fa fb fc : EF} {g g' : D → D → Option D} (ho : OpD X (compareOp op) g) (ho' : OpD X (compareOp op') g') (ha : SE X a fa) (hb : SE X b fb) (hc : SE X c fc)
    (hm : lastMarks [op, op'] [b, c] = false := by with_unfolding_all rfl) : ST X (.Compare a [op, op'] [b, c] pos) (tOf (eChain g g' fa fb fc)) := by
  obtain ⟨r, h1, h2⟩ := ho
  obtain ⟨r', h1', h2'⟩ := ho'
  exact ⟨fun F e Q hq => wT_of (pt_chain h1 h1' pe_w pe_w pe_w hm) (chain_run h2 h2' ha hb hc F (tOf_ok e) _ fun v H' g1 d1 r1 => ⟨_, r1.bl_inv, hq H' g1 d1⟩), fun F e W Q tk hw => wT_of (pt_chain h1 h1' pe_w pe_w pe_w hm) (chain_runE h2 ha hb hc F (tOf_er e) W _ tk hw)⟩

/-! ### one-place -/
def eUn (g : D → Option D) (fa : EF) : EF := fun ρ δ => (fa ρ δ).bind fun x δ1 => Out.get (g x) δ1
theorem un_ok {g : D → Option D} {fa : EF} {ρ : Ev} {δ δ' : Di} {d : D} (e : eUn g fa ρ δ = .ok d δ') : ∃ x, fa ρ δ = .ok x δ' ∧ g x = some d := by
  obtain ⟨x, δ1, h1, h2⟩ := Out.bind_ok e
  obtain ⟨h5, h6⟩ := Out.get_ok h2
  exact ⟨x, by rw [h1, h6], h5⟩
theorem un_er {g : D → Option D} {fa : EF} {ρ : Ev} {δ δ' : Di} {x : Ex} (e : eUn g fa ρ δ = .er x δ') : fa ρ δ = .er x δ' := by
  rcases Out.bind_er e with h | ⟨a, δ1, h1, h2⟩
  · exact h
  · exact (Out.get_er h2).elim
/-- an expression of one part, by its reading: what the part's value and heap are asked -/
theorem se_un {a e : Expr} {fa : EF} {g : D → Option D} {r : V → Hp → VK → Prop} (p : PE X e (fun σ H Q => wE X a σ H fun x H1 => r x H1 Q)) (hr : ∀ (pd : Addr) (O : List Addr) (H : Hp) (v : V) (x z : D) (Q : VK), g x = some z → Taken (pd :: O) H → Rep X.K pd (hid (pd :: O) H) v x →
    (∀ u H', Same H H' → Rep X.K pd (hid (pd :: O) H') u z → Q u H') → r v H Q) (ha : SE X a fa) : SE X e (eUn g fa) where
  ok := fun {pd H0 Oc O ρ δ σ H d δ'} F e Q hq => by
    obtain ⟨x, h1, h2⟩ := un_ok e
    refine wE_of p (ha.ok F h1 _ fun v H1 g1 d1 r1 => ?_)
    exact hr pd O H1 v x d _ h2 (F.next g1 d1).pdn r1 fun u H2 s2 r2 => hq u H2 (g1.trans (Grow.of s2)) (s2 _ _ d1) r2
  er := fun F e W Q tk hw => wE_of p (ha.er F (un_er e) W _ tk hw)
def negD : D → Option D
  | .int i => some (.int (-i))
  | _ => none
theorem se_neg {a : Expr} {fa : EF} (ha : SE X a fa) : SE X (.UnaryOp .USub a pos) (eUn negD fa) := by
  refine se_un (r := rU fun i => .int (-i)) (pe_un un_neg pe_w) (fun pd O H v x z Q hg ht hx hq => ?_) ha
  cases hx with
  | int i => cases hg; exact ⟨i, rfl, hq _ H (Same.refl H) (.int _)⟩
  | _ => cases hg
def notD : D → Option D
  | .bl b => some (.bl !b)
  | _ => none
theorem se_not {a : Expr} {fa : EF} (ha : SE X a fa) : SE X (.UnaryOp .Not a pos) (eUn notD fa) := by
  refine se_un (r := fun x H Q => ∃ c, x = .bl c ∧ Q (.bl (!c)) H) (pe_not pe_w) (fun pd O H v x z Q hg ht hx hq => ?_) ha
  cases hx with
  | bl i => cases hg; exact ⟨i, rfl, hq _ H (Same.refl H) (.bl _)⟩
  | _ => cases hg
def isN : D → Bool
  | .non => true
  | .raw v => decide (v = .non)
  | _ => false
theorem isN_rep {K : PySem.W.Frag} {pd : Addr} {H : Hp} {v : V} {d : D} (r : Rep K pd H v d) : decide (v = .non) = isN d := by
  cases r <;> first | rfl | exact decide_eq_false (fun z => by cases z)
theorem se_isN {a : Expr} {fa : EF} {j pos'} (ha : SE X a fa) : SE X (.Compare a [.Is] [.Constant .none j pos'] pos) (eUn (fun x => some (.bl (isN x))) fa) := by
  refine se_un (r := fun x H Q => Q (.bl (decide (x = .non))) H) (pe_cmp (pc_isN pe_w) rfl) (fun pd O H v x z Q hg ht hx hq => ?_) ha
  cases hg
  rw [isN_rep hx]
  exact hq _ H (Same.refl H) (.bl _)
theorem se_notN {a : Expr} {fa : EF} {j pos'} (ha : SE X a fa) : SE X (.Compare a [.IsNot] [.Constant .none j pos'] pos) (eUn (fun x => some (.bl (!isN x))) fa) := by
  refine se_un (r := fun x H Q => Q (.bl (!decide (x = .non))) H) (pe_cmp (pc_notN pe_w) rfl) (fun pd O H v x z Q hg ht hx hq => ?_) ha
  cases hg
  rw [isN_rep hx]
  exact hq _ H (Same.refl H) (.bl _)
/-- is None as a test: pt_val does not fit a comparison -/
theorem st_isN {a : Expr} {fa : EF} {j pos'} (ha : SE X a fa) : ST X (.Compare a [.Is] [.Constant .none j pos'] pos) (tOf (eUn (fun x => some (.bl (isN x))) fa)) where
  ok := fun {pd H0 Oc O ρ δ σ H b δ'} F e Q hq => by
    obtain ⟨x, h1, h2⟩ := un_ok (tOf_ok e)
    cases h2
    refine wT_of (pt_cmp (pc_isN pe_w) rfl) (ha.ok F h1 _ fun v H1 g1 d1 r1 => ⟨_, rfl, ?_⟩)
    rw [isN_rep r1]
    exact hq H1 g1 d1
  er := fun F e W Q tk hw => wT_of (pt_cmp (pc_isN pe_w) rfl) (ha.er F (un_er (tOf_er e)) W _ tk hw)
theorem st_notN {a : Expr} {fa : EF} {j pos'} (ha : SE X a fa) : ST X (.Compare a [.IsNot] [.Constant .none j pos'] pos) (tOf (eUn (fun x => some (.bl (!isN x))) fa)) where
  ok := fun {pd H0 Oc O ρ δ σ H b δ'} F e Q hq => by
    obtain ⟨x, h1, h2⟩ := un_ok (tOf_ok e)
    cases h2
    refine wT_of (pt_cmp (pc_notN pe_w) rfl) (ha.ok F h1 _ fun v H1 g1 d1 r1 => ⟨_, rfl, ?_⟩)
    rw [isN_rep r1]
    exact hq H1 g1 d1
  er := fun F e W Q tk hw => wT_of (pt_cmp (pc_notN pe_w) rfl) (ha.er F (un_er (tOf_er e)) W _ tk hw)
end Sh
end
section
set_option maxHeartbeats 2000000
/-! Sh4: tests, argument lists, displays, subscripts, calls. -/
namespace Sh
open PySem PySem.Spec PyProof.Rows L2
variable {X : Cx} {pos : Pos}

/-! ### and, or, not, if -/
def tAnd (f g : TF) : TF := fun ρ δ => (f ρ δ).bind fun b δ1 => match b with
  | true => g ρ δ1
  | false => .ok false δ1
def tOr (f g : TF) : TF := fun ρ δ => (f ρ δ).bind fun b δ1 => match b with
  | true => .ok true δ1
  | false => g ρ δ1
def tNot (f : TF) : TF := fun ρ δ => (f ρ δ).bind fun b δ1 => .ok (!b) δ1
theorem sw_and1 {a : Expr} {f : TF} (ha : ST X a f) : SW X (.BoolOp .And [a] pos) f where
  ok := fun F e Q hq => wW_of (pw_and1 pt_w) (ha.ok F e Q hq)
  er := fun F e W Q tk hw => wW_of (pw_and1 pt_w) (ha.er F e W Q tk hw)
theorem sw_or1 {a : Expr} {f : TF} (ha : ST X a f) : SW X (.BoolOp .Or [a] pos) f where
  ok := fun F e Q hq => wW_of (pw_or1 pt_w) (ha.ok F e Q hq)
  er := fun F e W Q tk hw => wW_of (pw_or1 pt_w) (ha.er F e W Q tk hw)
theorem sw_and {a b : Expr} {r : List Expr} {f g : TF} (ha : ST X a f) (hb : SW X (.BoolOp .And (b :: r) pos) g) : SW X (.BoolOp .And (a :: b :: r) pos) (tAnd f g) where
  ok := fun {pd H0 Oc O ρ δ σ H b' δ'} F e Q hq => by
    obtain ⟨c, δ1, h1, e⟩ := Out.bind_ok e
    refine wW_of (pw_and pt_w pw_w) (ha.ok F h1 _ fun H1 g1 d1 => ?_)
    cases c with
    | true =>
      rw [if_pos rfl]
      exact hb.ok (F.next g1 d1) e Q fun H' g' d' => hq H' (g1.trans g') d'
    | false =>
      cases e
      rw [if_neg Bool.false_ne_true]
      exact hq H1 g1 d1
  er := fun {pd H0 Oc O ρ δ σ H x δ'} F e W Q tk hw => by
    rcases Out.bind_er e with e | ⟨c, δ1, h1, e⟩
    · exact wW_of (pw_and pt_w pw_w) (ha.er F e W _ tk hw)
    · refine wW_of (pw_and pt_w pw_w) (ha.ok F h1 _ fun H1 g1 d1 => ?_)
      cases c with
      | true =>
        rw [if_pos rfl]
        exact hb.er (F.next g1 d1) e W Q tk (hw.next g1)
      | false => cases e
theorem sw_or {a b : Expr} {r : List Expr} {f g : TF} (ha : ST X a f) (hb : SW X (.BoolOp .Or (b :: r) pos) g) : SW X (.BoolOp .Or (a :: b :: r) pos) (tOr f g) where
  ok := fun {pd H0 Oc O ρ δ σ H b' δ'} F e Q hq => by
    obtain ⟨c, δ1, h1, e⟩ := Out.bind_ok e
    refine wW_of (pw_or pt_w pw_w) (ha.ok F h1 _ fun H1 g1 d1 => ?_)
    cases c with
    | false =>
      rw [if_neg Bool.false_ne_true]
      exact hb.ok (F.next g1 d1) e Q fun H' g' d' => hq H' (g1.trans g') d'
    | true =>
      cases e
      rw [if_pos rfl]
      exact hq H1 g1 d1
  er := fun {pd H0 Oc O ρ δ σ H x δ'} F e W Q tk hw => by
    rcases Out.bind_er e with e | ⟨c, δ1, h1, e⟩
    · exact wW_of (pw_or pt_w pw_w) (ha.er F e W _ tk hw)
    · refine wW_of (pw_or pt_w pw_w) (ha.ok F h1 _ fun H1 g1 d1 => ?_)
      cases c with
      | false =>
        rw [if_neg Bool.false_ne_true]
        exact hb.er (F.next g1 d1) e W Q tk (hw.next g1)
      | true => cases e
theorem st_w {e : Expr} {f : TF} (h : SW X e f) : ST X e f where
  ok := fun F e Q hq pins s I => h.ok F e Q hq _ pins s I
  er := fun F e W Q tk hw pins s I => h.er F e W Q tk hw _ pins s I
theorem st_not {a : Expr} {f : TF} (ha : ST X a f) : ST X (.UnaryOp .Not a pos) (tNot f) where
  ok := fun {pd H0 Oc O ρ δ σ H b' δ'} F e Q hq => by
    obtain ⟨c, δ1, h1, e⟩ := Out.bind_ok e
    cases e
    exact wT_of (pt_not pt_w) (ha.ok F h1 _ fun H1 g1 d1 => hq H1 g1 d1)
  er := fun {pd H0 Oc O ρ δ σ H x δ'} F e W Q tk hw => by
    rcases Out.bind_er e with e | ⟨c, δ1, h1, e⟩
    · exact wT_of (pt_not pt_w) (ha.er F e W _ tk hw)
    · cases e
/-- and, or of bools as values -/
def eAnd (f g : EF) : EF := fun ρ δ => (f ρ δ).bind fun x δ1 => match x with
  | .bl true => g ρ δ1
  | .bl false => .ok (.bl false) δ1
  | _ => .bad
def eOr (f g : EF) : EF := fun ρ δ => (f ρ δ).bind fun x δ1 => match x with
  | .bl true => .ok (.bl true) δ1
  | .bl false => g ρ δ1
  | _ => .bad
theorem se_one {op} {a : Expr} {f : EF} (ha : SE X a f) : SE X (.BoolOp op [a] pos) f where
  ok := fun F e Q hq => wE_of (pe_one pe_w) (ha.ok F e Q hq)
  er := fun F e W Q tk hw => wE_of (pe_one pe_w) (ha.er F e W Q tk hw)
theorem se_and {a b : Expr} {r : List Expr} {f g : EF} (ha : SE X a f) (hb : SE X (.BoolOp .And (b :: r) pos) g) : SE X (.BoolOp .And (a :: b :: r) pos) (eAnd f g) where
  ok := fun {pd H0 Oc O ρ δ σ H d δ'} F e Q hq => by
    obtain ⟨c, δ1, h1, e⟩ := Out.bind_ok e
    refine wE_of (pe_and pe_w pe_w) (ha.ok F h1 _ fun v H1 g1 d1 r1 => ?_)
    split at e
    · refine ⟨true, r1.bl_inv, ?_⟩
      rw [if_pos rfl]
      exact hb.ok (F.next g1 d1) e Q fun v H' g' d' => hq v H' (g1.trans g') d'
    · cases e
      refine ⟨false, r1.bl_inv, ?_⟩
      rw [if_neg Bool.false_ne_true]
      exact hq _ H1 g1 d1 (.bl false)
    · cases e
  er := fun {pd H0 Oc O ρ δ σ H x δ'} F e W Q tk hw => by
    rcases Out.bind_er e with e | ⟨c, δ1, h1, e⟩
    · exact wE_of (pe_and pe_w pe_w) (ha.er F e W _ tk hw)
    · refine wE_of (pe_and pe_w pe_w) (ha.ok F h1 _ fun v H1 g1 d1 r1 => ?_)
      split at e
      · refine ⟨true, r1.bl_inv, ?_⟩
        rw [if_pos rfl]
        exact hb.er (F.next g1 d1) e W Q tk (hw.next g1)
      · cases e
      · cases e
theorem se_or {a b : Expr} {r : List Expr} {f g : EF} (ha : SE X a f) (hb : SE X (.BoolOp .Or (b :: r) pos) g) : SE X (.BoolOp .Or (a :: b :: r) pos) (eOr f g) where
  ok := fun {pd H0 Oc O ρ δ σ H d δ'} F e Q hq => by
    obtain ⟨c, δ1, h1, e⟩ := Out.bind_ok e
    refine wE_of (pe_or pe_w pe_w) (ha.ok F h1 _ fun v H1 g1 d1 r1 => ?_)
    split at e
    · cases e
      refine ⟨true, r1.bl_inv, ?_⟩
      rw [if_pos rfl]
      exact hq _ H1 g1 d1 (.bl true)
    · refine ⟨false, r1.bl_inv, ?_⟩
      rw [if_neg Bool.false_ne_true]
      exact hb.ok (F.next g1 d1) e Q fun v H' g' d' => hq v H' (g1.trans g') d'
    · cases e
  er := fun {pd H0 Oc O ρ δ σ H x δ'} F e W Q tk hw => by
    rcases Out.bind_er e with e | ⟨c, δ1, h1, e⟩
    · exact wE_of (pe_or pe_w pe_w) (ha.er F e W _ tk hw)
    · refine wE_of (pe_or pe_w pe_w) (ha.ok F h1 _ fun v H1 g1 d1 r1 => ?_)
      split at e
      · cases e
      · refine ⟨false, r1.bl_inv, ?_⟩
        rw [if_neg Bool.false_ne_true]
        exact hb.er (F.next g1 d1) e W Q tk (hw.next g1)
      · cases e
def eIf (c : TF) (f g : EF) : EF := fun ρ δ => (c ρ δ).bind fun b δ1 => match b with
  | true => f ρ δ1
  | false => g ρ δ1
theorem se_if {c a b : Expr} {t : TF} {f g : EF} (hc : ST X c t) (ha : SE X a f) (hb : SE X b g) : SE X (.IfExp c a b pos) (eIf t f g) where
  ok := fun {pd H0 Oc O ρ δ σ H d δ'} F e Q hq => by
    obtain ⟨k, δ1, h1, e⟩ := Out.bind_ok e
    refine wE_of (pe_ifExp pt_w pe_w pe_w) (hc.ok F h1 _ fun H1 g1 d1 => ?_)
    cases k with
    | true =>
      rw [if_pos rfl]
      exact ha.ok (F.next g1 d1) e Q fun v H' g' d' => hq v H' (g1.trans g') d'
    | false =>
      rw [if_neg Bool.false_ne_true]
      exact hb.ok (F.next g1 d1) e Q fun v H' g' d' => hq v H' (g1.trans g') d'
  er := fun {pd H0 Oc O ρ δ σ H x δ'} F e W Q tk hw => by
    rcases Out.bind_er e with e | ⟨k, δ1, h1, e⟩
    · exact wE_of (pe_ifExp pt_w pe_w pe_w) (hc.er F e W _ tk hw)
    · refine wE_of (pe_ifExp pt_w pe_w pe_w) (hc.ok F h1 _ fun H1 g1 d1 => ?_)
      cases k with
      | true =>
        rw [if_pos rfl]
        exact ha.er (F.next g1 d1) e W Q tk (hw.next g1)
      | false =>
        rw [if_neg Bool.false_ne_true]
        exact hb.er (F.next g1 d1) e W Q tk (hw.next g1)

/-! ### argument lists -/
def aNil : AF := fun _ δ => .ok [] δ
def aCons (f : EF) (r : AF) : AF := fun ρ δ => (f ρ δ).bind fun d δ1 => (r ρ δ1).bind fun ds δ2 => .ok (d :: ds) δ2
theorem sa_nil : SA X [] aNil where
  ok := fun {pd H0 Oc O ρ δ σ H ds δ'} F e Q hq => by
    cases e
    exact wA_of pa_nil (hq [] H Grow.refl F.dice .nil)
  er := fun F e => by cases e
theorem sa_cons {e : Expr} {es : List Expr} {f : EF} {r : AF} (he : SE X e f) (hr : SA X es r) (hs : starEach (e :: es) X.env = (false, eval e X.env) :: starEach es X.env := by rfl) : SA X (e :: es) (aCons f r) where
  ok := fun {pd H0 Oc O ρ δ σ H ds δ'} F q Q hq => by
    obtain ⟨d, δ1, h1, q⟩ := Out.bind_ok q
    obtain ⟨ds', δ2, h2, q⟩ := Out.bind_ok q
    cases q
    refine wA_of (pa_cons pe_w pa_w hs) (he.ok F h1 _ fun v H1 g1 d1 r1 => ?_)
    refine hr.ok (F.next g1 d1) h2 _ fun vs H2 g2 d2 r2 => ?_
    exact hq _ H2 (g1.trans g2) d2 (.cons (r1.same (hid_le g2)) r2)
  er := fun {pd H0 Oc O ρ δ σ H x δ'} F q W Q tk hw => by
    rcases Out.bind_er q with q | ⟨d, δ1, h1, q⟩
    · exact wA_of (pa_cons pe_w pa_w hs) (he.er F q W _ tk hw)
    · refine wA_of (pa_cons pe_w pa_w hs) (he.ok F h1 _ fun v H1 g1 d1 r1 => ?_)
      rcases Out.bind_er q with q | ⟨ds', δ2, h2, q⟩
      · exact hr.er (F.next g1 d1) q W _ tk (hw.next g1)
      · cases q
/-- what is made of an argument list -/
def eArg (g : List D → Option D) (fa : AF) : EF := fun ρ δ => (fa ρ δ).bind fun ds δ1 => Out.get (g ds) δ1
theorem arg_ok {g : List D → Option D} {fa : AF} {ρ : Ev} {δ δ' : Di} {d : D} (e : eArg g fa ρ δ = .ok d δ') : ∃ ds, fa ρ δ = .ok ds δ' ∧ g ds = some d := by
  obtain ⟨x, δ1, h1, h2⟩ := Out.bind_ok e
  obtain ⟨h5, h6⟩ := Out.get_ok h2
  exact ⟨x, by rw [h1, h6], h5⟩
theorem arg_er {g : List D → Option D} {fa : AF} {ρ : Ev} {δ δ' : Di} {x : Ex} (e : eArg g fa ρ δ = .er x δ') : fa ρ δ = .er x δ' := by
  rcases Out.bind_er e with h | ⟨a, δ1, h1, h2⟩
  · exact h
  · exact (Out.get_er h2).elim
theorem se_arg {e : Expr} {es : List Expr} {fa : AF} {g : List D → Option D} {r : List V → Hp → VK → Prop} (p : PE X e (fun σ H Q => wA X es σ H fun vs H1 => r vs H1 Q))
    (hr : ∀ (pd : Addr) (O : List Addr) (H : Hp) (vs : List V) (ds : List D) (z : D) (Q : VK), g ds = some z → Taken (pd :: O) H → Reps X.K pd (hid (pd :: O) H) vs ds → (∀ u H', Same H H' → Rep X.K pd (hid (pd :: O) H') u z → Q u H') → r vs H Q) (ha : SA X es fa) : SE X e (eArg g fa) where
  ok := fun {pd H0 Oc O ρ δ σ H d δ'} F e Q hq => by
    obtain ⟨x, h1, h2⟩ := arg_ok e
    refine wE_of p (ha.ok F h1 _ fun v H1 g1 d1 r1 => ?_)
    exact hr pd O H1 v x d _ h2 (F.next g1 d1).pdn r1 fun u H2 s2 r2 => hq u H2 (g1.trans (Grow.of s2)) (s2 _ _ d1) r2
  er := fun F e W Q tk hw => wE_of p (ha.er F (arg_er e) W _ tk hw)
def tupF (ds : List D) : Option D := if ds.length ≤ lim then some (.tup ds) else none
def lstF (ds : List D) : Option D := if ds.length ≤ lim then some (.lst ds) else none
theorem se_tup {es : List Expr} {k} {fa : AF} (ha : SA X es fa) : SE X (.Tuple es k pos) (eArg tupF fa) := by
  refine se_arg (r := fun xs H1 Q => xs.length ≤ sizeLine ∧ ∀ p, H1 p = none → Q (.ref p) (upd H1 p (.tup xs))) (pe_tup pa_w) (fun pd O H vs ds z Q hg ht hr hq => ?_) ha
  unfold tupF at hg
  by_cases c : ds.length ≤ lim
  · rw [if_pos c] at hg; cases hg
    exact ⟨by rw [lim_eq, hr.length]; exact c, fun p hp => hq _ _ (same_upd hp) (rep_newT ht hp hr)⟩
  · rw [if_neg c] at hg; cases hg
theorem se_lst {es : List Expr} {fa : AF} (ha : SA X es fa) : SE X (.List es pos) (eArg lstF fa) := by
  refine se_arg (r := fun xs H1 Q => xs.length ≤ sizeLine ∧ ∀ p, H1 p = none → Q (.ref p) (upd H1 p (.lst xs))) (pe_lst pa_w) (fun pd O H vs ds z Q hg ht hr hq => ?_) ha
  unfold lstF at hg
  by_cases c : ds.length ≤ lim
  · rw [if_pos c] at hg; cases hg
    exact ⟨by rw [lim_eq, hr.length]; exact c, fun p hp => hq _ _ (same_upd hp) (rep_newL ht hp hr)⟩
  · rw [if_neg c] at hg; cases hg
/-- a built-in of its arguments -/
def BiD (X : Cx) (f : Value) (g : List D → Option D) : Prop := ∃ r : List V → Hp → VK → Prop, CallR X f r ∧
  ∀ (pd : Addr) (O : List Addr) (H : Hp) (vs : List V) (ds : List D) (z : D) (Q : VK), g ds = some z → Taken (pd :: O) H → Reps X.K pd (hid (pd :: O) H) vs ds → (∀ u H', Same H H' → Rep X.K pd (hid (pd :: O) H') u z → Q u H') → r vs H Q
theorem se_callB {x : Str} {id : String} {p : Pos} {e : Expr} {es : List Expr} {fa : AF} {g : List D → Option D} (hb : BiD X (.builtin id) g) (hg : Gl X x) (hm : X.mg x = none) (hv : bootBuiltins x = some (.builtin id)) (ha : SA X (e :: es) fa) (hn : x ≠ "__name__" := by decide) (hdb : (x == ("__debug__" : Str)) = false := by decide)
    (he : starEach (e :: es) X.env = (false, eval e X.env) :: starEach es X.env := by rfl) (hpl : (backTo pos (starEach es X.env)).any (·.1) = false := by rfl) : SE X (.Call (.Name x p) (e :: es) [] pos) (eArg g fa) := by
  obtain ⟨r, h1, h2⟩ := hb
  exact se_arg (pe_callB h1 hg hm hv pa_w hn hdb he hpl) h2 ha
theorem se_callTy {x : Str} {T : String} {p : Pos} {e : Expr} {es : List Expr} {fa : AF} {g : List D → Option D} (hb : BiD X (.type T) g) (hg : Gl X x) (hm : X.mg x = none) (hv : bootBuiltins x = some (.type T)) (ha : SA X (e :: es) fa) (hn : x ≠ "__name__" := by decide) (hdb : (x == ("__debug__" : Str)) = false := by decide)
    (he : starEach (e :: es) X.env = (false, eval e X.env) :: starEach es X.env := by rfl) (hpl : (backTo pos (starEach es X.env)).any (·.1) = false := by rfl) : SE X (.Call (.Name x p) (e :: es) [] pos) (eArg g fa) := by
  obtain ⟨r, h1, h2⟩ := hb
  exact se_arg (pe_callTy h1 hg hm hv pa_w hn hdb he hpl) h2 ha

/-! ### subscripts, slices -/
def idxD : D → D → Option D
  | .lst xs, .int i => atI xs i
  | .tup xs, .int i => atI xs i
  | .str z, .int i => if z.length ≤ lim then (atI z.cps.toList i).map fun c => .str ⟨#[c]⟩ else none
  | _, _ => none
theorem Reps.at {K : PySem.W.Frag} {pd : Addr} {H : Hp} {vs : List V} {ds : List D} {i : Int} {d : D} (r : Reps K pd H vs ds) (h : atI ds i = some d) : ∃ v, atI vs i = some v ∧ Rep K pd H v d := by
  unfold atI at h ⊢
  rw [r.length]
  obtain ⟨j, h1, h2⟩ := Option.bind_eq_some_iff.mp h
  obtain ⟨v, h3, h4⟩ := r.get h2
  exact ⟨v, by rw [h1]; exact h3, h4⟩
theorem se_idx {a b : Expr} {fa fb : EF} (ha : SE X a fa) (hb : SE X b fb) (hs : PlainIx b := by unfold PlainIx; intros; rfl) : SE X (.Subscript a b pos) (eBin idxD fa fb) := by
  have hr : ∀ (pd : Addr) (O : List Addr) (H : Hp) (v w : V) (x y z : D) (Q : VK), idxD x y = some z → Taken (pd :: O) H → Rep X.K pd (hid (pd :: O) H) v x → Rep X.K pd (hid (pd :: O) H) w y →
    (∀ u H', Same H H' → Rep X.K pd (hid (pd :: O) H') u z → Q u H') → rIx X.K v w H Q := by
    intro pd O H v w x y z Q hg ht hx hy hq
    cases hx with
    | @lst a vs ds h r => cases hy with
      | int i =>
        obtain ⟨u, h1, h2⟩ := r.at hg
        exact .inl ⟨a, vs, i, u, rfl, rfl, .inl (.inl (hid_get h)), h1, hq _ H (Same.refl H) h2⟩
      | _ => cases hg
    | @tup a vs ds h r => cases hy with
      | int i =>
        obtain ⟨u, h1, h2⟩ := r.at hg
        exact .inr (.inl ⟨a, vs, i, u, rfl, rfl, sqT_get h, h1, hq _ H (Same.refl H) h2⟩)
      | _ => cases hg
    | str s => cases hy with
      | int i =>
        have hg : (if s.length ≤ lim then (atI s.cps.toList i).map fun c => D.str ⟨#[c]⟩ else none) = some z := hg
        by_cases c : s.length ≤ lim
        · rw [if_pos c] at hg
          obtain ⟨k, h1, h2⟩ := Option.map_eq_some_iff.mp hg
          subst h2
          exact .inr (.inr ⟨s, i, k, rfl, rfl, by rw [lim_eq]; exact c, h1, hq _ H (Same.refl H) (.str _)⟩)
        · rw [if_neg c] at hg; cases hg
      | _ => cases hg
    | _ => cases hg
  exact ⟨fun F e Q hq => wE_of (pe_ix ix_seq pe_w pe_w hs) (bin_run (f := fun _ _ => pure .none) hr ha hb F e Q hq), fun F e W Q tk hw => wE_of (pe_ix ix_seq pe_w pe_w hs) (bin_runE ha hb F e W Q tk hw)⟩
def cutD (xs : List D) (lo hi : Option Int) : List D := (xs.drop (HT.sIx xs.length 0 lo)).take (HT.sIx xs.length xs.length hi - HT.sIx xs.length 0 lo)
theorem Reps.cut {K : PySem.W.Frag} {pd : Addr} {H : Hp} {vs : List V} {ds : List D} (r : Reps K pd H vs ds) (lo hi : Option Int) : Reps K pd H (cutV vs lo hi) (cutD ds lo hi) := by
  unfold cutV cutD
  rw [r.length]
  exact (r.drop _).take _
/-- a part of a slice -/
abbrev OF := Ev → Di → Out (Option Int)
def oNone : OF := fun _ δ => .ok none δ
def oSome (f : EF) : OF := fun ρ δ => (f ρ δ).bind fun d δ1 => match d with
  | .int i => .ok (some i) δ1
  | _ => .bad
def wO (X : Cx) (e : Option Expr) (σ : Sg) (H : Hp) (Q : Option Int → Hp → Prop) : Prop := ∀ t, PO X e t → t σ H Q
structure SO (X : Cx) (e : Option Expr) (f : OF) : Prop where
  po : ∃ t : TO, PO X e t ∧ (∀ {pd H0 Oc O ρ δ σ H o δ'}, FR X.K pd H0 Oc O ρ δ σ H → f ρ δ = .ok o δ' → ∀ Q : Option Int → Hp → Prop, (∀ H', Grow pd H H' → DiceAt pd δ' H' → Q o H') → t σ H Q) ∧
    (∀ {pd H0 Oc O ρ δ σ H x δ'}, FR X.K pd H0 Oc O ρ δ σ H → f ρ δ = .er x δ' → ∀ (W : WX) (Q : Option Int → Hp → Prop), Takes X W → ErW X pd O W σ H x δ' → t σ H Q)
theorem so_none : SO X none oNone := ⟨_, po_none, fun {pd H0 Oc O ρ δ σ H o δ'} F e Q hq => by cases e; exact hq H Grow.refl F.dice, fun F e => by cases e⟩
theorem so_some {e : Expr} {f : EF} (h : SE X e f) : SO X (some e) (oSome f) := by
  refine ⟨_, po_some pe_w, fun {pd H0 Oc O ρ δ σ H o δ'} F q Q hq => ?_, fun {pd H0 Oc O ρ δ σ H x δ'} F q W Q tk hw => ?_⟩
  · obtain ⟨d, δ1, h1, q⟩ := Out.bind_ok q
    refine h.ok F h1 _ fun v H1 g1 d1 r1 => ?_
    cases d with
    | int i => cases q; exact ⟨i, r1.int_inv, hq H1 g1 d1⟩
    | _ => cases q
  · rcases Out.bind_er q with q | ⟨d, δ1, h1, q⟩
    · exact h.er F q W _ tk hw
    · cases d <;> cases q
def slD (x : D) (lo hi : Option Int) : Option D := match x with
  | .lst xs => some (.lst (cutD xs lo hi))
  | .tup xs => some (.tup (cutD xs lo hi))
  | _ => none
def eSl (fe : EF) (fl fh : OF) : EF := fun ρ δ => (fe ρ δ).bind fun x δ1 => (fl ρ δ1).bind fun lo δ2 => (fh ρ δ2).bind fun hi δ3 => Out.get (slD x lo hi) δ3
theorem cut_all {xs : List D} {lo hi : Option Int} (h : HT.sIx xs.length 0 lo = 0 ∧ HT.sIx xs.length xs.length hi = xs.length) : cutD xs lo hi = xs := by
  unfold cutD
  rw [h.1, h.2]
  simp
theorem se_sl {e : Expr} {lo hi : Option Expr} {fe : EF} {fl fh : OF} {p2 : Pos} (he : SE X e fe) (hl : SO X lo fl) (hh : SO X hi fh) : SE X (.Subscript e (.Slice lo hi none p2) pos) (eSl fe fl fh) := by
  obtain ⟨tl, l1, l2, l3⟩ := hl
  obtain ⟨th, h1, h2, h3⟩ := hh
  refine ⟨fun {pd H0 Oc O ρ δ σ H d δ'} F q Q hq => ?_, fun {pd H0 Oc O ρ δ σ H x δ'} F q W Q tk hw => ?_⟩
  · obtain ⟨x, δ1, q1, q⟩ := Out.bind_ok q
    obtain ⟨o, δ2, q2, q⟩ := Out.bind_ok q
    obtain ⟨o', δ3, q3, q⟩ := Out.bind_ok q
    obtain ⟨q4, q5⟩ := Out.get_ok q
    refine wE_of (pe_slice (sl_list.or sl_tupA) pe_w l1 h1) (he.ok F q1 _ fun v H1 g1 d1 r1 => ?_)
    have F1 := F.next g1 d1
    refine l2 F1 q2 _ fun H2 g2 d2 => ?_
    have F2 := F1.next g2 d2
    refine h2 F2 q3 _ fun H3 g3 d3 => ?_
    have F3 := F2.next g3 d3
    have r3 := (r1.same (hid_le g2)).same (hid_le (O := O) g3)
    have gg := (g1.trans g2).trans g3
    subst q5
    cases r3 with
    | @lst a vs ds h r =>
      cases q4
      exact .inl ⟨a, vs, rfl, .inl (.inl (hid_get h)), fun p hp => hq _ _ (gg.trans (Grow.of (same_upd hp))) (same_upd hp _ _ d3) (rep_newL F3.pdn hp (r.cut o o'))⟩
    | @tup a vs ds h r =>
      cases q4
      refine .inr ⟨a, vs, rfl, sqT_get h, fun c => ?_, fun _ p hp => hq _ _ (gg.trans (Grow.of (same_upd hp))) (same_upd hp _ _ d3) (rep_newT F3.pdn hp (r.cut o o'))⟩
      rw [r.length] at c
      exact hq _ H3 gg d3 (by rw [cut_all c]; exact .tup h r)
    | _ => cases q4
  · rcases Out.bind_er q with q | ⟨y, δ1, q1, q⟩
    · exact wE_of (pe_slice (sl_list.or sl_tupA) pe_w l1 h1) (he.er F q W _ tk hw)
    · refine wE_of (pe_slice (sl_list.or sl_tupA) pe_w l1 h1) (he.ok F q1 _ fun v H1 g1 d1 r1 => ?_)
      have F1 := F.next g1 d1
      rcases Out.bind_er q with q | ⟨o, δ2, q2, q⟩
      · exact l3 F1 q W _ tk (hw.next g1)
      · refine l2 F1 q2 _ fun H2 g2 d2 => ?_
        have F2 := F1.next g2 d2
        rcases Out.bind_er q with q | ⟨o', δ3, q3, q⟩
        · exact h3 F2 q W _ tk ((hw.next g1).next g2)
        · exact (Out.get_er q).elim
/-- xs[::-1] of a list -/
def revD : D → Option D
  | .lst xs => some (.lst xs.reverse)
  | _ => none
theorem se_rev {e : Expr} {fe : EF} {k : Nat} {p1 p2 p3 : Pos} (he : SE X e fe) : SE X (.Subscript e (.Slice none none (some (.UnaryOp .USub (.Constant (.int 1) k p1) p2)) p3) pos) (eUn revD fe) := by
  refine se_un (r := fun x H1 Q => ∃ a xs, x = .ref a ∧ SqL X.K H1 a xs ∧ ∀ p, H1 p = none → Q (.ref p) (upd H1 p (.lst xs.reverse))) (pe_revL pe_w) (fun pd O H v x z Q hg ht hx hq => ?_) he
  cases hx with
  | @lst a vs ds h r => cases hg; exact ⟨a, vs, rfl, .inl (.inl (hid_get h)), fun p hp => hq _ _ (same_upd hp) (rep_newL ht hp r.rev)⟩
  | _ => cases hg
end Sh
end
section
set_option maxHeartbeats 2000000
/-! Sh5: built-ins, defs called, own lists read. -/
namespace Sh
open PySem PySem.Spec PyProof.Rows L2
variable {X : Cx} {pos : Pos}

/-! ### built-ins -/
def lenF : List D → Option D
  | [.lst xs] => some (.int xs.length)
  | [.tup xs] => some (.int xs.length)
  | [.str z] => if z.length ≤ lim then some (.int z.length) else none
  | _ => none
theorem bi_len : BiD X (.builtin "len") lenF := by
  refine ⟨_, call_len, fun pd O H vs ds z Q hg ht hr hq => ?_⟩
  cases hr with
  | nil => cases hg
  | cons h t =>
    cases t with
    | cons _ _ => cases h <;> cases hg
    | nil =>
      cases h with
      | @lst a ws es h r => cases hg; rw [← r.length] at hq; exact ⟨_, ws.length, rfl, .inl ⟨ws, .inl (.inl (hid_get h)), rfl⟩, hq _ H (Same.refl H) (.int _)⟩
      | @tup a ws es h r => cases hg; rw [← r.length] at hq; exact ⟨_, ws.length, rfl, .inr ⟨ws, sqT_get h, rfl⟩, hq _ H (Same.refl H) (.int _)⟩
      | str s =>
        have hg : (if s.length ≤ lim then some (D.int s.length) else none) = some z := hg
        by_cases c : s.length ≤ lim
        · rw [if_pos c] at hg; cases hg; exact ⟨_, s.length, rfl, ⟨by rw [lim_eq]; exact c, rfl⟩, hq _ H (Same.refl H) (.int _)⟩
        · rw [if_neg c] at hg; cases hg
      | _ => cases hg
def tupleF : List D → Option D
  | [.lst xs] => some (.tup xs)
  | [.tup xs] => some (.tup xs)
  | _ => none
theorem bi_tuple : BiD X (.type "tuple") tupleF := by
  refine ⟨_, call_tuple_of, fun pd O H vs ds z Q hg ht hr hq => ?_⟩
  cases hr with
  | nil => cases hg
  | cons h t =>
    cases t with
    | cons _ _ => cases h <;> cases hg
    | nil =>
      cases h with
      | @lst a ws es h r => cases hg; exact ⟨a, ws, rfl, .inl ⟨.inl (.inl (hid_get h)), fun l hl => hq _ _ (same_upd hl) (rep_newT ht hl r)⟩⟩
      | @tup a ws es h r => cases hg; exact ⟨a, ws, rfl, .inr ⟨sqT_get h, hq _ H (Same.refl H) (.tup h r)⟩⟩
      | _ => cases hg
def listF : List D → Option D
  | [.lst xs] => some (.lst xs)
  | [.tup xs] => some (.lst xs)
  | _ => none
theorem bi_list : BiD X (.type "list") listF := by
  refine ⟨_, call_list_of, fun pd O H vs ds z Q hg ht hr hq => ?_⟩
  cases hr with
  | nil => cases hg
  | cons h t =>
    cases t with
    | cons _ _ => cases h <;> cases hg
    | nil =>
      cases h with
      | @lst a ws es h r => cases hg; exact ⟨a, ws, rfl, .inl (.inl (.inl (hid_get h))), fun l hl => hq _ _ (same_upd hl) (rep_newL ht hl r)⟩
      | @tup a ws es h r => cases hg; exact ⟨a, ws, rfl, .inr (sqT_get h), fun l hl => hq _ _ (same_upd hl) (rep_newL ht hl r)⟩
      | _ => cases hg
def intsOf : List D → Option (List Int)
  | [] => some []
  | .int i :: r => (intsOf r).map (i :: ·)
  | _ :: _ => none
theorem intsOf_rep {K : PySem.W.Frag} {pd : Addr} {H : Hp} : ∀ {vs : List V} {ds : List D} {ns : List Int}, Reps K pd H vs ds → intsOf ds = some ns → vs = ns.map V.int
  | _, _, _, .nil, h => by cases h; rfl
  | v :: vs, d :: ds, ns, .cons r rs, h => by
    cases r with
    | int i =>
      obtain ⟨ms, h1, h2⟩ := Option.map_eq_some_iff.mp h
      subst h2
      rw [intsOf_rep rs h1]
      rfl
    | _ => cases h
def bolsOf : List D → Option (List Bool)
  | [] => some []
  | .bl i :: r => (bolsOf r).map (i :: ·)
  | _ :: _ => none
theorem bolsOf_rep {K : PySem.W.Frag} {pd : Addr} {H : Hp} : ∀ {vs : List V} {ds : List D} {ns : List Bool}, Reps K pd H vs ds → bolsOf ds = some ns → vs = ns.map V.bl
  | _, _, _, .nil, h => by cases h; rfl
  | v :: vs, d :: ds, ns, .cons r rs, h => by
    cases r with
    | bl i =>
      obtain ⟨ms, h1, h2⟩ := Option.map_eq_some_iff.mp h
      subst h2
      rw [bolsOf_rep rs h1]
      rfl
    | _ => cases h
def sumF : List D → Option D
  | [.lst xs] => (intsOf xs).map fun ns => .int ns.sum
  | _ => none
theorem bi_sum (hc : X.calm = true) : BiD X (.builtin "sum") sumF := by
  refine ⟨_, cr_sum hc, fun pd O H vs ds z Q hg ht hr hq => ?_⟩
  cases hr with
  | nil => cases hg
  | cons h t =>
    cases t with
    | cons _ _ => cases h <;> cases hg
    | nil =>
      cases h with
      | @lst a ws es h r =>
        obtain ⟨ns, h1, h2⟩ := Option.map_eq_some_iff.mp (show (intsOf es).map _ = some z from hg)
        subst h2
        have e := intsOf_rep r h1
        subst e
        exact ⟨a, ns, rfl, .inl (.inl (hid_get h)), hq _ H (Same.refl H) (.int _)⟩
      | _ => cases hg
def allF : List D → Option D
  | [.lst xs] => (bolsOf xs).map fun ns => .bl (ns.all id)
  | _ => none
theorem bi_all (hc : X.calm = true) : BiD X (.builtin "all") allF := by
  refine ⟨_, cr_all hc, fun pd O H vs ds z Q hg ht hr hq => ?_⟩
  cases hr with
  | nil => cases hg
  | cons h t =>
    cases t with
    | cons _ _ => cases h <;> cases hg
    | nil =>
      cases h with
      | @lst a ws es h r =>
        obtain ⟨ns, h1, h2⟩ := Option.map_eq_some_iff.mp (show (bolsOf es).map _ = some z from hg)
        subst h2
        have e := bolsOf_rep r h1
        subst e
        exact ⟨a, ns, rfl, .inl (.inl (hid_get h)), hq _ H (Same.refl H) (.bl _)⟩
      | _ => cases hg
def anyF : List D → Option D
  | [.lst xs] => (bolsOf xs).map fun ns => .bl (ns.any id)
  | _ => none
theorem bi_any (hc : X.calm = true) : BiD X (.builtin "any") anyF := by
  refine ⟨_, cr_any hc, fun pd O H vs ds z Q hg ht hr hq => ?_⟩
  cases hr with
  | nil => cases hg
  | cons h t =>
    cases t with
    | cons _ _ => cases h <;> cases hg
    | nil =>
      cases h with
      | @lst a ws es h r =>
        obtain ⟨ns, h1, h2⟩ := Option.map_eq_some_iff.mp (show (bolsOf es).map _ = some z from hg)
        subst h2
        have e := bolsOf_rep r h1
        subst e
        exact ⟨a, ns, rfl, .inl (.inl (hid_get h)), hq _ H (Same.refl H) (.bl _)⟩
      | _ => cases hg
def divmodF : List D → Option D
  | [.int i, .int j] => if 0 < j ∧ j < 1073741824 then some (.tup [.int (i / j), .int (i % j)]) else none
  | _ => none
theorem bi_divmod : BiD X (.builtin "divmod") divmodF := by
  refine ⟨_, call_divmod, fun pd O H vs ds z Q hg ht hr hq => ?_⟩
  cases hr with
  | nil => cases hg
  | cons h t =>
    cases h with
    | int i =>
      cases t with
      | nil => cases hg
      | cons h2 t2 =>
        cases h2 with
        | int j =>
          cases t2 with
          | cons _ _ => cases hg
          | nil =>
            have hg : (if 0 < j ∧ j < 1073741824 then some (D.tup [.int (i / j), .int (i % j)]) else none) = some z := hg
            by_cases c : 0 < j ∧ j < 1073741824
            · rw [if_pos c] at hg; cases hg
              exact ⟨i, j, rfl, c, fun p hp => hq _ _ (same_upd hp) (rep_newT ht hp (.cons (.int _) (.cons (.int _) .nil)))⟩
            · rw [if_neg c] at hg; cases hg
        | _ => cases t2 <;> cases hg
    | _ => cases hg
def maxF : List D → Option D
  | [.int i, .int j] => some (.int (if j > i then j else i))
  | _ => none
theorem bi_max (hc : X.calm = true) : BiD X (.builtin "max") maxF := by
  refine ⟨_, call_max2 hc, fun pd O H vs ds z Q hg ht hr hq => ?_⟩
  cases hr with
  | nil => cases hg
  | cons h t =>
    cases h with
    | int i =>
      cases t with
      | nil => cases hg
      | cons h2 t2 =>
        cases h2 with
        | int j =>
          cases t2 with
          | cons _ _ => cases hg
          | nil => cases hg; exact ⟨i, j, rfl, hq _ H (Same.refl H) (.int _)⟩
        | _ => cases t2 <;> cases hg
    | _ => cases hg
/-- isinstance(e, T), T a built-in class -/
inductive Ty where
  | int | bool | str | tuple | list | dict
def Ty.nm : Ty → String
  | .int => "int" | .bool => "bool" | .str => "str" | .tuple => "tuple" | .list => "list" | .dict => "dict"
inductive Tk where
  | non | bool | int | str | tuple | list
def Tk.nm : Tk → String
  | .non => "NoneType" | .bool => "bool" | .int => "int" | .str => "str" | .tuple => "tuple" | .list => "list"
def isT : Tk → Ty → Bool
  | .bool, .bool => true
  | .bool, .int => true
  | .int, .int => true
  | .str, .str => true
  | .tuple, .tuple => true
  | .list, .list => true
  | _, _ => false
theorem isT_ok : ∀ (a : Tk) (b : Ty), kitB a.nm b.nm = some (isT a b) := by
  intro a b
  cases a <;> cases b <;> decide +kernel
def tkD : D → Option Tk
  | .non => some .non
  | .bl _ => some .bool
  | .int _ => some .int
  | .str _ => some .str
  | .tup _ => some .tuple
  | .lst _ => some .list
  | .dice => none
  | .exn _ _ _ _ => none
  | .raw _ => none
theorem tkD_ok {K : PySem.W.Frag} {pd : Addr} {H : Hp} {v : V} {d : D} {k : Tk} (r : Rep K pd H v d) (h : tkD d = some k) : TyX K H v (.type k.nm) := by
  cases r with
  | non => cases h; exact .base .non
  | bl b => cases h; exact .base (.bl b)
  | int i => cases h; exact .base (.int i)
  | str s => cases h; exact .base (.str s)
  | tup q _ =>
    cases h
    rcases q with (q | ⟨o, q⟩) | ⟨o, its, n, h1, h2, _⟩
    · exact .base (.tup q)
    · exact .fTuple q
    · exact .kTuple h1 h2
  | lst q _ => cases h; exact .base (.lst q)
  | dice => cases h
  | exn _ _ => cases h
  | raw _ => cases h
theorem TyX.same {K : PySem.W.Frag} {pd : Addr} {H H' : Hp} {v : V} {d : D} {k : Tk} (s : Same H H') (r : Rep K pd H v d) (h : tkD d = some k) : TyX K H' v (.type k.nm) := tkD_ok (r.same s) h
def isiD (T : Ty) (x : D) : Option D := (tkD x).map fun k => .bl (isT k T)
theorem se_isi (T : Ty) {x : Str} {p p2 : Pos} {e : Expr} {fe : EF} (hi : X.mg "isinstance" = none) (hx : X.mg x = none) (hv : bootBuiltins x = some (.type T.nm)) (gi : Gl X "isinstance") (gx : Gl X x) (he : SE X e fe) (hn : x ≠ "__name__" := by decide) (hd : (x == ("__debug__" : Str)) = false := by decide)
    (hs : starEach (e :: [.Name x p2]) X.env = (false, eval e X.env) :: starEach [.Name x p2] X.env := by rfl) (hs2 : starEach [.Name x p2] X.env = (false, eval (.Name x p2) X.env) :: starEach [] X.env := by rfl)
    (hpl : (backTo pos (starEach [.Name x p2] X.env)).any (·.1) = false := by rfl) : SE X (.Call (.Name "isinstance" p) [e, .Name x p2] [] pos) (eUn (isiD T) fe) := by
  have p1 : PE X (.Call (.Name "isinstance" p) [e, .Name x p2] [] pos) _ := pe_callB call_isi gi hi (by decide +kernel) (pa_cons (pe_w (X := X) (e := e)) (pa_cons (pe_bltn (v := .ty T.nm) gx hx hv rfl hn hd) pa_nil hs2) hs) (by decide) (by decide) hs hpl
  refine se_un (r := fun x H1 Q => rIsi X.K [x, .ty T.nm] H1 Q) p1 (fun pd O H v x z Q hg ht hx hq => ?_) he
  obtain ⟨k, h1, h2⟩ := Option.map_eq_some_iff.mp (show (tkD x).map _ = some z from hg)
  subst h2
  exact ⟨v, .ty T.nm, _, _, isT k T, rfl, .ty _, TyX.same hid_same hx h1, kit_ty (isT_ok k T), hq _ H (Same.refl H) (.bl _)⟩

/-! ### defs -/
/-- called with data it does as F says -/
def spF (K : PySem.W.Frag) (mg : Str → Option Value) (n : Nat) (F : List D → Di → Out D) : Sp := fun vs H Q E => vs.length = n ∧ ∃ (pd : Addr) (Oc : List Addr) (ds : List D) (δ : Di), DiceAt pd δ H ∧ Taken (pd :: Oc) H ∧ Reps K pd (hid (pd :: Oc) H) vs ds ∧
  ((∃ d δ', F ds δ = .ok d δ' ∧ ∀ v H', Grow pd H H' → DiceAt pd δ' H' → Rep K pd (hid (pd :: Oc) H') v d → Q v H') ∨
   (∃ x δ', F ds δ = .er x δ' ∧ ∀ cls od H', Grow pd H H' → DiceAt pd δ' H' → ExR K mg pd (hid (pd :: Oc) H') cls od x → E cls od H'))
structure DefOk (P : Program) (w : World) (K : PySem.W.Frag) (mg : Str → Option Value) (base : Heap) (x : Str) (k n : Nat) (F : List D → Di → Out D) : Prop where
  ex : ∃ (f : Addr) (fd : FuncData) (ps : List Str), mg x = some (.ref f) ∧ PySem.W.keepIn K (.ref f) = true ∧ Binds K fd ps [] ∧ FnOk P w K mg base (L2.CX P w) k f fd ps (spF K mg n F)
def eCall (n : Nat) (F : List D → Di → Out D) (fa : AF) : EF := fun ρ δ => (fa ρ δ).bind fun ds δ1 => if ds.length = n then F ds δ1 else .bad
theorem passNo {σ : Sg} : PassesAt (L2.CX X.prog X.w) X σ E0 := fun pins H s e s' I c => passL pins σ H s e s' I c
theorem se_call {x : Str} {p : Pos} {e : Expr} {es : List Expr} {fa : AF} {j k n : Nat} {F : List D → Di → Out D} (G : DefOk X.prog X.w X.K X.mg X.base x j n F) (hr : Room k X.A) (hjk : j ≤ k) (hg : Gl X x) (ha : SA X (e :: es) fa) (hdb : (x == ("__debug__" : Str)) = false := by decide)
    (he : starEach (e :: es) X.env = (false, eval e X.env) :: starEach es X.env := by rfl) (hpl : (backTo pos (starEach es X.env)).any (·.1) = false := by rfl) : SE X (.Call (.Name x p) (e :: es) [] pos) (eCall n F fa) := by
  obtain ⟨f, fd, ps, hm, hk, hb, G⟩ := G.ex
  have hr := hr.mono hjk
  refine ⟨fun {pd H0 Oc O ρ δ σ H d δ'} FF q Q hq => ?_, fun {pd H0 Oc O ρ δ σ H x' δ'} FF q W Q tk hw => ?_⟩
  · obtain ⟨ds, δ1, q1, q⟩ := Out.bind_ok q
    by_cases c : ds.length = n
    · rw [if_pos c] at q
      refine wE_of (pe_callSD (E := fun _ => E0) G hr hg hm hk hb .nil (fun σ => passNo) pa_w hdb he hpl) (ha.ok FF q1 _ fun vs H1 g1 d1 r1 => ?_)
      rw [List.append_nil]
      exact ⟨by rw [r1.length]; exact c, pd, O, ds, δ1, d1, (FF.next g1 d1).pdn, r1, .inl ⟨d, δ', q, fun v H' g' d' r' => hq v H' (g1.trans g') d' r'⟩⟩
    · rw [if_neg c] at q; cases q
  · rcases Out.bind_er q with q | ⟨ds, δ1, q1, q⟩
    · exact wE_of (pe_callSD (E := fun _ => E0) G hr hg hm hk hb .nil (fun σ => passNo) pa_w hdb he hpl) (ha.er FF q W _ tk hw)
    · by_cases c : ds.length = n
      · rw [if_pos c] at q
        refine wE_of (pe_callSD (E := WE W) G hr hg hm hk hb .nil (fun σ => passAt tk σ) pa_w hdb he hpl) (ha.ok FF q1 _ fun vs H1 g1 d1 r1 => ?_)
        rw [List.append_nil]
        exact ⟨by rw [r1.length]; exact c, pd, O, ds, δ1, d1, (FF.next g1 d1).pdn, r1, .inr ⟨x', δ', q, fun cls od H' g' d' r' => hw cls od H' (g1.trans g') d' r'⟩⟩
      · rw [if_neg c] at q; cases q

/-! ### own lists read -/
mutual
/-- no list within -/
def D.nol : D → Bool
  | .tup xs => nolL xs
  | .lst _ => false
  | .exn _ _ _ _ => false
  | _ => true
def nolL : List D → Bool
  | [] => true
  | x :: xs => x.nol && nolL xs
end
theorem sqT_nol {K : PySem.W.Frag} {O O' : List Addr} {H : Hp} {a : Addr} {xs : List V} (ho : ∀ b ∈ O, b ∈ O' ∨ ∃ zs, H b = some (.lst zs)) (h : SqT K (hid O' H) a xs) : SqT K (hid O H) a xs := by
  have go : ∀ o, hid O' H a = some o → (∀ zs, o ≠ .lst zs) → hid O H a = some o := fun o q n => by
    have q2 := hid_get q
    by_cases c : a ∈ O
    · rcases ho a c with z | ⟨zs, z⟩
      · unfold hid at q; rw [if_pos z] at q; cases q
      · rw [q2] at z; cases z; exact absurd rfl (n zs)
    · rw [hid_of c]; exact q2
  rcases h with (h | ⟨o, h⟩) | h
  · exact .inl (.inl (go _ h fun zs z => by cases z))
  · exact .inl (.inr ⟨o, go _ h fun zs z => by cases z⟩)
  · exact .inr h
mutual
theorem Rep.nol {K : PySem.W.Frag} {pd : Addr} {O O' : List Addr} {H : Hp} {v : V} {d : D} (ho : ∀ b ∈ O, b ∈ O' ∨ ∃ zs, H b = some (.lst zs)) : Rep K pd (hid O' H) v d → d.nol = true → Rep K pd (hid O H) v d
  | .non, _ => .non
  | .bl b, _ => .bl b
  | .int i, _ => .int i
  | .str s, _ => .str s
  | .tup h r, n => .tup (sqT_nol ho h) (Reps.nol ho r n)
  | .lst h r, n => Bool.noConfusion n
  | .dice, _ => .dice
  | .exn _ _, n => Bool.noConfusion n
  | .raw v, _ => .raw v
theorem Reps.nol {K : PySem.W.Frag} {pd : Addr} {O O' : List Addr} {H : Hp} {vs : List V} {ds : List D} (ho : ∀ b ∈ O, b ∈ O' ∨ ∃ zs, H b = some (.lst zs)) : Reps K pd (hid O' H) vs ds → nolL ds = true → Reps K pd (hid O H) vs ds
  | .nil, _ => .nil
  | .cons h r, n => .cons (Rep.nol ho h (Bool.and_eq_true_iff.mp n).1) (Reps.nol ho r (Bool.and_eq_true_iff.mp n).2)
end
/-- an own list is own no more -/
theorem FR.thaw {K : PySem.W.Frag} {pd : Addr} {H0 : Hp} {Oc O : List Addr} {ρ : Ev} {δ : Di} {σ : Sg} {H : Hp} (F : FR K pd H0 Oc O ρ δ σ H) {i : Nat} {xs : List D} (h : ρ[i]? = some (.ow xs)) :
    ∃ (a : Addr) (vs : List V) (O' : List Addr), a ∈ O ∧ a ≠ pd ∧ H a = some (.lst vs) ∧ (∀ b ∈ O', b ∈ O) ∧ (∀ b ∈ O, b ∈ O' ∨ b = a) ∧ FR K pd H0 Oc O' (ρ.set i (.va (.lst xs))) δ σ H := by
  obtain ⟨a, vs, h1, h2, h3, h4, h5, h6⟩ := F.ow i xs h
  have hsub : ∀ b ∈ O.filter (fun b => decide (b ≠ a)), b ∈ O := fun b hb => (List.mem_filter.mp hb).1
  have hna : a ∉ O.filter (fun b => decide (b ≠ a)) := fun z => (of_decide_eq_true (List.mem_filter.mp z).2) rfl
  have hin : ∀ b ∈ O, b ≠ a → b ∈ O.filter (fun b => decide (b ≠ a)) := fun b hb n => List.mem_filter.mpr ⟨hb, decide_eq_true n⟩
  have hle : Same (hid (pd :: O) H) (hid (pd :: O.filter (fun b => decide (b ≠ a))) H) := hid_sub fun b hb => by
    rcases List.mem_cons.mp hb with e | e
    · rw [e]; exact List.mem_cons_self
    · exact List.mem_cons_of_mem _ (hsub b e)
  have hi : i < ρ.length := (List.getElem?_eq_some_iff.mp h).1
  refine ⟨a, vs, _, h2, h4, h5, hsub, fun b hb => ?_, F.grow, F.dice, fun b hb => ?_, F.oc0, fun b hb => F.al b (hsub b hb), by rw [List.length_set]; exact F.len, fun j d hj => ?_, fun j ys hj => ?_, fun j k ys zs b hj hk => ?_⟩
  · by_cases e : b = a
    · exact .inr e
    · exact .inl (hin b hb e)
  · exact hin b (F.sub b hb) fun e => F.oc0 b hb (by rw [e]; exact h3)
  · by_cases e : i = j
    · subst e
      rw [List.getElem?_set_self hi] at hj
      cases hj
      exact ⟨.ref a, h1, .lst (by rw [hid_of fun z => (List.mem_cons.mp z).elim h4 hna]; exact h5) (h6.same hle)⟩
    · rw [List.getElem?_set_ne e] at hj
      obtain ⟨v, q1, q2⟩ := F.va j d hj
      exact ⟨v, q1, q2.same hle⟩
  · by_cases e : i = j
    · subst e
      rw [List.getElem?_set_self hi] at hj
      cases hj
    · rw [List.getElem?_set_ne e] at hj
      obtain ⟨b, ws, q1, q2, q3, q4, q5, q6⟩ := F.ow j ys hj
      refine ⟨b, ws, q1, hin b q2 fun z => ?_, q3, q4, q5, q6.same hle⟩
      rw [z] at q1
      exact e (F.dis i j xs ys a h hj h1 q1)
  · by_cases e : i = j
    · subst e
      rw [List.getElem?_set_self hi] at hj
      cases hj
    · by_cases e2 : i = k
      · subst e2
        rw [List.getElem?_set_self hi] at hk
        cases hk
      · rw [List.getElem?_set_ne e] at hj
        rw [List.getElem?_set_ne e2] at hk
        exact F.dis j k ys zs b hj hk
def eThaw (i : Nat) (f : EF) : EF := fun ρ δ => match ρ[i]? with
  | some (.ow xs) => match f (ρ.set i (.va (.lst xs))) δ with
    | .ok d δ' => if d.nol = true then .ok d δ' else .bad
    | .er x δ' => if x.arg.nol = true then .er x δ' else .bad
    | .bad => .bad
  | _ => f ρ δ
theorem thaw_hid {pd a : Addr} {O O' : List Addr} {H H' : Hp} {vs : List V} (ne : a ≠ pd) (ha : H a = some (.lst vs)) (g : Grow pd H H') (h : ∀ b ∈ O, b ∈ O' ∨ b = a) : ∀ b ∈ pd :: O, b ∈ pd :: O' ∨ ∃ zs, H' b = some (.lst zs) := fun b hb => by
  rcases List.mem_cons.mp hb with e | e
  · rw [e]; exact .inl List.mem_cons_self
  · rcases h b e with z | z
    · exact .inl (List.mem_cons_of_mem _ z)
    · rw [z]; exact .inr ⟨vs, g a _ ne ha⟩
theorem se_thaw (i : Nat) {e : Expr} {f : EF} (he : SE X e f) : SE X e (eThaw i f) where
  ok := fun {pd H0 Oc O ρ δ σ H d δ'} F q Q hq => by
    unfold eThaw at q
    split at q
    · rename_i xs hxs
      obtain ⟨a, vs, O', h2, h4, h5, hs, ho, F'⟩ := F.thaw hxs
      split at q
      · rename_i d2 δ2 hf
        by_cases c : d2.nol = true
        · rw [if_pos c] at q; cases q
          exact he.ok F' hf Q fun v H' g' d' r' => hq v H' g' d' (r'.nol (thaw_hid h4 h5 g' ho) c)
        · rw [if_neg c] at q; cases q
      · rename_i x2 δ2 hf
        by_cases c : x2.arg.nol = true
        · rw [if_pos c] at q; cases q
        · rw [if_neg c] at q; cases q
      · cases q
    · exact he.ok F q Q hq
  er := fun {pd H0 Oc O ρ δ σ H x δ'} F q W Q tk hw => by
    unfold eThaw at q
    split at q
    · rename_i xs hxs
      obtain ⟨a, vs, O', h2, h4, h5, hs, ho, F'⟩ := F.thaw hxs
      split at q
      · rename_i d2 δ2 hf
        by_cases c : d2.nol = true
        · rw [if_pos c] at q; cases q
        · rw [if_neg c] at q; cases q
      · rename_i x2 δ2 hf
        by_cases c : x2.arg.nol = true
        · rw [if_pos c] at q; cases q
          refine he.er F' hf W Q tk fun cls od H' g' d' r' => hw cls od H' g' d' ?_
          obtain ⟨e1, dd, v, e2, e3, e4⟩ := r'
          refine ⟨e1, dd, v, e2, ?_, e4.nol (thaw_hid h4 h5 g' ho) c⟩
          have e5 := hid_get e3
          by_cases z : dd ∈ pd :: O
          · rcases thaw_hid h4 h5 g' ho dd z with y | ⟨zs, y⟩
            · unfold hid at e3; rw [if_pos y] at e3; cases e3
            · rw [e5] at y; cases y
          · rw [hid_of z]; exact e5
        · rw [if_neg c] at q; cases q
      · cases q
    · exact he.er F q W Q tk hw
/-- the same for a test -/
def tThaw (i : Nat) (f : TF) : TF := fun ρ δ => match ρ[i]? with
  | some (.ow xs) => match f (ρ.set i (.va (.lst xs))) δ with
    | .ok d δ' => .ok d δ'
    | _ => .bad
  | _ => f ρ δ
theorem st_thaw (i : Nat) {e : Expr} {f : TF} (he : ST X e f) : ST X e (tThaw i f) where
  ok := fun {pd H0 Oc O ρ δ σ H d δ'} F q Q hq => by
    unfold tThaw at q
    split at q
    · rename_i xs hxs
      obtain ⟨a, vs, O', h2, h4, h5, hs, ho, F'⟩ := F.thaw hxs
      split at q
      · rename_i d2 δ2 hf
        cases q
        exact he.ok F' hf Q hq
      · cases q
    · exact he.ok F q Q hq
  er := fun {pd H0 Oc O ρ δ σ H x δ'} F q W Q tk hw => by
    unfold tThaw at q
    split at q
    · split at q <;> cases q
    · exact he.er F q W Q tk hw
end Sh
end
section
set_option maxHeartbeats 2000000
/-! Sh6: enumerate of a tuple, zip of lists and tuples in any mix, as walks of the layer. -/
namespace Sh
open PySem PySem.Spec PyProof.Rows L2

/-- a list (false) or a tuple (true) -/
def Sq (K : PySem.W.Frag) (t : Bool) (H : Hp) (a : Addr) (xs : List V) : Prop := match t with
  | true => SqT K H a xs
  | false => SqL K H a xs
def kObj (t : Bool) (h : Heap) (a : Addr) (its : Array Value) : Prop := match t with
  | true => h.IsTuple a its
  | false => h.IsList a its
def kIt (t : Bool) (h : Heap) (it a : Addr) (i : Nat) : Prop := match t with
  | true => h.IsTupleIter it a i
  | false => h.IsListIter it a i
def kItO (t : Bool) (a : Addr) : Obj := match t with
  | true => { cls := .type "tuple_iterator", data := .fields #[.ref a, .int 0 0] }
  | false => { cls := .type "list_iterator", data := .fields #[.ref a, .int 0 0] }
theorem kBegins (t : Bool) (a : Addr) (its : Array Value) : Begins (.ref a) (kItO t a) fun h => kObj t h a its := by
  cases t
  · exact begins_list a its
  · exact begins_tuple a its
theorem kDraws {prog : Program} {w : World} {A : Around} (t : Bool) (hh : A.handled = none) (it a : Addr) (hne : a ≠ it) (items : Array Value) :
    Draws prog w A it [it, a] items.size (fun i v => items[i]? = some v) (fun i h => kIt t h it a i ∧ kObj t h a items) := by
  cases t
  · exact Draws.list hh it a hne items
  · exact Draws.tuple hh it a hne items
theorem kIt_new {t : Bool} {h : Heap} {it a : Addr} (e : h.get? it = some (kItO t a)) : kIt t h it a 0 := by
  cases t
  · exact ⟨_, e, rfl, rfl⟩
  · exact ⟨_, e, rfl, rfl⟩
theorem kIt_obj {t : Bool} {h : Heap} {it a : Addr} {i : Nat} (e : kIt t h it a i) : ∃ o, h.get? it = some o ∧ ∀ v, o.data ≠ .cell v := by
  cases t
  · obtain ⟨o, h1, h2, h3⟩ := (show h.IsListIter it a i from e)
    exact ⟨o, h1, fun v z => by rw [h3] at z; cases z⟩
  · obtain ⟨o, h1, h2, h3⟩ := (show h.IsTupleIter it a i from e)
    exact ⟨o, h1, fun v z => by rw [h3] at z; cases z⟩
theorem kIt_at {t : Bool} {h h' : Heap} {it a : Addr} {i : Nat} (e : kIt t h it a i) (k : ∀ o, h.get? it = some o → h'.get? it = some o) : kIt t h' it a i := by
  cases t
  · obtain ⟨o, h1, h2, h3⟩ := (show h.IsListIter it a i from e)
    exact ⟨o, k o h1, h2, h3⟩
  · obtain ⟨o, h1, h2, h3⟩ := (show h.IsTupleIter it a i from e)
    exact ⟨o, k o h1, h2, h3⟩
section
variable {X : Cx} {pins : List (Addr × Obj)} {σ : Sg} {H : Hp} {s : Shared} {a : Addr} {xs ys : List V}
theorem sq_get {t : Bool} (I : Inv X pins σ H s) (h : Sq X.K t H a xs) : ∃ its : List Value, Vals xs its ∧ kObj t s.heap a its.toArray ∧ a < s.heap.objs.size ∧ xs.length ≤ sizeLine := by
  cases t
  · obtain ⟨its, r, p, z⟩ := I.list h
    exact ⟨its, r, p.isList, p.lt, z⟩
  · obtain ⟨its, r, p, z⟩ := I.tuple h
    exact ⟨its, r, p, p.lt, z⟩
theorem sq_inj {t : Bool} (I : Inv X pins σ H s) (h : Sq X.K t H a xs) (h' : Sq X.K t H a ys) : xs = ys := by
  cases t
  · exact I.list_inj h h'
  · exact I.tuple_inj h h'
theorem Sq.same {K : PySem.W.Frag} {t : Bool} {H' : Hp} (e : Same H H') (h : Sq K t H a xs) : Sq K t H' a xs := by
  cases t
  · exact e.seq h
  · exact sqT_same e h
end

/-! ### enumerate -/
def IteG (K : PySem.W.Frag) (t : Bool) (a : Addr) : It :=
  ⟨fun i H => ∃ (xs : List V) (x : V), Sq K t H a xs ∧ xs[i]? = some x, fun i H v H' => ∃ T x, v = .ref T ∧ H T = none ∧ H' = upd H T (.tup [.int (i : Nat), x]) ∧ ∀ xs, Sq K t H a xs → xs[i]? = some x, fun i H => ∃ xs : List V, Sq K t H a xs ∧ xs.length = i⟩
theorem turn_enumG {P : Program} {w : World} {K : PySem.W.Frag} {elts : List Expr} {kk : Nat} {tpos : Pos} (t : Bool) (a e it : Addr) :
    Turn P w K (.Tuple elts kk tpos) (IteG K t a) [e, it] e (fun i h => (∃ old, IsEnum h e it ((i : Nat) : Int) old) ∧ kIt t h it a i ∧ e ≠ it ∧ a ≠ it ∧ e ≠ a) where
  mem := by simp
  obj := fun i h st b hb => by
    obtain ⟨⟨old, he⟩, hi, _⟩ := st
    have e' : b = e ∨ b = it := by simpa using hb
    rcases e' with z | z
    · rw [z]; exact ⟨_, he, fun v q => nomatch q⟩
    · rw [z]; exact kIt_obj hi
  keep := fun i h h' st k => let ⟨⟨old, he⟩, hi, hne⟩ := st; ⟨⟨old, k e (by simp) _ he⟩, kIt_at hi fun o q => k it (by simp) o q, hne⟩
  item := by
    intro X hP hw hK hc i pins s σ H E I hf st hg
    subst hP hw hK
    obtain ⟨⟨old, he⟩, hit, hne, hai, hea⟩ := st
    obtain ⟨xs, x, hq, hx⟩ := hg
    obtain ⟨its, rv, p, _, hz⟩ := sq_get I hq
    obtain ⟨u, hu, ru⟩ := rv.get hx
    have hel : e < s.heap.objs.size := Heap.lt_size he
    have hil : it < s.heap.objs.size := by obtain ⟨_, q, _⟩ := kIt_obj hit; exact Heap.lt_size q
    have hlen : i < its.toArray.size := by
      have := (List.getElem?_eq_some_iff.mp hu).1
      simpa using this
    refine wpAny_pyNext_enum_itemC (kDraws (prog := X.prog) (w := X.w) (A := X.A.in1) t (show X.A.in1.handled = none from I.ok.hd hc) it a hai its.toArray) he ⟨hit, p⟩ hlen hne (fun z => ?_) fun x' h' tk px ho st' hT hsz hk => ?_
    · have e' : e = it ∨ e = a := by simpa using z
      rcases e' with z | z
      · exact hne z
      · exact hea z
    have hxu : x' = u := by
      have q : its.toArray[i]? = some u := by simpa using hu
      rw [q] at px; exact (Option.some.inj px).symm
    subst hxu
    refine ⟨_, rfl, wpAny_letOwnedTupleGo_enum (s := { s with heap := h', toks := tk + 1 }) ho fun h'' he' sb => ?_⟩
    have hT2 : h''.get? s.heap.objs.size = some { cls := .type "tuple", data := .seq #[.int i tk, x'] } := (sb.2 _ (Nat.ne_of_gt hel)).trans hT
    have new : ObjOk X.prog X.w (upd H s.heap.objs.size (.tup [.int (i : Nat), x])) h'' s.heap.objs.size (.tup [.int (i : Nat), x]) :=
      ⟨by show 2 ≤ sizeLine; decide, [.int i tk, x'], .cons ⟨_, rfl⟩ (.cons ru .nil), ⟨_, hT2, rfl, _, rfl⟩⟩
    have I1 : Inv X pins σ (upd H s.heap.objs.size (.tup [.int (i : Nat), x])) { s with heap := h'', toks := tk + 1 } :=
      I.turnedNew (ch := [e, it]) (fun b ob hb q => (sb.2 b (fun z => hb (by simp [z]))).trans (hk b ob (fun z => hb (by simp [z])) (fun z => hb (by simp [z])) q)) hf (Nat.le_refl _) new
    refine ⟨.ref s.heap.objs.size, _, I1, rfl, ⟨_, x, rfl, I.hok.fresh (Nat.le_refl _), rfl, fun ys hy => by rw [sq_inj I hy hq]; exact hx⟩, ⟨⟨x', ?_⟩, kIt_at st'.1 fun o q => (sb.2 it (Ne.symm hne)).trans q, hne, hai, hea⟩, fun b hb => ?_⟩
    · have e1 : ((i + 1 : Nat) : Int) = (i : Int) + 1 := by omega
      rw [e1]; exact he'
    · have hb' : b < s.heap.objs.size := by
        have e' : b = e ∨ b = it := by simpa using hb
        rcases e' with z | z
        · rw [z]; exact hel
        · rw [z]; exact hil
      rw [upd_ne (Nat.ne_of_lt hb')]
      exact (hf b hb).1
  done := by
    intro X hP hw hK hc i pins s σ H E I hf st hg
    subst hP hw hK
    obtain ⟨⟨old, he⟩, hit, hne, hai, hea⟩ := st
    obtain ⟨xs, hq, hx⟩ := hg
    obtain ⟨its, rv, p, _, hz⟩ := sq_get I hq
    obtain ⟨f0, f1, f2, f3, f4, f5⟩ := hf it (by simp)
    have hl : its.toArray.size = i := by
      have := rv.length
      simp; omega
    refine wpAny_pyNext_enum_endD (kDraws (prog := X.prog) (w := X.w) (A := X.A.in1) t (show X.A.in1.handled = none from I.ok.hd hc) it a hai its.toArray) he ⟨by rw [hl]; exact hit, p⟩ fun h' eb => ⟨rfl, I.turned (t' := s.toks) (fun b o hb q => eb b o hb q) f0 f1 f3 f4 f5⟩
  self := fun A i s Q E st h => let ⟨⟨_, he⟩, _⟩ := st; wpAny_pyIter_enum he h
theorem meets_enumerate_new1B {v : Value} {o : Obj} {H : Heap → Prop} (B : Begins v o H) :
    Meets (Builtin.«enumerate.__new__» ⟨[.type "enumerate", v], []⟩) (fun _ R s => H s.heap ∧
      R (.ok (.ret (.ref (s.heap.push o).objs.size))) { s with heap := (s.heap.push o).push { cls := .type "enumerate", data := .fields #[.none, .bool false, .ref s.heap.objs.size, rawInt 0, .none, .none] } }) :=
  .of_wp fun prog w A R s h => by
    obtain ⟨hp, g, d, tk, os⟩ := s; obtain ⟨h1, h⟩ := h
    have hsub := sub_enumerate
    have q1 : ∀ {A' : Around} {E : Value → Shared → Prop} {Q : Value → Shared → Prop}, Q (.ref hp.objs.size) ⟨hp.push o, g, d, tk, os⟩ → wpAny (model prog w) A' (pyIter v) Q E ⟨hp, g, d, tk, os⟩ :=
      fun q => B.iter prog w _ _ ⟨hp, g, d, tk, os⟩ _ h1 q
    wp_walk using q1
    refine wpAny_stack_any fun st => wpAny_pure ?_
    split
    · rename_i c _ _ _ _ _
      cases (c == Value.type "enumerate")
      · wp_walk using q1
        exact ⟨_, rfl, h⟩
      · wp_walk using q1
        exact ⟨_, rfl, h⟩
    · wp_walk using q1
      exact ⟨_, rfl, h⟩
theorem enum_begins1 {prog : Program} {w : World} {A : Around} {E : Value → Shared → Prop} {s : Shared} {v : Value} {o : Obj} {H : Heap → Prop} {Q : Value → Shared → Prop} (B : Begins v o H) (h1 : H s.heap)
    (h : ∀ h', IsEnum h' (s.heap.objs.size + 1) s.heap.objs.size 0 .none → h'.get? s.heap.objs.size = some o → h'.objs.size = s.heap.objs.size + 2 →
      (∀ b o, s.heap.get? b = some o → h'.get? b = some o) → Q (.ref (s.heap.objs.size + 1)) { s with heap := h' }) :
    wpAny (model prog w) A (call (.type "enumerate") [v]) Q E s := by
  refine callType_new F.called_enumerate (by decide) (F.typeCall_enumerate_1 _) (F.newCall_enumerate_1 _) (fun obj => F.args_object_init_2 obj _) F.entry_enumerate_new
    (meets_enumerate_new1B B) ⟨h1, ?_⟩
  have hz : (s.heap.push o).objs.size = s.heap.objs.size + 1 := Heap.size_push ..
  show _ ∧ _
  rw [hz]
  have he : IsEnum ((s.heap.push o).push { cls := .type "enumerate", data := .fields #[.none, .bool false, .ref s.heap.objs.size, rawInt 0, .none, .none] }) (s.heap.objs.size + 1) s.heap.objs.size 0 .none := by
    have := Heap.get?_push_size (s.heap.push o) (o := { cls := .type "enumerate", data := .fields #[.none, .bool false, .ref s.heap.objs.size, rawInt 0, .none, .none] }) rfl
    rw [hz] at this; exact this
  refine ⟨⟨_, he, rfl⟩, h _ he (Heap.get?_push_of_some _ (Heap.get?_push_size _ B.free)) (by rw [Heap.size_push, hz]) fun b o x => Heap.get?_push_of_some _ (Heap.get?_push_of_some _ x)⟩
def iEnumG (K : PySem.W.Frag) (ta : TA) : TI := fun σ H R => ta σ H fun vs H1 => ∃ (t : Bool) (a : Addr) (xs : List V), vs = [.ref a] ∧ Sq K t H1 a xs ∧ R (IteG K t a) H1
theorem pi_enumG {X : Cx} {e : Expr} {ta : TA} {p pos tpos : Pos} {elts : List Expr} {kk : Nat} (hg : Gl X "enumerate") (hm : X.mg "enumerate" = none) (ha : PA X [e] ta) (hs : starEach [e] X.env = [(false, eval e X.env)] := by rfl) :
    PI X (.Tuple elts kk tpos) (.Call (.Name "enumerate" p) [e] [] pos) (iEnumG X.K ta) := by
  refine ⟨fun pins s σ H R I h => ?_⟩
  refine Call_ (ld_blt I hg hm boot_enumerate (PyProof.Rows.callWith_type1 (thn (ha.run pos pins s σ H _ I h) fun us s1 ⟨vs, H1, I1, r1, q1⟩ => ?_) hs rfl))
  obtain ⟨t, a, xs, ex, hq, q⟩ := q1
  subst ex
  cases r1 with
  | cons r rr =>
    cases rr
    cases r
    obtain ⟨its, rv, p', hlt, hz⟩ := sq_get I1 hq
    refine enum_begins1 (kBegins t a its.toArray) p' fun h' he hit hsz hk => wpAny_pyIter_enum he ?_
    have I2 : Inv X pins σ H1 { s1 with heap := h' } := I1.kept (t' := s1.toks) hk
    refine ⟨s1.heap.objs.size + 1, [s1.heap.objs.size + 1, s1.heap.objs.size], _, _, H1, rfl, I2, turn_enumG t a (s1.heap.objs.size + 1) s1.heap.objs.size, ⟨⟨.none, he⟩, kIt_new hit, Nat.succ_ne_self _, Nat.ne_of_lt hlt, Nat.ne_of_gt (Nat.lt_succ_of_lt hlt)⟩, fun b hb => ?_, q⟩
    have e' : b = s1.heap.objs.size + 1 ∨ b = s1.heap.objs.size := by simpa using hb
    have hle : s1.heap.objs.size ≤ b := by
      rcases e' with z | z
      · rw [z]; exact Nat.le_add_right _ _
      · rw [z]; exact Nat.le_refl _
    exact I1.fpOk hle (I1.hok.fresh hle)
theorem walk_enumG {K : PySem.W.Frag} {t : Bool} {a : Addr} {xs : List V} : Walk (IteG K t a) xs.length (fun H => Sq K t H a xs) (YPair (fun i => some (.int (i : Nat))) (fun i => xs[i]?)) := by
  refine ⟨fun i _ hi q => ⟨xs, xs[i], q, by simp [hi]⟩, fun _ q => ⟨xs, q, rfl⟩, fun i H v H' _ q y => ?_⟩
  obtain ⟨T, x, h1, h2, h3, h4⟩ := y
  exact ⟨T, .int (i : Nat), x, h1, h2, h3, rfl, h4 xs q⟩

/-! ### zip -/
def ItzG (K : PySem.W.Frag) (t1 t2 : Bool) (a b : Addr) : It :=
  ⟨fun i H => ∃ (xs ys : List V) (x y : V), Sq K t1 H a xs ∧ Sq K t2 H b ys ∧ xs[i]? = some x ∧ ys[i]? = some y,
    fun i H v H' => ∃ T x y, v = .ref T ∧ H T = none ∧ H' = upd H T (.tup [x, y]) ∧ (∀ xs, Sq K t1 H a xs → xs[i]? = some x) ∧ ∀ ys, Sq K t2 H b ys → ys[i]? = some y,
    fun i H => ∃ xs ys : List V, Sq K t1 H a xs ∧ Sq K t2 H b ys ∧ i ≤ xs.length ∧ i ≤ ys.length ∧ (i = xs.length ∨ i = ys.length)⟩
structure Zs (z TI TO i1 i2 a b : Addr) : Prop where
  S : ZipSep2 z TI TO i1 i2 [i1, a] [i2, b]
  n1 : a ≠ i1
  n2 : b ≠ i2
theorem turn_zipG {P : Program} {w : World} {K : PySem.W.Frag} {elts : List Expr} {kk : Nat} {tpos : Pos} {a b z TI TO i1 i2 : Addr} (t1 t2 : Bool) (D : Zs z TI TO i1 i2 a b) :
    Turn P w K (.Tuple elts kk tpos) (ItzG K t1 t2 a b) [z, TI, TO, i1, i2] z (fun i h => IsZip h z TI TO .none ∧ IsTupOf2 h TI (.ref i1) (.ref i2) ∧ (∃ x y, IsTupOf2 h TO x y) ∧ kIt t1 h i1 a i ∧ kIt t2 h i2 b i) where
  mem := by simp
  obj := fun i h st c hc => by
    obtain ⟨hz, eI, ⟨x, y, eO⟩, h1, h2⟩ := st
    have e' : c = z ∨ c = TI ∨ c = TO ∨ c = i1 ∨ c = i2 := by simpa using hc
    rcases e' with q | q | q | q | q
    · rw [q]; exact ⟨_, hz, fun v q => nomatch q⟩
    · rw [q]; exact ⟨_, eI, fun v q => nomatch q⟩
    · rw [q]; exact ⟨_, eO, fun v q => nomatch q⟩
    · rw [q]; exact kIt_obj h1
    · rw [q]; exact kIt_obj h2
  keep := fun i h h' st k => by
    obtain ⟨hz, eI, ⟨x, y, eO⟩, h1, h2⟩ := st
    exact ⟨k z (by simp) _ hz, k TI (by simp) _ eI, ⟨x, y, k TO (by simp) _ eO⟩, kIt_at h1 fun o q => k i1 (by simp) o q, kIt_at h2 fun o q => k i2 (by simp) o q⟩
  item := by
    intro X hP hw hK hc i pins s σ H E I hf st hg
    subst hP hw hK
    obtain ⟨hz, hTI, ⟨x0, y0, hTO⟩, h1, h2⟩ := st
    obtain ⟨xs, ys, x, y, hqx, hqy, hx, hy⟩ := hg
    obtain ⟨its, rv, p, _, _⟩ := sq_get I hqx
    obtain ⟨its2, rv2, p2, _, _⟩ := sq_get I hqy
    obtain ⟨u, hu, ru⟩ := rv.get hx
    obtain ⟨u2, hu2, ru2⟩ := rv2.get hy
    have hzl : z < s.heap.objs.size := Heap.lt_size hz
    have l1 : i < its.toArray.size := by
      have := (List.getElem?_eq_some_iff.mp hu).1
      simpa using this
    have l2 : i < its2.toArray.size := by
      have := (List.getElem?_eq_some_iff.mp hu2).1
      simpa using this
    have hh : X.A.in1.handled = none := I.ok.hd hc
    refine wpAny_pyNext_zipD2_item D.S (kDraws (prog := X.prog) (w := X.w) (A := X.A.in1) t1 hh i1 a D.n1 its.toArray) (kDraws (prog := X.prog) (w := X.w) (A := X.A.in1) t2 hh i2 b D.n2 its2.toArray) hz hTI hTO ⟨h1, p⟩ ⟨h2, p2⟩ l1 l2 fun x1 x2 h' tk px1 px2 z' TO' s1' s2' hT hsz hk => ?_
    have e1 : x1 = u := by
      have q : its.toArray[i]? = some u := by simpa using hu
      rw [q] at px1; exact (Option.some.inj px1).symm
    have e2 : x2 = u2 := by
      have q : its2.toArray[i]? = some u2 := by simpa using hu2
      rw [q] at px2; exact (Option.some.inj px2).symm
    subst e1 e2
    refine ⟨_, rfl, wpAny_letOwnedTupleGo_zip (s := { s with heap := h', toks := tk }) z' fun h'' z'' sb => ?_⟩
    have hT2 : h''.get? s.heap.objs.size = some { cls := .type "tuple", data := .seq #[x1, x2] } := (sb.2 _ (Nat.ne_of_gt hzl)).trans hT
    have new : ObjOk X.prog X.w (upd H s.heap.objs.size (.tup [x, y])) h'' s.heap.objs.size (.tup [x, y]) :=
      ⟨by show 2 ≤ sizeLine; decide, [x1, x2], .cons ru (.cons ru2 .nil), ⟨_, hT2, rfl, _, rfl⟩⟩
    have I1 : Inv X pins σ (upd H s.heap.objs.size (.tup [x, y])) { s with heap := h'', toks := tk } :=
      I.turnedNew (t' := tk) (ch := [z, TI, TO, i1, i2]) (fun c o hb q => (sb.2 c (fun q' => hb (by simp [q']))).trans (hk c o (fun q' => hb (by simp [q'])) (fun q' => hb (by simp [q'])) (fun q' => hb (by simp [q'])) (fun q' => hb (by simp [q'])) q)) hf (Nat.le_refl _) new
    refine ⟨.ref s.heap.objs.size, _, I1, rfl, ⟨_, x, y, rfl, I.hok.fresh (Nat.le_refl _), rfl, fun l hl => by rw [sq_inj I hl hqx]; exact hx, fun l hl => by rw [sq_inj I hl hqy]; exact hy⟩, ⟨z'', ?_, ⟨x1, x2, ?_⟩, ?_, ?_⟩, fun c hcm => ?_⟩
    · exact (sb.2 _ D.S.TIz).trans (hk _ _ D.S.TIz D.S.TITO D.S.TIi1 D.S.TIi2 hTI)
    · exact (sb.2 _ D.S.TOz).trans TO'
    · exact kIt_at s1'.1 fun o q => (sb.2 _ (Ne.symm D.S.zi1)).trans q
    · exact kIt_at s2'.1 fun o q => (sb.2 _ (Ne.symm D.S.zi2)).trans q
    · have hlt : c < s.heap.objs.size := by
        have e' : c = z ∨ c = TI ∨ c = TO ∨ c = i1 ∨ c = i2 := by simpa using hcm
        rcases e' with q | q | q | q | q
        · rw [q]; exact hzl
        · rw [q]; exact Heap.lt_size hTI
        · rw [q]; exact Heap.lt_size hTO
        · rw [q]; obtain ⟨_, e1, _⟩ := kIt_obj h1; exact Heap.lt_size e1
        · rw [q]; obtain ⟨_, e2, _⟩ := kIt_obj h2; exact Heap.lt_size e2
      rw [upd_ne (Nat.ne_of_lt hlt)]
      exact (hf c hcm).1
  done := by
    intro X hP hw hK hc i pins s σ H E I hf st hg
    subst hP hw hK
    obtain ⟨hz, hTI, ⟨x0, y0, hTO⟩, h1, h2⟩ := st
    obtain ⟨xs, ys, hqx, hqy, le1, le2, hend⟩ := hg
    obtain ⟨its, rv, p, _, _⟩ := sq_get I hqx
    obtain ⟨its2, rv2, p2, _, _⟩ := sq_get I hqy
    have l1 := rv.length
    have l2 := rv2.length
    have hh : X.A.in1.handled = none := I.ok.hd hc
    refine wpAny_pyNext_zipD2_end D.S (kDraws (prog := X.prog) (w := X.w) (A := X.A.in1) t1 hh i1 a D.n1 its.toArray) (kDraws (prog := X.prog) (w := X.w) (A := X.A.in1) t2 hh i2 b D.n2 its2.toArray) hz hTI hTO ⟨h1, p⟩ ⟨h2, p2⟩ (by simp; omega) (by simp; omega) (by simp; omega) fun h' tk hk => ⟨rfl, I.turnedL (t' := tk) (ch := [z, TI, TO, i1, i2]) (fun c o hb q =>
      hk c o (fun q' => hb (by simp [q'])) (fun q' => hb (by simp [q'])) (fun q' => hb (by simp [q'])) (fun q' => hb (by simp [q'])) q) hf⟩
  self := fun A i s Q E st h => wpAny_pyIter_zip st.1 h
theorem zs_new {N a b : Nat} (la : a < N) (lb : b < N) : Zs (N + 4) (N + 2) (N + 3) N (N + 1) a b := by
  refine ⟨zip_sep2 (fun c hc => ?_) (fun c hc => ?_), Nat.ne_of_lt la, Nat.ne_of_lt (Nat.lt_succ_of_lt lb)⟩
  · have e : c = a := by simpa using hc
    rw [e]; exact la
  · have e : c = b := by simpa using hc
    rw [e]; exact lb
def iZipG (K : PySem.W.Frag) (ta : TA) : TI := fun σ H R => ta σ H fun vs H1 => ∃ (t1 t2 : Bool) (a b : Addr) (xs ys : List V), vs = [.ref a, .ref b] ∧ Sq K t1 H1 a xs ∧ Sq K t2 H1 b ys ∧ R (ItzG K t1 t2 a b) H1
theorem pi_zipG {X : Cx} {e e2 : Expr} {ta : TA} {p pos tpos : Pos} {elts : List Expr} {kk : Nat} (hg : Gl X "zip") (hm : X.mg "zip" = none) (ha : PA X [e, e2] ta)
    (hs : starEach [e, e2] X.env = (false, eval e X.env) :: starEach [e2] X.env := by rfl) (hpl : (backTo pos (starEach [e2] X.env)).any (·.1) = false := by rfl) :
    PI X (.Tuple elts kk tpos) (.Call (.Name "zip" p) [e, e2] [] pos) (iZipG X.K ta) := by
  refine ⟨fun pins s σ H R I h => ?_⟩
  refine Call_ (ld_blt I hg hm PyProof.Rows.boot_zip (PyProof.Rows.callWith_type1 (thn (ha.run pos pins s σ H _ I h) fun us s1 ⟨vs, H1, I1, r1, q1⟩ => ?_) hs hpl))
  obtain ⟨t1, t2, a, b, xs, ys, ex, hqx, hqy, q⟩ := q1
  subst ex
  cases r1 with
  | cons r rr =>
    cases rr with
    | cons r' rr =>
      cases rr
      cases r
      cases r'
      obtain ⟨its, rv, p1, la, _⟩ := sq_get I1 hqx
      obtain ⟨its2, rv2, p2, lb, _⟩ := sq_get I1 hqy
      refine zip_begins2 (kBegins t1 a its.toArray) (kBegins t2 b its2.toArray) p1 p2 fun h' hz hTI hTO h1 h2 hsz hk => wpAny_pyIter_zip hz ?_
      have I2 : Inv X pins σ H1 { s1 with heap := h' } := I1.kept (t' := s1.toks) hk
      refine ⟨s1.heap.objs.size + 4, [s1.heap.objs.size + 4, s1.heap.objs.size + 2, s1.heap.objs.size + 3, s1.heap.objs.size, s1.heap.objs.size + 1], _, _, H1, rfl, I2, turn_zipG t1 t2 (zs_new la lb), ⟨hz, hTI, ⟨_, _, hTO⟩, kIt_new h1, kIt_new h2⟩, fun c hcm => ?_, q⟩
      have e' : c = s1.heap.objs.size + 4 ∨ c = s1.heap.objs.size + 2 ∨ c = s1.heap.objs.size + 3 ∨ c = s1.heap.objs.size ∨ c = s1.heap.objs.size + 1 := by simpa using hcm
      have hle : s1.heap.objs.size ≤ c := by
        rcases e' with z | z | z | z | z
        · rw [z]; exact Nat.le_add_right _ _
        · rw [z]; exact Nat.le_add_right _ _
        · rw [z]; exact Nat.le_add_right _ _
        · rw [z]; exact Nat.le_refl _
        · rw [z]; exact Nat.le_add_right _ _
      exact I1.fpOk hle (I1.hok.fresh hle)
theorem walk_zipG {K : PySem.W.Frag} {t1 t2 : Bool} {a b : Addr} {xs ys : List V} {n : Nat} (hn : n = min xs.length ys.length) : Walk (ItzG K t1 t2 a b) n (fun H => Sq K t1 H a xs ∧ Sq K t2 H b ys) (YPair (fun i => xs[i]?) (fun i => ys[i]?)) := by
  subst hn
  refine ⟨fun i _ hi q => ?_, fun _ q => ⟨xs, ys, q.1, q.2, by omega, by omega, by omega⟩, fun i H v H' _ q y => ?_⟩
  · have h1 : i < xs.length := by omega
    have h2 : i < ys.length := by omega
    exact ⟨xs, ys, xs[i], ys[i], q.1, q.2, by simp [h1], by simp [h2]⟩
  · obtain ⟨T, x, z, h1, h2, h3, h4, h5⟩ := y
    exact ⟨T, x, z, h1, h2, h3, h4 xs q.1, h5 ys q.2⟩
end Sh
end
section
set_option maxHeartbeats 2000000
/-! Sh7: targets, what is walked, list comprehensions. -/
namespace Sh
open PySem PySem.Spec PyProof.Rows L2
variable {X : Cx} {pos : Pos}

/-- what is seen stays seen -/
def Vw (pd : Addr) (O : List Addr) (H : Hp) (O1 : List Addr) (H1 : Hp) : Prop := Same (hid (pd :: O) H) (hid (pd :: O1) H1)
theorem Vw.refl {pd : Addr} {O : List Addr} {H : Hp} : Vw pd O H O H := Same.refl _
theorem Vw.trans {pd : Addr} {O O1 O2 : List Addr} {H H1 H2 : Hp} (a : Vw pd O H O1 H1) (b : Vw pd O1 H1 O2 H2) : Vw pd O H O2 H2 := Same.trans a b
theorem Vw.of {pd : Addr} {O : List Addr} {H H' : Hp} (g : Grow pd H H') : Vw pd O H O H' := hid_le g
/-- a new place is hidden -/
theorem Vw.hide {pd a : Addr} {O : List Addr} {H H' : Hp} (n : H a = none) (g : ∀ b o, b ≠ pd → H b = some o → H' b = some o) : Vw pd O H (a :: O) H' := fun b o h => by
  have h1 := hid_get h
  have hb : b ∉ pd :: O := fun z => by unfold hid at h; rw [if_pos z] at h; cases h
  have hne : b ≠ a := ne_of_none h1 n
  have hb' : b ∉ pd :: a :: O := fun z => by
    rcases List.mem_cons.mp z with e | e
    · exact hb (by rw [e]; exact List.mem_cons_self)
    · rcases List.mem_cons.mp e with e | e
      · exact hne e
      · exact hb (List.mem_cons_of_mem _ e)
  rw [hid_of hb']
  exact g b o (fun e => hb (by rw [e]; exact List.mem_cons_self)) h1

/-! ### targets -/
abbrev GF := D → Ev → Option Ev
def wG (X : Cx) (tg : Expr) (v : V) (σ : Sg) (H : Hp) (Q : Sg → Hp → Prop) : Prop := ∀ (pins : List (Addr × Obj)) (s : Shared) (u : Value), Inv X pins σ H s → RelV v u →
  wpAny (model X.prog X.w) X.A (assign tg X.env u) (fun _ s' => ∃ σ' H', Inv X pins σ' H' s' ∧ Q σ' H') X.xe s
theorem pg_w {tg : Expr} : PG X tg (wG X tg) := ⟨fun pins s σ H v u Q I r h => h pins s u I r⟩
theorem wG_of {tg : Expr} {t : TG} (p : PG X tg t) {v : V} {σ : Sg} {H : Hp} {Q : Sg → Hp → Prop} (h : t v σ H Q) : wG X tg v σ H Q := fun pins s u I r => p.run pins s σ H v u Q I r h
structure SG (X : Cx) (tg : Expr) (vs : List Nat) (g : GF) : Prop where
  ok : ∀ {pd H0 Oc O ρ δ σ H v d ρ'}, FR X.K pd H0 Oc O ρ δ σ H → Rep X.K pd (hid (pd :: O) H) v d → g d ρ = some ρ' → ∀ Q : Sg → Hp → Prop,
    (∀ σ', FR X.K pd H0 Oc O ρ' δ σ' H → (σ'.length = σ.length ∧ ∀ k, k ∉ vs → σ'[k]? = σ[k]?) → Q σ' H) → wG X tg v σ H Q
theorem FR.set {K : PySem.W.Frag} {pd : Addr} {H0 : Hp} {Oc O : List Addr} {ρ : Ev} {δ : Di} {σ : Sg} {H : Hp} (F : FR K pd H0 Oc O ρ δ σ H) {i : Nat} {v : V} {d : D} (hi : i < ρ.length) (r : Rep K pd (hid (pd :: O) H) v d) :
    FR K pd H0 Oc O (ρ.set i (.va d)) δ (σ.set i (some v)) H := by
  have hs : i < σ.length := by rw [F.len]; exact hi
  refine ⟨F.grow, F.dice, F.sub, F.oc0, F.al, by rw [List.length_set, List.length_set]; exact F.len, fun j e hj => ?_, fun j ys hj => ?_, fun j k ys zs b hj hk => ?_⟩
  · by_cases c : i = j
    · subst c
      rw [List.getElem?_set_self hi] at hj; cases hj
      exact ⟨v, List.getElem?_set_self hs, r⟩
    · rw [List.getElem?_set_ne c] at hj
      rw [List.getElem?_set_ne c]
      exact F.va j e hj
  · by_cases c : i = j
    · subst c
      rw [List.getElem?_set_self hi] at hj; cases hj
    · rw [List.getElem?_set_ne c] at hj
      rw [List.getElem?_set_ne c]
      exact F.ow j ys hj
  · by_cases c : i = j
    · subst c
      rw [List.getElem?_set_self hi] at hj; cases hj
    · by_cases c2 : i = k
      · subst c2
        rw [List.getElem?_set_self hi] at hk; cases hk
      · rw [List.getElem?_set_ne c] at hj
        rw [List.getElem?_set_ne c2] at hk
        rw [List.getElem?_set_ne c, List.getElem?_set_ne c2]
        exact F.dis j k ys zs b hj hk
def gNm (i : Nat) : GF := fun d ρ => if i < ρ.length then some (ρ.set i (.va d)) else none
theorem sg_nm (i : Nat) {x : Str} (hN : X.N.Nodup) (hi : X.N[i]? = some x) (hx : Loc X.env.scope x) (hf : X.fn x = true ∨ X.env.scope.names.lookup x = some .local := by first | exact .inl rfl | exact .inr rfl | assumption) : SG X (.Name x pos) [i] (gNm i) where
  ok := fun {pd H0 Oc O ρ δ σ H v d ρ'} F r e Q hq => by
    unfold gNm at e
    by_cases c : i < ρ.length
    · rw [if_pos c] at e; cases e
      refine wG_of (pg_name hN hi hx hf) (hq _ (F.set c r) ⟨List.length_set, fun k hk => List.getElem?_set_ne fun z => hk (by rw [z]; exact List.mem_singleton_self _)⟩)
    · rw [if_neg c] at e; cases e
/-- several names -/
def gAll : List GF → List D → Ev → Option Ev
  | [], [], ρ => some ρ
  | g :: gs, d :: ds, ρ => (g d ρ).bind fun ρ1 => gAll gs ds ρ1
  | _, _, _ => none
def wGs (X : Cx) (ts : List Expr) (vs : List V) (σ : Sg) (H : Hp) (Q : Sg → Hp → Prop) : Prop := ∀ (pins : List (Addr × Obj)) (s : Shared) (us : List Value), Inv X pins σ H s → Vals vs us →
  wpAny (model X.prog X.w) X.A (assignInOrder ((assignEach ts X.env).map (·.2)) us) (fun _ s' => ∃ σ' H', Inv X pins σ' H' s' ∧ Q σ' H') X.xe s
theorem pgs_w {ts : List Expr} : PGs X ts (wGs X ts) := ⟨fun pins s σ H v u Q I r h => h pins s u I r⟩
theorem wGs_of {ts : List Expr} {t : TGs} (p : PGs X ts t) {v : List V} {σ : Sg} {H : Hp} {Q : Sg → Hp → Prop} (h : t v σ H Q) : wGs X ts v σ H Q := fun pins s u I r => p.run pins s σ H v u Q I r h
structure SGs (X : Cx) (ts : List Expr) (vs : List Nat) (gs : List GF) : Prop where
  ok : ∀ {pd H0 Oc O ρ δ σ H ws ds ρ'}, FR X.K pd H0 Oc O ρ δ σ H → Reps X.K pd (hid (pd :: O) H) ws ds → gAll gs ds ρ = some ρ' → ∀ Q : Sg → Hp → Prop,
    (∀ σ', FR X.K pd H0 Oc O ρ' δ σ' H → (σ'.length = σ.length ∧ ∀ k, k ∉ vs → σ'[k]? = σ[k]?) → Q σ' H) → wGs X ts ws σ H Q
theorem sgs_nil : SGs X [] [] [] where
  ok := fun {pd H0 Oc O ρ δ σ H ws ds ρ'} F r e Q hq => by
    cases ds with
    | nil =>
      cases e
      cases r
      exact wGs_of pgs_nil ⟨rfl, hq σ F ⟨rfl, fun _ _ => rfl⟩⟩
    | cons _ _ => cases e
theorem sgs_cons {e : Expr} {es : List Expr} {v w : List Nat} {g : GF} {gs : List GF} (h1 : SG X e v g) (h2 : SGs X es w gs) (hs : (assignEach (e :: es) X.env).map (·.2) = assign e X.env :: (assignEach es X.env).map (·.2) := by rfl) : SGs X (e :: es) (v ++ w) (g :: gs) where
  ok := fun {pd H0 Oc O ρ δ σ H ws ds ρ'} F r q Q hq => by
    cases ds with
    | nil => cases q
    | cons d ds =>
      cases r with
      | @cons v' _ vs' _ r1 r2 =>
        obtain ⟨ρ1, q1, q2⟩ := Option.bind_eq_some_iff.mp q
        refine wGs_of (pgs_cons pg_w pgs_w hs) ⟨v', vs', rfl, h1.ok F r1 q1 _ fun σ1 F1 k1 => ?_⟩
        exact h2.ok F1 r2 q2 _ fun σ2 F2 k2 => hq σ2 F2 ⟨k2.1.trans k1.1, fun k hk => (k2.2 k fun z => hk (List.mem_append_right _ z)).trans (k1.2 k fun z => hk (List.mem_append_left _ z))⟩
def gTp (gs : List GF) : GF := fun d ρ => match d with
  | .tup ds => gAll gs ds ρ
  | _ => none
theorem gAll_len : ∀ {gs : List GF} {ds : List D} {ρ ρ' : Ev}, gAll gs ds ρ = some ρ' → ds.length = gs.length
  | [], [], _, _, _ => rfl
  | g :: gs, d :: ds, ρ, ρ', h => by
    obtain ⟨ρ1, _, q2⟩ := Option.bind_eq_some_iff.mp h
    rw [List.length_cons, List.length_cons, gAll_len q2]
  | [], _ :: _, _, _, h => by cases h
  | _ :: _, [], _, _, h => by cases h
theorem sg_tp {es : List Expr} {k : Nat} {vs : List Nat} {gs : List GF} (hc : X.calm = true) (h : SGs X es vs gs) (hn : (assignEach es X.env).length = gs.length := by rfl) (hst : (assignEach es X.env).findIdx? (·.1) = none := by rfl) : SG X (.Tuple es k pos) vs (gTp gs) where
  ok := fun {pd H0 Oc O ρ δ σ H v d ρ'} F r e Q hq => by
    cases r with
    | @tup a ws ds hs rs =>
      have e : gAll gs ds ρ = some ρ' := e
      refine wG_of (pg_tup hc pgs_w hn hst) ⟨a, ws, rfl, sqT_get hs, by rw [rs.length]; exact gAll_len e, h.ok F rs e Q hq⟩
    | _ => cases e

/-! ### what is walked -/
def wI (X : Cx) (tg iter : Expr) (σ : Sg) (H : Hp) (R : It → Hp → Prop) : Prop := ∀ (pins : List (Addr × Obj)) (s : Shared), Inv X pins σ H s →
  wpAny (model X.prog X.w) X.A (eval iter X.env) (fun v s1 => wpAny (model X.prog X.w) X.A (pyIter v) (PIE X pins σ tg R) X.xe s1) X.xe s
theorem pi_w {tg iter : Expr} : PI X tg iter (wI X tg iter) := ⟨fun pins s σ H R I h => h pins s I⟩
theorem wI_of {tg iter : Expr} {t : TI} (p : PI X tg iter t) {σ : Sg} {H : Hp} {R : It → Hp → Prop} (h : t σ H R) : wI X tg iter σ H R := fun pins s I => p.run pins s σ H R I h
abbrev IF := Ev → Di → Out (List D)
/-- an iterator of ds over the heap H with O hidden -/
def Src (K : PySem.W.Frag) (pd : Addr) (O : List Addr) (H : Hp) (J : It) (ds : List D) : Prop := ∃ (G : Hp → Prop) (Y : Nat → Hp → V → Hp → Prop), Walk J ds.length G Y ∧ (∀ O1 H1, Vw pd O H O1 H1 → G H1) ∧
  ∀ (i : Nat) (d : D) (O1 : List Addr) (H1 : Hp) (x : V) (H2 : Hp), ds[i]? = some d → Vw pd O H O1 H1 → Taken (pd :: O1) H1 → Y i H1 x H2 → Same H1 H2 ∧ Rep K pd (hid (pd :: O1) H2) x d
structure SI (X : Cx) (tg iter : Expr) (f : IF) : Prop where
  ok : ∀ {pd H0 Oc O ρ δ σ H ds δ'}, FR X.K pd H0 Oc O ρ δ σ H → f ρ δ = .ok ds δ' → ∀ R : It → Hp → Prop, (∀ J H', Grow pd H H' → DiceAt pd δ' H' → Src X.K pd O H' J ds → R J H') → wI X tg iter σ H R
  er : ∀ {pd H0 Oc O ρ δ σ H x δ'}, FR X.K pd H0 Oc O ρ δ σ H → f ρ δ = .er x δ' → ∀ (W : WX) (R : It → Hp → Prop), Takes X W → ErW X pd O W σ H x δ' → wI X tg iter σ H R
def iSeq (f : EF) : IF := fun ρ δ => (f ρ δ).bind fun d δ1 => Out.get (seqOf d) δ1
theorem Rep.sq {K : PySem.W.Frag} {pd : Addr} {O : List Addr} {H : Hp} {v : V} {d : D} {ds : List D} (r : Rep K pd (hid O H) v d) (h : seqOf d = some ds) : ∃ (t : Bool) (a : Addr) (vs : List V), v = .ref a ∧ Sq K t (hid O H) a vs ∧ Reps K pd (hid O H) vs ds := by
  cases r with
  | @lst a vs ds' q rs => cases h; exact ⟨false, a, vs, rfl, .inl (.inl q), rs⟩
  | @tup a vs ds' q rs => cases h; exact ⟨true, a, vs, rfl, q, rs⟩
  | _ => cases h
theorem src_seq {K : PySem.W.Frag} {pd a : Addr} {O : List Addr} {H : Hp} {t : Bool} {vs : List V} {ds : List D} {J : It} (q : Sq K t (hid (pd :: O) H) a vs) (r : Reps K pd (hid (pd :: O) H) vs ds) (w : Walk J vs.length (fun H => Sq K t H a vs) (YAt vs)) : Src K pd O H J ds := by
  rw [r.length] at w
  refine ⟨_, _, w, fun O1 H1 vw => Sq.same hid_same (Sq.same vw q), fun i d O1 H1 x H2 hd vw tk y => ?_⟩
  obtain ⟨e, hx⟩ := y
  subst e
  obtain ⟨v, h1, h2⟩ := r.get hd
  rw [h1] at hx; cases hx
  exact ⟨Same.refl _, h2.same vw⟩
theorem si_seq {tg e : Expr} {f : EF} (h : SE X e f) : SI X tg e (iSeq f) where
  ok := fun {pd H0 Oc O ρ δ σ H ds δ'} F q R hr => by
    obtain ⟨d, δ1, h1, h2⟩ := Out.bind_ok q
    obtain ⟨h3, h4⟩ := Out.get_ok h2
    subst h4
    cases d with
    | lst xs =>
      cases h3
      refine wI_of (pi_list pe_w) (h.ok F h1 _ fun v H1 g1 d1 r1 => ?_)
      cases r1 with
      | @lst a vs _ q rs => exact ⟨a, rfl, ⟨vs, .inl (.inl (hid_get q))⟩, hr _ H1 g1 d1 (src_seq (t := false) (.inl (.inl q)) rs walk_list)⟩
    | tup xs =>
      cases h3
      refine wI_of (pi_tup pe_w) (h.ok F h1 _ fun v H1 g1 d1 r1 => ?_)
      cases r1 with
      | @tup a vs _ q rs => exact ⟨a, rfl, ⟨vs, sqT_get q⟩, hr _ H1 g1 d1 (src_seq (t := true) q rs walk_tup)⟩
    | _ => cases h3
  er := fun {pd H0 Oc O ρ δ σ H x δ'} F q W R tk hw => by
    rcases Out.bind_er q with q | ⟨d, δ1, h1, h2⟩
    · exact wI_of (pi_list pe_w) (h.er F q W _ tk hw)
    · exact (Out.get_er h2).elim
def rngB (i : Int) : Prop := -4611686018427387904 ≤ i ∧ i < 4611686018427387904
instance (i : Int) : Decidable (rngB i) := by unfold rngB; infer_instance
def rngL (lo : Int) (n : Nat) : List D := (List.range n).map fun i => .int (lo + (i : Nat))
theorem src_rng {K : PySem.W.Frag} {pd : Addr} {O : List Addr} {H : Hp} (lo : Int) (n : Nat) : Src K pd O H (Itr lo n) (rngL lo n) := by
  refine ⟨fun _ => True, _, by rw [show (rngL lo n).length = n by unfold rngL; simp]; exact walk_range, fun _ _ _ => trivial, fun i d O1 H1 x H2 hd vw tk y => ?_⟩
  obtain ⟨e, hx⟩ := y
  subst e hx
  unfold rngL at hd
  rw [List.getElem?_map] at hd
  obtain ⟨j, h1, h2⟩ := Option.map_eq_some_iff.mp hd
  subst h2
  obtain ⟨hl, e2⟩ := List.getElem?_eq_some_iff.mp h1
  rw [List.getElem_range] at e2
  subst e2
  exact ⟨Same.refl _, .int _⟩
def iRng1 (f : EF) : IF := fun ρ δ => (f ρ δ).bind fun d δ1 => match d with
  | .int j => if rngB j then .ok (rngL 0 j.toNat) δ1 else .bad
  | _ => .bad
theorem si_rng1 {tg a : Expr} {f : EF} {p : Pos} (hm : X.mg "range" = none) (hg : Gl X "range") (h : SE X a f) (hs : starEach [a] X.env = [(false, eval a X.env)] := by rfl) : SI X tg (.Call (.Name "range" p) [a] [] pos) (iRng1 f) where
  ok := fun {pd H0 Oc O ρ δ σ H ds δ'} F q R hr => by
    obtain ⟨d, δ1, h1, h2⟩ := Out.bind_ok q
    cases d with
    | int j =>
      have h2 : (if rngB j then Out.ok (rngL 0 j.toNat) δ1 else .bad) = .ok ds δ' := h2
      by_cases c : rngB j
      · rw [if_pos c] at h2; cases h2
        refine wI_of (pi_range1 hg hm (pa_cons pe_w pa_nil hs) hs) (h.ok F h1 _ fun v H1 g1 d1 r1 => ⟨j, by rw [r1.int_inv], c.1, c.2, hr _ H1 g1 d1 (src_rng 0 _)⟩)
      · rw [if_neg c] at h2; cases h2
    | _ => cases h2
  er := fun {pd H0 Oc O ρ δ σ H x δ'} F q W R tk hw => by
    rcases Out.bind_er q with q | ⟨d, δ1, h1, h2⟩
    · exact wI_of (pi_range1 hg hm (pa_cons pe_w pa_nil hs) hs) (h.er F q W _ tk hw)
    · cases d with
      | int j =>
        have h2 : (if rngB j then Out.ok (rngL 0 j.toNat) δ1 else .bad) = .er x δ' := h2
        by_cases c : rngB j
        · rw [if_pos c] at h2; cases h2
        · rw [if_neg c] at h2; cases h2
      | _ => cases h2
def iRng2 (f g : EF) : IF := fun ρ δ => (f ρ δ).bind fun d δ1 => (g ρ δ1).bind fun e δ2 => match d, e with
  | .int i, .int j => if rngB i ∧ rngB j then .ok (rngL i (j - i).toNat) δ2 else .bad
  | _, _ => .bad
theorem si_rng2 {tg a b : Expr} {f g : EF} {p : Pos} (hm : X.mg "range" = none) (hg : Gl X "range") (h : SE X a f) (h' : SE X b g) (hs : starEach [a, b] X.env = [(false, eval a X.env), (false, eval b X.env)] := by rfl) (hs2 : starEach [b] X.env = [(false, eval b X.env)] := by rfl) :
    SI X tg (.Call (.Name "range" p) [a, b] [] pos) (iRng2 f g) where
  ok := fun {pd H0 Oc O ρ δ σ H ds δ'} F q R hr => by
    obtain ⟨d, δ1, h1, h2⟩ := Out.bind_ok q
    obtain ⟨e, δ2, h3, h4⟩ := Out.bind_ok h2
    cases d with
    | int i =>
      cases e with
      | int j =>
        have h4 : (if rngB i ∧ rngB j then Out.ok (rngL i (j - i).toNat) δ2 else .bad) = .ok ds δ' := h4
        by_cases c : rngB i ∧ rngB j
        · rw [if_pos c] at h4; cases h4
          refine wI_of (pi_range2 hg hm (pa_cons pe_w (pa_cons pe_w pa_nil hs2) (by rw [hs, hs2])) hs hs2) (h.ok F h1 _ fun v H1 g1 d1 r1 => h'.ok (F.next g1 d1) h3 _ fun v2 H2 g2 d2 r2 => ?_)
          exact ⟨i, j, by rw [r1.int_inv, r2.int_inv], ⟨c.1.1, c.1.2, c.2.1, c.2.2⟩, hr _ H2 (g1.trans g2) d2 (src_rng i _)⟩
        · rw [if_neg c] at h4; cases h4
      | _ => cases h4
    | _ => cases e <;> cases h4
  er := fun {pd H0 Oc O ρ δ σ H x δ'} F q W R tk hw => by
    rcases Out.bind_er q with q | ⟨d, δ1, h1, h2⟩
    · exact wI_of (pi_range2 hg hm (pa_cons pe_w (pa_cons pe_w pa_nil hs2) (by rw [hs, hs2])) hs hs2) (h.er F q W _ tk hw)
    · rcases Out.bind_er h2 with q | ⟨e, δ2, h3, h4⟩
      · exact wI_of (pi_range2 hg hm (pa_cons pe_w (pa_cons pe_w pa_nil hs2) (by rw [hs, hs2])) hs hs2) (h.ok F h1 _ fun v H1 g1 d1 r1 => h'.er (F.next g1 d1) q W _ tk (hw.next g1))
      · cases d with
        | int i =>
          cases e with
          | int j =>
            have h4 : (if rngB i ∧ rngB j then Out.ok (rngL i (j - i).toNat) δ2 else .bad) = .er x δ' := h4
            by_cases c : rngB i ∧ rngB j
            · rw [if_pos c] at h4; cases h4
            · rw [if_neg c] at h4; cases h4
          | _ => cases h4
        | _ => cases e <;> cases h4
def enumL : Nat → List D → List D
  | _, [] => []
  | n, d :: ds => .tup [.int n, d] :: enumL (n + 1) ds
theorem enumL_len : ∀ (n : Nat) (ds : List D), (enumL n ds).length = ds.length
  | _, [] => rfl
  | n, d :: ds => by show (enumL (n + 1) ds).length + 1 = ds.length + 1; rw [enumL_len]
theorem enumL_get : ∀ (n : Nat) (ds : List D) (i : Nat) (d : D), (enumL n ds)[i]? = some d → ∃ e, ds[i]? = some e ∧ d = .tup [.int ((n + i : Nat) : Int), e]
  | _, [], _, _, h => by simp [enumL] at h
  | n, x :: ds, 0, d, h => by
    have h : some (D.tup [.int n, x]) = some d := h
    cases h
    exact ⟨x, rfl, rfl⟩
  | n, x :: ds, i + 1, d, h => by
    obtain ⟨e, h1, h2⟩ := enumL_get (n + 1) ds i d h
    exact ⟨e, h1, by rw [h2, show n + 1 + i = n + (i + 1) by omega]⟩
theorem rep_pair {K : PySem.W.Frag} {pd T : Addr} {O : List Addr} {H : Hp} {x y : V} {d e : D} (t : Taken (pd :: O) H) (h : H T = none) (r1 : Rep K pd (hid (pd :: O) H) x d) (r2 : Rep K pd (hid (pd :: O) H) y e) : Rep K pd (hid (pd :: O) (upd H T (.tup [x, y]))) (.ref T) (.tup [d, e]) :=
  rep_newT t h (.cons r1 (.cons r2 .nil))
def iEnum (f : EF) : IF := fun ρ δ => (f ρ δ).bind fun d δ1 => (Out.get (seqOf d) δ1).bind fun ds δ2 => .ok (enumL 0 ds) δ2
theorem si_enum {a : Expr} {elts : List Expr} {kk : Nat} {tpos : Pos} {f : EF} {p : Pos} (hm : X.mg "enumerate" = none) (hg : Gl X "enumerate") (h : SE X a f) (hs : starEach [a] X.env = [(false, eval a X.env)] := by rfl) : SI X (.Tuple elts kk tpos) (.Call (.Name "enumerate" p) [a] [] pos) (iEnum f) where
  ok := fun {pd H0 Oc O ρ δ σ H ds δ'} F q R hr => by
    obtain ⟨d, δ1, h1, h2⟩ := Out.bind_ok q
    obtain ⟨es, δ2, h3, h4⟩ := Out.bind_ok h2
    cases h4
    obtain ⟨h6, h5⟩ := Out.get_ok h3
    subst h5
    refine wI_of (pi_enumG hg hm (pa_cons pe_w pa_nil hs) hs) (h.ok F h1 _ fun v H1 g1 d1 r1 => ?_)
    obtain ⟨t, a', vs, e1, q1, rs⟩ := r1.sq h6
    subst e1
    refine ⟨t, a', vs, rfl, Sq.same hid_same q1, hr _ H1 g1 d1 ⟨_, _, by rw [enumL_len, ← rs.length]; exact walk_enumG, fun O1 H2 vw => Sq.same hid_same (Sq.same vw q1), fun i d O1 H2 x H3 hd vw tk y => ?_⟩⟩
    obtain ⟨T, x1, x2, e2, nT, e3, e4, e5⟩ := y
    subst e2 e3
    obtain ⟨e, he1, he2⟩ := enumL_get 0 es i d hd
    subst he2
    obtain ⟨w, hw1, hw2⟩ := rs.get he1
    have e5 : vs[i]? = some x2 := e5
    rw [hw1] at e5; cases e5
    cases e4
    exact ⟨same_upd nT, rep_pair tk nT (by rw [Nat.zero_add]; exact .int _) (hw2.same vw)⟩
  er := fun {pd H0 Oc O ρ δ σ H x δ'} F q W R tk hw => by
    rcases Out.bind_er q with q | ⟨d, δ1, h1, h2⟩
    · exact wI_of (pi_enumG hg hm (pa_cons pe_w pa_nil hs) hs) (h.er F q W _ tk hw)
    · rcases Out.bind_er h2 with q | ⟨es, δ2, h3, h4⟩
      · exact (Out.get_er q).elim
      · cases h4
def zipL : List D → List D → List D
  | d :: ds, e :: es => .tup [d, e] :: zipL ds es
  | _, _ => []
theorem zipL_len : ∀ (ds es : List D), (zipL ds es).length = min ds.length es.length
  | [], es => by simp [zipL]
  | _ :: _, [] => by simp [zipL]
  | d :: ds, e :: es => by show (zipL ds es).length + 1 = _; rw [zipL_len, List.length_cons, List.length_cons]; omega
theorem zipL_get : ∀ (ds es : List D) (i : Nat) (x : D), (zipL ds es)[i]? = some x → ∃ d e, ds[i]? = some d ∧ es[i]? = some e ∧ x = .tup [d, e]
  | [], es, i, x, h => by simp [zipL] at h
  | _ :: _, [], i, x, h => by simp [zipL] at h
  | d :: ds, e :: es, 0, x, h => by
    have h : some (D.tup [d, e]) = some x := h
    cases h
    exact ⟨d, e, rfl, rfl, rfl⟩
  | d :: ds, e :: es, i + 1, x, h => zipL_get ds es i x h
def iZip (f g : EF) : IF := fun ρ δ => (f ρ δ).bind fun d δ1 => (g ρ δ1).bind fun e δ2 => match seqOf d, seqOf e with
  | some ds, some es => .ok (zipL ds es) δ2
  | _, _ => .bad
theorem si_zip {a b : Expr} {elts : List Expr} {kk : Nat} {tpos : Pos} {f g : EF} {p : Pos} (hm : X.mg "zip" = none) (hg : Gl X "zip") (h : SE X a f) (h' : SE X b g) (hs : starEach [a, b] X.env = (false, eval a X.env) :: starEach [b] X.env := by rfl)
    (hs2 : starEach [b] X.env = (false, eval b X.env) :: starEach [] X.env := by rfl) (hpl : (backTo pos (starEach [b] X.env)).any (·.1) = false := by rfl) : SI X (.Tuple elts kk tpos) (.Call (.Name "zip" p) [a, b] [] pos) (iZip f g) where
  ok := fun {pd H0 Oc O ρ δ σ H xs δ'} F q R hr => by
    obtain ⟨d, δ1, h1, h2⟩ := Out.bind_ok q
    obtain ⟨e, δ2, h3, h4⟩ := Out.bind_ok h2
    split at h4
    · rename_i ds es hds hes
      cases h4
      refine wI_of (pi_zipG hg hm (pa_cons pe_w (pa_cons pe_w pa_nil hs2) hs) hs hpl) (h.ok F h1 _ fun v H1 g1 d1 r1 => h'.ok (F.next g1 d1) h3 _ fun v2 H2 g2 d2 r2 => ?_)
      obtain ⟨t1, a1, vs, e1, q1, rs1⟩ := (r1.same (hid_le g2)).sq hds
      obtain ⟨t2, a2, ws, e2, q2, rs2⟩ := r2.sq hes
      subst e1 e2
      refine ⟨t1, t2, a1, a2, vs, ws, rfl, Sq.same hid_same q1, Sq.same hid_same q2, hr _ H2 (g1.trans g2) d2 ⟨_, _, walk_zipG (xs := vs) (ys := ws) (by rw [zipL_len, rs1.length, rs2.length]), fun O1 H3 vw => ⟨Sq.same hid_same (Sq.same vw q1), Sq.same hid_same (Sq.same vw q2)⟩, fun i d O1 H3 x H4 hd vw tk y => ?_⟩⟩
      obtain ⟨T, x1, x2, e2, nT, e3, e4, e5⟩ := y
      subst e2 e3
      obtain ⟨u1, u2, hu1, hu2, hu3⟩ := zipL_get ds es i d hd
      subst hu3
      obtain ⟨w1, hw1, hr1⟩ := rs1.get hu1
      obtain ⟨w2, hw2, hr2⟩ := rs2.get hu2
      have e4 : vs[i]? = some x1 := e4
      have e5 : ws[i]? = some x2 := e5
      rw [hw1] at e4; cases e4
      rw [hw2] at e5; cases e5
      exact ⟨same_upd nT, rep_pair tk nT (hr1.same vw) (hr2.same vw)⟩
    · cases h4
  er := fun {pd H0 Oc O ρ δ σ H x δ'} F q W R tk hw => by
    rcases Out.bind_er q with q | ⟨d, δ1, h1, h2⟩
    · exact wI_of (pi_zipG hg hm (pa_cons pe_w (pa_cons pe_w pa_nil hs2) hs) hs hpl) (h.er F q W _ tk hw)
    · rcases Out.bind_er h2 with q | ⟨e, δ2, h3, h4⟩
      · exact wI_of (pi_zipG hg hm (pa_cons pe_w (pa_cons pe_w pa_nil hs2) hs) hs hpl) (h.ok F h1 _ fun v H1 g1 d1 r1 => h'.er (F.next g1 d1) q W _ tk (hw.next g1))
      · split at h4 <;> cases h4
end Sh
end
section
set_option maxHeartbeats 2000000
/-! Sh8: list comprehensions. -/
namespace Sh
open PySem PySem.Spec PyProof.Rows L2
variable {X : Cx} {pos : Pos}

def wTs (X : Cx) (ifs : List Expr) (σ : Sg) (H : Hp) (Q : Bool → Hp → Prop) : Prop := ∃ t : TT, PTs X ifs t ∧ t σ H Q
theorem pts_w {ifs : List Expr} : PTs X ifs (wTs X ifs) := ⟨fun pins s σ H Q I ⟨t, p, h⟩ => p.run pins s σ H Q I h⟩
/-- tests; what raises is left out -/
structure STs (X : Cx) (ifs : List Expr) (f : TF) : Prop where
  ok : ∀ {pd H0 Oc O ρ δ σ H b δ'}, FR X.K pd H0 Oc O ρ δ σ H → f ρ δ = .ok b δ' → ∀ Q : Bool → Hp → Prop, (∀ H', Grow pd H H' → DiceAt pd δ' H' → Q b H') → wTs X ifs σ H Q
def tYes : TF := fun _ δ => .ok true δ
theorem sts_nil : STs X [] tYes := ⟨fun {pd H0 Oc O ρ δ σ H b δ'} F e Q hq => by cases e; exact ⟨_, pts_nil, hq H Grow.refl F.dice⟩⟩
theorem sts_one {c : Expr} {f : TF} (h : ST X c f) : STs X [c] f := ⟨fun F e Q hq => ⟨_, pts_one pt_w, h.ok F e Q hq⟩⟩

def wipeE (ρ : Ev) : List Nat → Ev
  | [] => ρ
  | v :: vs => (wipeE ρ vs).set v .em
theorem wipeE_len (ρ : Ev) : ∀ vs, (wipeE ρ vs).length = ρ.length
  | [] => rfl
  | v :: vs => by unfold wipeE; rw [List.length_set, wipeE_len]
theorem wipeE_get {ρ : Ev} {i : Nat} {x : Sl} : ∀ {vs : List Nat}, (wipeE ρ vs)[i]? = some x → x ≠ .em → ρ[i]? = some x ∧ i ∉ vs
  | [], h, _ => ⟨h, by simp⟩
  | v :: vs, h, n => by
    unfold wipeE at h
    by_cases hi : v = i
    · subst hi
      by_cases hv : v < (wipeE ρ vs).length
      · rw [List.getElem?_set_self hv] at h; cases h; exact absurd rfl n
      · rw [List.getElem?_eq_none (by simpa using hv)] at h; cases h
    · rw [List.getElem?_set_ne hi] at h
      obtain ⟨h1, h2⟩ := wipeE_get h n
      exact ⟨h1, by simp only [List.mem_cons, not_or]; exact ⟨fun e => hi e.symm, h2⟩⟩
theorem wipe_not {σ : Sg} {i : Nat} : ∀ {vs : List Nat}, i ∉ vs → (wipe σ vs)[i]? = σ[i]?
  | [], _ => rfl
  | v :: vs, h => by
    unfold wipe
    rw [List.getElem?_set_ne fun e => h (by rw [e]; exact List.mem_cons_self)]
    exact wipe_not fun z => h (List.mem_cons_of_mem _ z)
theorem wipe_in {σ : Sg} {i : Nat} : ∀ {vs : List Nat}, i ∈ vs → (wipe σ vs)[i]? = if i < σ.length then some none else none
  | [], h => by simp at h
  | v :: vs, h => by
    unfold wipe
    by_cases e : v = i
    · subst e
      by_cases hv : v < σ.length
      · rw [if_pos hv, List.getElem?_set_self (by rw [wipe_length]; exact hv)]
      · rw [if_neg hv, List.getElem?_eq_none (by rw [List.length_set, wipe_length]; omega)]
    · rw [List.getElem?_set_ne e]
      rcases List.mem_cons.mp h with z | z
      · exact absurd z.symm e
      · exact wipe_in z
theorem wipe_eq {σ τ : Sg} {vs : List Nat} (hl : τ.length = σ.length) (h : ∀ k, k ∉ vs → τ[k]? = (wipe σ vs)[k]?) : wipe τ vs = wipe σ vs := by
  refine List.ext_getElem? fun k => ?_
  by_cases c : k ∈ vs
  · rw [wipe_in c, wipe_in c, hl]
  · rw [wipe_not c, h k c]
/-- the frame within a comprehension whose list stands at T -/
theorem FR.comp {K : PySem.W.Frag} {pd T : Addr} {H0 : Hp} {Oc O : List Addr} {ρ : Ev} {δ δ' : Di} {σ : Sg} {H H' : Hp} (F : FR K pd H0 Oc O ρ δ σ H) (vs : List Nat) (n : H T = none) (nt : H' T ≠ none) (g : Grow pd H H') (d : DiceAt pd δ' H') :
    FR K pd H0 Oc (T :: O) (wipeE ρ vs) δ' (wipe σ vs) H' := by
  have F1 := F.next g d
  refine ⟨F1.grow, d, fun a ha => List.mem_cons_of_mem _ (F.sub a ha), F.oc0, fun a ha => ?_, by rw [wipe_length, wipeE_len]; exact F.len, fun i e hi => ?_, fun i xs hi => ?_, fun i j xs ys a hi hj h1 h2 => ?_⟩
  · rcases List.mem_cons.mp ha with e | e
    · rw [e]; exact nt
    · exact F1.al a e
  · obtain ⟨h1, h2⟩ := wipeE_get hi (fun z => by cases z)
    obtain ⟨v, h3, h4⟩ := F.va i e h1
    exact ⟨v, by rw [wipe_not h2]; exact h3, h4.same (Vw.hide n g)⟩
  · obtain ⟨h1, h2⟩ := wipeE_get hi (fun z => by cases z)
    obtain ⟨a, ws, q1, q2, q3, q4, q5, q6⟩ := F.ow i xs h1
    exact ⟨a, ws, by rw [wipe_not h2]; exact q1, List.mem_cons_of_mem _ q2, q3, q4, g _ _ q4 q5, q6.same (Vw.hide n g)⟩
  · obtain ⟨e1, e2⟩ := wipeE_get hi (fun z => by cases z)
    obtain ⟨e3, e4⟩ := wipeE_get hj (fun z => by cases z)
    rw [wipe_not e2] at h1
    rw [wipe_not e4] at h2
    exact F.dis i j xs ys a e1 e3 h1 h2

def compL (g : GF) (t : TF) (e : EF) (ρ : Ev) : List D → Di → Out (List D)
  | [], δ => .ok [] δ
  | d :: ds, δ => match g d ρ with
    | none => .bad
    | some ρ1 => (t ρ1 δ).bind fun b δ1 => match b with
      | true => (e ρ1 δ1).bind fun y δ2 => (compL g t e ρ ds δ2).bind fun ys δ3 => .ok (y :: ys) δ3
      | false => compL g t e ρ ds δ1
def eComp (vs : List Nat) (it : IF) (g : GF) (t : TF) (e : EF) : EF := fun ρ δ => (it ρ δ).bind fun ds δ1 => match compL g t e (wipeE ρ vs) ds δ1 with
  | .ok ys δ2 => if ys.length ≤ lim then .ok (.lst ys) δ2 else .bad
  | _ => .bad

abbrev Bk (X : Cx) (scope : Scope) (s : Shared) (H : Hp) (C : Addr) (cl : List (Str × Addr)) (fp : List Addr) : Cx := X.blk s H scope (compEnvC scope cl C X.env) fp
def gBk (X : Cx) (scope : Scope) (tg : Expr) : TG := fun v σ H Q => ∀ s H' C cl fp, wG (Bk X scope s H' C cl fp) tg v σ H Q
def tBk (X : Cx) (scope : Scope) (ifs : List Expr) : TT := fun σ H Q => ∀ s H' C cl fp, wTs (Bk X scope s H' C cl fp) ifs σ H Q
def eBk (X : Cx) (scope : Scope) (elt : Expr) : TE := fun σ H Q => ∀ s H' C cl fp, wE (Bk X scope s H' C cl fp) elt σ H Q
theorem drop_at {α : Type} {l : List α} {i : Nat} {d : α} (h : l[i]? = some d) : l.drop i = d :: l.drop (i + 1) := by
  obtain ⟨h1, h2⟩ := List.getElem?_eq_some_iff.mp h
  rw [List.drop_eq_getElem_cons h1, h2]
/-- a comprehension's turns -/
theorem comp_run {scope : Scope} {tg iter elt : Expr} {ifs : List Expr} {vs vg : List Nat} {it : IF} {g : GF} {t : TF} {e : EF} (hI : SI X tg iter it)
    (hG : ∀ s H C cl fp, SG (Bk X scope s H C cl fp) tg vg g) (hT : ∀ s H C cl fp, STs (Bk X scope s H C cl fp) ifs t) (hE : ∀ s H C cl fp, SE (Bk X scope s H C cl fp) elt e) (hv : ∀ k ∈ vg, k ∈ vs)
    {pd H0 Oc O ρ δ σ H d δ'} (F : FR X.K pd H0 Oc O ρ δ σ H) (q : eComp vs it g t e ρ δ = .ok d δ') (Q : VK)
    (hq : ∀ (T : Addr) (ws : List V) (ys : List D) (H' : Hp), d = .lst ys → H T = none → Grow pd H H' → DiceAt pd δ' H' → H' T = some (.lst ws) → Reps X.K pd (hid (pd :: T :: O) H') ws ys → Q (.ref T) H') :
    tLc (wI X tg iter) (gBk X scope tg) (tBk X scope ifs) (eBk X scope elt) vs σ H Q := by
  obtain ⟨ds, δ1, q1, q2⟩ := Out.bind_ok q
  split at q2
  rotate_left
  · cases q2
  rename_i ys δ2 q3
  by_cases hz : ys.length ≤ lim
  rotate_left
  · rw [if_neg hz] at q2; cases q2
  rw [if_pos hz] at q2
  cases q2
  refine hI.ok F q1 _ fun J H1 g1 d1 src => ?_
  obtain ⟨G, Y, wk, hGG, hY⟩ := src
  intro T hT0
  have hTn : H T = none := by
    cases h : H T with
    | none => rfl
    | some o =>
      by_cases e : T = pd
      · rw [e, d1] at hT0; cases hT0
      · rw [g1 T o e h] at hT0; cases hT0
  have hTp : T ≠ pd := fun e => by rw [e, d1] at hT0; cases hT0
  -- the invariant
  refine lc_it wk (fun i H2 => ∃ (δi : Di) (acc : List V) (done rest : List D), Grow pd H1 H2 ∧ DiceAt pd δi H2 ∧ H2 T = some (.lst acc) ∧ Reps X.K pd (hid (pd :: T :: O) H2) acc done ∧ compL g t e (wipeE ρ vs) (ds.drop i) δi = .ok rest δ' ∧ ys = done ++ rest)
    ⟨δ1, [], [], ys, Grow.of (same_upd hT0), (same_upd hT0) _ _ d1, upd_same, .nil, by rw [List.drop_zero]; exact q3, rfl⟩ (fun i H2 hi ⟨δi, acc, done, rest, k1, k2, k3, k4, k5, k6⟩ => hGG (T :: O) H2 (Vw.hide hT0 k1)) ?_ ?_
  · intro i x H2 H3 hi ⟨δi, acc, done, rest, k1, k2, k3, k4, k5, k6⟩ hy
    obtain ⟨di, hdi⟩ : ∃ di, ds[i]? = some di := ⟨_, List.getElem?_eq_getElem hi⟩
    rw [drop_at hdi] at k5
    unfold compL at k5
    cases hg : g di (wipeE ρ vs) with
    | none => rw [hg] at k5; cases k5
    | some ρ1 =>
      rw [hg] at k5
      obtain ⟨b, δ3, b1, b2⟩ := Out.bind_ok k5
      have FB : FR X.K pd H0 Oc (T :: O) (wipeE ρ vs) δi (wipe σ vs) H2 := F.comp vs hTn (by rw [k3]; exact fun z => by cases z) (g1.trans k1) k2
      obtain ⟨s3, r3⟩ := hY i di (T :: O) H2 x H3 hdi (Vw.hide hT0 k1) FB.pdn hy
      have FB3 := FB.next (Grow.of s3) (s3 _ _ k2)
      intro s H' C cl fp
      refine (hG s H' C cl fp).ok FB3 r3 hg _ fun σ2 F2 hσ => ⟨wipe_eq (by rw [hσ.1, wipe_length]) fun k hk => hσ.2 k fun z => hk (hv k z), ?_⟩
      intro s H' C cl fp
      refine (hT s H' C cl fp).ok F2 b1 _ fun H4 g4 d4 => ?_
      have F4 := F2.next g4 d4
      have k1' : Grow pd H1 H4 := (k1.trans (Grow.of s3)).trans g4
      have kT : H4 T = some (.lst acc) := g4 _ _ hTp (s3 _ _ k3)
      have kR : Reps X.K pd (hid (pd :: T :: O) H4) acc done := (k4.same (hid_le' s3)).same (hid_le g4)
      cases b with
      | false =>
        rw [if_neg Bool.false_ne_true]
        exact ⟨δ3, acc, done, rest, k1', d4, kT, kR, b2, k6⟩
      | true =>
        rw [if_pos rfl]
        obtain ⟨y, δ4, c1, c2⟩ := Out.bind_ok b2
        obtain ⟨ys', δ5, c3, c4⟩ := Out.bind_ok c2
        cases c4
        intro s H' C cl fp
        refine (hE s H' C cl fp).ok F4 c1 _ fun w H5 g5 d5 r5 => ?_
        have hT5 : H5 T = some (.lst acc) := g5 _ _ hTp kT
        have hz' : acc.length < sizeLine := by
          rw [lim_eq, k4.length]
          rw [k6, List.length_append, List.length_cons] at hz
          omega
        refine ⟨acc, hT5, hz', δ4, acc ++ [w], done ++ [y], ys', ?_, ?_, upd_same, ?_, c3, by rw [k6]; simp⟩
        · intro b o nb hb
          have : b ≠ T := ne_of_none hb hT0
          rw [upd_ne this]
          exact g5 b o nb (k1' b o nb hb)
        · show upd H5 T _ pd = _
          rw [upd_ne (Ne.symm hTp)]
          exact d5
        · have e : hid (pd :: T :: O) (upd H5 T (.lst (acc ++ [w]))) = hid (pd :: T :: O) H5 := by
            funext b
            unfold hid
            by_cases c : b ∈ pd :: T :: O
            · rw [if_pos c, if_pos c]
            · rw [if_neg c, if_neg c, upd_ne fun z => c (by rw [z]; exact List.mem_cons_of_mem _ List.mem_cons_self)]
          rw [e]
          exact (kR.same (hid_le g5)).app (.cons r5 .nil)
  · intro H2 ⟨δi, acc, done, rest, k1, k2, k3, k4, k5, k6⟩
    rw [List.drop_of_length_le (Nat.le_refl _)] at k5
    cases k5
    rw [List.append_nil] at k6
    subst k6
    exact hq T acc ys H2 rfl hTn (g1.trans k1) k2 k3 k4
/-- a list that was made is a datum -/
theorem rep_made {K : PySem.W.Frag} {pd T : Addr} {O : List Addr} {H : Hp} {ws : List V} {ys : List D} (nT : T ∉ pd :: O) (h : H T = some (.lst ws)) (r : Reps K pd (hid (pd :: T :: O) H) ws ys) : Rep K pd (hid (pd :: O) H) (.ref T) (.lst ys) :=
  .lst (by rw [hid_of nT]; exact h) (r.same (hid_sub fun a ha => by
    rcases List.mem_cons.mp ha with e | e
    · rw [e]; exact List.mem_cons_self
    · exact List.mem_cons_of_mem _ (List.mem_cons_of_mem _ e)))
theorem FR.new_not {K : PySem.W.Frag} {pd T : Addr} {H0 : Hp} {Oc O : List Addr} {ρ : Ev} {δ : Di} {σ : Sg} {H : Hp} (F : FR K pd H0 Oc O ρ δ σ H) (h : H T = none) : T ∉ pd :: O := fun z => F.pdn T z h
theorem comp_er {scope : Scope} {tg iter elt : Expr} {ifs : List Expr} {vs : List Nat} {it : IF} {g : GF} {t : TF} {e : EF} (hI : SI X tg iter it)
    {pd H0 Oc O ρ δ σ H x δ'} (F : FR X.K pd H0 Oc O ρ δ σ H) (q : eComp vs it g t e ρ δ = .er x δ') (W : WX) (Q : VK) (tk : Takes X W) (hw : ErW X pd O W σ H x δ') :
    tLc (wI X tg iter) (gBk X scope tg) (tBk X scope ifs) (eBk X scope elt) vs σ H Q := by
  rcases Out.bind_er q with q | ⟨ds, δ1, q1, q2⟩
  · exact hI.er F q W _ tk hw
  · split at q2
    · rename_i ys δ2 q3
      by_cases hz : ys.length ≤ lim
      · rw [if_pos hz] at q2; cases q2
      · rw [if_neg hz] at q2; cases q2
    · cases q2
theorem pg_bk {scope : Scope} {tg : Expr} (s : Shared) (H : Hp) (C : Addr) (cl : List (Str × Addr)) (fp : List Addr) : PG (Bk X scope s H C cl fp) tg (gBk X scope tg) := ⟨fun pins s' σ H' v u Q I r h => h s H C cl fp pins s' u I r⟩
theorem pt_bk {scope : Scope} {ifs : List Expr} (s : Shared) (H : Hp) (C : Addr) (cl : List (Str × Addr)) (fp : List Addr) : PTs (Bk X scope s H C cl fp) ifs (tBk X scope ifs) := ⟨fun pins s' σ H' Q I h => pts_w.run pins s' σ H' Q I (h s H C cl fp)⟩
theorem pe_bk {scope : Scope} {elt : Expr} (s : Shared) (H : Hp) (C : Addr) (cl : List (Str × Addr)) (fp : List Addr) : PE (Bk X scope s H C cl fp) elt (eBk X scope elt) := ⟨fun pins s' σ H' Q I h => h s H C cl fp pins s' I⟩
theorem se_comp {scope : Scope} {tg iter elt : Expr} {ifs : List Expr} {own : List (Str × Nat)} {vg : List Nat} {it : IF} {g : GF} {t : TF} {e : EF} (hc : X.calm = true) (hN : X.N.Nodup) (ok : BlkOk X.N X.env.scope scope own) (hI : SI X tg iter it)
    (hG : ∀ s H C cl fp, SG (Bk X scope s H C cl fp) tg vg g) (hT : ∀ s H C cl fp, STs (Bk X scope s H C cl fp) ifs t) (hE : ∀ s H C cl fp, SE (Bk X scope s H C cl fp) elt e) (hv : ∀ k ∈ vg, k ∈ own.map (·.2) := by decide)
    (hs : ∀ x, foldedSetIterable iter X.env x = pure x := by intro _; rfl) : SE X (.ListComp elt [⟨tg, iter, ifs, 0⟩] scope pos) (eComp (own.map (·.2)) it g t e) where
  ok := fun {pd H0 Oc O ρ δ σ H d δ'} F q Q hq => wE_of (pe_lc hc hN pi_w ok pg_bk pt_bk pe_bk hs) (comp_run hI hG hT hE hv F q Q fun T ws ys H' e n g' d' h r => by
    subst e
    exact hq _ H' g' d' (rep_made (F.new_not n) h r))
  er := fun {pd H0 Oc O ρ δ σ H x δ'} F q W Q tk hw => wE_of (pe_lc hc hN pi_w ok pg_bk pt_bk pe_bk hs) (comp_er hI F q W Q tk hw)
end Sh
end
section
set_option maxHeartbeats 2000000
/-! Sh9: statements. -/
namespace Sh
open PySem PySem.Spec PyProof.Rows L2
variable {X : Cx} {pos : Pos}

inductive Fl where
  | nx | bk | ct | rt (d : D)
inductive OutS where
  | ok (f : Fl) (ρ : Ev) (δ : Di)
  | er (x : Ex) (ρ : Ev) (δ : Di)
  | bad
abbrev SF := Ev → Di → OutS
def FlP (K : PySem.W.Frag) (pd : Addr) (Oc : List Addr) (D : Ends) (fl : Fl) (σ : Sg) (H : Hp) : Prop := match fl with
  | .nx => D.nx σ H
  | .bk => D.bk σ H
  | .ct => D.ct σ H
  | .rt d => ∀ v, Rep K pd (hid (pd :: Oc) H) v d → D.rt v H
def OP (X : Cx) (pd : Addr) (H0 : Hp) (Oc O : List Addr) (H : Hp) (D : Ends) (o : OutS) : Prop := match o with
  | .ok fl ρ' δ' => ∀ O' σ' H', FR X.K pd H0 Oc O' ρ' δ' σ' H' → Vw pd O H O' H' → FlP X.K pd Oc D fl σ' H'
  | .er x ρ' δ' => ∃ W : WX, Takes X W ∧ ∀ O' σ' H' cls od, FR X.K pd H0 Oc O' ρ' δ' σ' H' → Vw pd O H O' H' → ExR X.K X.mg pd (hid (pd :: O') H') cls od x → W cls od σ' H'
  | .bad => False
theorem OP.next {pd : Addr} {H0 : Hp} {Oc O O1 : List Addr} {H H1 : Hp} {D : Ends} {o : OutS} (h : OP X pd H0 Oc O H D o) (v : Vw pd O H O1 H1) : OP X pd H0 Oc O1 H1 D o := by
  cases o with
  | ok fl ρ' δ' => exact fun O' σ' H' F w => h O' σ' H' F (v.trans w)
  | er x ρ' δ' =>
    obtain ⟨W, tk, h⟩ := h
    exact ⟨W, tk, fun O' σ' H' cls od F w e => h O' σ' H' cls od F (v.trans w) e⟩
  | bad => exact h
def wS (X : Cx) (st : Stmt) (σ : Sg) (H : Hp) (D : Ends) : Prop := ∀ (pins : List (Addr × Obj)) (s : Shared), Inv X pins σ H s → wpAny (model X.prog X.w) X.A (exec st X.env) (SP X pins D) X.xe s
def wSs (X : Cx) (st : List Stmt) (σ : Sg) (H : Hp) (D : Ends) : Prop := ∀ (pins : List (Addr × Obj)) (s : Shared), Inv X pins σ H s → wpAny (model X.prog X.w) X.A (execs st X.env) (SP X pins D) X.xe s
theorem ps_w {st : Stmt} : PS X st (fun D σ H => wS X st σ H D) := ⟨fun pins s _ _ _ I h => h pins s I⟩
theorem pss_w {st : List Stmt} : PSs X st (fun D σ H => wSs X st σ H D) := ⟨fun pins s _ _ _ I h => h pins s I⟩
theorem wS_of {st : Stmt} {t : TS} (p : PS X st t) {σ : Sg} {H : Hp} {D : Ends} (h : t D σ H) : wS X st σ H D := fun pins s I => p.run pins s σ H D I h
theorem wSs_of {st : List Stmt} {t : TS} (p : PSs X st t) {σ : Sg} {H : Hp} {D : Ends} (h : t D σ H) : wSs X st σ H D := fun pins s I => p.run pins s σ H D I h
structure SS (X : Cx) (st : Stmt) (f : SF) : Prop where
  run : ∀ {pd H0 Oc O ρ δ σ H D}, FR X.K pd H0 Oc O ρ δ σ H → OP X pd H0 Oc O H D (f ρ δ) → wS X st σ H D
structure SSs (X : Cx) (st : List Stmt) (f : SF) : Prop where
  run : ∀ {pd H0 Oc O ρ δ σ H D}, FR X.K pd H0 Oc O ρ δ σ H → OP X pd H0 Oc O H D (f ρ δ) → wSs X st σ H D

/-! ### blocks -/
def sNil : SF := fun ρ δ => .ok .nx ρ δ
def sSeq (f g : SF) : SF := fun ρ δ => match f ρ δ with
  | .ok .nx ρ1 δ1 => g ρ1 δ1
  | o => o
theorem ss_nil : SSs X [] sNil := ⟨fun F h => wSs_of pss_nil (h _ _ _ F Vw.refl)⟩
theorem ss_cons {st : Stmt} {r : List Stmt} {f g : SF} (h1 : SS X st f) (h2 : SSs X r g) : SSs X (st :: r) (sSeq f g) where
  run := fun {pd H0 Oc O ρ δ σ H D} F h => by
    refine wSs_of (pss_cons ps_w pss_w) (h1.run F ?_)
    unfold sSeq at h
    cases e : f ρ δ with
    | bad => rw [e] at h; exact h
    | er x ρ1 δ1 => rw [e] at h; exact h
    | ok fl ρ1 δ1 =>
      rw [e] at h
      cases fl with
      | nx => exact fun O' σ' H' F' v => h2.run F' (h.next v)
      | bk => exact h
      | ct => exact h
      | rt d => exact h
theorem ss_one {st : Stmt} {f : SF} (h1 : SS X st f) : SSs X [st] f where
  run := fun F h => wSs_of (pss_one ps_w) (h1.run F h)
def fz (i : Nat) (ρ : Ev) : Ev := match ρ[i]? with
  | some (.ow xs) => ρ.set i (.va (.lst xs))
  | _ => ρ
def sFz (i : Nat) (f : SF) : SF := fun ρ δ => f (fz i ρ) δ
theorem fz_fr {K : PySem.W.Frag} {pd : Addr} {H0 : Hp} {Oc O : List Addr} {ρ : Ev} {δ : Di} {σ : Sg} {H : Hp} (i : Nat) (F : FR K pd H0 Oc O ρ δ σ H) : ∃ O', FR K pd H0 Oc O' (fz i ρ) δ σ H ∧ Vw pd O H O' H := by
  unfold fz
  split
  · rename_i xs hxs
    obtain ⟨a, vs, O', _, _, _, hs, _, F'⟩ := F.thaw hxs
    exact ⟨O', F', hid_sub fun b hb => by
      rcases List.mem_cons.mp hb with e | e
      · rw [e]; exact List.mem_cons_self
      · exact List.mem_cons_of_mem _ (hs b e)⟩
  · exact ⟨O, F, Vw.refl⟩
theorem ss_fz (i : Nat) {st : List Stmt} {f : SF} (h : SSs X st f) : SSs X st (sFz i f) where
  run := fun F q => by
    obtain ⟨O', F', v⟩ := fz_fr i F
    exact h.run F' (q.next v)
theorem ss_fz1 (i : Nat) {st : Stmt} {f : SF} (h : SS X st f) : SS X st (sFz i f) where
  run := fun F q => by
    obtain ⟨O', F', v⟩ := fz_fr i F
    exact h.run F' (q.next v)
theorem ss_pass : SS X (.Pass pos) sNil := ⟨fun F h => wS_of ps_pass (h _ _ _ F Vw.refl)⟩
theorem ss_doc {x j pos'} : SS X (.Expr (.Constant (.str x) j pos) pos') sNil := ⟨fun F h => wS_of ps_doc (h _ _ _ F Vw.refl)⟩
theorem ss_break : SS X (.Break pos) (fun ρ δ => .ok .bk ρ δ) := ⟨fun F h => wS_of ps_break (h _ _ _ F Vw.refl)⟩
theorem ss_continue : SS X (.Continue pos) (fun ρ δ => .ok .ct ρ δ) := ⟨fun F h => wS_of ps_continue (h _ _ _ F Vw.refl)⟩

/-! ### from expressions -/
def sE (f : EF) (k : D → Ev → Di → OutS) : SF := fun ρ δ => match f ρ δ with
  | .ok d δ1 => k d ρ δ1
  | .er x δ1 => .er x ρ δ1
  | .bad => .bad
/-- an expression ahead of what is done with its value -/
theorem sE_run {e : Expr} {f : EF} {k : D → Ev → Di → OutS} (he : SE X e f) {pd H0 Oc O ρ δ σ H D} {Q : VK} (F : FR X.K pd H0 Oc O ρ δ σ H) (h : OP X pd H0 Oc O H D (sE f k ρ δ))
    (hk : ∀ d δ1 v H1, f ρ δ = .ok d δ1 → Grow pd H H1 → FR X.K pd H0 Oc O ρ δ1 σ H1 → Rep X.K pd (hid (pd :: O) H1) v d → OP X pd H0 Oc O H1 D (k d ρ δ1) → Q v H1) : wE X e σ H Q := by
  unfold sE at h
  cases q : f ρ δ with
  | bad => rw [q] at h; exact h.elim
  | ok d δ1 =>
    rw [q] at h
    exact he.ok F q _ fun v H1 g d1 r => hk d δ1 v H1 q g (F.next g d1) r (h.next (Vw.of g))
  | er x δ1 =>
    rw [q] at h
    obtain ⟨W, tk, h⟩ := h
    exact he.er F q W _ tk fun cls od H' g d1 r => h O σ H' cls od (F.next g d1) (Vw.of g) r
theorem rep_out {K : PySem.W.Frag} {pd : Addr} {Oc O : List Addr} {H : Hp} {v : V} {d : D} (h : ∀ a ∈ Oc, a ∈ O) (r : Rep K pd (hid (pd :: O) H) v d) : Rep K pd (hid (pd :: Oc) H) v d := r.same (hid_sub fun b hb => by
  rcases List.mem_cons.mp hb with e | e
  · rw [e]; exact List.mem_cons_self
  · exact List.mem_cons_of_mem _ (h b e))
def sRet (f : EF) : SF := sE f fun d ρ δ => .ok (.rt d) ρ δ
theorem ss_ret {e : Expr} {f : EF} (he : SE X e f) : SS X (.Return (some e) pos) (sRet f) where
  run := fun F h => wS_of (ps_ret pe_w) (sE_run he F h fun d δ1 v H1 _ g F1 r h1 => h1 _ _ _ F1 Vw.refl v (rep_out F.sub r))
def sRetN : SF := fun ρ δ => .ok (.rt .non) ρ δ
theorem ss_retN : SS X (.Return none pos) sRetN where
  run := fun F h => wS_of ps_retN (h _ _ _ F Vw.refl .non .non)
def sDrop (f : EF) : SF := sE f fun _ ρ δ => .ok .nx ρ δ
theorem ss_expr {e : Expr} {f : EF} (he : SE X e f) (hs : swapsWith e none pos.line X.env = pure false := by rfl) : SS X (.Expr e pos) (sDrop f) where
  run := fun F h => wS_of (ps_expr pe_w hs) (sE_run he F h fun d δ1 v H1 _ g F1 r h1 => h1 _ _ _ F1 Vw.refl)
def sIf (t : TF) (f g : SF) : SF := fun ρ δ => match t ρ δ with
  | .ok true δ1 => f ρ δ1
  | .ok false δ1 => g ρ δ1
  | .er x δ1 => .er x ρ δ1
  | .bad => .bad
theorem ss_if {c : Expr} {a b : List Stmt} {t : TF} {f g : SF} (hc : ST X c t) (ha : SSs X a f) (hb : SSs X b g) : SS X (.If c a b pos) (sIf t f g) where
  run := fun {pd H0 Oc O ρ δ σ H D} F h => by
    unfold sIf at h
    cases q : t ρ δ with
    | bad => rw [q] at h; exact h.elim
    | er x δ1 =>
      rw [q] at h
      obtain ⟨W, tk, h⟩ := h
      exact wS_of (ps_if pt_w pss_w pss_w) (hc.er F q W _ tk fun cls od H' g d1 r => h O σ H' cls od (F.next g d1) (Vw.of g) r)
    | ok k δ1 =>
      rw [q] at h
      refine wS_of (ps_if pt_w pss_w pss_w) (hc.ok F q _ fun H1 g d1 => ?_)
      cases k with
      | true => rw [if_pos rfl]; exact ha.run (F.next g d1) (h.next (Vw.of g))
      | false => rw [if_neg Bool.false_ne_true]; exact hb.run (F.next g d1) (h.next (Vw.of g))

/-! ### assignments -/
def kG (g : GF) : D → Ev → Di → OutS := fun d ρ δ => match g d ρ with
  | some ρ1 => .ok .nx ρ1 δ
  | none => .bad
def sAsg (g : GF) (f : EF) : SF := sE f (kG g)
theorem kG_run {tg : Expr} {vs : List Nat} {g : GF} (hg : SG X tg vs g) {pd H0 Oc O ρ δ σ H D v d} (F : FR X.K pd H0 Oc O ρ δ σ H) (r : Rep X.K pd (hid (pd :: O) H) v d) (h : OP X pd H0 Oc O H D (kG g d ρ δ)) : wG X tg v σ H D.nx := by
  unfold kG at h
  cases q : g d ρ with
  | none => rw [q] at h; exact h.elim
  | some ρ1 =>
    rw [q] at h
    exact hg.ok F r q _ fun σ' F' _ => h O σ' H F' Vw.refl
theorem ss_asg {tg e : Expr} {vs : List Nat} {g : GF} {f : EF} (he : SE X e f) (hg : SG X tg vs g) (hs : swapsWithSole [tg] e pos.line X.env = pure false := by rfl) (hw : swappedStores [tg] e X.env = pure none := by rfl)
    (h1 : (assignEach [tg] X.env).map (·.2) = [assign tg X.env] := by rfl) : SS X (.Assign [tg] e pos) (sAsg g f) where
  run := fun F h => wS_of (ps_asg pe_w pg_w hs hw h1) (sE_run he F h fun d δ1 v H1 _ gr F1 r h1 => kG_run hg F1 r h1)
theorem ss_set (i : Nat) {x : Str} {e : Expr} {f : EF} {pos' : Pos} (hN : X.N.Nodup) (hi : X.N[i]? = some x) (hx : Loc X.env.scope x) (he : SE X e f) (hs : swapsWith e (some (.Name x pos')) pos.line X.env = pure false := by rfl) (hf : X.fn x = true ∨ X.env.scope.names.lookup x = some .local := by first | exact .inl rfl | exact .inr rfl | assumption) :
    SS X (.Assign [.Name x pos'] e pos) (sAsg (gNm i) f) where
  run := fun {pd H0 Oc O ρ δ σ H D} F h => wS_of (ps_set hN hi hx pe_w hs hf) (sE_run he F h fun d δ1 v H1 _ gr F1 r h1 => by
    unfold kG at h1
    cases q : gNm i d ρ with
    | none => rw [q] at h1; exact h1.elim
    | some ρ1 =>
      rw [q] at h1
      unfold gNm at q
      by_cases c : i < ρ.length
      · rw [if_pos c] at q; cases q
        exact h1 _ _ _ (F1.set c r) Vw.refl
      · rw [if_neg c] at q; cases q)
/-- name = [..] on one line, the name a local -/
theorem ss_setLc (i : Nat) {y : Str} {py : Pos} {scope : Scope} {tg iter elt : Expr} {ifs : List Expr} {own : List (Str × Nat)} {vg : List Nat} {it : IF} {g : GF} {t : TF} {e : EF} {spos : Pos} (hc : X.calm = true) (hN : X.N.Nodup) (hy : X.N[i]? = some y) (hyl : X.env.scope.names.lookup y = some .local)
    (hsw : swapsWith (.ListComp elt [⟨tg, iter, ifs, 0⟩] scope pos) (some (.Name y py)) spos.line X.env = pure true) (ok : BlkOk X.N X.env.scope scope own) (hI : SI X tg iter it)
    (hG : ∀ s H C cl fp, SG (Bk X scope s H C cl fp) tg vg g) (hT : ∀ s H C cl fp, STs (Bk X scope s H C cl fp) ifs t) (hE : ∀ s H C cl fp, SE (Bk X scope s H C cl fp) elt e) (hv : ∀ k ∈ vg, k ∈ own.map (·.2) := by decide)
    (hs : ∀ x, foldedSetIterable iter X.env x = pure x := by intro _; rfl) : SS X (.Assign [.Name y py] (.ListComp elt [⟨tg, iter, ifs, 0⟩] scope pos) spos) (sAsg (gNm i) (eComp (own.map (·.2)) it g t e)) where
  run := fun {pd H0 Oc O ρ δ σ H D} F h => by
    refine wS_of (ps_setLc hc hN hy hyl hsw pi_w ok pg_bk pt_bk pe_bk hs) ?_
    unfold sAsg sE at h
    cases q : eComp (own.map (·.2)) it g t e ρ δ with
    | bad => rw [q] at h; exact h.elim
    | er x δ1 =>
      rw [q] at h
      obtain ⟨W, tk, h⟩ := h
      exact comp_er hI F q W _ tk fun cls od H' g d1 r => h O σ H' cls od (F.next g d1) (Vw.of g) r
    | ok d δ1 =>
      rw [q] at h
      refine comp_run hI hG hT hE hv F q _ fun T ws ys H' e1 n g' d' hT' r => ?_
      subst e1
      have r' := rep_made (F.new_not n) hT' r
      have h : OP X pd H0 Oc O H D (kG (gNm i) (.lst ys) ρ δ1) := h
      unfold kG at h
      cases q2 : gNm i (.lst ys) ρ with
      | none => rw [q2] at h; exact h.elim
      | some ρ1 =>
        rw [q2] at h
        unfold gNm at q2
        by_cases c : i < ρ.length
        · rw [if_pos c] at q2; cases q2
          exact h _ _ _ ((F.next g' d').set c r') (Vw.of g')
        · rw [if_neg c] at q2; cases q2

/-! ### new lists, own -/
abbrev NF := Ev → Di → Out (List D)
structure SN (X : Cx) (e : Expr) (f : NF) : Prop where
  ok : ∀ {pd H0 Oc O ρ δ σ H ys δ'}, FR X.K pd H0 Oc O ρ δ σ H → f ρ δ = .ok ys δ' → ∀ Q : VK, (∀ T ws H', H T = none → Grow pd H H' → DiceAt pd δ' H' → H' T = some (.lst ws) → Reps X.K pd (hid (pd :: T :: O) H') ws ys → Q (.ref T) H') → wE X e σ H Q
  er : ∀ {pd H0 Oc O ρ δ σ H x δ'}, FR X.K pd H0 Oc O ρ δ σ H → f ρ δ = .er x δ' → ∀ (W : WX) (Q : VK), Takes X W → ErW X pd O W σ H x δ' → wE X e σ H Q
theorem hid_new2 {pd p : Addr} {O : List Addr} {H : Hp} {o : HO} : Same (hid (pd :: O) H) (hid (pd :: p :: O) (upd H p o)) ∨ H p ≠ none := by
  by_cases h : H p = none
  · exact .inl (Vw.hide h fun b o' _ hb => same_upd h b o' hb)
  · exact .inr h
theorem reps_hide {K : PySem.W.Frag} {pd p : Addr} {O : List Addr} {H : Hp} {o : HO} {vs : List V} {ds : List D} (h : H p = none) (r : Reps K pd (hid (pd :: O) H) vs ds) : Reps K pd (hid (pd :: p :: O) (upd H p o)) vs ds :=
  r.same (Vw.hide h fun b o' _ hb => same_upd h b o' hb)
theorem grow_none {pd p : Addr} {δ : Di} {H H1 : Hp} (g : Grow pd H H1) (d : DiceAt pd δ H1) (h : H1 p = none) : H p = none := by
  cases q : H p with
  | none => rfl
  | some o =>
    by_cases e : p = pd
    · rw [e, d] at h; cases h
    · rw [g p o e q] at h; cases h
theorem sn_lst {es : List Expr} {fa : AF} (ha : SA X es fa) : SN X (.List es pos) (fun ρ δ => (fa ρ δ).bind fun ds δ1 => if ds.length ≤ lim then .ok ds δ1 else .bad) where
  ok := fun {pd H0 Oc O ρ δ σ H ys δ'} F q Q hq => by
    obtain ⟨ds, δ1, q1, q2⟩ := Out.bind_ok q
    by_cases c : ds.length ≤ lim
    · rw [if_pos c] at q2; cases q2
      refine wE_of (pe_lst pa_w) (ha.ok F q1 _ fun vs H1 g1 d1 r1 => ⟨by rw [lim_eq, r1.length]; exact c, fun p hp => ?_⟩)
      exact hq p vs _ (grow_none g1 d1 hp) (g1.trans (Grow.of (same_upd hp))) (same_upd hp _ _ d1) upd_same (reps_hide hp r1)
    · rw [if_neg c] at q2; cases q2
  er := fun {pd H0 Oc O ρ δ σ H x δ'} F q W Q tk hw => by
    rcases Out.bind_er q with q | ⟨ds, δ1, q1, q2⟩
    · exact wE_of (pe_lst pa_w) (ha.er F q W _ tk hw)
    · by_cases c : ds.length ≤ lim
      · rw [if_pos c] at q2; cases q2
      · rw [if_neg c] at q2; cases q2
/-- [..] * n -/
theorem sn_mul {a b : Expr} {fa fb : EF} (ha : SE X a fa) (hb : SE X b fb) : SN X (.BinOp a .Mult b pos) (fun ρ δ => (fa ρ δ).bind fun x δ1 => (fb ρ δ1).bind fun y δ2 => match x, y with
    | .lst xs, .int k => if -9223372036854775808 ≤ k ∧ k < 9223372036854775808 ∧ xs.length * k.toNat ≤ lim then .ok (List.replicate k.toNat xs).flatten δ2 else .bad
    | _, _ => .bad) where
  ok := fun {pd H0 Oc O ρ δ σ H ys δ'} F q Q hq => by
    obtain ⟨x, δ1, q1, q2⟩ := Out.bind_ok q
    obtain ⟨y, δ2, q3, q4⟩ := Out.bind_ok q2
    split at q4
    · rename_i xs k
      split at q4
      · rename_i c
        cases q4
        refine wE_of (pe_op op_rep pe_w pe_w) (ha.ok F q1 _ fun v H1 g1 d1 r1 => hb.ok (F.next g1 d1) q3 _ fun w H2 g2 d2 r2 => ?_)
        have r1' := r1.same (hid_le (O := O) g2)
        cases r1' with
        | @lst l vs _ h rs =>
          refine ⟨l, k, vs, rfl, r2.int_inv, hid_get h, c.1, c.2.1, by rw [lim_eq, rs.length]; exact c.2.2, fun p hp => ?_⟩
          exact hq p _ _ (grow_none (g1.trans g2) d2 hp) ((g1.trans g2).trans (Grow.of (same_upd hp))) (same_upd hp _ _ d2) upd_same (reps_hide hp (rs.rep _))
      · cases q4
    · cases q4
  er := fun {pd H0 Oc O ρ δ σ H x δ'} F q W Q tk hw => by
    rcases Out.bind_er q with q | ⟨ds, δ1, q1, q2⟩
    · exact wE_of (pe_op op_rep pe_w pe_w) (ha.er F q W _ tk hw)
    · rcases Out.bind_er q2 with q | ⟨y, δ2, q3, q4⟩
      · exact wE_of (pe_op op_rep pe_w pe_w) (ha.ok F q1 _ fun v H1 g1 d1 r1 => hb.er (F.next g1 d1) q W _ tk (hw.next g1))
      · split at q4
        · split at q4 <;> cases q4
        · cases q4
/-- list(x) -/
theorem sn_list {x : Str} {p : Pos} {e : Expr} {fe : EF} (hg : Gl X x) (hm : X.mg x = none) (hv : bootBuiltins x = some (.type "list")) (he : SE X e fe) (hn : x ≠ "__name__" := by decide) (hdb : (x == ("__debug__" : Str)) = false := by decide)
    (hs : starEach (e :: []) X.env = (false, eval e X.env) :: starEach [] X.env := by rfl) (hpl : (backTo pos (starEach [] X.env)).any (·.1) = false := by rfl) : SN X (.Call (.Name x p) [e] [] pos) (fun ρ δ => (fe ρ δ).bind fun d δ1 => Out.get (seqOf d) δ1) where
  ok := fun {pd H0 Oc O ρ δ σ H ys δ'} F q Q hq => by
    obtain ⟨d, δ1, q1, q2⟩ := Out.bind_ok q
    obtain ⟨q3, q4⟩ := Out.get_ok q2
    subst q4
    refine wE_of (pe_callTy call_list_of hg hm hv (pa_cons pe_w pa_nil hs) hn hdb hs hpl) (he.ok F q1 _ fun v H1 g1 d1 r1 => ?_)
    obtain ⟨t, a, vs, e1, q5, rs⟩ := r1.sq q3
    subst e1
    refine ⟨a, vs, rfl, ?_, fun l hl => hq l vs _ (grow_none g1 d1 hl) (g1.trans (Grow.of (same_upd hl))) (same_upd hl _ _ d1) upd_same (reps_hide hl rs)⟩
    cases t with
    | true => exact .inr (sqT_get q5)
    | false => exact .inl (hid_same.seq q5)
  er := fun {pd H0 Oc O ρ δ σ H x δ'} F q W Q tk hw => by
    rcases Out.bind_er q with q | ⟨ds, δ1, q1, q2⟩
    · exact wE_of (pe_callTy call_list_of hg hm hv (pa_cons pe_w pa_nil hs) hn hdb hs hpl) (he.er F q W _ tk hw)
    · exact (Out.get_er q2).elim
/-- a comprehension -/
theorem sn_comp {scope : Scope} {tg iter elt : Expr} {ifs : List Expr} {own : List (Str × Nat)} {vg : List Nat} {it : IF} {g : GF} {t : TF} {e : EF} (hc : X.calm = true) (hN : X.N.Nodup) (ok : BlkOk X.N X.env.scope scope own) (hI : SI X tg iter it)
    (hG : ∀ s H C cl fp, SG (Bk X scope s H C cl fp) tg vg g) (hT : ∀ s H C cl fp, STs (Bk X scope s H C cl fp) ifs t) (hE : ∀ s H C cl fp, SE (Bk X scope s H C cl fp) elt e) (hv : ∀ k ∈ vg, k ∈ own.map (·.2) := by decide)
    (hs : ∀ x, foldedSetIterable iter X.env x = pure x := by intro _; rfl) : SN X (.ListComp elt [⟨tg, iter, ifs, 0⟩] scope pos) (fun ρ δ => (eComp (own.map (·.2)) it g t e ρ δ).bind fun d δ1 => match d with
      | .lst ys => .ok ys δ1
      | _ => .bad) where
  ok := fun {pd H0 Oc O ρ δ σ H ys δ'} F q Q hq => by
    obtain ⟨d, δ1, q1, q2⟩ := Out.bind_ok q
    refine wE_of (pe_lc hc hN pi_w ok pg_bk pt_bk pe_bk hs) (comp_run hI hG hT hE hv F q1 Q fun T ws ys' H' e n g' d' h r => ?_)
    subst e
    cases q2
    exact hq T ws H' n g' d' h r
  er := fun {pd H0 Oc O ρ δ σ H x δ'} F q W Q tk hw => by
    rcases Out.bind_er q with q | ⟨d, δ1, q1, q2⟩
    · exact wE_of (pe_lc hc hN pi_w ok pg_bk pt_bk pe_bk hs) (comp_er hI F q W Q tk hw)
    · cases d <;> cases q2
theorem FR.own {K : PySem.W.Frag} {pd T : Addr} {H0 : Hp} {Oc O : List Addr} {ρ : Ev} {δ δ' : Di} {σ : Sg} {H H' : Hp} {ws : List V} {ys : List D} (F : FR K pd H0 Oc O ρ δ σ H) {i : Nat} (hi : i < ρ.length) (n : H T = none) (g : Grow pd H H') (d : DiceAt pd δ' H') (h : H' T = some (.lst ws)) (r : Reps K pd (hid (pd :: T :: O) H') ws ys) :
    FR K pd H0 Oc (T :: O) (ρ.set i (.ow ys)) δ' (σ.set i (some (.ref T))) H' := by
  have hs : i < σ.length := by rw [F.len]; exact hi
  have F1 := F.next g d
  have nT : T ≠ pd := fun e => F.new_not n (by rw [e]; exact List.mem_cons_self)
  have n0 : H0 T = none := by
    cases q : H0 T with
    | none => rfl
    | some o => rw [F.grow T o nT q] at n; cases n
  have old : ∀ (j : Nat) (ys : List D), ρ[j]? = some (.ow ys) → σ[j]? ≠ some (some (.ref T)) := fun j ys hj e => by
    obtain ⟨a, vs, q1, q2, _⟩ := F.ow j ys hj
    rw [q1] at e; cases e
    exact F.al _ q2 n
  refine ⟨F1.grow, d, fun a ha => List.mem_cons_of_mem _ (F.sub a ha), F.oc0, fun a ha => ?_, by rw [List.length_set, List.length_set]; exact F.len, fun j e hj => ?_, fun j zs hj => ?_, fun j k zs us b hj hk h1 h2 => ?_⟩
  · rcases List.mem_cons.mp ha with e | e
    · rw [e, h]; exact fun z => by cases z
    · exact F1.al a e
  · by_cases c : i = j
    · subst c; rw [List.getElem?_set_self hi] at hj; cases hj
    · rw [List.getElem?_set_ne c] at hj
      rw [List.getElem?_set_ne c]
      obtain ⟨v, q1, q2⟩ := F.va j e hj
      exact ⟨v, q1, q2.same (Vw.hide n g)⟩
  · by_cases c : i = j
    · subst c
      rw [List.getElem?_set_self hi] at hj; cases hj
      exact ⟨T, ws, List.getElem?_set_self hs, List.mem_cons_self, n0, nT, h, r⟩
    · rw [List.getElem?_set_ne c] at hj
      rw [List.getElem?_set_ne c]
      obtain ⟨a, vs, q1, q2, q3, q4, q5, q6⟩ := F.ow j zs hj
      exact ⟨a, vs, q1, List.mem_cons_of_mem _ q2, q3, q4, g _ _ q4 q5, q6.same (Vw.hide n g)⟩
  · by_cases c : i = j
    · by_cases c2 : i = k
      · rw [← c, ← c2]
      · subst c
        rw [List.getElem?_set_self hs] at h1; cases h1
        rw [List.getElem?_set_ne c2] at hk h2
        exact absurd h2 (old k us hk)
    · by_cases c2 : i = k
      · subst c2
        rw [List.getElem?_set_self hs] at h2; cases h2
        rw [List.getElem?_set_ne c] at hj h1
        exact absurd h1 (old j zs hj)
      · rw [List.getElem?_set_ne c] at hj h1
        rw [List.getElem?_set_ne c2] at hk h2
        exact F.dis j k zs us b hj hk h1 h2
def sOwn (i : Nat) (f : NF) : SF := fun ρ δ => match f ρ δ with
  | .ok ys δ1 => if i < ρ.length then .ok .nx (ρ.set i (.ow ys)) δ1 else .bad
  | .er x δ1 => .er x ρ δ1
  | .bad => .bad
theorem own_hide {K : PySem.W.Frag} {pd T : Addr} {H0 : Hp} {Oc O : List Addr} {ρ : Ev} {δ : Di} {σ : Sg} {H H' : Hp} (F : FR K pd H0 Oc O ρ δ σ H) (n : H T = none) (g : Grow pd H H') : Vw pd O H (T :: O) H' := Vw.hide n g
theorem ss_own (i : Nat) {x : Str} {e : Expr} {f : NF} {pos' : Pos} (hN : X.N.Nodup) (hi : X.N[i]? = some x) (hx : Loc X.env.scope x) (he : SN X e f) (hs : swapsWith e (some (.Name x pos')) pos.line X.env = pure false := by rfl) (hf : X.fn x = true ∨ X.env.scope.names.lookup x = some .local := by first | exact .inl rfl | exact .inr rfl | assumption) :
    SS X (.Assign [.Name x pos'] e pos) (sOwn i f) where
  run := fun {pd H0 Oc O ρ δ σ H D} F h => by
    unfold sOwn at h
    cases q : f ρ δ with
    | bad => rw [q] at h; exact h.elim
    | er y δ1 =>
      rw [q] at h
      obtain ⟨W, tk, h⟩ := h
      exact wS_of (ps_set hN hi hx pe_w hs hf) (he.er F q W _ tk fun cls od H' g d1 r => h O σ H' cls od (F.next g d1) (Vw.of g) r)
    | ok ys δ1 =>
      rw [q] at h
      by_cases c : i < ρ.length
      · have h : OP X pd H0 Oc O H D (if i < ρ.length then .ok .nx (ρ.set i (.ow ys)) δ1 else .bad) := h
        rw [if_pos c] at h
        exact wS_of (ps_set hN hi hx pe_w hs hf) (he.ok F q _ fun T ws H' n g d1 hT r => h _ _ _ (F.own c n g d1 hT r) (Vw.hide n g))
      · have h : OP X pd H0 Oc O H D (if i < ρ.length then .ok .nx (ρ.set i (.ow ys)) δ1 else .bad) := h
        rw [if_neg c] at h; exact h.elim
end Sh
end
section
set_option maxHeartbeats 2000000
/-! Sh10: stores into own lists, loops, raises, defs by their bodies. -/
namespace Sh
open PySem PySem.Spec PyProof.Rows L2
variable {X : Cx} {pos : Pos}

/-- code that is not come to -/
def sNever : SF := fun _ _ => .bad
theorem ss_never {st : Stmt} : SS X st sNever := ⟨fun _ h => h.elim⟩
theorem sss_never {st : List Stmt} : SSs X st sNever := ⟨fun _ h => h.elim⟩

theorem hid_put {O : List Addr} {H : Hp} {a : Addr} {o : HO} (h : a ∈ O) : hid O (upd H a o) = hid O H := by
  funext b
  unfold hid
  by_cases c : b ∈ O
  · rw [if_pos c, if_pos c]
  · rw [if_neg c, if_neg c, upd_ne fun z => c (by rw [z]; exact h)]
/-- an own list is changed -/
theorem FR.put {K : PySem.W.Frag} {pd a : Addr} {H0 : Hp} {Oc O : List Addr} {ρ : Ev} {δ : Di} {σ : Sg} {H : Hp} {i : Nat} {xs ys : List D} {ws : List V} (F : FR K pd H0 Oc O ρ δ σ H) (h : ρ[i]? = some (.ow xs)) (hs : σ[i]? = some (some (.ref a))) (r : Reps K pd (hid (pd :: O) H) ws ys) :
    FR K pd H0 Oc O (ρ.set i (.ow ys)) δ σ (upd H a (.lst ws)) ∧ Vw pd O H O (upd H a (.lst ws)) := by
  obtain ⟨a', vs, h1, h2, h3, h4, h5, h6⟩ := F.ow i xs h
  rw [hs] at h1; cases h1
  have e : hid (pd :: O) (upd H a (.lst ws)) = hid (pd :: O) H := hid_put (List.mem_cons_of_mem _ h2)
  have hi : i < ρ.length := (List.getElem?_eq_some_iff.mp h).1
  refine ⟨⟨fun b o n hb => ?_, ?_, F.sub, F.oc0, fun b hb => ?_, by rw [List.length_set]; exact F.len, fun j d hj => ?_, fun j zs hj => ?_, fun j k zs us b hj hk h1 h2 => ?_⟩, by unfold Vw; rw [e]; exact Same.refl _⟩
  · rw [upd_ne (ne_of_none hb h3)]; exact F.grow b o n hb
  · show upd H a _ pd = _
    rw [upd_ne (Ne.symm h4)]; exact F.dice
  · by_cases c : b = a
    · rw [c, upd_same]; exact fun z => by cases z
    · rw [upd_ne c]; exact F.al b hb
  · rw [e]
    by_cases c : i = j
    · subst c; rw [List.getElem?_set_self hi] at hj; cases hj
    · rw [List.getElem?_set_ne c] at hj; exact F.va j d hj
  · rw [e]
    by_cases c : i = j
    · subst c
      rw [List.getElem?_set_self hi] at hj; cases hj
      exact ⟨a, ws, hs, h2, h3, h4, upd_same, r⟩
    · rw [List.getElem?_set_ne c] at hj
      obtain ⟨b, us, q1, q2, q3, q4, q5, q6⟩ := F.ow j zs hj
      refine ⟨b, us, q1, q2, q3, q4, ?_, q6⟩
      rw [upd_ne fun z => c (F.dis i j xs zs a h hj hs (by rw [z] at q1; exact q1))]
      exact q5
  · by_cases c : i = j
    · by_cases c2 : i = k
      · rw [← c, ← c2]
      · subst c
        rw [List.getElem?_set_ne c2] at hk
        exact F.dis i k xs us b h hk h1 h2
    · rw [List.getElem?_set_ne c] at hj
      by_cases c2 : i = k
      · subst c2; exact F.dis j i zs xs b hj h h1 h2
      · rw [List.getElem?_set_ne c2] at hk
        exact F.dis j k zs us b hj hk h1 h2
def sAppend (i : Nat) (f : EF) : SF := fun ρ δ => match ρ[i]? with
  | some (.ow xs) => sE f (fun d ρ δ => if xs.length < lim then .ok .nx (ρ.set i (.ow (xs ++ [d]))) δ else .bad) ρ δ
  | _ => .bad
theorem ss_append (i : Nat) {x : Str} {e : Expr} {f : EF} {p1 apos cpos : Pos} (he : SE X e f) (hN : X.N[i]? = some x := by rfl) (hv : Vis X.env.scope x := by first | exact Or.inl rfl | exact Or.inr (Or.inl rfl) | exact Or.inr (Or.inr rfl)) (hd : (x == ("__debug__" : Str)) = false := by decide)
    (hcd : (x == ("__classdict__" : Str)) = false := by decide) (hbase : attributeBase (.Name x p1) "append" X.env (eval (.Name x p1) X.env) = eval (.Name x p1) X.env := by rfl)
    (hfew : ((backTo cpos (starEach (e :: []) X.env)).all (fun x => !x.1) && (backToKw cpos (keywordEach [] X.env)).all (fun x => x.1.isSome) && decide ((e :: []).length + ([] : List Keyword).length + (if ([] : List Keyword).isEmpty then 0 else 1) < 30)) = true := by rfl)
    (hline : (apos.endLine == cpos.line) = true := by rfl) (hs : starEach (e :: []) X.env = (false, eval e X.env) :: starEach [] X.env := by rfl) (hplain : (backTo cpos (starEach [] X.env)).any (·.1) = false := by rfl)
    (hsw : swapsWith (.Call (.Attribute (.Name x p1) "append" apos) [e] [] cpos) none pos.line X.env = pure false := by rfl) :
    SS X (.Expr (.Call (.Attribute (.Name x p1) "append" apos) [e] [] cpos) pos) (sAppend i f) where
  run := fun {pd H0 Oc O ρ δ σ H D} F h => by
    have p := ps_expr (pos := pos) (pe_bm (cpos := cpos) (apos := apos) PySem.F.plainAttrs_list PySem.F.slot_list_append PySem.F.type_list_append mt_append (pe_var (pos := p1) hN hv hd hcd) (pa_cons (pe_w (e := e)) pa_nil hs) hbase hfew hline hs hplain) hsw
    refine wS_of p ?_
    unfold sAppend at h
    split at h
    · rename_i xs hxs
      obtain ⟨a, vs, h1, h2, h3, h4, h5, h6⟩ := F.ow i xs hxs
      refine ⟨.ref a, h1, .inl ⟨rfl, _, .inl (.inl h5)⟩, ?_⟩
      refine sE_run he F h fun d δ1 v H1 _ g F1 r h' => ?_
      by_cases c : xs.length < lim
      · rw [if_pos c] at h'
        obtain ⟨a', ws, e1, _, _, _, e5, e6⟩ := F1.ow i xs hxs
        rw [h1] at e1; cases e1
        obtain ⟨F2, v2⟩ := F1.put hxs h1 (e6.app (.cons r .nil))
        exact ⟨a, ws, v, rfl, rfl, e5, by rw [lim_eq, e6.length]; exact c, h' _ _ _ F2 v2⟩
      · rw [if_neg c] at h'; exact h'.elim
    · exact h.elim
/-- x[i] = v of an own list -/
def sSetI (i : Nat) (fi fv : EF) : SF := sE fv fun d ρ δ => match ρ[i]? with
  | some (.ow xs) => sE fi (fun k ρ δ => match k with
    | .int n => match ixN xs.length n with
      | some j => .ok .nx (ρ.set i (.ow (xs.set j d))) δ
      | none => .bad
    | _ => .bad) ρ δ
  | _ => .bad
theorem ss_setI (i : Nat) {x : Str} {ix e : Expr} {fi fv : EF} {p1 p2 : Pos} (hi : SE X ix fi) (he : SE X e fv) (hN : X.N[i]? = some x := by rfl) (hv : Vis X.env.scope x := by first | exact Or.inl rfl | exact Or.inr (Or.inl rfl) | exact Or.inr (Or.inr rfl)) (hd : (x == ("__debug__" : Str)) = false := by decide)
    (hcd : (x == ("__classdict__" : Str)) = false := by decide)
    (ha : ∀ v, assign (.Subscript (.Name x p1) ix p2) X.env v = (do
      let ov ← holding [v] (eval (.Name x p1) X.env)
      let iv ← holding [v, ov] (eval ix X.env)
      standAt p2
      holding [v, ov, iv] (setItem ov iv v)
      release [v, ov, iv] []) := by intro _; rfl)
    (hs : swapsWithSole [.Subscript (.Name x p1) ix p2] e pos.line X.env = pure false := by rfl) (hw : swappedStores [.Subscript (.Name x p1) ix p2] e X.env = pure none := by rfl)
    (h1 : (assignEach [.Subscript (.Name x p1) ix p2] X.env).map (·.2) = [assign (.Subscript (.Name x p1) ix p2) X.env] := by rfl) : SS X (.Assign [.Subscript (.Name x p1) ix p2] e pos) (sSetI i fi fv) where
  run := fun {pd H0 Oc O ρ δ σ H D} F h => by
    refine wS_of (ps_asg pe_w (pg_sub (pe_var hN hv hd hcd) pe_w set_list ha) hs hw h1) (sE_run he F h fun d δ1 v H1 _ g F1 r h' => ?_)
    split at h'
    · rename_i xs hxs
      obtain ⟨a, vs, e1, e2, e3, e4, e5, e6⟩ := F1.ow i xs hxs
      refine ⟨.ref a, e1, ?_⟩
      refine sE_run hi F1 h' fun k δ2 w H2 _ g2 F2 r2 h2 => ?_
      cases k with
      | int n =>
        have h2 : OP X pd H0 Oc O H2 D (match ixN xs.length n with
          | some j => .ok .nx (ρ.set i (.ow (xs.set j d))) δ2
          | none => .bad) := h2
        cases q : ixN xs.length n with
        | none => rw [q] at h2; exact h2.elim
        | some j =>
          rw [q] at h2
          obtain ⟨a', ws, q1, _, _, _, q5, q6⟩ := F2.ow i xs hxs
          rw [e1] at q1; cases q1
          obtain ⟨F3, v3⟩ := F2.put hxs e1 (q6.set (r.same (hid_le g2)) j)
          exact ⟨a, ws, n, j, rfl, r2.int_inv, q5, by rw [q6.length]; exact q, h2 _ _ _ F3 v3⟩
      | _ => exact h2.elim
    · exact h'.elim
/-- x op= e -/
def sAug (g : D → D → Option D) (i : Nat) (f : EF) : SF := fun ρ δ => match ρ[i]? with
  | some (.va x) => sE f (fun d ρ δ => match g x d with
    | some z => .ok .nx (ρ.set i (.va z)) δ
    | none => .bad) ρ δ
  | _ => .bad
theorem ss_aug (i : Nat) {x : Str} {e : Expr} {op : Operator} {f : EF} {g : D → D → Option D} {pos' : Pos} (ho : OpD X (inplaceOp op) g) (hN : X.N.Nodup) (hi : X.N[i]? = some x) (hx : Loc X.env.scope x) (he : SE X e f) (hf : X.fn x = true ∨ X.env.scope.names.lookup x = some .local := by first | exact .inl rfl | exact .inr rfl | assumption) :
    SS X (.AugAssign (.Name x pos') op e pos) (sAug g i f) where
  run := fun {pd H0 Oc O ρ δ σ H D} F h => by
    obtain ⟨r, h1, h2⟩ := ho
    refine wS_of (ps_aug hN hi hx pe_w (show PIp X op r from h1) hf) ?_
    unfold sAug at h
    split at h
    · rename_i x hx'
      have hl : i < ρ.length := (List.getElem?_eq_some_iff.mp hx').1
      obtain ⟨v, q1, q2⟩ := F.va i x hx'
      refine ⟨v, q1, sE_run he F h fun d δ1 w H1 _ gr F1 rr h' => ?_⟩
      cases q : g x d with
      | none => rw [q] at h'; exact h'.elim
      | some z =>
        rw [q] at h'
        refine h2 pd O H1 v w x d z _ q F1.pdn (q2.same (hid_le gr)) rr fun u H2 s2 r2 => ?_
        have F2 := F1.next (Grow.of s2) (s2 _ _ F1.dice)
        exact h' _ _ _ (F2.set hl r2) (Vw.of (Grow.of s2))
    · exact h.elim
theorem oi_add : OpD X (inplaceOp .Add) (intD fun i j => some (.int (i + j))) := od_int0 iop_add fun i j z h K pd H => by cases h; exact .int _
theorem oi_sub : OpD X (inplaceOp .Sub) (intD fun i j => some (.int (i - j))) := od_int0 iop_sub fun i j z h K pd H => by cases h; exact .int _
/-- x, y = a, b -/
def sPar (i j : Nat) (fa : AF) : SF := fun ρ δ => match fa ρ δ with
  | .ok [d, e] δ1 => if i < ρ.length ∧ j < ρ.length then .ok .nx ((ρ.set i (.va d)).set j (.va e)) δ1 else .bad
  | .er x δ1 => .er x ρ δ1
  | _ => .bad
theorem ss_par (i j : Nat) {x y : Str} {a b : Expr} {fa : AF} {px py pt : Pos} {kt k2 pt2} (hc : X.calm = true) (hN : X.N.Nodup) (hi : X.N[i]? = some x) (hj : X.N[j]? = some y) (hij : i ≠ j)
    (hx : X.env.scope.names.lookup x = some .local) (hy : X.env.scope.names.lookup y = some .local) (ha : SA X [a, b] fa)
    (hw : swappedStores [.Tuple [.Name x px, .Name y py] kt pt] (.Tuple [a, b] k2 pt2) X.env = pure (some [x, y]))
    (hs : swapsWithSole [.Tuple [.Name x px, .Name y py] kt pt] (.Tuple [a, b] k2 pt2) pos.line X.env = pure false := by rfl) :
    SS X (.Assign [.Tuple [.Name x px, .Name y py] kt pt] (.Tuple [a, b] k2 pt2) pos) (sPar i j fa) where
  run := fun {pd H0 Oc O ρ δ σ H D} F h => by
    refine wS_of (ps_par hc hN hi hj hij hx hy pa_w hw hs) ?_
    unfold sPar at h
    split at h
    · rename_i d e δ1 q
      refine ha.ok F q _ fun vs H1 g d1 r => ?_
      cases r with
      | @cons v _ _ _ r1 r2 =>
        cases r2 with
        | @cons w _ _ _ r2 r3 =>
          cases r3
          refine ⟨v, w, rfl, ?_⟩
          by_cases c : i < ρ.length ∧ j < ρ.length
          · rw [if_pos c] at h
            exact h _ _ _ (((F.next g d1).set c.1 r1).set (by rw [List.length_set]; exact c.2) r2) (Vw.of g)
          · rw [if_neg c] at h; exact h.elim
    · rename_i x' δ1 q
      obtain ⟨W, tk, h⟩ := h
      exact ha.er F q W _ tk fun cls od H' g d1 r => h O σ H' cls od (F.next g d1) (Vw.of g) r
    · exact h.elim
/-- x, y = a, b, the first a new list of its own, by way of a tuple -/
def sParO (i j : Nat) (f : NF) (g : EF) : SF := fun ρ δ => match f ρ δ with
  | .ok ys δ1 => (match g ρ δ1 with
    | .ok d δ2 => if i < ρ.length ∧ j < ρ.length ∧ i ≠ j then .ok .nx ((ρ.set i (.ow ys)).set j (.va d)) δ2 else .bad
    | .er x δ2 => .er x ρ δ2
    | .bad => .bad)
  | .er x δ1 => .er x ρ δ1
  | .bad => .bad
theorem FR.setO {K : PySem.W.Frag} {pd : Addr} {H0 : Hp} {Oc O : List Addr} {ρ : Ev} {δ : Di} {σ : Sg} {H : Hp} (F : FR K pd H0 Oc O ρ δ σ H) : FR K pd H0 Oc O ρ δ σ H := F
/-- what a new list, then a further value, leaves -/
theorem parO_run {a b : Expr} {f : NF} {g : EF} (ha : SN X a f) (hb : SE X b g) {pd H0 Oc O ρ δ σ H D i j} (F : FR X.K pd H0 Oc O ρ δ σ H) (h : OP X pd H0 Oc O H D (sParO i j f g ρ δ)) {Q : V → V → Hp → Prop}
    (hq : ∀ T v H2, (∃ ρ' δ', FR X.K pd H0 Oc (T :: O) ρ' δ' ((σ.set i (some (.ref T))).set j (some v)) H2 ∧ OP X pd H0 Oc (T :: O) H2 D (.ok .nx ρ' δ')) → Q (.ref T) v H2) : wE X a σ H fun v H1 => wE X b σ H1 fun w H2 => Q v w H2 := by
  unfold sParO at h
  cases q : f ρ δ with
  | bad => rw [q] at h; exact h.elim
  | er x δ1 =>
    rw [q] at h
    obtain ⟨W, tk, h⟩ := h
    exact ha.er F q W _ tk fun cls od H' g d1 r => h O σ H' cls od (F.next g d1) (Vw.of g) r
  | ok ys δ1 =>
    rw [q] at h
    dsimp only at h
    refine ha.ok F q _ fun T ws H1 n g1 d1 hT r1 => ?_
    have F1 := F.next g1 d1
    cases q2 : g ρ δ1 with
    | bad => rw [q2] at h; exact h.elim
    | er x δ2 =>
      rw [q2] at h
      obtain ⟨W, tk, h⟩ := h
      exact hb.er F1 q2 W _ tk fun cls od H' g d2 r => h O σ H' cls od (F1.next g d2) (Vw.of (g1.trans g)) r
    | ok d δ2 =>
      rw [q2] at h
      by_cases c : i < ρ.length ∧ j < ρ.length ∧ i ≠ j
      · have h : OP X pd H0 Oc O H D (if i < ρ.length ∧ j < ρ.length ∧ i ≠ j then .ok .nx ((ρ.set i (.ow ys)).set j (.va d)) δ2 else .bad) := h
        rw [if_pos c] at h
        -- the new list is hidden while b is reckoned: T is one more hidden place
        have FT : FR X.K pd H0 Oc (T :: O) ρ δ1 σ H1 := by
          have w := F.comp [] n (by rw [hT]; exact fun z => by cases z) g1 d1
          exact w
        refine hb.ok FT q2 _ fun v H2 g2 d2 r2 => ?_
        have nT : T ≠ pd := fun e => F.new_not n (by rw [e]; exact List.mem_cons_self)
        refine hq T v H2 ⟨_, δ2, ?_, h.next (Vw.hide n (g1.trans g2))⟩
        have FO := F.own (i := i) c.1 n (g1.trans g2) d2 (g2 _ _ nT hT) (r1.same (hid_le g2))
        exact FO.set (by rw [List.length_set]; exact c.2.1) r2
      · have h : OP X pd H0 Oc O H D (if i < ρ.length ∧ j < ρ.length ∧ i ≠ j then .ok .nx ((ρ.set i (.ow ys)).set j (.va d)) δ2 else .bad) := h
        rw [if_neg c] at h; exact h.elim
theorem ss_parO (i j : Nat) {x y : Str} {a b : Expr} {f : NF} {g : EF} {px py pt : Pos} {kt k2 pt2} (hc : X.calm = true) (hN : X.N.Nodup) (hi : X.N[i]? = some x) (hj : X.N[j]? = some y) (hij : i ≠ j)
    (hx : X.env.scope.names.lookup x = some .local) (hy : X.env.scope.names.lookup y = some .local) (ha : SN X a f) (hb : SE X b g)
    (hw : swappedStores [.Tuple [.Name x px, .Name y py] kt pt] (.Tuple [a, b] k2 pt2) X.env = pure (some [x, y]))
    (hs : swapsWithSole [.Tuple [.Name x px, .Name y py] kt pt] (.Tuple [a, b] k2 pt2) pos.line X.env = pure false := by rfl)
    (s1 : starEach (a :: [b]) X.env = (false, eval a X.env) :: starEach [b] X.env := by rfl) (s2 : starEach (b :: []) X.env = (false, eval b X.env) :: starEach [] X.env := by rfl) :
    SS X (.Assign [.Tuple [.Name x px, .Name y py] kt pt] (.Tuple [a, b] k2 pt2) pos) (sParO i j f g) where
  run := fun {pd H0 Oc O ρ δ σ H D} F h => by
    refine wS_of (ps_par hc hN hi hj hij hx hy (pa_cons pe_w (pa_cons pe_w pa_nil s2) s1) hw hs) (parO_run ha hb F h fun T v H2 ⟨ρ', δ', F2, h2⟩ => ⟨.ref T, v, rfl, h2 _ _ _ F2 Vw.refl⟩)
/-- the same where the names are not plain locals: a tuple is made and taken apart -/
theorem ss_parT (i j : Nat) {x y : Str} {a b : Expr} {f : NF} {g : EF} {px py pt : Pos} {kt k2 pt2} (hc : X.calm = true) (hN : X.N.Nodup) (hi : X.N[i]? = some x) (hj : X.N[j]? = some y)
    (hx : Loc X.env.scope x) (hy : Loc X.env.scope y) (ha : SN X a f) (hb : SE X b g)
    (fx : X.fn x = true ∨ X.env.scope.names.lookup x = some .local := by first | exact .inl rfl | exact .inr rfl) (fy : X.fn y = true ∨ X.env.scope.names.lookup y = some .local := by first | exact .inl rfl | exact .inr rfl)
    (hs : swapsWithSole [.Tuple [.Name x px, .Name y py] kt pt] (.Tuple [a, b] k2 pt2) pos.line X.env = pure false := by rfl) (hw : swappedStores [.Tuple [.Name x px, .Name y py] kt pt] (.Tuple [a, b] k2 pt2) X.env = pure none := by rfl)
    (h1 : (assignEach [.Tuple [.Name x px, .Name y py] kt pt] X.env).map (·.2) = [assign (.Tuple [.Name x px, .Name y py] kt pt) X.env] := by rfl)
    (n1 : (assignEach [.Name x px, .Name y py] X.env).length = 2 := by rfl) (n2 : (assignEach [.Name x px, .Name y py] X.env).findIdx? (·.1) = none := by rfl)
    (t1 : (assignEach (.Name x px :: [.Name y py]) X.env).map (·.2) = assign (.Name x px) X.env :: (assignEach [.Name y py] X.env).map (·.2) := by rfl) (t2 : (assignEach (.Name y py :: []) X.env).map (·.2) = assign (.Name y py) X.env :: (assignEach [] X.env).map (·.2) := by rfl)
    (s1 : starEach (a :: [b]) X.env = (false, eval a X.env) :: starEach [b] X.env := by rfl) (s2 : starEach (b :: []) X.env = (false, eval b X.env) :: starEach [] X.env := by rfl) :
    SS X (.Assign [.Tuple [.Name x px, .Name y py] kt pt] (.Tuple [a, b] k2 pt2) pos) (sParO i j f g) where
  run := fun {pd H0 Oc O ρ δ σ H D} F h => by
    refine wS_of (ps_asg (pe_tup (pa_cons pe_w (pa_cons pe_w pa_nil s2) s1)) (pg_tup hc (pgs_cons (pg_name (i := i) hN hi hx fx) (pgs_cons (pg_name (i := j) hN hj hy fy) pgs_nil t2) t1) n1 n2) hs hw h1) ?_
    refine parO_run (Q := fun u w H2 => [u, w].length ≤ sizeLine ∧ ∀ p, H2 p = none → gTup X.K 2 (gCons (gName i) (gCons (gName j) gNil)) (.ref p) σ (upd H2 p (.tup [u, w])) D.nx) ha hb F h fun T v H2 ⟨ρ', δ', F2, h2⟩ => ⟨by show 2 ≤ sizeLine; decide, fun p hp => ?_⟩
    exact ⟨p, [.ref T, v], rfl, .inl (.inl upd_same), rfl, .ref T, [v], rfl, v, [], rfl, rfl, h2 _ _ _ (F2.next (Grow.of (same_upd hp)) (same_upd hp _ _ F2.dice)) (Vw.of (Grow.of (same_upd hp)))⟩
end Sh
end
section
set_option maxHeartbeats 2000000
/-! Sh11: loops. -/
namespace Sh
open PySem PySem.Spec PyProof.Rows L2
variable {X : Cx} {pos : Pos}

def forL (g : GF) (b : SF) : List D → Ev → Di → OutS
  | [], ρ, δ => .ok .nx ρ δ
  | d :: ds, ρ, δ => match g d ρ with
    | none => .bad
    | some ρ1 => match b ρ1 δ with
      | .ok .nx ρ2 δ2 => forL g b ds ρ2 δ2
      | .ok .ct ρ2 δ2 => forL g b ds ρ2 δ2
      | .ok .bk ρ2 δ2 => .ok .nx ρ2 δ2
      | .ok (.rt r) ρ2 δ2 => .ok (.rt r) ρ2 δ2
      | .er x ρ2 δ2 => .er x ρ2 δ2
      | .bad => .bad
def sFor (it : IF) (g : GF) (b : SF) : SF := fun ρ δ => match it ρ δ with
  | .ok ds δ1 => forL g b ds ρ δ1
  | .er x δ1 => .er x ρ δ1
  | .bad => .bad
theorem ss_for {tg iter : Expr} {body : List Stmt} {vg : List Nat} {it : IF} {g : GF} {b : SF} (hc : X.calm = true) (hp : PassesOwn (model X.prog X.w) X.A X.env X.xe) (hI : SI X tg iter it) (hG : SG X tg vg g) (hB : SSs X body b)
    (hs : ∀ x, foldedSetIterable iter X.env x = pure x := by intro _; rfl) : SS X (.For tg iter body [] pos) (sFor it g b) where
  run := fun {pd H0 Oc O ρ δ σ H D} F h => by
    refine wS_of (ps_for hp hc pi_w pg_w pss_w hs) ?_
    show wI X tg iter σ H _
    unfold sFor at h
    cases q : it ρ δ with
    | bad => rw [q] at h; exact h.elim
    | er x δ1 =>
      rw [q] at h
      obtain ⟨W, tk, h⟩ := h
      exact hI.er F q W _ tk fun cls od H' g d1 r => h O σ H' cls od (F.next g d1) (Vw.of g) r
    | ok ds δ1 =>
      rw [q] at h
      dsimp only at h
      refine hI.ok F q _ fun J H1 g1 d1 src => ?_
      obtain ⟨G, Y, wk, hGG, hY⟩ := src
      refine for_it wk (g := wG X tg) (tb := fun D σ H => wSs X body σ H D) (D := D) (fun i σ2 H2 => ∃ (O2 : List Addr) (ρ2 : Ev) (δ2 : Di), FR X.K pd H0 Oc O2 ρ2 δ2 σ2 H2 ∧ Vw pd O H1 O2 H2 ∧ OP X pd H0 Oc O2 H2 D (forL g b (ds.drop i) ρ2 δ2))
        ⟨O, ρ, δ1, F.next g1 d1, Vw.refl, by rw [List.drop_zero]; exact h.next (Vw.of g1)⟩ (fun i σ2 H2 hi ⟨O2, ρ2, δ2, k1, k2, k3⟩ => hGG O2 H2 k2) ?_ ?_
      · intro i x σ2 H2 H3 hi ⟨O2, ρ2, δ2, k1, k2, k3⟩ hy
        obtain ⟨di, hdi⟩ : ∃ di, ds[i]? = some di := ⟨_, List.getElem?_eq_getElem hi⟩
        rw [drop_at hdi] at k3
        unfold forL at k3
        cases hg : g di ρ2 with
        | none => rw [hg] at k3; exact k3.elim
        | some ρ3 =>
          rw [hg] at k3
          dsimp only at k3
          obtain ⟨s3, r3⟩ := hY i di O2 H2 x H3 hdi k2 k1.pdn hy
          have F3 := k1.next (Grow.of s3) (s3 _ _ k1.dice)
          have v3 : Vw pd O2 H2 O2 H3 := Vw.of (Grow.of s3)
          refine hG.ok F3 r3 hg _ fun σ4 F4 _ => ?_
          refine hB.run F4 ?_
          have k3 := k3.next v3
          cases hb : b ρ3 δ2 with
          | bad => rw [hb] at k3; exact k3.elim
          | er x' ρ5 δ5 => rw [hb] at k3; exact k3
          | ok fl ρ5 δ5 =>
            rw [hb] at k3
            cases fl with
            | nx => exact fun O5 σ5 H5 F5 v5 => ⟨O5, ρ5, δ5, F5, k2.trans (v3.trans v5), k3.next v5⟩
            | ct => exact fun O5 σ5 H5 F5 v5 => ⟨O5, ρ5, δ5, F5, k2.trans (v3.trans v5), k3.next v5⟩
            | bk => exact fun O5 σ5 H5 F5 v5 => k3 O5 σ5 H5 F5 v5
            | rt r => exact fun O5 σ5 H5 F5 v5 => k3 O5 σ5 H5 F5 v5
      · intro σ2 H2 ⟨O2, ρ2, δ2, k1, k2, k3⟩
        rw [List.drop_of_length_le (Nat.le_refl _)] at k3
        exact k3 _ _ _ k1 Vw.refl

def whL (t : TF) (b : SF) : Nat → Ev → Di → OutS
  | 0, _, _ => .bad
  | n + 1, ρ, δ => match t ρ δ with
    | .ok false δ1 => .ok .nx ρ δ1
    | .ok true δ1 => (match b ρ δ1 with
      | .ok .nx ρ2 δ2 => whL t b n ρ2 δ2
      | .ok .ct ρ2 δ2 => whL t b n ρ2 δ2
      | .ok .bk ρ2 δ2 => .ok .nx ρ2 δ2
      | .ok (.rt r) ρ2 δ2 => .ok (.rt r) ρ2 δ2
      | .er x ρ2 δ2 => .er x ρ2 δ2
      | .bad => .bad)
    | .er x δ1 => .er x ρ δ1
    | .bad => .bad
theorem ss_while (n : Nat) {c : Expr} {body : List Stmt} {t : TF} {b : SF} (hp : PassesOwn (model X.prog X.w) X.A X.env X.xe) (hc : ST X c t) (hB : SSs X body b) : SS X (.While c body [] pos) (whL t b n) where
  run := fun {pd H0 Oc O ρ δ σ H D} F h => by
    refine wS_of (ps_while hp pt_w pss_w) ?_
    refine ⟨fun m σ2 H2 => ∃ (O2 : List Addr) (ρ2 : Ev) (δ2 : Di), FR X.K pd H0 Oc O2 ρ2 δ2 σ2 H2 ∧ OP X pd H0 Oc O2 H2 D (whL t b m ρ2 δ2), ⟨n, O, ρ, δ, F, h⟩, ?_⟩
    intro m σ2 H2 ⟨O2, ρ2, δ2, k1, k3⟩
    cases m with
    | zero => exact k3.elim
    | succ m =>
      unfold whL at k3
      cases q : t ρ2 δ2 with
      | bad => rw [q] at k3; exact k3.elim
      | er x δ3 =>
        rw [q] at k3
        obtain ⟨W, tk, h⟩ := k3
        exact hc.er k1 q W _ tk fun cls od H' g d1 r => h O2 σ2 H' cls od (k1.next g d1) (Vw.of g) r
      | ok bb δ3 =>
        rw [q] at k3
        refine hc.ok k1 q _ fun H3 g3 d3 => ?_
        have k3 := k3.next (Vw.of g3)
        cases bb with
        | false => rw [if_neg Bool.false_ne_true]; exact k3 _ _ _ (k1.next g3 d3) Vw.refl
        | true =>
          rw [if_pos rfl]
          dsimp only at k3
          refine ⟨fun σ4 H4 => ∃ (O4 : List Addr) (ρ4 : Ev) (δ4 : Di), FR X.K pd H0 Oc O4 ρ4 δ4 σ4 H4 ∧ OP X pd H0 Oc O4 H4 D (whL t b m ρ4 δ4), fun σ4 H4 z => ⟨m, Nat.lt_succ_self _, z⟩, ?_⟩
          refine hB.run (k1.next g3 d3) ?_
          cases hb : b ρ2 δ3 with
          | bad => rw [hb] at k3; exact k3.elim
          | er x' ρ5 δ5 => rw [hb] at k3; exact k3
          | ok fl ρ5 δ5 =>
            rw [hb] at k3
            cases fl with
            | nx => exact fun O5 σ5 H5 F5 v5 => ⟨O5, ρ5, δ5, F5, k3.next v5⟩
            | ct => exact fun O5 σ5 H5 F5 v5 => ⟨O5, ρ5, δ5, F5, k3.next v5⟩
            | bk => exact fun O5 σ5 H5 F5 v5 => k3 O5 σ5 H5 F5 v5
            | rt r => exact fun O5 σ5 H5 F5 v5 => k3 O5 σ5 H5 F5 v5
end Sh
end
section
set_option maxHeartbeats 2000000
/-! Sh12: defs by their bodies; dice; starred items; int, abs, min. -/
namespace Sh
open PySem PySem.Spec PyProof.Rows L2
variable {X : Cx} {pos : Pos}

/-! ### a def by its body -/
def startE (n : Nat) (ds : List D) : Ev := ds.map .va ++ List.replicate (n - ds.length) .em
def runF (n : Nat) (b : SF) : List D → Di → Out D := fun ds δ => match b (startE n ds) δ with
  | .ok (.rt d) _ δ' => .ok d δ'
  | .ok .nx _ δ' => .ok .non δ'
  | .er x _ δ' => .er x δ'
  | _ => .bad
theorem startE_get {n i : Nat} {ds : List D} {d : D} (h : (startE n ds)[i]? = some (.va d)) : ds[i]? = some d := by
  unfold startE at h
  by_cases c : i < ds.length
  · rw [List.getElem?_append_left (by rw [List.length_map]; exact c), List.getElem?_map] at h
    cases q : ds[i]? with
    | none => rw [q] at h; cases h
    | some e => rw [q] at h; cases h; rfl
  · rw [List.getElem?_append_right (by rw [List.length_map]; omega), List.getElem?_replicate] at h
    split at h <;> cases h
theorem startE_ow {n i : Nat} {ds : List D} {xs : List D} (h : (startE n ds)[i]? = some (.ow xs)) : False := by
  unfold startE at h
  by_cases c : i < ds.length
  · rw [List.getElem?_append_left (by rw [List.length_map]; exact c), List.getElem?_map] at h
    cases q : ds[i]? with
    | none => rw [q] at h; cases h
    | some e => rw [q] at h; cases h
  · rw [List.getElem?_append_right (by rw [List.length_map]; omega), List.getElem?_replicate] at h
    split at h <;> cases h
theorem start_get {N : List Str} {vs : List V} {i : Nat} {v : V} (h : vs[i]? = some v) : (L2.start N vs)[i]? = some (some v) := by
  have hi : i < vs.length := (List.getElem?_eq_some_iff.mp h).1
  unfold L2.start
  rw [List.getElem?_append_left (by rw [List.length_map]; exact hi), List.getElem?_map, h]
  rfl
/-- the frame at the entry -/
theorem FR.start {K : PySem.W.Frag} {pd : Addr} {Oc : List Addr} {δ : Di} {H : Hp} {N : List Str} {vs : List V} {ds : List D} (d : DiceAt pd δ H) (t : Taken (pd :: Oc) H) (r : Reps K pd (hid (pd :: Oc) H) vs ds) : FR K pd H Oc Oc (startE N.length ds) δ (L2.start N vs) H where
  grow := Grow.refl
  dice := d
  sub := fun a h => h
  oc0 := fun a h => t a (List.mem_cons_of_mem _ h)
  al := fun a h => t a (List.mem_cons_of_mem _ h)
  len := by
    unfold L2.start startE
    rw [List.length_append, List.length_append, List.length_map, List.length_map, List.length_replicate, List.length_replicate, r.length]
  va := fun i d h => by
    obtain ⟨v, h1, h2⟩ := r.get (startE_get h)
    exact ⟨v, start_get h1, h2⟩
  ow := fun i xs h => (startE_ow h).elim
  dis := fun i j xs ys a h => (startE_ow h).elim
section
variable {P : Program} {w : World} {K : PySem.W.Frag} {mg : Str → Option Value} {base : Heap} {x qual : Str} {params : Arguments} {body : List Stmt} {scope : Scope} {dvs : List V} {kws : List (Str × V)} {f : Addr} {fd : FuncData}
abbrev cxS (P : Program) (w : World) (K : PySem.W.Frag) (mg : Str → Option Value) (base : Heap) (N : List Str) (qual : Str) (scope : Scope) (f : Addr) (cd : Value) (A : Around) (outer : List Env) (s : Shared) (H : Hp) (E : XK) : Cx := cxOf (L2.CX P w) P w K mg base N qual scope f cd A outer s H E
theorem takesS {N : List Str} {cd : Value} {A : Around} {outer : List Env} {s : Shared} {H : Hp} {E : XK} : Takes (cxS P w K mg base N qual scope f cd A outer s H E) (fun cls d _ H => E cls d H) := takes_of rfl rfl rfl rfl
theorem passS {N : List Str} {cd : Value} {A : Around} {outer : List Env} {s : Shared} {H : Hp} {E : XK} : PassesOwn (model P w) (cxS P w K mg base N qual scope f cd A outer s H E).A (cxS P w K mg base N qual scope f cd A outer s H E).env (cxS P w K mg base N qual scope f cd A outer s H E).xe :=
  passes_of (X := cxS P w K mg base N qual scope f cd A outer s H E) rfl
theorem fnok_of {N ps : List Str} {k : Nat} {b : SF} (F : FunD K x qual params body scope dvs kws f fd) (S : FnScope N ps scope)
    (hbody : ∀ (cdv : Value) (A : Around) (outer : List Env) (s : Shared) (H : Hp) (E : XK), Room k (A.deeper (envOfC qual scope s.heap.objs.size f cdv)) → SSs (cxS P w K mg base N qual scope f cdv A outer s H E) body b) :
    FnOk P w K mg base (L2.CX P w) (k + 1) f fd ps (spF K mg ps.length (runF N.length b)) := by
  refine F.ok S (fun vs H Q E h => h.1) fun cdv A outer s H vs Q E hr h => ⟨fun D σ H' => wSs (cxS P w K mg base N qual scope f cdv A outer s H E) body σ H' D, pss_w, ?_⟩
  obtain ⟨hl, pd, Oc, ds, δ, hd, ht, hr2, hq⟩ := h
  refine (hbody cdv A outer s H E hr).run (FR.start hd ht hr2) ?_
  rcases hq with ⟨d, δ', e, q⟩ | ⟨x', δ', e, q⟩
  · unfold runF at e
    split at e
    · rename_i d2 ρ' δ2 hb
      cases e
      rw [hb]
      exact fun O' σ' H' F' _ v r => q v H' F'.grow F'.dice r
    · rename_i ρ' δ2 hb
      cases e
      rw [hb]
      exact fun O' σ' H' F' _ => q .non H' F'.grow F'.dice .non
    · cases e
    · cases e
  · unfold runF at e
    split at e
    · cases e
    · cases e
    · rename_i x2 ρ' δ2 hb
      cases e
      rw [hb]
      refine ⟨_, takesS, fun O' σ' H' cls od F' _ r => q cls od H' F'.grow F'.dice (r.same (hid_sub fun b hb => ?_))⟩
      rcases List.mem_cons.mp hb with e | e
      · rw [e]; exact List.mem_cons_self
      · exact List.mem_cons_of_mem _ (F'.sub b e)
    · cases e
theorem def_ok {N ps : List Str} {k n : Nat} {b : SF} (F : FunD K x qual params body scope dvs kws f fd) (S : FnScope N ps scope) (hm : mg x = some (.ref f)) (hB : Binds K fd ps []) (hn : n = ps.length)
    (hbody : ∀ (cdv : Value) (A : Around) (outer : List Env) (s : Shared) (H : Hp) (E : XK), Room k (A.deeper (envOfC qual scope s.heap.objs.size f cdv)) → SSs (cxS P w K mg base N qual scope f cdv A outer s H E) body b) :
    DefOk P w K mg base x (k + 1) n (runF N.length b) := ⟨f, fd, ps, hm, F.kp, hB, by rw [hn]; exact fnok_of F S hbody⟩
end

/-! ### a new list as a value -/
def eNew (f : NF) : EF := fun ρ δ => (f ρ δ).bind fun ys δ1 => .ok (.lst ys) δ1
theorem se_new {e : Expr} {f : NF} (h : SN X e f) : SE X e (eNew f) where
  ok := fun {pd H0 Oc O ρ δ σ H d δ'} F q Q hq => by
    obtain ⟨ys, δ1, q1, q2⟩ := Out.bind_ok q
    cases q2
    exact h.ok F q1 Q fun T ws H' n g d' hT r => hq _ H' g d' (rep_made (F.new_not n) hT r)
  er := fun {pd H0 Oc O ρ δ σ H x δ'} F q W Q tk hw => by
    rcases Out.bind_er q with q | ⟨ys, δ1, q1, q2⟩
    · exact h.er F q W Q tk hw
    · cases q2
/-! ### *e in a display -/
def aStar (fe : EF) (fs : AF) : AF := fun ρ δ => (fe ρ δ).bind fun d δ1 => (Out.get (seqOf d) δ1).bind fun xs δ2 => (fs ρ δ2).bind fun ds δ3 => .ok (xs ++ ds) δ3
theorem sa_star {e : Expr} {es : List Expr} {fe : EF} {fs : AF} {p : Pos} (he : SE X e fe) (hs : SA X es fs) (hst : starEach (.Starred e p :: es) X.env = (true, eval e X.env) :: starEach es X.env := by rfl) : SA X (.Starred e p :: es) (aStar fe fs) where
  ok := fun {pd H0 Oc O ρ δ σ H ds δ'} F q Q hq => by
    obtain ⟨d, δ1, q1, qa⟩ := Out.bind_ok q
    obtain ⟨xs, δ2, q2, qb⟩ := Out.bind_ok qa
    obtain ⟨q2a, q2b⟩ := Out.get_ok q2
    obtain ⟨es', δ3, q3, qc⟩ := Out.bind_ok qb
    cases qc
    rw [q2b] at q3
    refine wA_of (StX.pa_star pe_w pa_w hst) (he.ok F q1 _ fun v H1 g1 d1 r1 => ?_)
    obtain ⟨t, a, vs, e1, q5, rs⟩ := r1.sq q2a
    subst e1
    refine ⟨a, vs, rfl, ?_, hs.ok (F.next g1 d1) q3 _ fun ws H2 g2 d2 r2 => hq _ H2 (g1.trans g2) d2 ((rs.same (hid_le g2)).app r2)⟩
    cases t with
    | true => exact .inl (sqT_get q5)
    | false => exact .inr (hid_same.seq q5)
  er := fun {pd H0 Oc O ρ δ σ H x δ'} F q W Q tk hw => by
    rcases Out.bind_er q with qa | ⟨d, δ1, q1, qa⟩
    · exact wA_of (StX.pa_star pe_w pa_w hst) (he.er F qa W _ tk hw)
    · rcases Out.bind_er qa with qb | ⟨xs, δ2, q2, qb⟩
      · exact (Out.get_er qb).elim
      · obtain ⟨q2a, q2b⟩ := Out.get_ok q2
        rcases Out.bind_er qb with qc | ⟨es', δ3, q3, qc⟩
        · rw [q2b] at qc
          refine wA_of (StX.pa_star pe_w pa_w hst) (he.ok F q1 _ fun v H1 g1 d1 r1 => ?_)
          obtain ⟨t, a, vs, e1, q5, rs⟩ := r1.sq q2a
          subst e1
          refine ⟨a, vs, rfl, ?_, hs.er (F.next g1 d1) qc W _ tk (hw.next g1)⟩
          cases t with
          | true => exact .inl (sqT_get q5)
          | false => exact .inr (hid_same.seq q5)
        · cases qc

/-! ### int, abs, min -/
def intF : List D → Option D
  | [.int i] => some (.int i)
  | [.bl k] => some (.int (if k then 1 else 0))
  | _ => none
theorem bi_int : BiD X (.type "int") intF := by
  refine ⟨_, call_int1, fun pd O H vs ds z Q hg ht hr hq => ?_⟩
  cases hr with
  | nil => cases hg
  | cons h t =>
    cases t with
    | cons _ _ => cases h <;> cases hg
    | nil =>
      cases h with
      | int i => cases hg; exact .inl ⟨i, rfl, hq _ H (Same.refl H) (.int _)⟩
      | bl k => cases hg; exact .inr ⟨k, rfl, hq _ H (Same.refl H) (.int _)⟩
      | _ => cases hg
def absF : List D → Option D
  | [.int i] => some (.int (if i < 0 then -i else i))
  | _ => none
theorem bi_abs : BiD X (.builtin "abs") absF := by
  refine ⟨_, call_abs, fun pd O H vs ds z Q hg ht hr hq => ?_⟩
  cases hr with
  | nil => cases hg
  | cons h t =>
    cases t with
    | cons _ _ => cases h <;> cases hg
    | nil =>
      cases h with
      | int i => cases hg; exact ⟨i, rfl, hq _ H (Same.refl H) (.int _)⟩
      | _ => cases hg
def minF : List D → Option D
  | [.int i, .int j] => some (.int (if j < i then j else i))
  | _ => none
theorem bi_min (hc : X.calm = true) : BiD X (.builtin "min") minF := by
  refine ⟨_, call_min2 hc, fun pd O H vs ds z Q hg ht hr hq => ?_⟩
  cases hr with
  | nil => cases hg
  | cons h t =>
    cases h with
    | int i =>
      cases t with
      | nil => cases hg
      | cons h2 t2 =>
        cases h2 with
        | int j =>
          cases t2 with
          | cons _ _ => cases hg
          | nil => cases hg; exact ⟨i, j, rfl, hq _ H (Same.refl H) (.int _)⟩
        | _ => cases t2 <;> cases hg
    | _ => cases hg

/-! ### the dice -/
def diL (δ : Di) : List Int := [δ.1, δ.2.1, δ.2.2]
/-- dice[e] -/
def eDice (fd fe : EF) : EF := fun ρ δ => (fd ρ δ).bind fun d δ1 => (fe ρ δ1).bind fun k δ2 => match d, k with
  | .dice, .int i => Out.get ((atI (diL δ2) i).map D.int) δ2
  | _, _ => .bad
theorem se_dice {a b : Expr} {fa fb : EF} (ha : SE X a fa) (hb : SE X b fb) (hs : PlainIx b := by unfold PlainIx; intros; rfl) : SE X (.Subscript a b pos) (eDice fa fb) where
  ok := fun {pd H0 Oc O ρ δ σ H d δ'} F q Q hq => by
    obtain ⟨x, δ1, q1, qa⟩ := Out.bind_ok q
    obtain ⟨y, δ2, q2, qb⟩ := Out.bind_ok qa
    refine wE_of (pe_ix ix_seq pe_w pe_w hs) (ha.ok F q1 _ fun v H1 g1 d1 r1 => hb.ok (F.next g1 d1) q2 _ fun u H2 g2 d2 r2 => ?_)
    clear qa
    split at qb
    · rename_i _ _ i
      obtain ⟨q3, q4⟩ := Out.get_ok qb
      subst q4
      obtain ⟨n, h1, h2⟩ := Option.map_eq_some_iff.mp q3
      subst h2
      cases r1
      cases r2
      refine .inl ⟨pd, (diL δ').map V.int, i, .int n, rfl, rfl, .inl (.inl d2), ?_, hq _ H2 (g1.trans g2) d2 (.int n)⟩
      unfold atI at h1 ⊢
      rw [List.length_map]
      obtain ⟨j, h3, h4⟩ := Option.bind_eq_some_iff.mp h1
      rw [h3]
      show ((diL δ').map V.int)[j]? = _
      rw [List.getElem?_map, h4]
      rfl
    · cases qb
  er := fun {pd H0 Oc O ρ δ σ H x' δ'} F q W Q tk hw => by
    rcases Out.bind_er q with q | ⟨x, δ1, q1, q⟩
    · exact wE_of (pe_ix ix_seq pe_w pe_w hs) (ha.er F q W _ tk hw)
    · rcases Out.bind_er q with q | ⟨y, δ2, q2, q⟩
      · exact wE_of (pe_ix ix_seq pe_w pe_w hs) (ha.ok F q1 _ fun v H1 g1 d1 r1 => hb.er (F.next g1 d1) q W _ tk (hw.next g1))
      · split at q
        · exact (Out.get_er q).elim
        · cases q
def diSet (δ : Di) (i : Int) (n : Int) : Option Di := if i = 0 then some (n, δ.2.1, δ.2.2) else if i = 1 then some (δ.1, n, δ.2.2) else if i = 2 then some (δ.1, δ.2.1, n) else none
/-- dice[k] = e -/
def sDice (i : Nat) (fi fv : EF) : SF := sE fv fun d ρ δ => match ρ[i]? with
  | some (.va .dice) => sE fi (fun k ρ δ => match k, d with
    | .int n, .int m => match diSet δ n m with
      | some δ2 => .ok .nx ρ δ2
      | none => .bad
    | _, _ => .bad) ρ δ
  | _ => .bad
theorem FR.roll {K : PySem.W.Frag} {pd : Addr} {H0 : Hp} {Oc O : List Addr} {ρ : Ev} {δ δ' : Di} {σ : Sg} {H : Hp} {o : HO} (F : FR K pd H0 Oc O ρ δ σ H) (d : DiceAt pd δ' (upd H pd o)) : FR K pd H0 Oc O ρ δ' σ (upd H pd o) :=
  F.next (fun b o' n h => by rw [upd_ne n]; exact h) d
theorem ss_dice (i : Nat) {x : Str} {ix e : Expr} {fi fv : EF} {p1 p2 : Pos} (hi : SE X ix fi) (he : SE X e fv) (hN : X.N[i]? = some x := by rfl) (hv : Vis X.env.scope x := by first | exact Or.inl rfl | exact Or.inr (Or.inl rfl) | exact Or.inr (Or.inr rfl)) (hd : (x == ("__debug__" : Str)) = false := by decide)
    (hcd : (x == ("__classdict__" : Str)) = false := by decide)
    (ha : ∀ v, assign (.Subscript (.Name x p1) ix p2) X.env v = (do
      let ov ← holding [v] (eval (.Name x p1) X.env)
      let iv ← holding [v, ov] (eval ix X.env)
      standAt p2
      holding [v, ov, iv] (setItem ov iv v)
      release [v, ov, iv] []) := by intro _; rfl)
    (hs : swapsWithSole [.Subscript (.Name x p1) ix p2] e pos.line X.env = pure false := by rfl) (hw : swappedStores [.Subscript (.Name x p1) ix p2] e X.env = pure none := by rfl)
    (h1 : (assignEach [.Subscript (.Name x p1) ix p2] X.env).map (·.2) = [assign (.Subscript (.Name x p1) ix p2) X.env] := by rfl) : SS X (.Assign [.Subscript (.Name x p1) ix p2] e pos) (sDice i fi fv) where
  run := fun {pd H0 Oc O ρ δ σ H D} F h => by
    refine wS_of (ps_asg pe_w (pg_sub (pe_var hN hv hd hcd) pe_w set_list ha) hs hw h1) (sE_run he F h fun d δ1 v H1 _ g F1 r h' => ?_)
    split at h'
    · rename_i hx
      obtain ⟨u, e1, e2⟩ := F1.va i .dice hx
      cases e2
      refine ⟨.ref pd, e1, ?_⟩
      refine sE_run hi F1 h' fun k δ2 w H2 _ g2 F2 r2 h2 => ?_
      split at h2
      · rename_i n m _ _
        cases q : diSet δ2 n m with
        | none => rw [q] at h2; exact h2.elim
        | some δ3 =>
          rw [q] at h2
          cases r2
          cases r
          have key : ∃ j, ixN 3 n = some j ∧ ([V.int δ2.1, .int δ2.2.1, .int δ2.2.2].set j (.int m)) = [V.int δ3.1, .int δ3.2.1, .int δ3.2.2] := by
            unfold diSet at q
            by_cases c0 : n = 0
            · rw [if_pos c0] at q; cases q; subst c0; exact ⟨0, rfl, rfl⟩
            · rw [if_neg c0] at q
              by_cases c1 : n = 1
              · rw [if_pos c1] at q; cases q; subst c1; exact ⟨1, rfl, rfl⟩
              · rw [if_neg c1] at q
                by_cases c2 : n = 2
                · rw [if_pos c2] at q; cases q; subst c2; exact ⟨2, rfl, rfl⟩
                · rw [if_neg c2] at q; cases q
          obtain ⟨j, k1, k2⟩ := key
          refine ⟨pd, _, n, j, rfl, rfl, F2.dice, k1, ?_⟩
          rw [k2]
          exact h2 _ _ _ (F2.roll (by show upd H2 pd _ pd = _; rw [upd_same])) (Vw.of fun b o' nb hb => by rw [upd_ne nb]; exact hb)
      · exact h2.elim
    · exact h'.elim
end Sh
end
section
set_option maxHeartbeats 2000000
/-! Sh13: t[::-1] of a tuple, a tuple times an int, sorted(xs) of alike data. -/
namespace Sh
open PySem PySem.Spec PyProof.Rows L2
variable {X : Cx} {pos : Pos}

/-! ### t[::-1] -/
section
variable {prog : Program} {w : World} {A : Around} {E : Value → Shared → Prop} {s : Shared}
theorem applied_rev {sl : Addr} {vs : Value} {n : Nat} {Q : Int × Int × Nat → Shared → Prop} (hs : s.heap.IsSliceOf sl .none .none vs) (ps : IsPart vs (some (-1)))
    (h : Q ((n : Int) - 1, -1, n) s) : wpAny (model prog w) A (Builtin.Slice.sliceApplied (.ref sl) (pure (n : Int))) Q E s := by
  obtain ⟨os, hos, hcs, hds⟩ := id hs
  unfold Builtin.Slice.sliceApplied Builtin.Slice.sliceFields
  refine wpAny_bind (wpAny_bind (wpAny_field hos hds (x := .none) rfl (wpAny_bind (wpAny_field hos hds (x := .none) rfl (wpAny_bind (wpAny_field hos hds (x := vs) rfl (wpAny_pure ?_)))))))
  refine wpAny_bind (HT.slicePart_ ps ?_)
  show wpAny _ _ (if ((-1 : Int) == 0) = true then _ else _) _ _ s
  rw [if_neg (by decide)]
  refine wpAny_bind (slicePart_none (wpAny_bind (slicePart_none (wpAny_bind (wpAny_pure ?_)))))
  show wpAny _ _ (pure ((n : Int) - 1, (-1 : Int), Builtin.Slice.slicePlaces ((n : Int) - 1) (-1) (-1))) _ _ s
  have e : Builtin.Slice.slicePlaces ((n : Int) - 1) (-1) (-1) = n := by
    unfold Builtin.Slice.slicePlaces
    rw [if_neg (by decide)]
    split
    · rw [show (-(-1 : Int)) = 1 from rfl, Int.ediv_one]
      omega
    · omega
  rw [e]
  exact wpAny_pure h
theorem pick_rev (xs : Array Value) : ((List.range xs.size).filterMap fun (k : Nat) => xs[(((xs.size : Int) - 1) + (k : Int) * -1).toNat]?).toArray = xs.toList.reverse.toArray := by
  congr 1
  have h1 : (List.range xs.size).filterMap (fun (k : Nat) => xs[(((xs.size : Int) - 1) + (k : Int) * -1).toNat]?) = ((List.range xs.size).map fun k => xs.size - 1 - k).filterMap (xs[·]?) := by
    rw [List.filterMap_map]
    have go : ∀ (l : List Nat) (f g : Nat → Option Value), (∀ k ∈ l, f k = g k) → l.filterMap f = l.filterMap g := by
      intro l f g
      induction l with
      | nil => intro _; rfl
      | cons k l ih =>
        intro h
        rw [List.filterMap_cons, List.filterMap_cons, h k List.mem_cons_self, ih fun j hj => h j (List.mem_cons_of_mem _ hj)]
    refine go _ _ _ fun k hk => ?_
    have := List.mem_range.mp hk
    show xs[(((xs.size : Int) - 1) + (k : Int) * -1).toNat]? = xs[xs.size - 1 - k]?
    have e : (((xs.size : Int) - 1) + (k : Int) * -1).toNat = xs.size - 1 - k := by omega
    rw [e]
  rw [h1, PySem.W.krv_range, List.filterMap_reverse, PySem.W.krv_all]
theorem getItem_tuple_rev {t sl : Addr} {items : Array Value} {vs : Value} {Q : Value → Shared → Prop} (ht : IsTup s.heap t items) (hs : s.heap.IsSliceOf sl .none .none vs) (ps : IsPart vs (some (-1)))
    (h : Q (.ref s.heap.objs.size) { s with heap := s.heap.push { cls := .type "tuple", data := .seq items.toList.reverse.toArray } })
    (hsz : items.size ≤ sizeLine) : wpAny (model prog w) A (getItem (.ref t) (.ref sl)) Q E s := by
  have htake : sizeOk (.seq items.toList.reverse.toArray) := by
    show items.toList.reverse.toArray.size ≤ sizeLine
    rw [List.size_toArray, List.length_reverse, Array.length_toList]
    exact hsz
  obtain ⟨os, hos, hcs, hds⟩ := id hs
  have hTs : s.TypeIs (.ref sl) "slice" := ⟨os, hos, hcs⟩
  unfold getItem
  try with_reducible refine wpAny_holding ?_
  first | refine wpAny_bind (wpAny_pure ?_) | skip
  refine wpAny_bind (wpAny_sequenceKey ht.typeIs (by decide) ?_)
  refine wpAny_bind (wpAny_callSpecial?_slot (name := Str.ofString "__getitem__") ht.typeIs PyProof.Rows.slot_tuple_getitem
    (wpAny_call_entry PyProof.Rows.slot_tuple_getitem ht.typeIs entry_tuple_getitem ?_ (args_tuple_getitem _ _)))
  show wpAny _ _ (Builtin.Tuple.tupleItemsOf (.ref t) >>= _) _ _ s
  refine wpAny_bind (tupleItemsOf_ ht ?_)
  refine wpAny_bind (wpAny_typeOf hTs ?_)
  rw [if_pos (by decide)]
  refine wpAny_bind (applied_rev hs ps ?_)
  have hno : ¬ ((((items.size : Int) - 1) == 0 && (-1 : Int) == 1 && items.size == items.size) = true) := by
    rw [show ((-1 : Int) == 1) = false from rfl, Bool.and_false, Bool.false_and]
    exact Bool.false_ne_true
  show wpAny _ _ (if (((items.size : Int) - 1) == 0 && (-1 : Int) == 1 && items.size == items.size) = true then _ else _) _ _ s
  rw [if_neg hno, pick_rev]
  first
    | exact wpAny_bind (m := Builtin.Tuple.tupleExact _) (wpAny_newObj_type (wpAny_pure ⟨_, rfl, wpAny_pure h⟩) htake)
    | exact wpAny_bind (m := Builtin.Tuple.tupleExact _) (wpAny_newObj_type (wpAny_bind (wpAny_pure (wpAny_pure ⟨_, rfl, wpAny_pure h⟩))) htake)
    | exact wpAny_bind (wpAny_bind (m := Builtin.Tuple.tupleExact _) (wpAny_newObj_type (wpAny_pure (wpAny_pure ⟨_, rfl, wpAny_pure h⟩)) htake))
    | exact wpAny_bind (wpAny_bind (m := Builtin.Tuple.tupleExact _) (wpAny_newObj_type (wpAny_pure ⟨_, rfl, wpAny_pure h⟩) htake))
end
theorem pe_revT {e : Expr} {te : TE} {k : Nat} {p1 p2 p3 pos : Pos} (he : PE X e te) : PE X (.Subscript e (.Slice none none (some (.UnaryOp .USub (.Constant (.int 1) k p1) p2)) p3) pos)
    (fun σ H Q => te σ H fun x H1 => ∃ a xs, x = .ref a ∧ ((SqL X.K H1 a xs ∧ ∀ p, H1 p = none → Q (.ref p) (upd H1 p (.lst xs.reverse))) ∨ (SqT X.K H1 a xs ∧ ∀ p, H1 p = none → Q (.ref p) (upd H1 p (.tup xs.reverse))))) := by
  refine ⟨fun pins s σ H Q I h => ?_⟩
  refine Subscript_ (thn (he.run pins s σ H _ I h) fun v s1 ⟨x, H1, I1, r1, q1⟩ => ?_)
  obtain ⟨a, xs, ex, hq⟩ := q1
  subst ex
  cases r1
  have hst : PO X (some (.UnaryOp .USub (.Constant (.int 1) k p1) p2)) (tPart (tUn (rU fun i => .int (-i)) (tC (.int 1)))) := po_some (pe_un un_neg pe_int)
  refine wpAny_Slice (thn (po_none.run pins s1 σ H1 (fun o H2 => o = none ∧ H2 = H1) I1 ⟨rfl, rfl⟩) fun vl s2 ⟨l, H2, I2, pl, el, e2⟩ => ?_)
  subst el e2
  refine thn (po_none.run pins s2 σ H2 (fun o H3 => o = none ∧ H3 = H2) I2 ⟨rfl, rfl⟩) fun vu s3 ⟨u, H3, I3, pu, eu, e3⟩ => ?_
  subst eu e3
  refine thn (hst.run pins s3 σ H3 (fun o H4 => o = some (-1) ∧ H4 = H3) I3 ⟨1, rfl, -1, rfl, rfl, rfl⟩) fun vs s4 ⟨o, H4, I4, ps, eo, e4⟩ => ?_
  subst eo e4
  have I5 : Inv X pins σ H4 { s4 with heap := s4.heap.push { cls := .type "slice", data := .fields #[vl, vu, vs] } } := I4.kept (t' := s4.toks) fun b ob q => Heap.get?_push_of_some _ q
  show wpAny (model X.prog X.w) X.A (subscriptTail e (.Slice none none (some (.UnaryOp .USub (.Constant (.int 1) k p1) p2)) p3) (.ref a) (.ref s4.heap.objs.size)) (EP X pins σ Q) X.xe { s4 with heap := s4.heap.push { cls := .type "slice", data := .fields #[vl, vu, vs] } }
  rcases hq with ⟨hx, q⟩ | ⟨hx, q⟩
  · obtain ⟨its, r, ht, hz⟩ := I5.list hx
    have hlen := r.length
    refine tail_any (ops := [.ref a, .ref s4.heap.objs.size]) ht.isList.typeIs (PySem.slot_list_getitem.lookup) ?_ (by with_unfolding_all rfl)
    refine wpAny_getItem_list_slice ht.isList (Heap.IsSliceOf.new _ vl vu vs) pl pu ps (by decide) ?_ (by rw [List.size_toArray]; omega)
    rw [PySem.W.krv_pick]
    refine ⟨.ref _, _, I5.laid (t' := s4.toks) (o := .lst xs.reverse) (fun b ob q => Heap.get?_push_of_some _ q) (Nat.le_refl _) ?_, rfl, q _ (I5.hok.fresh (Nat.le_refl _))⟩
    exact ⟨by rw [List.length_reverse]; exact hz, _, 0, r.reverse, Heap.get?_push_size _ rfl⟩
  · obtain ⟨its, r, ht, hz⟩ := I5.tuple hx
    have hlen := r.length
    cases pl
    cases pu
    refine tail_any (ops := [.ref a, .ref s4.heap.objs.size]) ht.typeIs (PyProof.Rows.slot_tuple_getitem.lookup) ?_ (by with_unfolding_all rfl)
    refine getItem_tuple_rev ht (Heap.IsSliceOf.new _ .none .none vs) ps ?_ (by rw [List.size_toArray]; omega)
    refine ⟨.ref _, _, I5.laid (t' := s4.toks) (o := .tup xs.reverse) (fun b ob q => Heap.get?_push_of_some _ q) (Nat.le_refl _) ?_, rfl, q _ (I5.hok.fresh (Nat.le_refl _))⟩
    exact ⟨by rw [List.length_reverse]; exact hz, _, r.reverse, IsTup.new _ _⟩
def revD2 : D → Option D
  | .lst xs => some (.lst xs.reverse)
  | .tup xs => some (.tup xs.reverse)
  | _ => none
theorem se_rev2 {e : Expr} {fe : EF} {k : Nat} {p1 p2 p3 : Pos} (he : SE X e fe) : SE X (.Subscript e (.Slice none none (some (.UnaryOp .USub (.Constant (.int 1) k p1) p2)) p3) pos) (eUn revD2 fe) := by
  refine se_un (r := fun x H1 Q => ∃ a xs, x = .ref a ∧ ((SqL X.K H1 a xs ∧ ∀ p, H1 p = none → Q (.ref p) (upd H1 p (.lst xs.reverse))) ∨ (SqT X.K H1 a xs ∧ ∀ p, H1 p = none → Q (.ref p) (upd H1 p (.tup xs.reverse))))) (pe_revT pe_w) (fun pd O H v x z Q hg ht hx hq => ?_) he
  cases hx with
  | @lst a vs ds h r => cases hg; exact ⟨a, vs, rfl, .inl ⟨.inl (.inl (hid_get h)), fun p hp => hq _ _ (same_upd hp) (rep_newL ht hp r.rev)⟩⟩
  | @tup a vs ds h r => cases hg; exact ⟨a, vs, rfl, .inr ⟨sqT_get h, fun p hp => hq _ _ (same_upd hp) (rep_newT ht hp r.rev)⟩⟩
  | _ => cases hg

/-! ### sorted(xs) -/
def rSortD (K : PySem.W.Frag) : List V → Hp → VK → Prop := fun vs H Q => ∃ (a : Addr) (bs : List (V × PyData)), vs = [V.ref a] ∧ SqL K H a (bs.map (·.1)) ∧ (∀ b ∈ bs, Dp K H b.1 b.2) ∧ PySem.W.AllAlike (bs.map (·.2)) ∧ PySem.W.Sortable (bs.map (·.2)) ∧ (∀ b ∈ bs, b.2.depth ≤ 32) ∧
  ∀ p, H p = none → Q (.ref p) (upd H p (.lst ((bs.mergeSort (PySem.W.dataLe false (·.2))).map (·.1))))
theorem each_vals {β : Type} {f : β → V} : ∀ {us : List Value} {bs : List β}, PySem.W.EachIs (fun u b => RelV (f b) u) us bs → Vals (bs.map f) us
  | _, _, .nil => .nil
  | _, _, .cons a t => .cons a (each_vals t)
theorem vals_each {β : Type} {f : β → V} {R : Value → β → Prop} : ∀ {us : List Value} {bs : List β}, Vals (bs.map f) us → (∀ u b, b ∈ bs → RelV (f b) u → R u b) → PySem.W.EachIs R us bs
  | [], [], _, _ => .nil
  | u :: us, b :: bs, .cons a t, h => .cons (h u b List.mem_cons_self a) (vals_each t fun u' b' hb r => h u' b' (List.mem_cons_of_mem _ hb) r)
theorem cr_sortD (hu : X.A.units + 64 < cLine) : CallR X (.builtin "sorted") (rSortD X.K) := by
  intro pins s σ H vs us Q I r h
  obtain ⟨a, bs, rfl, hs, hd, ha, hk, hdp, q⟩ := h
  obtain ⟨its, rv, hl, hz⟩ := I.list hs
  rw [Vals.ref1 r]
  refine PySem.W.sorted_data (R := fun u b => RelV b.1 u) (enc := (·.2)) hl.isList (vals_each rv fun u b _ h => h) (vals_each rv fun u b hb h => Dp.reads I b.2 b.1 u (hd b hb) h) ha hk ?_ (fun b hb => ?_) fun out h1 h2 => ?_
  · rw [List.length_map] at hz; exact hz
  · have := hdp b hb; omega
  · obtain ⟨ep, he'⟩ := PyProof.Rows.sortedAll_at s.heap its out.toArray
    exact ⟨.ref _, _, I.laid (t' := s.toks) (o := .lst ((bs.mergeSort (PySem.W.dataLe false (·.2))).map (·.1))) (fun _ _ => PyProof.Rows.sortedAll_old) (Nat.le_succ _) ⟨by rw [List.length_map, List.length_mergeSort]; rw [List.length_map] at hz; exact hz, out, ep, each_vals h2, he'⟩, rfl, q _ (I.hok.fresh (Nat.le_succ _))⟩
def sortOk (ds : List D) : Bool := nodL ds && ds.all (fun x => ds.all fun y => PySem.W.alike x.py y.py) && ds.all (fun x => match x with
  | .tup (_ :: _) => true
  | _ => false) && ds.all (fun x => decide (x.py.depth ≤ 32))
def sortL (ds : List D) : List D := ds.mergeSort (PySem.W.dataLe false D.py)
def sortF : List D → Option D
  | [.lst ds] => if sortOk ds = true then some (.lst (sortL ds)) else none
  | _ => none
theorem reps_zip {K : PySem.W.Frag} {pd : Addr} {H : Hp} : ∀ {vs : List V} {ds : List D}, Reps K pd H vs ds → ∃ bs : List (V × D), bs.map (·.1) = vs ∧ bs.map (·.2) = ds ∧ ∀ b ∈ bs, Rep K pd H b.1 b.2
  | _, _, .nil => ⟨[], rfl, rfl, fun b hb => by cases hb⟩
  | _, _, .cons r rs => by
    obtain ⟨bs, h1, h2, h3⟩ := reps_zip rs
    refine ⟨(_, _) :: bs, by rw [List.map_cons, h1], by rw [List.map_cons, h2], fun b hb => ?_⟩
    rcases List.mem_cons.mp hb with e | e
    · rw [e]; exact r
    · exact h3 b e
theorem reps_zip' {K : PySem.W.Frag} {pd : Addr} {H : Hp} : ∀ {bs : List (V × D)}, (∀ b ∈ bs, Rep K pd H b.1 b.2) → Reps K pd H (bs.map (·.1)) (bs.map (·.2))
  | [], _ => .nil
  | b :: bs, h => .cons (h b List.mem_cons_self) (reps_zip' fun c hc => h c (List.mem_cons_of_mem _ hc))
theorem bi_sorted (hu : X.A.units + 64 < cLine) : BiD X (.builtin "sorted") sortF := by
  refine ⟨_, cr_sortD hu, fun pd O H vs ds z Q hg ht hr hq => ?_⟩
  cases hr with
  | nil => cases hg
  | cons h t =>
    cases t with
    | cons _ _ => cases h <;> cases hg
    | nil =>
      cases h with
      | @lst a ws es h r =>
        have hg : (if sortOk es = true then some (D.lst (sortL es)) else none) = some z := hg
        by_cases c : sortOk es = true
        · rw [if_pos c] at hg; cases hg
          unfold sortOk at c
          simp only [Bool.and_eq_true] at c
          obtain ⟨⟨⟨c1, c2⟩, c3⟩, c4⟩ := c
          obtain ⟨bs, h1, h2, h3⟩ := reps_zip r
          subst h1 h2
          have nod : ∀ b ∈ bs, b.2.nod = true := by
            have go : ∀ (l : List D), nodL l = true → ∀ d ∈ l, d.nod = true := by
              intro l
              induction l with
              | nil => intro _ d hd; cases hd
              | cons x l ih =>
                intro hl d hd
                have hl : (x.nod && nodL l) = true := hl
                rcases List.mem_cons.mp hd with e | e
                · rw [e]; exact (Bool.and_eq_true_iff.mp hl).1
                · exact ih (Bool.and_eq_true_iff.mp hl).2 d e
            exact fun b hb => go _ c1 b.2 (List.mem_map.mpr ⟨b, hb, rfl⟩)
          refine ⟨a, bs.map fun b => (b.1, b.2.py), rfl, .inl (.inl (by rw [List.map_map]; exact hid_get h)), fun b hb => ?_, fun d hd d' hd' => ?_, .inl fun d hd => ?_, fun b hb => ?_, fun p hp => ?_⟩
          · obtain ⟨b', hb', e⟩ := List.mem_map.mp hb
            subst e
            exact ((h3 b' hb').same hid_same).dp (nod b' hb')
          · rw [List.map_map] at hd hd'
            obtain ⟨b, hb, e⟩ := List.mem_map.mp hd
            obtain ⟨b', hb', e'⟩ := List.mem_map.mp hd'
            subst e e'
            have := List.all_eq_true.mp c2 b.2 (List.mem_map.mpr ⟨b, hb, rfl⟩)
            exact List.all_eq_true.mp this b'.2 (List.mem_map.mpr ⟨b', hb', rfl⟩)
          · rw [List.map_map] at hd
            obtain ⟨b, hb, e⟩ := List.mem_map.mp hd
            subst e
            have := List.all_eq_true.mp c3 b.2 (List.mem_map.mpr ⟨b, hb, rfl⟩)
            show ∃ x r, b.2.py = .tuple (x :: r)
            split at this
            · rename_i x r e
              rw [e]
              exact ⟨_, _, rfl⟩
            · cases this
          · obtain ⟨b', hb', e⟩ := List.mem_map.mp hb
            subst e
            exact of_decide_eq_true (List.all_eq_true.mp c4 b'.2 (List.mem_map.mpr ⟨b', hb', rfl⟩))
          · have e1 : (bs.map fun b => (b.1, b.2.py)).mergeSort (PySem.W.dataLe false (·.2)) = (bs.mergeSort (PySem.W.dataLe false fun b => b.2.py)).map fun b => (b.1, b.2.py) :=
              (List.map_mergeSort (f := fun b : V × D => (b.1, b.2.py)) (r := PySem.W.dataLe false fun b : V × D => b.2.py) (s := PySem.W.dataLe false fun b : V × PyData => b.2) fun _ _ _ _ => rfl).symm
            have e2 : sortL (bs.map (·.2)) = (bs.mergeSort (PySem.W.dataLe false fun b => b.2.py)).map (·.2) := (List.map_mergeSort (f := fun b : V × D => b.2) (r := PySem.W.dataLe false fun b : V × D => b.2.py) (s := PySem.W.dataLe false D.py) fun _ _ _ _ => rfl).symm
            rw [e1, List.map_map]
            rw [e2] at hq
            exact hq _ _ (same_upd hp) (rep_newL ht hp (reps_zip' fun b hb => h3 b ((List.mergeSort_perm _ _).mem_iff.mp hb)))
        · rw [if_neg c] at hg; cases hg
      | _ => cases hg

/-! ### a tuple times an int -/
theorem tuple_mul1 (l : Addr) (items : Array Value) (n : Nat) (dd : Option Addr) (sl : Array (Option Value)) (u : Tok) :
    Meets (Builtin.«tuple.__mul__» ⟨[.ref l, .int 1 u], []⟩) (fun _ R s => s.heap.get? l = some { cls := .type "tuple", dict := dd, data := .seq items n, slots := sl } ∧ R (.ok (.ret (Value.ref l))) s) :=
  .of_wp fun prog w A R s h => by
    obtain ⟨hp, g, d, tk, os⟩ := s
    obtain ⟨hl, h⟩ := h
    have f1 := AutoSeq1.idx_int
    have c0 : (decide ((1 : Int) < -(2 ^ 63)) || decide ((1 : Int) ≥ 2 ^ 63)) = false := by decide
    have c1 : (items.isEmpty || (1 : Int) == 1) = true := by rw [show ((1 : Int) == 1) = true from rfl, Bool.or_true]
    wp_walk using wpAny_loadPart' hl
    repeat (first
      | (refine wpAny_ite_false (decide_eq_false (by rw [c0]; exact Bool.false_ne_true)) ?_; wp_walk using wpAny_loadPart' hl)
      | (refine wpAny_ite_true (decide_eq_true c1) ?_; wp_walk using wpAny_loadPart' hl))
    exact ⟨_, rfl, h⟩
theorem tuple_mul0 (l : Addr) (items : Array Value) (n : Nat) (dd : Option Addr) (sl : Array (Option Value)) (x : Int) (u : Tok) (c0 : (decide (x < -(2 ^ 63)) || decide (x ≥ 2 ^ 63)) = false) (c1 : (items.isEmpty || x == 1) = false) (c2 : (decide (x ≤ 0) || items.isEmpty) = true) :
    Meets (Builtin.«tuple.__mul__» ⟨[.ref l, .int x u], []⟩) (fun _ R s => s.heap.get? l = some { cls := .type "tuple", dict := dd, data := .seq items n, slots := sl } ∧
      R (.ok (.ret (Value.ref s.heap.objs.size))) { s with heap := s.heap.push { cls := Value.type "tuple", data := Data.seq #[] }, toks := s.toks }) :=
  .of_wp fun prog w A R s h => by
    obtain ⟨hp, g, d, tk, os⟩ := s
    obtain ⟨hl, h⟩ := h
    have f1 := AutoSeq1.idx_int
    wp_walk using wpAny_loadPart' hl
    repeat (first
      | (refine wpAny_ite_false (decide_eq_false (by rw [c0]; exact Bool.false_ne_true)) ?_; wp_walk using wpAny_loadPart' hl)
      | (refine wpAny_ite_false (decide_eq_false (by rw [c1]; exact Bool.false_ne_true)) ?_; wp_walk using wpAny_loadPart' hl)
      | (refine wpAny_ite_true (decide_eq_true c2) ?_; wp_walk using wpAny_loadPart' hl)
      | (refine wpAny_ite_false (decide_eq_false (Nat.not_lt.mpr (Nat.zero_le _))) ?_; wp_walk using wpAny_loadPart' hl))
    exact ⟨_, rfl, h⟩
/-- a tuple with an item, times an int: once, it is itself; less, it is a new () -/
def rRepA (K : PySem.W.Frag) : R2 := fun x y H Q => ∃ l k xs, x = .ref l ∧ y = .int k ∧ SqT K H l xs ∧ xs ≠ [] ∧ -(2 ^ 63) ≤ k ∧ k ≤ 1000 ∧ xs.length ≤ 1000 ∧ (k = 1 → Q (.ref l) H) ∧ (k ≠ 1 → ∀ p, H p = none → Q (.ref p) (upd H p (.tup (List.replicate k.toNat xs).flatten)))
theorem op_repA : OpR X (binaryOp .Mult) (rRepA X.K) := by
  intro pins s σ H x y v u Q I rx ry h
  obtain ⟨l, k, xs, rfl, rfl, hT, hne, h1, h2, hz, qa, qb⟩ := h
  by_cases hk : 2 ≤ k
  · exact op_repT pins s σ H _ _ v u Q I rx ry ⟨l, k, xs, rfl, rfl, hT, hne, hk, h2, hz, qb (by omega)⟩
  · cases rx
    obtain ⟨t, rfl⟩ := ry
    obtain ⟨its, r, ⟨⟨cls, dd, data, sl⟩, ho, hc, n, hd⟩, hs⟩ := I.tuple hT
    simp only at hc hd
    subst hc hd
    have hle : its.length = xs.length := r.length.symm
    have hi : its.toArray.isEmpty = false := by
      cases its with
      | nil => exact absurd (List.eq_nil_of_length_eq_zero hle.symm) hne
      | cons a b => rfl
    by_cases k1 : k = 1
    · subst k1
      refine wpAny_binaryOp_repeat_ref (T := "tuple") (U := "int") (by decide) ⟨_, ho, rfl⟩ (fun s' => typeIs_int s' 1 t) noFill_tuple_mul F.fills_int_mul F.slot_int_rmul repeat_tuple F.slot_int_index.lookup
        (call_meets F.slot_int_rmul (typeIs_int s 1 t) F.entry_int_rmul (F.args_int_rmul_2 _ _) (int_rmul_tuple 1 t l its.toArray n dd sl)
          ⟨ho, rfl, ⟨_, ho, rfl⟩, call_meets F.slot_tuple_mul ⟨_, ho, rfl⟩ F.entry_tuple_mul (F.args_tuple_mul_2 _ _) (tuple_mul1 l its.toArray n dd sl t) ⟨ho, ?_⟩⟩)
      exact ⟨.ref l, H, I, rfl, qa rfl⟩
    · have c0 : (decide (k < -(2 ^ 63)) || decide (k ≥ 2 ^ 63)) = false := by
        rw [decide_eq_false (by omega), decide_eq_false (by omega)] <;> rfl
      have c1 : (its.toArray.isEmpty || k == 1) = false := by
        rw [hi, Bool.false_or]
        exact beq_eq_false_iff_ne.mpr k1
      have c2 : (decide (k ≤ 0) || its.toArray.isEmpty) = true := by
        rw [decide_eq_true (by omega)]; rfl
      refine wpAny_binaryOp_repeat_ref (T := "tuple") (U := "int") (by decide) ⟨_, ho, rfl⟩ (fun s' => typeIs_int s' k t) noFill_tuple_mul F.fills_int_mul F.slot_int_rmul repeat_tuple F.slot_int_index.lookup
        (call_meets F.slot_int_rmul (typeIs_int s k t) F.entry_int_rmul (F.args_int_rmul_2 _ _) (int_rmul_tuple k t l its.toArray n dd sl)
          ⟨ho, rfl, ⟨_, ho, rfl⟩, call_meets F.slot_tuple_mul ⟨_, ho, rfl⟩ F.entry_tuple_mul (F.args_tuple_mul_2 _ _) (tuple_mul0 l its.toArray n dd sl k t c0 c1 c2) ⟨ho, ?_⟩⟩)
      have e : (List.replicate k.toNat xs).flatten = [] := by
        rw [show k.toNat = 0 by omega]; rfl
      refine ⟨.ref s.heap.objs.size, _, I.laid (t' := s.toks) (o := .tup []) (fun b ob q => Heap.get?_push_of_some _ q) (Nat.le_refl _) ?_, rfl, by have := qb k1 _ (I.hok.fresh (Nat.le_refl _)); rw [e] at this; exact this⟩
      exact ⟨Nat.zero_le _, _, .nil, IsTup.new _ _⟩
def repD (x y : D) : Option D := match x, y with
  | .tup (a :: xs), .int k => if -9223372036854775808 ≤ k ∧ k ≤ 1000 ∧ (a :: xs).length ≤ 1000 then some (.tup (List.replicate k.toNat (a :: xs)).flatten) else none
  | _, _ => none
theorem od_rep : OpD X (binaryOp .Mult) repD := by
  refine ⟨_, op_repA, fun pd O H v w x y z Q hg ht hx hy hq => ?_⟩
  unfold repD at hg
  split at hg
  · rename_i a xs k
    by_cases c : -9223372036854775808 ≤ k ∧ k ≤ 1000 ∧ (a :: xs).length ≤ 1000
    · rw [if_pos c] at hg; cases hg
      cases hx with
      | @tup l vs _ h r =>
        have hne : vs ≠ [] := fun e => by have := r.length; rw [e] at this; cases this
        refine ⟨l, k, vs, rfl, hy.int_inv, sqT_get h, hne, c.1, c.2.1, by rw [r.length]; exact c.2.2, fun k1 => ?_, fun k1 p hp => hq _ _ (same_upd hp) (rep_newT ht hp (r.rep _))⟩
        subst k1
        refine hq _ H (Same.refl H) (.tup h ?_)
        have : (List.replicate (1 : Int).toNat (a :: xs)).flatten = a :: xs := by
          show (List.replicate 1 (a :: xs)).flatten = _
          simp
        rw [this]
        exact r
    · rw [if_neg c] at hg; cases hg
  · cases hg
end Sh
end
section
set_option maxHeartbeats 4000000
/-! Sh14: an own exception whose __init__ says super().__init__(text) and stores its one field. -/
namespace Sh
open PySem PySem.Spec PyProof.Rows
section
open PySem.W PySem.Calls Builtin Builtin.ObjectAttr
variable {prog : Program} {w : World} {A : Around} {B initId newId : String} {bmB : List Value}

/-- the first store of a field -/
theorem osa_first {K : Frag} {name : Str} {tk : Tok} {v : Value} {x C t0 : Addr} {hp : Heap} {g : Array GenState} {d : Drawn} {t : Nat} {os : OsState} {R : Result → Shared → Prop} (SF : StoreFacts B bmB "object.__setattr__" "object")
    (X : K.In hp) (hx : hp.get? x = some (excObj C t0 none .none)) (ho : excOver K C bmB = true) (ht : takerIn K C name = some none) (hh : hasDictIn K C = true)
    (hq : ∀ h' tk' dx, (∀ b o, b ≠ x → hp.get? b = some o → h'.get? b = some o) → hp.objs.size ≤ dx → dx ≠ x → h'.get? x = some (excObj C t0 (some dx) .none) → h'.Ns1 dx (fun y => if y = name then some v else none) → R (.ok (.ret .none)) ⟨h', g, d, tk', os⟩) :
    codeAny (model prog w) A (.call (.builtin "object.__setattr__") ⟨[.ref x, .str name tk, v], []⟩) R ⟨hp, g, d, t, os⟩ := by
  have hxs : x ≠ hp.objs.size := Nat.ne_of_lt (Heap.lt_size hx)
  refine osa_openX (od := none) SF X ⟨hx, rfl, rfl, trivial⟩ ho ht fun b => ?_
  obtain ⟨cd, hcd, hh⟩ := any_some hh
  have hcls : Looks (model prog w) hp (classData C) cd := looks_clsIn X hcd
  show wpAny _ _ (storeInOwnDict (.ref x) (.ref C) (.str name tk) name v b) _ _ _
  obtain ⟨nm, bs, mro, ns, qn, hd, sn, sb, ab, col, del⟩ := cd
  dsimp only at hh
  subst hh
  unfold storeInOwnDict ownDictForStores
  repeat (first | with_reducible refine HandSPX.store_in_new ?_ ?_ | with_reducible refine wpAny_loadPart_at hx ?_ | with_reducible refine hcls.at ?_ | wp_step)
  · exact ⟨_, #[], _, (Heap.get?_update_ne _ _ _ _ hxs.symm).trans (Heap.get?_push_at rfl rfl), rfl, fun e he => absurd he (by simp), fun _ => rfl⟩
  · intro h' tk' hn' hs
    have hx₁ : (hp.push { cls := .type "dict", data := .dict #[] }).get? x = some (excObj C t0 none .none) := Heap.get?_push_of_some _ hx
    refine hq h' tk' hp.objs.size (fun b o hb ho => ?_) (Nat.le_refl _) hxs.symm ?_ hn'
    · exact (hs.2 b (Nat.ne_of_lt (Heap.lt_size ho))).trans ((Heap.get?_update_ne _ _ _ _ hb).trans (Heap.get?_push_of_some _ ho))
    · exact (hs.2 x hxs).trans (Heap.get?_update_self _ hx₁ rfl)

/-- the built-in __init__, bound, called -/
theorem call_mw {u x C t0 : Addr} {K : Frag} {rest : List Value} {hp : Heap} {g : Array GenState} {d : Drawn} {t : Nat} {os : OsState} {E : Value → Shared → Prop} {Q : Value → Shared → Prop} (FB : ExcBaseFacts B newId initId bmB) (X : K.In hp) (q : excInitIn K C bmB newId = true)
    (hu : hp.get? u = some (kxs_mw initId x)) (he : hp.get? x = some (excObj C t0 none .none)) (hz : rest.length ≤ sizeLine)
    (h : ∀ h' t1, (∀ b o, b ≠ x → hp.get? b = some o → h'.get? b = some o) → h'.get? x = some (excObj C t1 none .none) → Q .none ⟨h', g, d, t, os⟩) :
    wpAny (model prog w) A (call (.ref u) rest) Q E ⟨hp, g, d, t, os⟩ := by
  obtain ⟨nm, N', qn, bs, bm, hdct, sn, sub, ab, col, dd, k0, k1, k2, k3, k5, hC, hT⟩ := excInit_of X q
  refine wpAny_call (codeAny_of_tree ?_)
  show wpAny _ A.in1 (callAny (.ref u) ⟨rest, []⟩) _ _ _
  simp only [callAny]
  refine wpAny_bind (wpAny_load hu ?_)
  simp only [kxs_mw, show (Value.type "method-wrapper" == Value.type "method" || Value.type "method-wrapper" == Value.type "builtin_function_or_method" || Value.type "method-wrapper" == Value.type "method-wrapper") = true by decide, if_true]
  refine KFB.if_so (by decide) ?_
  refine wpAny_bind (check_bound_init FB.toExcCallFacts hC he rfl ?_)
  refine wpAny_bind (wpAny_pure (wpAny_pure ?_))
  refine ⟨plainId_quiet FB.init.plain _, codeAny_builtin FB.initEntry ?_⟩
  exact exc_init_tree (cls := .ref C) (t0 := t0) (dv := none) (c2 := .none) (c3 := .none) (b4 := .bool false) he hz fun h' k e' t' => h h' _ k e'
end

/-- what K says of such a class at C -/
structure ExK (K : PySem.W.Frag) (prog : Program) (B newId initId : String) (bmB : List Value) (C fI cc : Addr) (p : Str) (qual : Str) (params : Arguments) (body : List Stmt) (scope : Scope) : Prop where
  q : PySem.W.excInitIn K C bmB newId = true
  hi : PySem.W.findIn K (.ref C) "__init__" = some (some (.ref fI))
  sa : PySem.W.findIn K (.ref C) "__setattr__" = some (some (.builtin "object.__setattr__"))
  tk : PySem.W.takerIn K C p = some none
  hd : PySem.W.hasDictIn K C = true
  ov : PySem.W.excOver K C bmB = true
  sp : PySem.W.ks_superIn K C C "__init__" = some (some (.builtin initId))
  sB : PySem.W.subIn K (.ref C) (.type B) = some true
  mC : PySem.W.mroIn K C (.ref C) = some true
  exC : PySem.W.subIn K (.ref C) (.type "BaseException") = some true
  tyC : PySem.W.typeIn K (.ref C) = some (.type "type")
  kC : PySem.W.keepIn K (.ref C) = true
  st : PySem.W.nsIn K PySem.cStatics "thirdparty.any" = some none
  fn : ∃ (od : Option Addr) (dV kV doc pm : Value) (an : Option Addr) (cda : Addr) (ct : Value) (osl : Array (Option Value)) (ccl : Value) (cdd : Option Addr) (vs : Array Value) (ccs : Array (Option Value)) (file : Str) (tf : Tok),
    K.lookup fI = some ⟨.type "function", od, .func (PySem.W.fnX "__init__" qual params body scope [("__class__", cc)] dV kV doc pm an (.ref cda) ct), osl⟩ ∧ PySem.W.codeIn K (.ref cda) qual = true ∧
    K.lookup cda = some ⟨ccl, cdd, .fields vs, ccs⟩ ∧ vs[2]? = some (.str file tf) ∧ ((prog.main.file : Str) == file) = true ∧ dV = .none
  cell : ∃ (cl : Value) (cld : Option Addr) (csl : Array (Option Value)), K.lookup cc = some ⟨cl, cld, .cell (some (.ref C)), csl⟩
section
open PySem.W PySem.Calls Builtin Builtin.ObjectAttr
variable {prog : Program} {w : World} {A : Around} {B initId newId : String} {bmB : List Value} {K : Frag} {C fI cc e t0 : Addr} {p slf qual : Str} {params : Arguments} {scope : Scope} {p0 p1 ap cp ep q1 q2 q3 q4 : Pos} {J : Expr}
abbrev iBody (slf p : Str) (J : Expr) (p0 p1 ap cp ep q1 q2 q3 q4 : Pos) : List Stmt := [.Expr (.Call (.Attribute (.Call (.Name "super" p0) [] [] p1) "__init__" ap) [J] [] cp) ep, .Assign [.Attribute (.Name slf q1) p q2] (.Name p q3) q4]
/-- __init__ run -/
theorem init_run {hp : Heap} {g : Array GenState} {d : Drawn} {t : Nat} {os : OsState} {u : Value} {mg mb : Str → Option Value} {R : Result → Shared → Prop} {ar : Arg} (FB : ExcBaseFacts B newId initId bmB) (KF : KxsFacts B initId) (SF : StoreFacts B bmB "object.__setattr__" "object")
    (T : ExK K prog B newId initId bmB C fI cc p qual params (iBody slf p J p0 p1 ap cp ep q1 q2 q3 q4) scope) (X : K.In hp) (hg : hp.Ns mainGlobals mg) (hmg : mg "super" = none) (hb : hp.Ns builtinsNs mb) (hmb : mb "super" = some (.type "super")) (hl : hp.NoLimit) (hroom : A.depth < recursionLimit)
    (he : hp.get? e = some (excObj C t0 none .none)) (hKe : K.lookup e = none)
    (hbind : ∀ (dV kV doc pm : Value) (an : Option Addr) (cdv ct : Value) (a b : Value), dV = .none → bindArgs (fnX "__init__" qual params (iBody slf p J p0 p1 ap cp ep q1 q2 q3 q4) scope [("__class__", cc)] dV kV doc pm an cdv ct) ⟨[a, b], []⟩ = pure [(slf, a), (p, b)])
    (har : (params.posonlyargs ++ params.args).head? = some ar) (hars : ar.arg = slf)
    (hcell : ∀ x ∈ scope.names, x.2 ≠ .cell) (lself : scope.names.lookup slf = some .local) (lp : scope.names.lookup p = some .local) (hne : slf ≠ p) (hks : scope.names.lookup ("super" : Str) = some .globalImplicit) (hkc : scope.names.lookup ("__class__" : Str) = some .free)
    (htop : (prog.main.scope.names.lookup ("super" : Str)).isSome = false)
    (hco : scope.isCoroutine = false) (hgen : scope.isGenerator = false) (hk : scope.kind = .function) (nslf : (slf == ("__debug__" : Str)) = false) (np : (p == ("__debug__" : Str)) = false)
    (hJ : ∀ (L cda : Addr) (m : Str → Option Value) (s : Shared) (Q E : Value → Shared → Prop), s.heap.Ns L m → m p = some u → (∀ b o, b ≠ e → hp.get? b = some o → s.heap.get? b = some o) → (∀ mm tk t', Q (.str mm tk) { s with toks := t' }) →
      wpAny (model prog w) (A.deeper (ksEnv qual scope L fI (.ref cda) cc)) (eval J (ksEnv qual scope L fI (.ref cda) cc)) Q E s)
    (fin : ∀ h' tk dx t1, (∀ b o, b ≠ e → hp.get? b = some o → h'.get? b = some o) → hp.objs.size ≤ dx → dx ≠ e → h'.get? e = some (excObj C t1 (some dx) .none) → h'.Ns1 dx (fun y => if y = p then some u else none) → R (.ok (.ret .none)) ⟨h', g, d, tk, os⟩)
    (hin : ∀ env : Env, env.scope = scope → interactive env = false := by intros; rfl)
    (pl : Sem Bool) (hev : ∀ env : Env, eval (.Call (.Attribute (.Call (.Name "super" p0) [] [] p1) "__init__" ap) [J] [] cp) env = (do
      let ov ← attributeBase (.Call (.Name "super" p0) [] [] p1) "__init__" env (eval (.Call (.Name "super" p0) [] [] p1) env)
      standAt ap.atName
      let (f, first) ← holding [ov] (getMethod ov "__init__" pl)
      callWith cp f first (backTo cp (starEach [J] env)) []) := by intros; rfl)
    (hst : ∀ env : Env, starEach (J :: []) env = (false, eval J env) :: starEach [] env := by intros; rfl)
    (hs1 : ∀ env : Env, swapsWith (.Call (.Attribute (.Call (.Name "super" p0) [] [] p1) "__init__" ap) [J] [] cp) none ep.line env = pure false := by intros; rfl)
    (hs2 : ∀ env : Env, swapsWith (.Name p q3) (some (.Attribute (.Name slf q1) p q2)) q4.line env = pure false := by intros; rfl) :
    codeAny (model prog w) A (.call (.ref fI) ⟨[.ref e, u], []⟩) R ⟨hp, g, d, t, os⟩ := by
  obtain ⟨od, dV, kV, doc, pm, an, cda, ct, osl, ccl, cdd, vs, ccs, file, tf, hf, hcd, hcode, hvs, hfile, rfl⟩ := T.fn
  obtain ⟨cl, cld, csl, hcc⟩ := T.cell
  have nodup : ∀ h0 : Heap, True := fun _ => trivial
  refine ks_codeAny_call_defAt (binds := [(slf, .ref e), (p, u)]) hroom (X _ _ hf) rfl hl (codeRec_of X hcd) rfl (BindsTo.of_eq (hbind _ _ _ _ _ _ _ _ _ rfl)) hcell (fun x hx => ?_) (fun h1 hns k1 => ?_) hco hgen hk
  · rcases List.mem_cons.mp hx with rfl | hx
    · exact lself
    · rcases List.mem_cons.mp hx with rfl | hx
      · exact lp
      · cases hx
  have mself : ([(slf, Value.ref e), (p, u)] : List (Str × Value)).reverse.lookup slf = some (.ref e) := by
    show List.lookup slf [(p, u), (slf, .ref e)] = _
    have : (slf == p) = false := beq_eq_false_iff_ne.mpr hne
    simp [List.lookup, this]
  have mp : ([(slf, Value.ref e), (p, u)] : List (Str × Value)).reverse.lookup p = some u := by
    show List.lookup p [(p, u), (slf, .ref e)] = _
    simp [List.lookup]
  have X1 : K.In h1 := X.keeps k1
  have he1 := k1 _ _ he
  have eL : e ≠ hp.objs.size := Nat.ne_of_lt (Heap.lt_size he)
  obtain ⟨cdC, hcC⟩ : ∃ cd, clsIn K C = some cd := by
    obtain ⟨cd, h, _⟩ := any_some T.hd
    exact ⟨cd, h⟩
  obtain ⟨oC, hC1, hC2⟩ : ∃ oC, h1.get? C = some oC ∧ oC.data = .cls cdC := by
    unfold clsIn at hcC
    split at hcC
    · rename_i c d cd' sl ho
      cases hcC
      exact ⟨_, X1 _ _ ho, rfl⟩
    · cases hcC
  show PySem.wpAt (model prog w) (A.deeper (ksEnv qual scope hp.objs.size fI (.ref cda) cc)) (.func _ (ksEnv qual scope hp.objs.size fI (.ref cda) cc)) (execs _ (ksEnv qual scope hp.objs.size fI (.ref cda) cc)) _ _ _
  refine ks_wpAt_execs_cons (ks_wpAt_Expr_any (ks_wpAt_MethodCall (pl := pl) ?_ (hev _)) (hin _ rfl) (hs1 _))
  refine ks_wpAt_super_base (env := ksEnv qual scope hp.objs.size fI (.ref cda) cc) hks hkc (by decide) rfl (X1 _ _ hf) rfl har rfl (X1 _ _ hcode) rfl hvs hfile htop ?_
  refine ks_loadName_global hk hks (loadGlobal_builtin (env := ksEnv qual scope hp.objs.size fI (.ref cda) cc) (hg.keeps k1) hmg (hb.keeps k1) hmb ⟨rfl, ?_⟩)
  refine wpAny_loadName_free hk hkc rfl ⟨_, X1 _ _ hcc, rfl⟩ ?_
  rw [hars]
  refine wpAny_loadName_local hk lself hns mself ?_
  refine ks_wpAny_isType_cls hC1 hC2 ⟨rfl, ?_⟩
  refine ks_wpAny_call_super hC1 hC2 he1 rfl (fun c z => by cases z) (looks_mroIn X1 T.mC) (fun h2 hso k2 => ?_)
  have X2 : K.In h2 := X1.keeps k2
  have he2 := k2 _ _ he1
  have I2 : InstAt h2 e (excObj C t0 none .none) C none := ⟨he2, rfl, rfl, trivial⟩
  have hsp := T.sp
  unfold ks_superIn at hsp
  rw [hcC] at hsp
  refine kxs_getMethod KF (l₀ := cdC.mro) hso (looks_opaque X2 T.st) (fun A Q E s k q => wpAny_bind ((looks_clsIn X2 hcC) A _ E s k (wpAny_pure q))) rfl X2 hsp (I2.type.andThen (looks_subIn X2 T.sB)) (ks_ne X2 I2 hcC) (by decide) ?_
  have k3 : ∀ b o, hp.get? b = some o → (h2.push (kxs_mw initId e)).get? b = some o := fun b o q => Heap.get?_push_of_some _ (k2 _ _ (k1 _ _ q))
  have X3 : K.In (h2.push (kxs_mw initId e)) := X.keeps k3
  have hns3 : (h2.push (kxs_mw initId e)).Ns hp.objs.size (fun x => ([(slf, Value.ref e), (p, u)] : List (Str × Value)).reverse.lookup x) := hns.keeps fun b o q => Heap.get?_push_of_some _ (k2 _ _ q)
  have hu3 : (h2.push (kxs_mw initId e)).get? h2.objs.size = some (kxs_mw initId e) := Heap.get?_push_size _ rfl
  have he3 := k3 _ _ he
  show wpAny _ _ (callWith cp (.ref h2.objs.size) [] (backTo cp (starEach [J] (ksEnv qual scope hp.objs.size fI (.ref cda) cc))) []) _ _ _
  rw [hst]
  have e0 : starEach [] (ksEnv qual scope hp.objs.size fI (.ref cda) cc) = [] := by first | rfl | simp [starEach]
  refine kxs_callWith (i := initId) (x := e) (by rw [e0]; rfl) (evalArgs_plain ?_)
  refine Calls.spliced_cons (hJ _ _ _ _ _ _ hns3 mp (fun b o _ q => k3 b o q) fun mm tk t' => ?_)
  rw [e0]
  refine Calls.spliced_nil ⟨hu3, ?_⟩
  refine call_mw FB X3 T.q hu3 he3 (by rw [sizeLine_eq]; show 1 ≤ _; omega) fun h4 t1 k4 he4 => ?_
  have X4 : K.In h4 := fun b o q => k4 b o (fun z => by rw [z, hKe] at q; cases q) (X3 _ _ q)
  have hns4 : h4.Ns hp.objs.size (fun x => ([(slf, Value.ref e), (p, u)] : List (Str × Value)).reverse.lookup x) := by
    obtain ⟨o, es, ep, h1, h2, h3⟩ := hns3
    exact ⟨o, es, ep, k4 _ _ eL.symm h1, h2, h3⟩
  show PySem.wpAt _ _ _ (execs [.Assign [.Attribute (.Name slf q1) p q2] (.Name p q3) q4] _) _ _ _
  refine ks_wpAt_execs_cons (wpAt_of_wpAny (plainObj_wpAny_Assign_Attribute ?_ (hs2 _)))
  refine wpAny_Name (wpAny_loadName_local hk lp hns4 mp ?_) np
  refine wpAny_Name (wpAny_loadName_local hk lself hns4 mself ?_) nslf
  refine set_plain (od := none) X4 ⟨he4, rfl, rfl, trivial⟩ T.sa (osa_first SF X4 he4 T.ov T.tk T.hd fun h5 tk dx k5 hdx dne he5 hns5 => ?_)
  refine wpAt_of_wpAny (wpAny_execs_nil ?_)
  refine fin h5 tk dx t1 (fun b o z q => k5 b o z (k4 b o z (k3 _ _ q))) (Nat.le_trans ?_ hdx) dne he5 hns5
  have z := Heap.lt_size (k4 _ _ eL.symm (show (h2.push (kxs_mw initId e)).get? hp.objs.size = some _ from (hns3.choose_spec.choose_spec.choose_spec.1)))
  exact Nat.le_of_lt z
end
end Sh
end
section
set_option maxHeartbeats 4000000
/-! Sh15: raise C(e), C a class of Sh14. -/
namespace Sh
open PySem PySem.Spec PyProof.Rows L2
variable {X : Cx} {pos : Pos}

/-! ### what a value's text is -/
/-- its repr is a text of n signs at most -/
def RpR (prog : Program) (w : World) (h : Heap) (u : Value) (n : Nat) : Prop := ∀ (A : Around) (E : Value → Shared → Prop) (s : Shared) (Q : Value → Shared → Prop), A.units + 8 < cLine → (∀ b o, h.get? b = some o → s.heap.get? b = some o) →
  (∀ (m : Str) tk t', m.length ≤ n → Q (.str m tk) { s with toks := t' }) → wpAny (model prog w) A (pyReprObj u) Q E s
theorem int_len {i : Int} (h : i.natAbs < 10 ^ 40) : (Str.ofString (toString i)).length ≤ 41 := by
  rw [PySem.ofString_length]
  exact int_text_length_le10 (by decide) h
theorem log_lt {i : Int} (h : i.natAbs < 10 ^ 40) : i.natAbs.log2 < 1920 := by
  by_cases z : i.natAbs = 0
  · rw [z]; decide
  · exact (Nat.log2_lt z).mpr (Nat.lt_trans h (by decide +kernel))
theorem rpR_int {prog : Program} {w : World} {h : Heap} {i : Int} {t : Tok} (hi : i.natAbs < 10 ^ 40) : RpR prog w h (.int i t) 41 := fun A E s Q _ _ hq => pyReprObj_int (log_lt hi) (hq _ _ _ (int_len hi))
/-- a flat datum's text -/
def flTxt : D → Option Str
  | .non => some "None"
  | .bl b => some (if b then "True" else "False")
  | .int i => if i.natAbs < 10 ^ 40 then some (Str.ofString (toString i)) else none
  | .str z => if z.length ≤ 1000 ∧ (reprText z).length ≤ 5000 then some (reprText z) else none
  | _ => none
theorem flTxt_is {prog : Program} {w : World} {K : PySem.W.Frag} {pd : Addr} {H : Hp} {v : V} {u : Value} {d : D} {z : Str} (r : Rep K pd H v d) (ru : L2.RelV v u) (h : flTxt d = some z) : ReprIs prog w u z ∧ z.length ≤ 5000 := by
  cases r with
  | non => cases h; cases ru; exact ⟨ReprIs.none, by decide +kernel⟩
  | bl b => cases h; cases ru; exact ⟨ReprIs.bool b, by cases b <;> decide +kernel⟩
  | int i =>
    obtain ⟨t, rfl⟩ := ru
    have h : (if i.natAbs < 10 ^ 40 then some (Str.ofString (toString i)) else none) = some z := h
    by_cases c : i.natAbs < 10 ^ 40
    · rw [if_pos c] at h; cases h
      exact ⟨ReprIs.int t (log_lt c), by have := int_len c; omega⟩
    · rw [if_neg c] at h; cases h
  | str y =>
    obtain ⟨t, rfl⟩ := ru
    have h : (if y.length ≤ 1000 ∧ (reprText y).length ≤ 5000 then some (reprText y) else none) = some z := h
    by_cases c : y.length ≤ 1000 ∧ (reprText y).length ≤ 5000
    · rw [if_pos c] at h; cases h
      exact ⟨ReprIs.str y t (by have := c.2; rw [sizeLine_eq]; omega), c.2⟩
    · rw [if_neg c] at h; cases h
  | _ => cases h
def flTxts : List D → Option (List Str)
  | [] => some []
  | d :: ds => match flTxt d, flTxts ds with
    | some z, some zs => some (z :: zs)
    | _, _ => none
theorem flTxts_is {prog : Program} {w : World} {K : PySem.W.Frag} {pd : Addr} {H : Hp} : ∀ {vs : List V} {ds : List D} {us : List Value} {zs : List Str}, Reps K pd H vs ds → Vals vs us → flTxts ds = some zs → ReprAll prog w us zs
  | _, _, _, _, .nil, .nil, h => by cases h; exact .nil
  | v :: vs, d :: ds, u :: us, zs, .cons r rs, .cons a as, h => by
    have h : (match flTxt d, flTxts ds with
      | some z, some zs => some (z :: zs)
      | _, _ => none) = some zs := h
    cases e1 : flTxt d with
    | none => rw [e1] at h; cases h
    | some z =>
      cases e2 : flTxts ds with
      | none => rw [e1, e2] at h; cases h
      | some ys =>
        rw [e1, e2] at h; cases h
        exact .cons (flTxt_is r a e1).1 (flTxts_is rs as e2)
/-- data that may be shown -/
def shOk : D → Bool
  | .tup ds => match flTxts ds with
    | some zs => decide ((tupleText zs).length ≤ 100000)
    | none => false
  | d => (flTxt d).isSome
theorem shOk_run {pins : List (Addr × Obj)} {σ : Sg} {pd : Addr} {O : List Addr} {H : Hp} {s : Shared} {v : V} {u : Value} {d : D} (I : Inv X pins σ H s) (r : Rep X.K pd (hid (pd :: O) H) v d) (ru : L2.RelV v u) (h : shOk d = true) : RpR X.prog X.w s.heap u 100005 := by
  have flat : ∀ (d : D), (flTxt d).isSome = true → ∀ v u, Rep X.K pd (hid (pd :: O) H) v d → L2.RelV v u → RpR X.prog X.w s.heap u 100005 := by
    intro d hd v u r ru A E s' Q hu k hq
    cases r with
    | non => cases ru; exact pyReprObj_none (hq _ _ _ (by decide +kernel))
    | bl b => cases ru; exact pyReprObj_bool (hq _ _ _ (by cases b <;> decide +kernel))
    | int i =>
      obtain ⟨t, rfl⟩ := ru
      by_cases c : i.natAbs < 10 ^ 40
      · exact pyReprObj_int (log_lt c) (hq _ _ _ (by have := int_len c; omega))
      · have hd : (if i.natAbs < 10 ^ 40 then some (Str.ofString (toString i)) else none).isSome = true := hd
        rw [if_neg c] at hd; cases hd
    | str y =>
      obtain ⟨t, rfl⟩ := ru
      by_cases c : y.length ≤ 1000 ∧ (reprText y).length ≤ 5000
      · exact pyReprObj_str (hq _ _ _ (by omega)) (by rw [sizeLine_eq]; omega)
      · have hd : (if y.length ≤ 1000 ∧ (reprText y).length ≤ 5000 then some (reprText y) else none).isSome = true := hd
        rw [if_neg c] at hd; cases hd
    | _ => cases hd
  cases d with
  | tup ds =>
    cases r with
    | @tup a vs _ q rs =>
      have h : (match flTxts ds with
        | some zs => decide ((tupleText zs).length ≤ 100000)
        | none => false) = true := h
      cases e : flTxts ds with
      | none => rw [e] at h; cases h
      | some zs =>
        rw [e] at h
        have h := of_decide_eq_true h
        cases ru
        obtain ⟨its, rv, ⟨o, ho, hc, n, hd⟩, hz⟩ := I.tuple (sqT_get q)
        intro A E s' Q hu k hq
        refine wpAny_pyReprObj_slot (by omega) ⟨o, k _ _ ho, hc⟩ F.slot_tuple_repr ?_
        exact fmt_tuple_repr (k _ _ ho) hc hd (flTxts_is rs rv e) (by rw [sizeLine_eq]; omega) fun m u tk hm => ⟨m, u, rfl, hq m u tk (by omega)⟩
  | non => exact flat .non h v u r ru
  | bl b => exact flat (.bl b) h v u r ru
  | int i => exact flat (.int i) h v u r ru
  | str z => exact flat (.str z) h v u r ru
  | lst ds => exact Bool.noConfusion (show false = true from h)
  | dice => exact Bool.noConfusion (show false = true from h)
  | exn _ _ _ _ => exact Bool.noConfusion (show false = true from h)
  | raw _ => exact Bool.noConfusion (show false = true from h)

/-! ### f'..{p!r}' and f'{p!r}..' -/
section
variable {prog : Program} {w : World} {A : Around}
theorem fmtR_run {env : Env} {p : Str} {pos pp : Pos} {L : Addr} {m : Str → Option Value} {s : Shared} {u : Value} {h : Heap} {n : Nat} {Q E : Value → Shared → Prop} (hk : env.scope.kind = .function) (hl : env.kindOf p = some .local) (hL : env.locals = L) (np : (p == ("__debug__" : Str)) = false)
    (hns : s.heap.Ns L m) (hm : m p = some u) (hr : RpR prog w h u n) (hn : n ≤ sizeLine) (hu : A.units + 8 < cLine) (k : ∀ b o, h.get? b = some o → s.heap.get? b = some o) (hq : ∀ (mm : Str) tk t', mm.length ≤ n → Q (.str mm tk) { s with toks := t' }) :
    wpAny (model prog w) A (eval (.FormattedValue (.Name p pos) 114 none pp) env) Q E s := by
  subst hL
  refine wpAny_FormattedValue_repr (wpAny_Name (wpAny_loadName_local hk hl hns hm ?_) np)
  exact hr _ _ _ _ hu k fun mm tk t' hl => wpAny_formatField_str (hq mm _ _ hl) (hq mm _ _ hl) (Nat.le_trans hl hn)
theorem jR_run {env : Env} {p : Str} {c : Str} {k : Nat} {cp pos pp jp : Pos} {L : Addr} {m : Str → Option Value} {s : Shared} {u : Value} {h : Heap} {n : Nat} {Q E : Value → Shared → Prop} (hk : env.scope.kind = .function) (hl : env.kindOf p = some .local) (hL : env.locals = L) (np : (p == ("__debug__" : Str)) = false)
    (hns : s.heap.Ns L m) (hm : m p = some u) (hr : RpR prog w h u n) (hn : c.length + n ≤ sizeLine) (hu : A.units + 8 < cLine) (kk : ∀ b o, h.get? b = some o → s.heap.get? b = some o) (hq : ∀ (mm : Str) tk t', Q (.str mm tk) { s with toks := t' }) :
    wpAny (model prog w) A (eval (.JoinedStr [.Constant (.str c) k cp, .FormattedValue (.Name p pos) 114 none pp] jp) env) Q E s := by
  refine wpAny_JoinedStr ?_
  have e0 : evalEach [.Constant (.str c) k cp, .FormattedValue (.Name p pos) 114 none pp] env = [eval (.Constant (.str c) k cp) env, eval (.FormattedValue (.Name p pos) 114 none pp) env] := by first | rfl | simp [evalEach]
  rw [e0]
  have l0 : (Str.empty ++ c).length = c.length := by rw [Str.length_append]; show 0 + _ = _; omega
  refine wpAny_Constant_str ⟨c, _, rfl, by rw [l0]; omega, ?_⟩
  refine fmtR_run (s := { s with toks := s.toks + 1 }) hk hl hL np hns hm hr (by omega) hu kk fun mm tk t' hl => ⟨mm, _, rfl, ?_, ?_⟩
  · rw [Str.length_append, l0]; omega
  · exact ⟨by rw [Str.length_append, l0]; omega, hq _ _ _⟩
theorem jR_run' {env : Env} {p : Str} {c : Str} {k : Nat} {cp pos pp jp : Pos} {L : Addr} {m : Str → Option Value} {s : Shared} {u : Value} {h : Heap} {n : Nat} {Q E : Value → Shared → Prop} (hk : env.scope.kind = .function) (hl : env.kindOf p = some .local) (hL : env.locals = L) (np : (p == ("__debug__" : Str)) = false)
    (hns : s.heap.Ns L m) (hm : m p = some u) (hr : RpR prog w h u n) (hn : n + c.length ≤ sizeLine) (hu : A.units + 8 < cLine) (kk : ∀ b o, h.get? b = some o → s.heap.get? b = some o) (hq : ∀ (mm : Str) tk t', Q (.str mm tk) { s with toks := t' }) :
    wpAny (model prog w) A (eval (.JoinedStr [.FormattedValue (.Name p pos) 114 none pp, .Constant (.str c) k cp] jp) env) Q E s := by
  refine wpAny_JoinedStr ?_
  have e0 : evalEach [.FormattedValue (.Name p pos) 114 none pp, .Constant (.str c) k cp] env = [eval (.FormattedValue (.Name p pos) 114 none pp) env, eval (.Constant (.str c) k cp) env] := by first | rfl | simp [evalEach]
  rw [e0]
  refine fmtR_run hk hl hL np hns hm hr (by omega) hu kk fun mm tk t' hl => ⟨mm, _, rfl, ?_, ?_⟩
  · rw [Str.length_append]; show 0 + _ ≤ _; omega
  · have l0 : (Str.empty ++ mm).length = mm.length := by rw [Str.length_append]; show 0 + _ = _; omega
    refine wpAny_Constant_str ⟨c, _, rfl, by rw [Str.length_append, l0]; omega, ⟨by rw [Str.length_append, l0]; omega, hq _ _ _⟩⟩
end
end Sh
end
section
set_option maxHeartbeats 4000000
/-! Sh16: raise C(e). -/
namespace Sh
open PySem PySem.Spec PyProof.Rows L2
variable {X : Cx} {pos : Pos}

/-- the class x with its field p, in the module -/
structure ExC (X : Cx) (x p : Str) : Prop where
  ex : ∃ (B newId initId : String) (bmB : List Value) (C fI cc : Addr) (slf qual : Str) (params : Arguments) (scope : Scope) (p0 p1 ap cp ep q1 q2 q3 q4 : Pos) (J : Expr) (ar : Arg) (pl : Sem Bool),
    ExcBaseFacts B newId initId bmB ∧ PySem.W.KxsFacts B initId ∧ StoreFacts B bmB "object.__setattr__" "object" ∧ ExK X.K X.prog B newId initId bmB C fI cc p qual params (iBody slf p J p0 p1 ap cp ep q1 q2 q3 q4) scope ∧ X.mg x = some (.ref C) ∧
    (∀ (dV kV doc pm : Value) (an : Option Addr) (cdv ct : Value) (a b : Value), dV = .none → bindArgs (PySem.W.fnX "__init__" qual params (iBody slf p J p0 p1 ap cp ep q1 q2 q3 q4) scope [("__class__", cc)] dV kV doc pm an cdv ct) ⟨[a, b], []⟩ = pure [(slf, a), (p, b)]) ∧
    (params.posonlyargs ++ params.args).head? = some ar ∧ ar.arg = slf ∧ (∀ x ∈ scope.names, x.2 ≠ .cell) ∧ scope.names.lookup slf = some .local ∧ scope.names.lookup p = some .local ∧ slf ≠ p ∧ scope.names.lookup ("super" : Str) = some .globalImplicit ∧ scope.names.lookup ("__class__" : Str) = some .free ∧
    (X.prog.main.scope.names.lookup ("super" : Str)).isSome = false ∧ scope.isCoroutine = false ∧ scope.isGenerator = false ∧ scope.kind = .function ∧ (slf == ("__debug__" : Str)) = false ∧ (p == ("__debug__" : Str)) = false ∧
    (∀ (A : Around) (h : Heap) (u : Value) (L cda : Addr) (m : Str → Option Value) (s : Shared) (Q E : Value → Shared → Prop), A.units + 8 < cLine → RpR X.prog X.w h u 100005 → s.heap.Ns L m → m p = some u → (∀ b o, h.get? b = some o → s.heap.get? b = some o) → (∀ mm tk t', Q (.str mm tk) { s with toks := t' }) →
      wpAny (model X.prog X.w) A (eval J (PySem.W.ksEnv qual scope L fI (.ref cda) cc)) Q E s) ∧
    (∀ env : Env, env.scope = scope → interactive env = false) ∧
    (∀ env : Env, eval (.Call (.Attribute (.Call (.Name "super" p0) [] [] p1) "__init__" ap) [J] [] cp) env = (do
      let ov ← attributeBase (.Call (.Name "super" p0) [] [] p1) "__init__" env (eval (.Call (.Name "super" p0) [] [] p1) env)
      standAt ap.atName
      let (f, first) ← holding [ov] (getMethod ov "__init__" pl)
      callWith cp f first (backTo cp (starEach [J] env)) [])) ∧
    (∀ env : Env, starEach (J :: []) env = (false, eval J env) :: starEach [] env) ∧
    (∀ env : Env, swapsWith (.Call (.Attribute (.Call (.Name "super" p0) [] [] p1) "__init__" ap) [J] [] cp) none ep.line env = pure false) ∧
    (∀ env : Env, swapsWith (.Name p q3) (some (.Attribute (.Name slf q1) p q2)) q4.line env = pure false)
/-- C(e) -/
theorem pmk_ex {x p : Str} {e : Expr} {xp : Pos} {k : Nat} (T : ExC X x p) (hr : Room (k + 1) X.A) (hg : Gl X x) (hsup : X.mg "super" = none) (hdb : (x == ("__debug__" : Str)) = false := by decide)
    (he : starEach (e :: []) X.env = (false, eval e X.env) :: starEach [] X.env := by rfl) (hpl : (backTo pos (starEach [] X.env)).any (·.1) = false := by rfl) :
    PMk X (.Call (.Name x xp) [e] [] pos) (fun σ H Q => wE X e σ H fun v H1 => (∀ pins s u, Inv X pins σ H1 s → L2.RelV v u → RpR X.prog X.w s.heap u 100005) ∧ ∀ C d, X.mg x = some C → H1 d = none → Q C (some d) (upd H1 d (.xd [(p, v)]))) := by
  obtain ⟨B, newId, initId, bmB, C, fI, cc, slf, qual, params, scope, p0, p1, ap, cp, ep, q1, q2, q3, q4, J, ar, pl, FB, KF, SF, T, hm, hbind, har, hars, hcell, lself, lp, hne, hks, hkc, htop, hco, hgen, hk, nslf, np, hJ, hin, hev, hst, hs1, hs2⟩ := T.ex
  intro pins s σ H Q I h
  obtain ⟨od0, dV0, kV0, doc0, pm0, an0, cda0, ct0, osl0, _, _, _, _, _, _, hf0, _⟩ := T.fn
  have tI : PySem.W.typeIn X.K (.ref fI) = some (.type "function") := by
    show (X.K.lookup fI).map (·.cls) = _
    rw [hf0]; rfl
  refine wpAny_Call_Name_kw (ld_glob I hg hm ?_ hdb)
  refine PySem.W.callWith_K (h₀ := X.base) I.ok.mod.kin T.kC (thn ((pa_cons (pe_w (X := X) (e := e)) pa_nil he).run pos pins s σ H (fun vs H1 => ∃ v, vs = [v] ∧ (∀ pins s u, Inv X pins σ H1 s → L2.RelV v u → RpR X.prog X.w s.heap u 100005) ∧ ∀ C d, X.mg x = some C → H1 d = none → Q C (some d) (upd H1 d (.xd [(p, v)]))) I (fun pins s I => thn (h pins s I) fun _ _ ⟨v, H1, I1, r, q⟩ => ⟨v, H1, I1, r, v, rfl, q⟩)) fun us s1 ⟨vs, H1, I1, r1, v, ev, hsh, q1'⟩ => ⟨I1.kIn, ?_⟩) he hpl
  subst ev
  obtain ⟨u, rfl, ru⟩ := vals1 r1
  show wpAny _ _ (call (.ref C) [u]) _ _ _
  have hR := hsh pins s1 u I1 ru
  obtain ⟨nm, N', qn, bs, bm, hdct, sn, sub, ab, col, dd, k0, k1, k2, k3, k5, hC, hT⟩ := PySem.W.excInit_of I1.kIn T.q
  have kbase : ∀ b o, X.base.get? b = some o → s1.heap.get? b = some o := I1.bk
  obtain ⟨mb, hmb1, hmb2⟩ := I1.ok.mod.blt
  obtain ⟨hp, g, dr, tk, os⟩ := s1
  have kk : ∀ b o, hp.get? b = some o → ((hp.push (PySem.W.kdv_tup [u])).push (PySem.PX.excO C hp.objs.size)).get? b = some o := fun b o e => Heap.get?_push_of_some _ (Heap.get?_push_of_some _ e)
  have hget : ((hp.push (PySem.W.kdv_tup [u])).push (PySem.PX.excO C hp.objs.size)).get? (hp.objs.size + 1) = some (PySem.PX.excO C hp.objs.size) := by heap_get
  have hKe : X.K.lookup (hp.objs.size + 1) = none := by
    cases z : X.K.lookup (hp.objs.size + 1) with
    | none => rfl
    | some o => exact absurd (Heap.lt_size (I1.kIn _ _ z)) (by show ¬ (hp.objs.size + 1 < hp.objs.size); omega)
  have hr' := hr.make C [u] []
  refine wpAny_call (PySem.PX.call_own FB hT hC (PySem.W.looks_findIn I1.kIn T.hi) (fun self => PySem.W.bind_fn I1.kIn self tI) (by rw [sizeLine_eq]; show 1 ≤ _; omega)
    (init_run FB KF SF T (I1.kIn.keeps kk) ((I1.ok.mod.glob.keeps kbase).keeps kk) hsup ((hmb1.keeps kbase).keeps kk) ((hmb2 _ (by decide)).trans PyProof.Rows.Boot.«super») ((I1.ok.mod.nolimit.keeps kbase).keeps kk) hr'.depth hget hKe hbind har hars hcell lself lp hne hks hkc htop hco hgen hk nslf np
      (fun L cda m s' Q' E' hns hmp kp hq => hJ _ hp u L cda m s' Q' E' (by have := hr'.un; show (X.A.under _).units + 3 + 8 < _; omega) hR hns hmp (fun b o z => kp b o (fun y => absurd (Heap.lt_size z) (by rw [y]; show ¬ (hp.objs.size + 1 < hp.objs.size); omega)) (kk _ _ z)) hq)
      (fun h' tk' dx t1 k' hdx dne he' hns' => ?_) hin pl hev hst hs1 hs2))
  refine ⟨rfl, ?_⟩
  have hsz : ((hp.push (PySem.W.kdv_tup [u])).push (PySem.PX.excO C hp.objs.size)).objs.size = hp.objs.size + 2 := by rw [Heap.size_push, Heap.size_push]
  obtain ⟨G, g1', g2'⟩ := restrict h' fun b => decide (b ≠ hp.objs.size + 1)
  have gk : ∀ b, b ≠ hp.objs.size + 1 → G.get? b = h'.get? b := fun b hb => g1' b (decide_eq_true hb)
  have ge : G.get? (hp.objs.size + 1) = none := g2' _ (by simp)
  have nha : ∀ {b : Addr} {o : Obj}, hp.get? b = some o → b ≠ hp.objs.size + 1 := fun {b o} z y => absurd (Heap.lt_size z) (by rw [y]; show ¬ (hp.objs.size + 1 < hp.objs.size); omega)
  have hdx' : hp.objs.size ≤ dx := by omega
  have J := I1.laid (t' := tk') (a := dx) (o := .xd [(p, v)]) (h' := G) (fun b o z => (gk b (nha z)).trans (k' b o (nha z) (kk _ _ z))) hdx'
    ⟨_, hns'.at fun o y => (gk dx dne).trans y, relO_put (fs := []) ru fun g => True.intro⟩
  have hdn : H1 dx = none := I1.hok.fresh hdx'
  refine ⟨hp.objs.size + 1, _, _, _, _, .ref C, some dx, rfl, J, fun b o z => ?_, ge, he', ⟨rfl, rfl⟩, rfl, rfl, ?_, rfl, I1.bare, raises_own T.exC T.tyC, q1' _ dx hm hdn⟩
  · by_cases hba : b = hp.objs.size + 1
    · rw [hba] at z
      rw [show ({ heap := G, gens := g, drawn := dr, toks := tk', os := os } : Shared).heap = G from rfl, ge] at z
      cases z
    · exact (gk b hba).symm.trans z
  · rw [upd_ne (Ne.symm dne)]
    exact I1.hok.fresh (Nat.le_succ _)
/-- raise C(e) -/
def sRaise (x p : Str) (fe : EF) : SF := sE fe fun d ρ δ => if shOk d = true then .er ⟨x, p, d⟩ ρ δ else .bad
theorem ss_raise {x p : Str} {e : Expr} {fe : EF} {xp cp : Pos} {k : Nat} (T : ExC X x p) (hc : X.calm = true) (hr : Room (k + 1) X.A) (hg : Gl X x) (hsup : X.mg "super" = none) (h : SE X e fe) (hdb : (x == ("__debug__" : Str)) = false := by decide)
    (he : starEach (e :: []) X.env = (false, eval e X.env) :: starEach [] X.env := by rfl) (hpl : (backTo cp (starEach [] X.env)).any (·.1) = false := by rfl) :
    SS X (.Raise (some (.Call (.Name x xp) [e] [] cp)) none pos) (sRaise x p fe) where
  run := fun {pd H0 Oc O ρ δ σ H D} F h' => by
    cases q : fe ρ δ with
    | bad =>
      unfold sRaise sE at h'
      rw [q] at h'; exact h'.elim
    | er y δ1 =>
      unfold sRaise sE at h'
      rw [q] at h'
      obtain ⟨W, tk, h'⟩ := h'
      refine wS_of (ps_raise hc tk (pmk_ex T hr hg hsup hdb he hpl)) ?_
      exact h.er F q W _ tk fun cls od H' g d1 r => h' O σ H' cls od (F.next g d1) (Vw.of g) r
    | ok d δ1 =>
      unfold sRaise sE at h'
      rw [q] at h'
      by_cases c : shOk d = true
      · have h' : OP X pd H0 Oc O H D (if shOk d = true then .er ⟨x, p, d⟩ ρ δ1 else .bad) := h'
        rw [if_pos c] at h'
        obtain ⟨W, tk, h'⟩ := h'
        refine wS_of (ps_raise hc tk (pmk_ex T hr hg hsup hdb he hpl)) ?_
        refine h.ok F q _ fun v H1 g d1 r => ⟨fun pins s u I ru => shOk_run I r ru c, fun C dx hm hn => ?_⟩
        have F1 := F.next g d1
        have nd : dx ∉ pd :: O := F1.new_not hn
        refine h' O σ _ C (some dx) (F1.next (Grow.of (same_upd hn)) (same_upd hn _ _ d1)) (Vw.of (g.trans (Grow.of (same_upd hn)))) ⟨hm, dx, v, rfl, ?_, r.same (hid_le (Grow.of (same_upd hn)))⟩
        rw [hid_of nd]
        exact upd_same
      · have h' : OP X pd H0 Oc O H D (if shOk d = true then .er ⟨x, p, d⟩ ρ δ1 else .bad) := h'
        rw [if_neg c] at h'; exact h'.elim
end Sh
end
section
set_option maxHeartbeats 4000000
/-! Sh17: try, except C as n: return e. -/
namespace Sh
open PySem PySem.Spec PyProof.Rows L2
variable {X : Cx} {pos : Pos}

theorem FR.em {K : PySem.W.Frag} {pd : Addr} {H0 : Hp} {Oc O : List Addr} {ρ : Ev} {δ : Di} {σ : Sg} {H : Hp} (F : FR K pd H0 Oc O ρ δ σ H) (i : Nat) : FR K pd H0 Oc O (ρ.set i .em) δ σ H := by
  have go : ∀ (j : Nat) (t : Sl), (ρ.set i .em)[j]? = some t → t ≠ .em → ρ[j]? = some t := fun j t h n => by
    by_cases c : i = j
    · subst c
      by_cases hl : i < ρ.length
      · rw [List.getElem?_set_self hl] at h; cases h; exact absurd rfl n
      · rw [List.getElem?_eq_none (by rw [List.length_set]; omega)] at h; cases h
    · rw [List.getElem?_set_ne c] at h; exact h
  exact ⟨F.grow, F.dice, F.sub, F.oc0, F.al, by rw [List.length_set]; exact F.len, fun j d h => F.va j d (go j _ h (fun z => by cases z)), fun j xs h => F.ow j xs (go j _ h (fun z => by cases z)),
    fun j k xs ys a h1 h2 => F.dis j k xs ys a (go j _ h1 (fun z => by cases z)) (go k _ h2 (fun z => by cases z))⟩
/-- error.f -/
def eXf (a od : Addr) (f : Str) (fe : EF) : EF := fun ρ δ => (fe ρ δ).bind fun x δ1 => match x with
  | .exn a' od' f' d => if a' = a ∧ od' = od ∧ f' = f then .ok d δ1 else .bad
  | _ => .bad
theorem se_xf {a od C : Addr} {oe : Obj} {pn : List (Addr × Obj)} {e : Expr} {fe : EF} {n : Str} (T : XfC X.K C) (hno : PySem.W.findIn X.K (.ref C) n = some none) (hz : Zc (.ref C) (some od) oe) (hf : ∃ vs, oe.data = .fields vs) (he : SE (X.suite a ((a, oe) :: pn)) e fe)
    (hb : attributeBase e n X.env (eval e X.env) = eval e X.env := by rfl) : SE (X.suite a ((a, oe) :: pn)) (.Attribute e n pos) (eXf a od n fe) where
  ok := fun {pd H0 Oc O ρ δ σ H d δ'} F q Q hq => by
    obtain ⟨x, δ1, q1, q2⟩ := Out.bind_ok q
    refine wE_of (pe_xf T hno hz hf pe_w hb) (he.ok F q1 _ fun v H1 g1 d1 r1 => ?_)
    cases r1 with
    | @exn a' od' f' w d' h r =>
      have q2 : (if a' = a ∧ od' = od ∧ f' = n then Out.ok d' δ1 else .bad) = .ok d δ' := q2
      by_cases c : a' = a ∧ od' = od ∧ f' = n
      · rw [if_pos c] at q2
        cases q2
        obtain ⟨c1, c2, c3⟩ := c
        subst c1 c2 c3
        exact ⟨rfl, rfl, od', _, w, rfl, hid_get h, by simp [List.lookup], hq w H1 g1 d1 r⟩
      · rw [if_neg c] at q2; cases q2
    | _ => cases q2
  er := fun {pd H0 Oc O ρ δ σ H y δ'} F q W Q tk hw => by
    rcases Out.bind_er q with q1 | ⟨x, δ1, q1, q2⟩
    · exact wE_of (pe_xf T hno hz hf pe_w hb) (he.er F q1 W _ tk hw)
    · cases x with
      | exn a' od' f' d' =>
        have q2 : (if a' = a ∧ od' = od ∧ f' = n then Out.ok d' δ1 else .bad) = .er y δ' := q2
        by_cases c : a' = a ∧ od' = od ∧ f' = n
        · rw [if_pos c] at q2; cases q2
        · rw [if_neg c] at q2; cases q2
      | _ => cases q2
def sTryR (x fld : Str) (i : Nat) (b : SF) (hF : D → EF) : SF := fun ρ δ => match b ρ δ with
  | .ok fl ρ' δ' => .ok fl ρ' δ'
  | .er y ρ' δ' => if y.cls = x ∧ y.fld = fld ∧ i < ρ'.length then (match hF y.arg (ρ'.set i .em) δ' with
    | .ok d δ2 => .ok (.rt d) (ρ'.set i .em) δ2
    | _ => .bad) else .bad
  | .bad => .bad
theorem ss_tryR (i : Nat) {x fld n : Str} {C : Addr} {body : List Stmt} {e : Expr} {np rp hp : Pos} {b : SF} {fe : Addr → Addr → EF} {hF : D → EF} (hs : X.stack = X.env :: X.outer) (hf : X.env.frame = some X.env.locals) (hN : X.N.Nodup) (hi : X.N[i]? = some n) (hln : X.env.kindOf n = some .local)
    (hg : Gl X x) (hm : X.mg x = some (.ref C)) (hx1 : PySem.W.exmOne X.K (.ref C) (.ref C) = some true)
    (hb : ∀ (W : WX) (pn : List (Addr × Obj)) (xe : Value → Shared → Prop), Takes (X.tr pn xe) W → PassesOwn (model X.prog X.w) X.A X.env xe → SSs (X.tr pn xe) body b)
    (he : ∀ (a od : Addr) (oe : Obj) (pn : List (Addr × Obj)), Zc (.ref C) (some od) oe → (∃ vs, oe.data = .fields vs) → SE (X.suite a ((a, oe) :: pn)) e (fe a od))
    (hv : ∀ (a od : Addr) (ρ : Ev) (δ : Di) (d : D), i < ρ.length → fe a od (ρ.set i (.va (.exn a od fld d))) δ = hF d (ρ.set i .em) δ) (hdb : (x == ("__debug__" : Str)) = false := by decide) :
    SS X (.Try body [.ExceptHandler (some (.Name x np)) (some n) [.Return (some e) rp] hp] [] [] pos) (sTryR x fld i b hF) where
  run := fun {pd H0 Oc O ρ δ σ H D} F h => by
    refine wS_of (ps_try_as (tb := fun W D σ H => ∀ (pn : List (Addr × Obj)) (xe : Value → Shared → Prop), Takes (X.tr pn xe) W → PassesOwn (model X.prog X.w) X.A X.env xe → wSs (X.tr pn xe) body σ H D)
      (ts := fun a cls d D σ H => ∀ (oe : Obj) (pn : List (Addr × Obj)), Zc cls d oe → (∃ vs, oe.data = .fields vs) → wSs (X.suite a ((a, oe) :: pn)) [.Return (some e) rp] σ H D) (Wout := fun _ _ _ _ => False)
      hs hf hN hi hln ⟨hg, hdb, .inl hm⟩ LamX.takes0 (fun W pn xe tk pw => ⟨fun pins s σ H D I z => z pn xe tk pw pins s I⟩) (fun a oe cls d pn hz hfd => ⟨fun pins s σ H D I z => z oe pn hz hfd pins s I⟩)) ?_
    intro pn xe tk pw
    refine (hb _ pn xe tk pw).run F ?_
    unfold sTryR at h
    cases q : b ρ δ with
    | bad => rw [q] at h; exact h.elim
    | ok fl ρ' δ' => rw [q] at h; exact h
    | er y ρ' δ' =>
      rw [q] at h
      dsimp only at h
      by_cases c : y.cls = x ∧ y.fld = fld ∧ i < ρ'.length
      · rw [if_pos c] at h
        obtain ⟨c1, c2, c3⟩ := c
        refine ⟨_, tk, fun O' σ' H' cls od F' v' ex => ?_⟩
        obtain ⟨e1, dd, v, e2, e3, e4⟩ := ex
        rw [c1] at e1
        have e1 := hm.symm.trans e1
        cases e1
        subst e2
        refine ⟨true, hx1, fun _ a na oe pn' hz hfd => ?_, fun z => by cases z⟩
        have c2' : y.fld = fld := c2
        rw [c2'] at e3
        have F2 : FR X.K pd H0 Oc O' (ρ'.set i (.va (.exn a dd fld y.arg))) δ' (σ'.set i (some (.ref a))) H' := F'.set c3 (.exn e3 e4)
        refine (ss_one (ss_ret (he a dd oe pn' hz hfd))).run F2 ?_
        unfold sRet sE
        rw [hv a dd ρ' δ' y.arg c3]
        cases q2 : hF y.arg (ρ'.set i .em) δ' with
        | bad => rw [q2] at h; exact h.elim
        | er z δ2 => rw [q2] at h; exact h.elim
        | ok d δ2 =>
          rw [q2] at h
          intro O'' σ'' H'' F3 v'' w rw'
          have F4 := F3.em i
          rw [List.set_set] at F4
          exact h O'' σ'' H'' F4 (v'.trans v'') w rw'
      · rw [if_neg c] at h; exact h.elim
end Sh
end
section
set_option maxHeartbeats 4000000
/-! Sh18: names for what gen.py prints. -/
namespace Sh
open PySem PySem.Spec PyProof.Rows L2
variable {X : Cx} {pos : Pos}
theorem se_globE {x : Str} {d : D} (hg : Gl X x) (h : ∃ (v : V) (u : Value), X.mg x = some u ∧ L2.RelV v u ∧ ∀ pd H, Rep X.K pd H v d) (hd : (x == ("__debug__" : Str)) = false := by decide) : SE X (.Name x pos) (eC d) := by
  obtain ⟨v, u, h1, h2, h3⟩ := h
  exact se_glob hg h1 h2 h3 hd
def nLst (fa : AF) : NF := fun ρ δ => (fa ρ δ).bind fun ds δ1 => if ds.length ≤ lim then .ok ds δ1 else .bad
theorem sn_lst' {es : List Expr} {fa : AF} (ha : SA X es fa) : SN X (.List es pos) (nLst fa) := sn_lst ha
def nMul (fa fb : EF) : NF := fun ρ δ => (fa ρ δ).bind fun x δ1 => (fb ρ δ1).bind fun y δ2 => match x, y with
    | .lst xs, .int k => if -9223372036854775808 ≤ k ∧ k < 9223372036854775808 ∧ xs.length * k.toNat ≤ lim then .ok (List.replicate k.toNat xs).flatten δ2 else .bad
    | _, _ => .bad
theorem sn_mul' {a b : Expr} {fa fb : EF} (ha : SE X a fa) (hb : SE X b fb) : SN X (.BinOp a .Mult b pos) (nMul fa fb) := sn_mul ha hb
def nList (fe : EF) : NF := fun ρ δ => (fe ρ δ).bind fun d δ1 => Out.get (seqOf d) δ1
theorem sn_list' {x : Str} {p : Pos} {e : Expr} {fe : EF} (hg : Gl X x) (hm : X.mg x = none) (hv : bootBuiltins x = some (.type "list")) (he : SE X e fe) (hn : x ≠ "__name__" := by decide) (hdb : (x == ("__debug__" : Str)) = false := by decide)
    (hs : starEach (e :: []) X.env = (false, eval e X.env) :: starEach [] X.env := by rfl) (hpl : (backTo pos (starEach [] X.env)).any (·.1) = false := by rfl) : SN X (.Call (.Name x p) [e] [] pos) (nList fe) := sn_list hg hm hv he hn hdb hs hpl
def nComp (vs : List Nat) (it : IF) (g : GF) (t : TF) (e : EF) : NF := fun ρ δ => (eComp vs it g t e ρ δ).bind fun d δ1 => match d with
      | .lst ys => .ok ys δ1
      | _ => .bad
theorem sn_comp' {scope : Scope} {tg iter elt : Expr} {ifs : List Expr} {own : List (Str × Nat)} {vg : List Nat} {it : IF} {g : GF} {t : TF} {e : EF} (hc : X.calm = true) (hN : X.N.Nodup) (ok : BlkOk X.N X.env.scope scope own) (hI : SI X tg iter it)
    (hG : ∀ s H C cl fp, SG (Bk X scope s H C cl fp) tg vg g) (hT : ∀ s H C cl fp, STs (Bk X scope s H C cl fp) ifs t) (hE : ∀ s H C cl fp, SE (Bk X scope s H C cl fp) elt e) (hv : ∀ k ∈ vg, k ∈ own.map (·.2) := by decide)
    (hs : ∀ x, foldedSetIterable iter X.env x = pure x := by intro _; rfl) : SN X (.ListComp elt [⟨tg, iter, ifs, 0⟩] scope pos) (nComp (own.map (·.2)) it g t e) := sn_comp hc hN ok hI hG hT hE hv hs
end Sh
end
section
set_option maxHeartbeats 4000000
/-! Sh19: what the makers of dice and the laws' loops have in common. -/
namespace Sh
open PySem PySem.Spec PyProof.Rows L2
variable {X : Cx} {pos : Pos}
def CPowW (i j : Int) : Prop := 0 ≤ j ∧ (Builtin.Int.intBits i : Int) * j ≤ 2 ^ 27
theorem op_powW : OpR X (binaryOp .Pow) (rI CPowW fun i j => .int (i ^ j.toNat)) := opI fun _ _ _ _ _ _ _ hc q => pow_int hc.1 hc.2 q
/-- the promise of a maker of dice: a new list of three ints -/
def spMk (K : PySem.W.Frag) : Sp := fun vs H Q _ => ∃ (a : Addr) (ns : List Int) (k : Nat), vs = [.ref a, .int k] ∧ SqL K H a (ns.map V.int) ∧ k ≤ 1000 ∧ ∀ (p : Addr) (x y : Int), H p = none → Q (.ref p) (upd H p (.lst [.int x, .int y, .int 0]))
theorem imod_lt (i : Int) {m : Int} (h : 0 < m) : -18446744073709551616 < i % m ∧ (m ≤ 18446744073709551616 → i % m < 18446744073709551616) := ⟨by have := Int.emod_nonneg i (show m ≠ 0 by omega); omega, fun h2 => by have := Int.emod_lt_of_pos i h; omega⟩
/-- the frame when the dice are made -/
theorem FR.mk0 {K : PySem.W.Frag} {pd : Addr} {δ : Di} {H : Hp} {σ : Sg} {ρ : Ev} (d : DiceAt pd δ H) (hl : σ.length = ρ.length) (h : ∀ (i : Nat) (t : Sl), ρ[i]? = some t → t = .em ∨ (∃ v, t = .va (.raw v) ∧ σ[i]? = some (some v)) ∨ (t = .va .dice ∧ σ[i]? = some (some (.ref pd))) ∨ ∃ n, t = .va (.int n) ∧ σ[i]? = some (some (.int n))) : FR K pd H [] [] ρ δ σ H where
  grow := Grow.refl
  dice := d
  sub := fun a h => h
  oc0 := fun a h => by cases h
  al := fun a h => by cases h
  len := hl
  va := fun i x hx => by
    rcases h i _ hx with e | ⟨v, e, hv⟩ | ⟨e, hv⟩ | ⟨n, e, hv⟩
    · cases e
    · cases e; exact ⟨v, hv, .raw v⟩
    · cases e; exact ⟨_, hv, .dice⟩
    · cases e; exact ⟨_, hv, .int n⟩
  ow := fun i xs hx => by
    rcases h i _ hx with e | ⟨v, e, hv⟩ | ⟨e, hv⟩ | ⟨n, e, hv⟩ <;> cases e
  dis := fun i j xs ys a hx => by
    rcases h i _ hx with e | ⟨v, e, hv⟩ | ⟨e, hv⟩ | ⟨n, e, hv⟩ <;> cases e

abbrev rInt1 : List V → Hp → VK → Prop := fun xs H Q => (∃ i, xs = [V.int i] ∧ Q (V.int i) H) ∨ ∃ k, xs = [V.bl k] ∧ Q (V.int (if k = true then 1 else 0)) H
abbrev rAbs1 : List V → Hp → VK → Prop := fun xs H Q => ∃ i, xs = [V.int i] ∧ Q (V.int (if i < 0 then -i else i)) H
abbrev rMax2 : List V → Hp → VK → Prop := fun xs H Q => ∃ i j, xs = [V.int i, V.int j] ∧ Q (V.int (if j > i then j else i)) H
abbrev rPlus : R2 := rI0 fun i j => V.int (i + j)
abbrev rMinus : R2 := rI0 fun i j => V.int (i - j)
abbrev rTimes : R2 := rI CMul fun i j => V.int (i * j)
abbrev rMod : R2 := rI (fun _ j => 0 < j) fun i j => V.int (i % j)
abbrev rPow : R2 := rI CPow fun i j => V.int (i ^ j.toNat)
abbrev rPowW : R2 := rI CPowW fun i j => V.int (i ^ j.toNat)
abbrev rLtI : R2 := rI0 fun i j => V.bl (decide (i < j))
def tMk2 : TS := tAsg (tOp rMod (tCB rInt1 (tCons (tCB rAbs1 (tCons (tVar 2) tNil)) tNil)) (tOp rPowW (tOp rPow (tC (.int 10)) (tC (.int 54))) (tC (.int 6)))) (gName 3)
def tMk3 : TS := tAsg (tOp rPlus (tOp rPlus (tOp rPlus (tOp rTimes (tOp rMod (tVar 3) (tC (.int 2305843009213693921))) (tC (.int 67))) (tOp rTimes (tC (.int 743)) (tVar 1)))
  (tOp rTimes (tC (.int 37)) (tCB rInt1 (tCons (tOp rLtI (tVar 2) (tC (.int 0))) tNil)))) (tC (.int 29))) (gName 4)
def tMk4 : TS := tRet (tLst (tCons (tCB rMax2 (tCons (tC (.int 0)) (tCons (tOp rMinus (tVar 3) (tOp rPow (tC (.int 10)) (tC (.int 16)))) tNil))) (tCons (tVar 4) (tCons (tC (.int 0)) tNil))))
def tMk1 (K : PySem.W.Frag) : TS := tAsg (tIf (tTest (tOp rLtI (tVar 1) (tCB (fun xs H Q => ∃ x n, xs = [x] ∧ LenV K x H n ∧ Q (.int n) H) (tCons (tVar 0) tNil)))) (tCB rInt1 (tCons (tOp (rIx K) (tVar 0) (tVar 1)) tNil)) (tOp rPlus (tOp rTimes (tC (.int 149)) (tVar 1)) (tC (.int 53)))) (gName 2)
def tMk (K : PySem.W.Frag) : TS := tSeq (tMk1 K) (tSeq tMk2 (tSeq tMk3 tMk4))
theorem mk_tail {Q : VK} {H : Hp} {v : V} {k : Nat} {N : Nat} (hk : k ≤ 1000) (hq : ∀ (p : Addr) (x y : Int), H p = none → Q (.ref p) (upd H p (.lst [.int x, .int y, .int 0]))) (c : Int) (D : Ends) (hD : D.rt = Q) :
    tSeq tMk2 (tSeq tMk3 tMk4) D [some v, some (.int k), some (.int c), none, none] H := by
  have h2 : ∀ (g : Int), tSeq tMk3 tMk4 D [some v, some (.int k), some (.int c), some (.int g), none] H := fun g => by
    refine ⟨_, rfl, g, 2305843009213693921, rfl, rfl, (by decide : (0 : Int) < 2305843009213693921), g % 2305843009213693921, 67, rfl, rfl, .inr ⟨by decide, by decide⟩, _, rfl, 743, k, rfl, rfl, .inl ⟨by decide, by decide⟩, _, _, rfl, rfl, _, rfl, c, 0, rfl, rfl, ?_⟩
    refine .inr ⟨_, rfl, 37, _, rfl, rfl, .inl ⟨by decide, by decide⟩, _, _, rfl, rfl, _, 29, rfl, rfl, ?_⟩
    refine ⟨_, rfl, 10, 16, rfl, rfl, ⟨by decide, by decide, by decide⟩, g, _, rfl, rfl, 0, _, rfl, _, rfl, by rw [sizeLine_eq]; show 3 ≤ _; omega, fun p hp => ?_⟩
    rw [hD]
    exact hq p _ _ hp
  refine ⟨_, rfl, c, rfl, .inl ⟨_, rfl, ?_⟩⟩
  exact ⟨10, 54, rfl, rfl, ⟨by decide, by decide, by decide⟩, _, 6, rfl, rfl, ⟨by decide, by decide +kernel⟩, _, _, rfl, rfl, (by decide +kernel : (0 : Int) < (10 ^ Int.toNat 54) ^ Int.toNat 6), h2 _⟩
theorem mk_pure {K : PySem.W.Frag} {vs : List V} {H : Hp} {Q : VK} {E : XK} (h : spMk K vs H Q E) : tMk K { nx := fun _ H' => Q .non H', rt := Q } (vs.map some ++ List.replicate (5 - vs.length) none) H := by
  obtain ⟨a, ns, k, rfl, hS, hk, hq⟩ := h
  refine ⟨.int k, rfl, .ref a, rfl, .ref a, (ns.map V.int).length, rfl, .inl ⟨_, hS, rfl⟩, k, _, rfl, rfl, _, rfl, ?_⟩
  show if decide ((k : Int) < ((ns.map V.int).length : Nat)) = true then _ else _
  by_cases c : (k : Int) < ((ns.map V.int).length : Nat)
  · rw [if_pos (decide_eq_true c)]
    have hl : k < ns.length := by rw [List.length_map] at c; omega
    refine ⟨_, rfl, _, rfl, .inl ⟨a, ns.map V.int, k, .int ns[k], rfl, rfl, hS, ?_, .inl ⟨_, rfl, ?_⟩⟩⟩
    · unfold atI ixN
      rw [if_pos (by omega), if_pos (by omega)]
      show (ns.map V.int)[(k : Int).toNat]? = _
      rw [show (k : Int).toNat = k by omega, List.getElem?_map, List.getElem?_eq_getElem hl]
      rfl
    · exact mk_tail (N := 0) hk hq _ _ rfl
  · rw [if_neg (by rw [decide_eq_false c]; exact Bool.false_ne_true)]
    refine ⟨_, rfl, 149, k, rfl, rfl, .inl ⟨by decide, by decide⟩, _, 53, rfl, rfl, ?_⟩
    exact mk_tail (N := 0) hk hq _ _ rfl

/-! ### the law's def -/
def spLaw (K : PySem.W.Frag) : Sp := fun vs H Q _ => ∃ (a : Addr) (ns : List Int), vs = [.ref a] ∧ SqL K H a (ns.map V.int) ∧ (∀ H', Q (.bl true) H')
abbrev rMin2 : List V → Hp → VK → Prop := fun xs H Q => ∃ i j, xs = [V.int i, V.int j] ∧ Q (V.int (if j < i then j else i)) H
abbrev rLen1 (K : PySem.W.Frag) : List V → Hp → VK → Prop := fun xs H Q => ∃ x n, xs = [x] ∧ LenV K x H n ∧ Q (.int n) H
def wiLaw (K : PySem.W.Frag) (m : Int) : TI := L2.iRng1 (tCons (tCB rMax2 (tCons (tC (.int 1)) (tCons (tCB rMin2 (tCons (tC (.int m)) (tCons (tCB (rLen1 K) (tCons (tVar 0) tNil)) tNil))) tNil))) tNil)
def tDiceA (K : PySem.W.Frag) : TS := tAsg (fun σ H Q => tCons (tVar 0) (tCons (tVar 1) tNil) σ H fun vs H1 => spMk K (vs ++ []) H1 Q E0) (gName 2)
def rhoL (a : Addr) (d : Sl) : Ev := [.va (.raw (.ref a)), .em, .va .dice, d]
theorem sqL_hid {K : PySem.W.Frag} {H : Hp} {a pd : Addr} {xs : List V} (h : SqL K H a xs) (hp : H pd = none) : ∀ {H' : Hp}, Same H H' → SqL K (hid [pd] H') a xs := fun {H'} e => by
  rcases h with h | h
  · left
    rcases h with h | ⟨o, h⟩
    · left
      rw [hid_of fun z => by rw [List.mem_singleton.mp z, hp] at h; cases h]
      exact e _ _ h
    · right
      refine ⟨o, ?_⟩
      rw [hid_of fun z => by rw [List.mem_singleton.mp z, hp] at h; cases h]
      exact e _ _ h
  · exact .inr h
theorem law_pure {m : Int} {B R : Stmt} {fB fR : SF} (hm : 1 ≤ m) (hm2 : m ≤ 1000) (hB : SS X B fB) (hR : SS X R fR)
    (okB : ∀ (a : Addr) (δ : Di), ∃ (d : Sl) (δ' : Di), fB (rhoL a .em) δ = .ok .nx (rhoL a d) δ')
    (okR : ∀ (a : Addr) (δ : Di), ∃ (δ' : Di), fR (rhoL a .em) δ = .ok (.rt (.bl true)) (rhoL a .em) δ')
    {vs : List V} {H : Hp} {Q : VK} {E : XK} (h : spLaw X.K vs H Q E) :
    tSeq (L2.tFor (wiLaw X.K m) (gName 1) (tSeq (tDiceA X.K) (fun D σ H => wS X B σ H D))) (fun D σ H => wS X R σ H D) { nx := fun _ H' => Q .non H', rt := Q } (vs.map some ++ List.replicate (4 - vs.length) none) H := by
  obtain ⟨a, ns, rfl, hS, hq⟩ := h
  obtain ⟨n, hn1, hn2, hn3⟩ : ∃ n : Nat, 1 ≤ n ∧ n ≤ 1000 ∧ ((n : Nat) : Int) = (if (if ((ns.map V.int).length : Int) < m then ((ns.map V.int).length : Int) else m) > 1 then (if ((ns.map V.int).length : Int) < m then ((ns.map V.int).length : Int) else m) else 1) := by
    refine ⟨(if (if ((ns.map V.int).length : Int) < m then ((ns.map V.int).length : Int) else m) > 1 then (if ((ns.map V.int).length : Int) < m then ((ns.map V.int).length : Int) else m) else 1).toNat, ?_⟩
    split <;> split <;> omega
  refine ⟨.ref a, rfl, .ref a, (ns.map V.int).length, rfl, .inl ⟨_, hS, rfl⟩, m, _, rfl, 1, _, rfl, n, ?_, by omega, by omega, ?_⟩
  · rw [hn3]
  show ∃ W : Nat → Nat → Sg → Hp → Prop, _
  rw [show ((n : Int)).toNat = n by omega]
  refine for_it (walk_range (lo := 0) (n := n)) (g := gName 1) (tb := tSeq (tDiceA X.K) (fun D σ H => wS X B σ H D)) (D := { ({ nx := fun _ H' => Q .non H', rt := Q } : Ends) with nx := fun σ H => wS X R σ H { nx := fun _ H' => Q .non H', rt := Q } })
    (fun i σ H2 => σ.length = 4 ∧ σ[0]? = some (some (.ref a)) ∧ SqL X.K H2 a (ns.map V.int) ∧ (0 < i → ∃ pd δ, DiceAt pd δ H2 ∧ σ[2]? = some (some (.ref pd)))) ⟨rfl, rfl, hS, fun z => absurd z (Nat.lt_irrefl _)⟩ (fun _ _ _ _ _ => trivial) ?_ ?_
  · rintro i x σ H1 H2 hi ⟨l1, l2, l3, _⟩ ⟨rfl, rfl⟩
    have hl1 : 1 < σ.length := by omega
    refine ⟨.ref a, by rw [List.getElem?_set_ne (by decide)]; exact l2, .int (0 + (i : Nat)), List.getElem?_set_self hl1, ?_⟩
    refine ⟨a, ns, i, by rw [Int.zero_add]; rfl, l3, by omega, fun pd x y hp => ?_⟩
    have sm : Same H2 (upd H2 pd (.lst [.int x, .int y, .int 0])) := same_upd hp
    have hd : DiceAt pd (x, y, 0) (upd H2 pd (.lst [.int x, .int y, .int 0])) := upd_same
    obtain ⟨d, δ', e⟩ := okB a (x, y, 0)
    have hl2 : ((σ.set 1 (some (.int (0 + (i : Nat))))).set 2 (some (.ref pd))).length = 4 := by rw [List.length_set, List.length_set]; exact l1
    have F : FR X.K pd (upd H2 pd (.lst [.int x, .int y, .int 0])) [] [] (rhoL a .em) (x, y, 0) ((σ.set 1 (some (.int (0 + (i : Nat))))).set 2 (some (.ref pd))) (upd H2 pd (.lst [.int x, .int y, .int 0])) := by
      refine FR.mk0 hd (by rw [hl2]; rfl) fun j t ht => ?_
      match j, ht with
      | 0, ht => cases ht; exact .inr (.inl ⟨_, rfl, by rw [List.getElem?_set_ne (by decide), List.getElem?_set_ne (by decide)]; exact l2⟩)
      | 1, ht => cases ht; exact .inl rfl
      | 2, ht => cases ht; exact .inr (.inr (.inl ⟨rfl, List.getElem?_set_self (by rw [List.length_set]; omega)⟩))
      | 3, ht => cases ht; exact .inl rfl
      | j + 4, ht => cases ht
    refine hB.run F ?_
    rw [e]
    intro O' σ' H' F' vw
    have hs := sqL_hid (pd := pd) l3 hp sm
    refine ⟨by rw [F'.len]; rfl, ?_, hid_same.seq (vw.seq hs), fun _ => ⟨pd, δ', F'.dice, ?_⟩⟩
    · obtain ⟨v, h1, h2⟩ := F'.va 0 _ rfl
      cases h2
      exact h1
    · obtain ⟨v, h1, h2⟩ := F'.va 2 _ rfl
      cases h2
      exact h1
  · rintro σ H2 ⟨l1, l2, l3, l4⟩
    obtain ⟨pd, δ, hd, l5⟩ := l4 (by omega)
    obtain ⟨δ', e⟩ := okR a δ
    have F : FR X.K pd H2 [] [] (rhoL a .em) δ σ H2 := by
      refine FR.mk0 hd (by rw [l1]; rfl) fun j t ht => ?_
      match j, ht with
      | 0, ht => cases ht; exact .inr (.inl ⟨_, rfl, l2⟩)
      | 1, ht => cases ht; exact .inl rfl
      | 2, ht => cases ht; exact .inr (.inr (.inl ⟨rfl, l5⟩))
      | 3, ht => cases ht; exact .inl rfl
      | j + 4, ht => cases ht
    refine hR.run F ?_
    rw [e]
    intro O' σ' H' F' vw v r
    cases r
    exact hq H'
end Sh
end
section
set_option maxHeartbeats 4000000
/-! K80F: the functions. Printed by gen.py. -/
namespace K80
open PySem PySem.Spec PyProof.Rows L2 Sh
def f_is_integer : List D → Di → Out D := runF 1 (
  (sRet (eAnd (eUn (isiD .int) (eVar 0)) (eUn notD (eUn (isiD .bool) (eVar 0))))))
def f_is_within : List D → Di → Out D := runF 3 (
  (sRet (eAnd (eCall 1 f_is_integer (aCons (eVar 0) aNil)) (eChain leD leD (eVar 1) (eVar 0) (eVar 2)))))
def f_power_of : List D → Di → Out D := runF 4 (
  (sSeq (sAsg (gNm 2) (eC (.int 1)))
  (sSeq (sFor (iRng1 (eVar 1)) (gNm 3)
  (sAsg (gNm 2) (eBin mulD (eVar 2) (eVar 0))))
  (sRet (eVar 2)))))
def f_inverse_of : List D → Di → Out D := runF 3 (
  (sRet (eBin idxD (eComp [2] (iRng2 (eC (.int 1)) (eVar 0)) (gNm 2) (tOf (eBin eqD (eBin modD (eBin mulD (eVar 2) (eVar 1)) (eVar 0)) (eC (.int 1)))) (eVar 2)) (eC (.int 0)))))
def f_kernel_rows : List D → Di → Out D := runF 17 (
  (sSeq (sPar 3 4 (aCons (eArg lstF aNil) (aCons (eArg lstF aNil) aNil)))
  (sSeq (sFor (iSeq (eVar 1)) (gNm 5)
  (sSeq (sAsg (gNm 6) (eArg listF (aCons (eVar 5) aNil)))
  (sSeq (sFor (iZip (eVar 3) (eVar 4)) (gTp [(gNm 7), (gNm 8)])
  (sSeq (sAsg (gNm 9) (eBin idxD (eVar 6) (eVar 7)))
  (sAsg (gNm 6) (eComp [15, 16] (iZip (eVar 6) (eVar 8)) (gTp [(gNm 15), (gNm 16)]) tYes (eBin modD (eBin subD (eVar 15) (eBin mulD (eVar 9) (eVar 16))) (eVar 0))))))
  (sSeq (sAsg (gNm 10) (eComp [7] (iRng1 (eVar 2)) (gNm 7) (tOf (eBin neD (eBin idxD (eVar 6) (eVar 7)) (eC (.int 0)))) (eVar 7)))
  (sIf (tOf (eBin neD (eVar 10) (eArg lstF aNil))) (sSeq (sAsg (gNm 11) (eCall 2 f_inverse_of (aCons (eVar 0) (aCons (eBin idxD (eVar 6) (eBin idxD (eVar 10) (eC (.int 0)))) aNil))))
  (sSeq (sAsg (gNm 6) (eComp [15] (iSeq (eVar 6)) (gNm 15) tYes (eBin modD (eBin mulD (eVar 15) (eVar 11)) (eVar 0))))
  (sSeq (sAsg (gNm 4) (eComp [8] (iSeq (eVar 4)) (gNm 8) tYes (eComp [15, 16] (iZip (eVar 8) (eVar 6)) (gTp [(gNm 15), (gNm 16)]) tYes (eBin modD (eBin subD (eVar 15) (eBin mulD (eBin idxD (eVar 8) (eBin idxD (eVar 10) (eC (.int 0)))) (eVar 16))) (eVar 0)))))
  (sPar 3 4 (aCons (eArg lstF (aStar (eVar 3) (aCons (eBin idxD (eVar 10) (eC (.int 0))) aNil))) (aCons (eArg lstF (aStar (eVar 4) (aCons (eVar 6) aNil))) aNil)))))) sNil)))))
  (sSeq (sOwn 12 (nLst aNil))
  (sSeq (sFor (iRng1 (eVar 2)) (gNm 13)
  (sIf (tOf (eBin (inD true) (eVar 13) (eVar 3))) (sSeq (sOwn 14 (nMul (eArg lstF (aCons (eC (.int 0)) aNil)) (eVar 2)))
  (sSeq (sSetI 14 (eVar 13) (eC (.int 1)))
  (sSeq (sFor (iZip (eVar 3) (eVar 4)) (gTp [(gNm 7), (gNm 8)])
  (sSetI 14 (eVar 7) (eBin modD (eBin subD (eC (.int 0)) (eBin idxD (eVar 8) (eVar 13))) (eVar 0))))
  (sAppend 12 (eThaw 14 (eArg tupleF (aCons (eVar 14) aNil))))))) sNil))
  (sFz 12 (sRet (eThaw 12 (eVar 12)))))))))
def f_is_poly : List D → Di → Out D := runF 4 (
  (sSeq (sIf (tOr (tNot (tOf (eUn (isiD .tuple) (eVar 0)))) (tNot (tOf (eArg allF (aCons (eComp [3] (iSeq (eVar 0)) (gNm 3) tYes (eAnd (eCall 1 f_is_integer (aCons (eVar 3) aNil)) (eChain leD ltD (eC (.int 0)) (eVar 3) (eVar 1)))) aNil))))) (sRet (eC (.bl false))) sNil)
  (sRet (eAnd (eOr (eBin eqD (eVar 0) (eArg tupF aNil)) (eBin neD (eBin idxD (eVar 0) (eUn negD (eC (.int 1)))) (eC (.int 0)))) (eOr (eUn (fun x => some (.bl (isN x))) (eVar 2)) (eBin leD (eArg lenF (aCons (eVar 0) aNil)) (eVar 2)))))))
def f_least_power : List D → Di → Out D := runF 3 (
  (sRet (eBin idxD (eComp [1, 2] (iEnum (eVar 0)) (gTp [(gNm 1), (gNm 2)]) (tOf (eBin neD (eVar 2) (eC (.int 0)))) (eVar 1)) (eC (.int 0)))))
def f_first_in : List D → Di → Out D := runF 2 (
  (sRet (eBin addD (eBin fdivD (eCall 1 f_least_power (aCons (eBin idxD (eVar 1) (eC (.int 0))) aNil)) (eBin subD (eVar 0) (eC (.int 1)))) (eC (.int 1)))))
def f_shares_at : List D → Di → Out D := runF 11 (
  (sSeq (sOwn 4 (nMul (eArg lstF (aCons (eC (.int 0)) aNil)) (eVar 3)))
  (sSeq (sFor (iEnum (eVar 1)) (gTp [(gNm 5), (gNm 6)])
  (sFor (iEnum (eVar 6)) (gTp [(gNm 7), (gNm 8)])
  (sSeq (sAsg (gTp [(gNm 9), (gNm 10)]) (eArg divmodF (aCons (eBin subD (eVar 2) (eVar 7)) (aCons (eCall 2 f_power_of (aCons (eVar 0) (aCons (eVar 5) aNil))) aNil))))
  (sIf (tAnd (tOf (eBin geD (eVar 2) (eVar 7))) (tAnd (tOf (eBin eqD (eVar 10) (eC (.int 0)))) (tOf (eBin ltD (eVar 9) (eVar 3))))) (sSetI 4 (eVar 9) (eThaw 4 (eBin modD (eBin addD (eBin idxD (eVar 4) (eVar 9)) (eVar 8)) (eVar 0)))) sNil))))
  (sFz 4 (sRet (eThaw 4 (eVar 4)))))))
def f_beginnings : List D → Di → Out D := runF 8 (
  (sSeq (sAsg (gNm 2) (eCall 2 f_first_in (aCons (eVar 0) (aCons (eVar 1) aNil))))
  (sSeq (sAsg (gNm 3) (eComp [5] (iRng1 (eBin addD (eCall 1 f_least_power (aCons (eBin idxD (eVar 1) (eC (.int 0))) aNil)) (eVar 2))) (gNm 5) tYes (eCall 4 f_shares_at (aCons (eVar 0) (aCons (eVar 1) (aCons (eVar 5) (aCons (eVar 2) aNil)))))))
  (sSeq (sAsg (gNm 4) (eCall 3 f_kernel_rows (aCons (eVar 0) (aCons (eComp [6] (iSeq (eVar 3)) (gNm 6) tYes (eUn revD2 (eVar 6))) (aCons (eVar 2) aNil)))))
  (sRet (eUn revD2 (eArg tupleF (aCons (eComp [7] (iSeq (eVar 4)) (gNm 7) tYes (eUn revD2 (eVar 7))) aNil))))))))
def f_value_at : List D → Di → Out D := runF 10 (
  (sSeq (sAsg (gNm 4) (eC (.int 0)))
  (sSeq (sFor (iEnum (eVar 1)) (gTp [(gNm 5), (gNm 6)])
  (sSeq (sAsg (gNm 7) (eCall 2 f_power_of (aCons (eVar 0) (aCons (eVar 5) aNil))))
  (sFor (iEnum (eVar 6)) (gTp [(gNm 8), (gNm 9)])
  (sIf (tAnd (tOf (eBin geD (eVar 3) (eVar 8))) (tAnd (tOf (eBin eqD (eBin modD (eBin subD (eVar 3) (eVar 8)) (eVar 7)) (eC (.int 0)))) (tOf (eBin ltD (eBin fdivD (eBin subD (eVar 3) (eVar 8)) (eVar 7)) (eArg lenF (aCons (eVar 2) aNil)))))) (sAug (intD fun i j => some (.int (i + j))) 4 (eBin mulD (eVar 9) (eBin idxD (eVar 2) (eBin fdivD (eBin subD (eVar 3) (eVar 8)) (eVar 7))))) sNil))))
  (sRet (eBin modD (eVar 4) (eVar 0))))))
def f_broken_at : List D → Di → Out D := runF 4 (
  (sSeq (sFor (iRng1 (eBin addD (eCall 1 f_least_power (aCons (eBin idxD (eVar 1) (eC (.int 0))) aNil)) (eArg lenF (aCons (eVar 2) aNil)))) (gNm 3)
  (sIf (tOf (eBin neD (eCall 4 f_value_at (aCons (eVar 0) (aCons (eVar 1) (aCons (eVar 2) (aCons (eVar 3) aNil))))) (eC (.int 0)))) (sRet (eVar 3)) sNil))
  (sRet (eC .non))))
def f_letters_in : List D → Di → Out D := runF 7 (
  (sSeq (sParO 4 5 (nList (eVar 2)) (eCall 1 f_least_power (aCons (eBin idxD (eVar 1) (eC (.int 0))) aNil)))
  (sSeq (sAsg (gNm 6) (eCall 2 f_inverse_of (aCons (eVar 0) (aCons (eBin idxD (eBin idxD (eVar 1) (eC (.int 0))) (eVar 5)) aNil))))
  (sSeq (whL (tThaw 4 (tOf (eBin ltD (eArg lenF (aCons (eVar 4) aNil)) (eVar 3))))
  (sAppend 4 (eThaw 4 (eBin modD (eBin subD (eC (.int 0)) (eBin mulD (eCall 4 f_value_at (aCons (eVar 0) (aCons (eVar 1) (aCons (eVar 4) (aCons (eBin addD (eVar 5) (eArg lenF (aCons (eVar 4) aNil))) aNil))))) (eVar 6))) (eVar 0)))) 200)
  (sFz 4 (sRet (eThaw 4 (eSl (eVar 4) oNone (oSome (eVar 3))))))))))
def f_require_told : List D → Di → Out D := runF 3 (
  (sSeq (sIf (tOr (tNot (tOf (eCall 1 f_is_integer (aCons (eVar 0) aNil)))) (tOf (eBin (inD true) (eVar 0) (eC (.tup [(.int 2), (.int 3), (.int 5)]))))) sNever sNil)
  (sSeq (sIf (tOr (tNot (tOf (eUn (isiD .tuple) (eVar 1)))) (tNot (tOf (eChain leD leD (eC (.int 2)) (eArg lenF (aCons (eVar 1) aNil)) (eBin addD (eC (.int 3)) (eC (.int 1))))))) sNever sNil)
  (sIf (tOr (tNot (tOf (eArg allF (aCons (eComp [2] (iSeq (eVar 1)) (gNm 2) tYes (eCall 3 f_is_poly (aCons (eVar 2) (aCons (eVar 0) (aCons (eC (.int 13)) aNil))))) aNil)))) (tOf (eBin eqD (eBin idxD (eVar 1) (eC (.int 0))) (eArg tupF aNil)))) sNever sNil))))
def f_require_letters : List D → Di → Out D := runF 4 (
  (sSeq (sIf (tOr (tNot (tOf (eUn (isiD .tuple) (eVar 2)))) (tOf (eBin neD (eArg lenF (aCons (eVar 2) aNil)) (eCall 2 f_first_in (aCons (eVar 0) (aCons (eVar 1) aNil)))))) sNever sNil)
  (sIf (tNot (tOf (eArg allF (aCons (eComp [3] (iSeq (eVar 2)) (gNm 3) tYes (eCall 3 f_is_within (aCons (eVar 3) (aCons (eC (.int 0)) (aCons (eBin subD (eVar 0) (eC (.int 1))) aNil))))) aNil)))) sNever sNil)))
def f_require_solution : List D → Di → Out D := runF 4 (
  (sSeq (sAsg (gNm 3) (eCall 3 f_broken_at (aCons (eVar 0) (aCons (eVar 1) (aCons (eVar 2) aNil)))))
  (sIf (tOf (eUn (fun x => some (.bl (!isN x))) (eVar 3))) (sRaise (PySem.Str.ofString "Refused") (PySem.Str.ofString "reason") (eArg tupF (aCons (eC (.str (PySem.Str.ofString "power"))) (aCons (eVar 3) aNil)))) sNil)))
def f_first_many : List D → Di → Out D := runF 2 (
  (sSeq (sDrop (eCall 2 f_require_told (aCons (eVar 0) (aCons (eVar 1) aNil))))
  (sRet (eCall 2 f_first_in (aCons (eVar 0) (aCons (eVar 1) aNil))))))
def f_first_letters : List D → Di → Out D := runF 2 (
  (sSeq (sDrop (eCall 2 f_require_told (aCons (eVar 0) (aCons (eVar 1) aNil))))
  (sRet (eCall 2 f_beginnings (aCons (eVar 0) (aCons (eVar 1) aNil))))))
def f_solution_letters : List D → Di → Out D := runF 4 (
  (sSeq (sDrop (eCall 2 f_require_told (aCons (eVar 0) (aCons (eVar 1) aNil))))
  (sSeq (sDrop (eCall 3 f_require_letters (aCons (eVar 0) (aCons (eVar 1) (aCons (eVar 2) aNil)))))
  (sSeq (sIf (tNot (tOf (eCall 3 f_is_within (aCons (eVar 3) (aCons (eC (.int 0)) (aCons (eC (.int 2000)) aNil)))))) sNever sNil)
  (sSeq (sDrop (eCall 3 f_require_solution (aCons (eVar 0) (aCons (eVar 1) (aCons (eVar 2) aNil)))))
  (sRet (eArg tupleF (aCons (eCall 4 f_letters_in (aCons (eVar 0) (aCons (eVar 1) (aCons (eVar 2) (aCons (eVar 3) aNil))))) aNil))))))))
def f__law_roll : List D → Di → Out D := runF 5 (
  (sSeq (sIf (tOf (eBin gtD (eDice (eVar 0) (eC (.int 0))) (eC (.int 0)))) (sSeq (sAsg (gNm 2) (eBin modD (eDice (eVar 0) (eC (.int 0))) (eVar 1)))
  (sSeq (sDice 0 (eC (.int 0)) (eBin fdivD (eDice (eVar 0) (eC (.int 0))) (eVar 1)))
  (sRet (eArg intF (aCons (eVar 2) aNil))))) sNil)
  (sSeq (sDice 0 (eC (.int 2)) (eBin addD (eDice (eVar 0) (eC (.int 2))) (eC (.int 1))))
  (sSeq (sAsg (gNm 3) (eBin modD (eBin addD (eDice (eVar 0) (eC (.int 1))) (eBin mulD (eC (.int 86028157)) (eDice (eVar 0) (eC (.int 2))))) (eC (.int 2305843009213693951))))
  (sSeq (sAsg (gNm 4) (eBin addD (eBin mulD (eBin modD (eBin addD (eBin mulD (eVar 3) (eVar 3)) (eBin mulD (eC (.int 179)) (eDice (eVar 0) (eC (.int 2))))) (eC (.int 2305843009213693907))) (eC (.int 15485867))) (eVar 3)))
  (sRet (eBin modD (eArg intF (aCons (eBin fdivD (eVar 4) (eC (.int 65579))) aNil)) (eVar 1))))))))
def f__law_pick : List D → Di → Out D := runF 2 (
  (sRet (eBin idxD (eVar 1) (eCall 2 f__law_roll (aCons (eVar 0) (aCons (eArg lenF (aCons (eVar 1) aNil)) aNil))))))
def f__law_se_poly : List D → Di → Out D := runF 4 (
  (sSeq (sAsg (gNm 2) (eComp [3] (iSeq (eVar 0)) (gNm 3) tYes (eBin modD (eVar 3) (eVar 1))))
  (sSeq (whL (tAnd (tOf (eBin neD (eVar 2) (eArg lstF aNil))) (tOf (eBin eqD (eBin idxD (eVar 2) (eUn negD (eC (.int 1)))) (eC (.int 0)))))
  (sAsg (gNm 2) (eSl (eVar 2) oNone (oSome (eUn negD (eC (.int 1)))))) 200)
  (sRet (eArg tupleF (aCons (eVar 2) aNil))))))
def f__law_se_times : List D → Di → Out D := runF 9 (
  (sSeq (sOwn 4 (nMul (eArg lstF (aCons (eC (.int 0)) aNil)) (eVar 2)))
  (sSeq (sFor (iEnum (eSl (eVar 0) oNone (oSome (eVar 2)))) (gTp [(gNm 5), (gNm 6)])
  (sFor (iEnum (eSl (eVar 1) oNone (oSome (eBin subD (eVar 2) (eVar 5))))) (gTp [(gNm 7), (gNm 8)])
  (sSetI 4 (eBin addD (eVar 5) (eVar 7)) (eThaw 4 (eBin modD (eBin addD (eBin idxD (eVar 4) (eBin addD (eVar 5) (eVar 7))) (eBin mulD (eVar 6) (eVar 8))) (eVar 3))))))
  (sFz 4 (sRet (eThaw 4 (eVar 4)))))))
def f__law_se_spread : List D → Di → Out D := runF 4 (
  (sRet (eComp [3] (iRng1 (eVar 2)) (gNm 3) tYes (eIf (tOf (eBin eqD (eBin modD (eVar 3) (eVar 1)) (eC (.int 0)))) (eBin idxD (eVar 0) (eBin fdivD (eVar 3) (eVar 1))) (eC (.int 0))))))
def f__law_se_left : List D → Di → Out D := runF 10 (
  (sSeq (sPar 4 5 (aCons (eNew (nMul (eArg lstF (aCons (eC (.int 0)) aNil)) (eVar 2))) (aCons (eC (.int 1)) aNil)))
  (sSeq (sFor (iSeq (eVar 0)) (gNm 6)
  (sSeq (sAsg (gNm 7) (eCall 4 f__law_se_times (aCons (eVar 6) (aCons (eCall 3 f__law_se_spread (aCons (eVar 1) (aCons (eVar 5) (aCons (eVar 2) aNil)))) (aCons (eVar 2) (aCons (eVar 3) aNil))))))
  (sPar 4 5 (aCons (eComp [8, 9] (iZip (eVar 4) (eVar 7)) (gTp [(gNm 8), (gNm 9)]) tYes (eBin modD (eBin addD (eVar 8) (eVar 9)) (eVar 3))) (aCons (eBin mulD (eVar 5) (eVar 3)) aNil)))))
  (sRet (eVar 4)))))
def f__law_se_drawn : List D → Di → Out D := runF 4 (
  (sRet (eCall 2 f__law_se_poly (aCons (eComp [3] (iRng1 (eCall 2 f__law_roll (aCons (eVar 0) (aCons (eBin addD (eVar 2) (eC (.int 1))) aNil)))) (gNm 3) tYes (eCall 2 f__law_roll (aCons (eVar 0) (aCons (eVar 1) aNil)))) (aCons (eVar 1) aNil)))))
def f__law_equation : List D → Di → Out D := runF 8 (
  (sSeq (sAsg (gNm 2) (eComp [6] (iRng1 (eBin addD (eC (.int 2)) (eCall 2 f__law_roll (aCons (eVar 0) (aCons (eC (.int 3)) aNil))))) (gNm 6) tYes (eCall 3 f__law_se_drawn (aCons (eVar 0) (aCons (eVar 1) (aCons (eC (.int 4)) aNil))))))
  (sSeq (sAsg (gNm 3) (eIf (tOf (eBin eqD (eCall 2 f__law_roll (aCons (eVar 0) (aCons (eC (.int 2)) aNil))) (eC (.int 0)))) (eCall 2 f__law_roll (aCons (eVar 0) (aCons (eC (.int 5)) aNil))) (eC (.int 0))))
  (sSeq (sAsg (gNm 4) (eBin addD (eBin addD (eBin repD (eArg tupF (aCons (eC (.int 0)) aNil)) (eVar 3)) (eArg tupF (aCons (eBin addD (eC (.int 1)) (eCall 2 f__law_roll (aCons (eVar 0) (aCons (eBin subD (eVar 1) (eC (.int 1))) aNil)))) aNil))) (eBin idxD (eVar 2) (eC (.int 0)))))
  (sSeq (sIf (tOf (eBin eqD (eCall 2 f__law_roll (aCons (eVar 0) (aCons (eC (.int 3)) aNil))) (eC (.int 0)))) (sSeq (sAsg (gNm 5) (eBin modD (eArg sumF (aCons (eComp [7] (iSeq (eSl (eVar 2) (oSome (eC (.int 1))) oNone)) (gNm 7) (tOf (eBin neD (eVar 7) (eArg tupF aNil))) (eBin idxD (eVar 7) (eC (.int 0)))) aNil)) (eVar 1)))
  (sAsg (gNm 4) (eIf (tOf (eBin neD (eVar 5) (eC (.int 0)))) (eBin addD (eArg tupF (aCons (eBin modD (eBin subD (eVar 1) (eVar 5)) (eVar 1)) aNil)) (eBin idxD (eVar 2) (eC (.int 0)))) (eVar 4)))) sNil)
  (sRet (eBin addD (eArg tupF (aCons (eVar 4) aNil)) (eArg tupleF (aCons (eSl (eVar 2) (oSome (eC (.int 1))) oNone) aNil)))))))))
def f__law_low : List D → Di → Out D := runF 3 (
  (sRet (eBin idxD (eComp [1, 2] (iEnum (eVar 0)) (gTp [(gNm 1), (gNm 2)]) (tOf (eBin neD (eVar 2) (eC (.int 0)))) (eVar 1)) (eC (.int 0)))))
def f__law_lines : List D → Di → Out D := runF 11 (
  (sSeq (sParO 3 4 (nLst aNil) (eCall 1 f__law_low (aCons (eBin idxD (eVar 0) (eC (.int 0))) aNil)))
  (sSeq (sOwn 5 (nLst aNil))
  (sSeq (sFor (iRng1 (eVar 1)) (gNm 6)
  (sSeq (sAsg (gNm 7) (eComp [9] (iRng1 (eBin addD (eVar 4) (eVar 1))) (gNm 9) tYes (eIf (tOf (eBin eqD (eVar 9) (eVar 6))) (eC (.int 1)) (eC (.int 0)))))
  (sAppend 5 (eCall 4 f__law_se_left (aCons (eVar 0) (aCons (eVar 7) (aCons (eBin addD (eVar 4) (eVar 1)) (aCons (eVar 2) aNil))))))))
  (sSeq (sFz 5 (sFor (iRng1 (eBin addD (eVar 4) (eVar 1))) (gNm 8)
  (sAppend 3 (eThaw 5 (eComp [10] (iSeq (eVar 5)) (gNm 10) tYes (eBin idxD (eVar 10) (eVar 8)))))))
  (sFz 3 (sRet (eThaw 3 (eVar 3)))))))))
def f__law_shortened : List D → Di → Out D := runF 14 (
  (sSeq (sAsg (gNm 2) (eArg lstF aNil))
  (sSeq (sFor (iSeq (eVar 0)) (gNm 3)
  (sSeq (sAsg (gNm 4) (eArg listF (aCons (eVar 3) aNil)))
  (sSeq (sFor (iSeq (eVar 2)) (gTp [(gNm 5), (gNm 6)])
  (sAsg (gNm 4) (eComp [11, 12] (iZip (eVar 4) (eVar 6)) (gTp [(gNm 11), (gNm 12)]) tYes (eBin modD (eBin subD (eVar 11) (eBin mulD (eBin idxD (eVar 4) (eVar 5)) (eVar 12))) (eVar 1)))))
  (sSeq (sAsg (gNm 5) (eBin idxD (eComp [13, 10] (iEnum (eVar 4)) (gTp [(gNm 13), (gNm 10)]) (tOf (eBin neD (eVar 10) (eC (.int 0)))) (eVar 13)) (eC (.int 0))))
  (sSeq (sAsg (gNm 7) (eBin idxD (eComp [10] (iRng2 (eC (.int 1)) (eVar 1)) (gNm 10) (tOf (eBin eqD (eBin modD (eBin mulD (eVar 10) (eBin idxD (eVar 4) (eVar 5))) (eVar 1)) (eC (.int 1)))) (eVar 10)) (eC (.int 0))))
  (sSeq (sAsg (gNm 4) (eComp [10] (iSeq (eVar 4)) (gNm 10) tYes (eBin modD (eBin mulD (eVar 10) (eVar 7)) (eVar 1))))
  (sSeq (sOwn 8 (nLst aNil))
  (sSeq (sFor (iSeq (eVar 2)) (gTp [(gNm 9), (gNm 6)])
  (sAppend 8 (eArg tupF (aCons (eVar 9) (aCons (eComp [11, 12] (iZip (eVar 6) (eVar 4)) (gTp [(gNm 11), (gNm 12)]) tYes (eBin modD (eBin subD (eVar 11) (eBin mulD (eBin idxD (eVar 6) (eVar 5)) (eVar 12))) (eVar 1))) aNil)))))
  (sFz 8 (sAsg (gNm 2) (eThaw 8 (eArg sortF (aCons (eBin addD (eVar 8) (eArg lstF (aCons (eArg tupF (aCons (eVar 5) (aCons (eVar 4) aNil))) aNil))) aNil)))))))))))))
  (sRet (eArg tupleF (aCons (eComp [5, 4] (iSeq (eVar 2)) (gTp [(gNm 5), (gNm 4)]) tYes (eArg tupleF (aCons (eVar 4) aNil))) aNil))))))
def f__law_kernel : List D → Di → Out D := runF 17 (
  (sSeq (sAsg (gTp [(gNm 3), (gNm 4)]) (eArg tupF (aCons (eArg lstF aNil) (aCons (eArg lstF aNil) aNil))))
  (sSeq (sFor (iSeq (eVar 0)) (gNm 5)
  (sSeq (sAsg (gNm 6) (eArg listF (aCons (eVar 5) aNil)))
  (sSeq (sFor (iZip (eVar 4) (eVar 3)) (gTp [(gNm 7), (gNm 8)])
  (sAsg (gNm 6) (eThaw 6 (eComp [15, 16] (iZip (eVar 6) (eVar 8)) (gTp [(gNm 15), (gNm 16)]) tYes (eBin modD (eBin subD (eVar 15) (eBin mulD (eBin idxD (eVar 6) (eVar 7)) (eVar 16))) (eVar 2))))))
  (sSeq (sAsg (gNm 9) (eThaw 6 (eComp [13, 14] (iEnum (eVar 6)) (gTp [(gNm 13), (gNm 14)]) (tOf (eBin neD (eVar 14) (eC (.int 0)))) (eVar 13))))
  (sIf (tOf (eBin neD (eVar 9) (eArg lstF aNil))) (sSeq (sAsg (gNm 10) (eThaw 6 (eBin idxD (eComp [14] (iRng2 (eC (.int 1)) (eVar 2)) (gNm 14) (tOf (eBin eqD (eBin modD (eBin mulD (eVar 14) (eBin idxD (eVar 6) (eBin idxD (eVar 9) (eC (.int 0))))) (eVar 2)) (eC (.int 1)))) (eVar 14)) (eC (.int 0)))))
  (sSeq (sAsg (gNm 6) (eThaw 6 (eComp [14] (iSeq (eVar 6)) (gNm 14) tYes (eBin modD (eBin mulD (eVar 14) (eVar 10)) (eVar 2)))))
  (sSeq (sAsg (gNm 7) (eBin idxD (eVar 9) (eC (.int 0))))
  (sSeq (sAsg (gNm 3) (eThaw 6 (eBin addD (eComp [8] (iSeq (eVar 3)) (gNm 8) tYes (eComp [15, 16] (iZip (eVar 8) (eVar 6)) (gTp [(gNm 15), (gNm 16)]) tYes (eBin modD (eBin subD (eVar 15) (eBin mulD (eBin idxD (eVar 8) (eVar 7)) (eVar 16))) (eVar 2)))) (eArg lstF (aCons (eVar 6) aNil)))))
  (sAsg (gNm 4) (eBin addD (eVar 4) (eArg lstF (aCons (eVar 7) aNil)))))))) sNil)))))
  (sSeq (sOwn 11 (nLst aNil))
  (sSeq (sFor (iSeq (eComp [13] (iRng1 (eVar 1)) (gNm 13) (tOf (eBin (inD true) (eVar 13) (eVar 4))) (eVar 13))) (gNm 12)
  (sSeq (sOwn 6 (nMul (eArg lstF (aCons (eC (.int 0)) aNil)) (eVar 1)))
  (sSeq (sSetI 6 (eVar 12) (eC (.int 1)))
  (sSeq (sFor (iZip (eVar 4) (eVar 3)) (gTp [(gNm 7), (gNm 8)])
  (sSetI 6 (eVar 7) (eBin modD (eBin subD (eC (.int 0)) (eBin idxD (eVar 8) (eVar 12))) (eVar 2))))
  (sFz 6 (sAppend 11 (eThaw 6 (eVar 6))))))))
  (sFz 11 (sRet (eThaw 11 (eCall 2 f__law_shortened (aCons (eVar 11) (aCons (eVar 2) aNil)))))))))))
def f__law_continued : List D → Di → Out D := runF 10 (
  (sSeq (sParO 4 5 (nList (eVar 1)) (eCall 1 f__law_low (aCons (eBin idxD (eVar 0) (eC (.int 0))) aNil)))
  (sSeq (sAsg (gNm 6) (eBin idxD (eComp [9] (iRng2 (eC (.int 1)) (eVar 3)) (gNm 9) (tOf (eBin eqD (eBin modD (eBin mulD (eVar 9) (eBin idxD (eBin idxD (eVar 0) (eC (.int 0))) (eVar 5))) (eVar 3)) (eC (.int 1)))) (eVar 9)) (eC (.int 0))))
  (sSeq (whL (tThaw 4 (tOf (eBin ltD (eArg lenF (aCons (eVar 4) aNil)) (eVar 2))))
  (sSeq (sAsg (gNm 7) (eThaw 4 (eBin addD (eArg lenF (aCons (eVar 4) aNil)) (eVar 5))))
  (sSeq (sAsg (gNm 8) (eThaw 4 (eBin idxD (eCall 4 f__law_se_left (aCons (eVar 0) (aCons (eBin addD (eVar 4) (eNew (nMul (eArg lstF (aCons (eC (.int 0)) aNil)) (eBin addD (eVar 5) (eC (.int 1)))))) (aCons (eBin addD (eVar 7) (eC (.int 1))) (aCons (eVar 3) aNil))))) (eVar 7))))
  (sAppend 4 (eBin modD (eBin mulD (eBin subD (eC (.int 0)) (eVar 8)) (eVar 6)) (eVar 3))))) 200)
  (sFz 4 (sRet (eThaw 4 (eArg tupleF (aCons (eSl (eVar 4) oNone (oSome (eVar 2))) aNil)))))))))
def h__law_right (d : D) : EF := eAnd (eBin neD (eVar 10) (eArg lstF aNil)) (eBin eqD (eC d) (eArg tupF (aCons (eC (.str (PySem.Str.ofString "power"))) (aCons (eBin idxD (eVar 10) (eC (.int 0))) aNil))))
def f__law_right : List D → Di → Out D := runF 18 (
  (sSeq (sAsg (gNm 1) (eCall 2 f__law_pick (aCons (eVar 0) (aCons (eArg lstF (aCons (eC (.int 2)) (aCons (eC (.int 2)) (aCons (eC (.int 3)) (aCons (eC (.int 5)) aNil))))) aNil))))
  (sSeq (sAsg (gNm 2) (eCall 2 f__law_equation (aCons (eVar 0) (aCons (eVar 1) aNil))))
  (sSeq (sAsg (gNm 3) (eBin addD (eBin fdivD (eCall 1 f__law_low (aCons (eBin idxD (eVar 2) (eC (.int 0))) aNil)) (eBin subD (eVar 1) (eC (.int 1)))) (eC (.int 1))))
  (sSeq (sAsg (gNm 4) (eCall 3 f__law_lines (aCons (eVar 2) (aCons (eVar 3) (aCons (eVar 1) aNil)))))
  (sSeq (sAsg (gNm 5) (eCall 3 f__law_kernel (aCons (eVar 4) (aCons (eVar 3) (aCons (eVar 1) aNil)))))
  (sSeq (sIf (tOr (tOf (eBin neD (eCall 2 f_first_many (aCons (eVar 1) (aCons (eVar 2) aNil))) (eVar 3))) (tOf (eBin neD (eCall 2 f_first_letters (aCons (eVar 1) (aCons (eVar 2) aNil))) (eVar 5)))) (sRet (eC (.bl false))) sNil)
  (sSeq (sAsg (gNm 6) (eBin repD (eArg tupF (aCons (eC (.int 0)) aNil)) (eVar 3)))
  (sSeq (sFor (iSeq (eVar 5)) (gNm 7)
  (sSeq (sAsg (gNm 8) (eCall 2 f__law_roll (aCons (eVar 0) (aCons (eVar 1) aNil))))
  (sAsg (gNm 6) (eArg tupleF (aCons (eComp [16, 9] (iZip (eVar 6) (eVar 7)) (gTp [(gNm 16), (gNm 9)]) tYes (eBin modD (eBin addD (eVar 16) (eBin mulD (eVar 8) (eVar 9))) (eVar 1))) aNil)))))
  (sSeq (sIf (tOf (eBin neD (eCall 4 f_solution_letters (aCons (eVar 1) (aCons (eVar 2) (aCons (eVar 6) (aCons (eC (.int 40)) aNil))))) (eCall 4 f__law_continued (aCons (eVar 2) (aCons (eVar 6) (aCons (eC (.int 40)) (aCons (eVar 1) aNil))))))) (sRet (eC (.bl false))) sNil)
  (sSeq (sIf (tOf (eBin neD (eCall 4 f__law_se_left (aCons (eVar 2) (aCons (eArg listF (aCons (eCall 4 f_solution_letters (aCons (eVar 1) (aCons (eVar 2) (aCons (eVar 6) (aCons (eC (.int 90)) aNil))))) aNil)) (aCons (eC (.int 60)) (aCons (eVar 1) aNil))))) (eNew (nMul (eArg lstF (aCons (eC (.int 0)) aNil)) (eC (.int 60)))))) (sRet (eC (.bl false))) sNil)
  (sSeq (sAsg (gNm 9) (eArg tupleF (aCons (eComp [15] (iRng1 (eVar 3)) (gNm 15) tYes (eCall 2 f__law_roll (aCons (eVar 0) (aCons (eVar 1) aNil)))) aNil)))
  (sSeq (sAsg (gNm 10) (eComp [13, 14] (iEnum (eVar 4)) (gTp [(gNm 13), (gNm 14)]) (tOf (eBin neD (eBin modD (eArg sumF (aCons (eComp [16, 17] (iZip (eVar 14) (eVar 9)) (gTp [(gNm 16), (gNm 17)]) tYes (eBin mulD (eVar 16) (eVar 17))) aNil)) (eVar 1)) (eC (.int 0)))) (eVar 13)))
  (sTryR (PySem.Str.ofString "Refused") (PySem.Str.ofString "reason") 12
  (sSeq (sAsg (gNm 11) (eCall 4 f_solution_letters (aCons (eVar 1) (aCons (eVar 2) (aCons (eVar 9) (aCons (eC (.int 9)) aNil))))))
  (sRet (eAnd (eBin eqD (eVar 10) (eArg lstF aNil)) (eBin eqD (eVar 11) (eCall 4 f__law_continued (aCons (eVar 2) (aCons (eVar 9) (aCons (eC (.int 9)) (aCons (eVar 1) aNil))))))))) h__law_right))))))))))))))
def f_lawB : SF := (sFor (iRng1 (eC (.int 3))) (gNm 3)
  (sIf (tNot (tOf (eCall 1 f__law_right (aCons (eVar 2) aNil)))) (sRet (eC (.bl false))) sNil))
def f_lawR : SF := (sRet (eBin eqD (eArg lstF (aCons (eCall 2 f_first_letters (aCons (eC (.int 2)) (aCons (eArg tupF (aCons (eArg tupF (aCons (eC (.int 1)) aNil)) (aCons (eArg tupF (aCons (eC (.int 1)) (aCons (eC (.int 1)) aNil))) aNil))) aNil))) (aCons (eCall 2 f_first_letters (aCons (eC (.int 3)) (aCons (eArg tupF (aCons (eArg tupF (aCons (eC (.int 1)) aNil)) (aCons (eArg tupF (aCons (eC (.int 1)) aNil)) aNil))) aNil))) (aCons (eCall 2 f_first_letters (aCons (eC (.int 3)) (aCons (eArg tupF (aCons (eArg tupF (aCons (eC (.int 1)) aNil)) (aCons (eArg tupF (aCons (eC (.int 2)) aNil)) aNil))) aNil))) aNil)))) (eArg lstF (aCons (eArg tupF (aCons (eArg tupF (aCons (eC (.int 1)) aNil)) aNil)) (aCons (eArg tupF aNil) (aCons (eArg tupF (aCons (eArg tupF (aCons (eC (.int 1)) aNil)) aNil)) aNil))))))
end K80
end
section
set_option maxHeartbeats 4000000
/-! K80B: the derivations. Printed by gen.py. -/
namespace K80
open PySem PySem.Spec PyProof.Rows L2 Sh
def top (i : Nat) : Stmt := PySem.Challenge.pw_digitwords_k80_whole_beginnings_that_equ.main.body.getD i (.Pass ⟨0, 0, 0, 0⟩)
structure G (P : Program) (w : World) (K : PySem.W.Frag) (mg : Str → Option Value) : Prop where
  b_abs : mg "abs" = none
  b_all : mg "all" = none
  b_bool : mg "bool" = none
  b_divmod : mg "divmod" = none
  b_enumerate : mg "enumerate" = none
  b_int : mg "int" = none
  b_isinstance : mg "isinstance" = none
  b_len : mg "len" = none
  b_list : mg "list" = none
  b_max : mg "max" = none
  b_min : mg "min" = none
  b_range : mg "range" = none
  b_sorted : mg "sorted" = none
  b_sum : mg "sum" = none
  b_super : mg "super" = none
  b_tuple : mg "tuple" = none
  b_zip : mg "zip" = none
  c_MOST_LENGTH : ∃ (v : V) (u : Value), mg "MOST_LENGTH" = some u ∧ L2.RelV v u ∧ ∀ pd H, Rep K pd H v (.int 13)
  c_MOST_LETTERS : ∃ (v : V) (u : Value), mg "MOST_LETTERS" = some u ∧ L2.RelV v u ∧ ∀ pd H, Rep K pd H v (.int 2000)
  c_MOST_TERMS : ∃ (v : V) (u : Value), mg "MOST_TERMS" = some u ∧ L2.RelV v u ∧ ∀ pd H, Rep K pd H v (.int 3)
  c_POWER : ∃ (v : V) (u : Value), mg "POWER" = some u ∧ L2.RelV v u ∧ ∀ pd H, Rep K pd H v (.str (PySem.Str.ofString "power"))
  c_PRIMES : ∃ (v : V) (u : Value), mg "PRIMES" = some u ∧ L2.RelV v u ∧ ∀ pd H, Rep K pd H v (.tup [(.int 2), (.int 3), (.int 5)])
  x_Refused : ∀ X : Cx, X.K = K → X.prog = P → X.w = w → X.mg = mg → ExC X "Refused" "reason"
  x_h : ∃ C : Addr, mg "Refused" = some (.ref C) ∧ XfC K C ∧ PySem.W.findIn K (.ref C) "reason" = some none ∧ PySem.W.exmOne K (.ref C) (.ref C) = some true
abbrev t_is_integer : Stmt := top 7
theorem sc_is_integer : FnScope ["value"] ["value"] (defScope t_is_integer) := ⟨rfl, rfl, rfl, by decide +kernel, rfl, by decide +kernel, by decide +kernel⟩
theorem k_is_integer {P : Program} {w : World} {K : PySem.W.Frag} {mg : Str → Option Value} {base : Heap} {f : Addr} {fd : FuncData} (g : G P w K mg) (F : FunD K "is_integer" "is_integer" (defArgs t_is_integer) (defBody t_is_integer) (defScope t_is_integer) [] [] f fd) (hm : mg "is_integer" = some (.ref f)) :
    DefOk P w K mg base "is_integer" 1 1 f_is_integer := by
  refine def_ok (N := ["value"]) (ps := ["value"]) (k := 0) F sc_is_integer hm (F.bindsN fun _ _ _ _ _ _ us hl => match us, hl with | [_], _ => rfl) rfl fun cdv A outer s H E hr => ?_
  have S := sc_is_integer
  exact (ss_one (ss_ret (se_and (se_isi .int g.b_isinstance g.b_int (by kernel_rfl) rfl rfl (se_var 0)) (se_one (se_not (se_isi .bool g.b_isinstance g.b_bool (by kernel_rfl) rfl rfl (se_var 0)))))))
abbrev t_is_within : Stmt := top 8
theorem sc_is_within : FnScope ["value", "least", "most"] ["value", "least", "most"] (defScope t_is_within) := ⟨rfl, rfl, rfl, by decide +kernel, rfl, by decide +kernel, by decide +kernel⟩
theorem k_is_within {P : Program} {w : World} {K : PySem.W.Frag} {mg : Str → Option Value} {base : Heap} {f : Addr} {fd : FuncData} (g : G P w K mg) (F : FunD K "is_within" "is_within" (defArgs t_is_within) (defBody t_is_within) (defScope t_is_within) [] [] f fd) (hm : mg "is_within" = some (.ref f)) (d_is_integer : DefOk P w K mg base "is_integer" 1 1 f_is_integer) :
    DefOk P w K mg base "is_within" 2 3 f_is_within := by
  refine def_ok (N := ["value", "least", "most"]) (ps := ["value", "least", "most"]) (k := 1) F sc_is_within hm (F.bindsN fun _ _ _ _ _ _ us hl => match us, hl with | [_, _, _], _ => rfl) rfl fun cdv A outer s H E hr => ?_
  have S := sc_is_within
  exact (ss_one (ss_ret (se_and (se_call d_is_integer hr (by decide) rfl (sa_cons (se_var 0) sa_nil)) (se_one (se_chain od_le od_le (se_var 1) (se_var 0) (se_var 2))))))
abbrev t_power_of : Stmt := top 10
theorem sc_power_of : FnScope ["number", "many", "found", "_"] ["number", "many"] (defScope t_power_of) := ⟨rfl, rfl, rfl, by decide +kernel, rfl, by decide +kernel, by decide +kernel⟩
theorem k_power_of {P : Program} {w : World} {K : PySem.W.Frag} {mg : Str → Option Value} {base : Heap} {f : Addr} {fd : FuncData} (g : G P w K mg) (F : FunD K "power_of" "power_of" (defArgs t_power_of) (defBody t_power_of) (defScope t_power_of) [] [] f fd) (hm : mg "power_of" = some (.ref f)) :
    DefOk P w K mg base "power_of" 1 2 f_power_of := by
  refine def_ok (N := ["number", "many", "found", "_"]) (ps := ["number", "many"]) (k := 0) F sc_power_of hm (F.bindsN fun _ _ _ _ _ _ us hl => match us, hl with | [_, _], _ => rfl) rfl fun cdv A outer s H E hr => ?_
  have S := sc_power_of
  exact (ss_cons (ss_set 2 S.nd rfl (by first | exact Or.inl rfl | exact Or.inr rfl) se_int)
  (ss_cons (ss_for (vg := [3]) rfl passS (si_rng1 g.b_range rfl (se_var 1)) (sg_nm 3 S.nd rfl (by first | exact Or.inl rfl | exact Or.inr rfl))
  (ss_one (ss_set 2 S.nd rfl (by first | exact Or.inl rfl | exact Or.inr rfl) (se_bin od_mul (se_var 2) (se_var 0)))))
  (ss_one (ss_ret (se_var 2)))))
abbrev t_inverse_of : Stmt := top 12
theorem sc_inverse_of : FnScope ["prime", "number", "one"] ["prime", "number"] (defScope t_inverse_of) := ⟨rfl, rfl, rfl, by decide +kernel, rfl, by decide +kernel, by decide +kernel⟩
theorem k_inverse_of {P : Program} {w : World} {K : PySem.W.Frag} {mg : Str → Option Value} {base : Heap} {f : Addr} {fd : FuncData} (g : G P w K mg) (F : FunD K "inverse_of" "inverse_of" (defArgs t_inverse_of) (defBody t_inverse_of) (defScope t_inverse_of) [] [] f fd) (hm : mg "inverse_of" = some (.ref f)) :
    DefOk P w K mg base "inverse_of" 1 2 f_inverse_of := by
  refine def_ok (N := ["prime", "number", "one"]) (ps := ["prime", "number"]) (k := 0) F sc_inverse_of hm (F.bindsN fun _ _ _ _ _ _ us hl => match us, hl with | [_, _], _ => rfl) rfl fun cdv A outer s H E hr => ?_
  have S := sc_inverse_of
  exact (ss_one (ss_ret (se_idx (se_comp (own := [("one", 2)]) (vg := [2]) rfl S.nd (blkOk_by (by kernel_rfl)) (si_rng2 g.b_range rfl se_int (se_var 0)) (fun _ _ _ _ _ => (sg_nm 2 S.nd rfl (by first | exact Or.inl rfl | exact Or.inr rfl))) (fun _ _ _ _ _ => (sts_one (st_cmp (od_eq hr.units) (se_bin od_mod (se_bin od_mul (se_var 2) (se_var 1)) (se_var 0)) se_int (by rfl)))) (fun _ _ _ _ _ => (se_var 2))) se_int)))
abbrev t_kernel_rows : Stmt := top 14
theorem sc_kernel_rows : FnScope ["prime", "views", "width", "leads", "lot", "view", "row", "at", "mate", "share", "some", "lead", "found", "free", "told", "one", "other"] ["prime", "views", "width"] (defScope t_kernel_rows) := ⟨rfl, rfl, rfl, by decide +kernel, rfl, by decide +kernel, by decide +kernel⟩
theorem k_kernel_rows {P : Program} {w : World} {K : PySem.W.Frag} {mg : Str → Option Value} {base : Heap} {f : Addr} {fd : FuncData} (g : G P w K mg) (F : FunD K "kernel_rows" "kernel_rows" (defArgs t_kernel_rows) (defBody t_kernel_rows) (defScope t_kernel_rows) [] [] f fd) (hm : mg "kernel_rows" = some (.ref f)) (d_inverse_of : DefOk P w K mg base "inverse_of" 1 2 f_inverse_of) :
    DefOk P w K mg base "kernel_rows" 2 3 f_kernel_rows := by
  refine def_ok (N := ["prime", "views", "width", "leads", "lot", "view", "row", "at", "mate", "share", "some", "lead", "found", "free", "told", "one", "other"]) (ps := ["prime", "views", "width"]) (k := 1) F sc_kernel_rows hm (F.bindsN fun _ _ _ _ _ _ us hl => match us, hl with | [_, _, _], _ => rfl) rfl fun cdv A outer s H E hr => ?_
  have S := sc_kernel_rows
  exact (ss_cons (ss_par 3 4 rfl S.nd rfl rfl (by decide) rfl rfl (sa_cons (se_lst sa_nil) (sa_cons (se_lst sa_nil) sa_nil)) (by rfl))
  (ss_cons (ss_for (vg := [5]) rfl passS (si_seq (se_var 1)) (sg_nm 5 S.nd rfl (by first | exact Or.inl rfl | exact Or.inr rfl))
  (ss_cons (ss_set 6 S.nd rfl (by first | exact Or.inl rfl | exact Or.inr rfl) (se_callTy bi_list rfl g.b_list (by kernel_rfl) (sa_cons (se_var 5) sa_nil)))
  (ss_cons (ss_for (vg := [7, 8]) rfl passS (si_zip g.b_zip rfl (se_var 3) (se_var 4)) (sg_tp rfl (sgs_cons (sg_nm 7 S.nd rfl (by first | exact Or.inl rfl | exact Or.inr rfl)) (sgs_cons (sg_nm 8 S.nd rfl (by first | exact Or.inl rfl | exact Or.inr rfl)) sgs_nil)))
  (ss_cons (ss_set 9 S.nd rfl (by first | exact Or.inl rfl | exact Or.inr rfl) (se_idx (se_var 6) (se_var 7)))
  (ss_one (ss_set 6 S.nd rfl (by first | exact Or.inl rfl | exact Or.inr rfl) (se_comp (own := [("one", 15), ("other", 16)]) (vg := [15, 16]) rfl S.nd (blkOk_by (by kernel_rfl)) (si_zip g.b_zip rfl (se_var 6) (se_var 8)) (fun _ _ _ _ _ => (sg_tp rfl (sgs_cons (sg_nm 15 S.nd rfl (by first | exact Or.inl rfl | exact Or.inr rfl)) (sgs_cons (sg_nm 16 S.nd rfl (by first | exact Or.inl rfl | exact Or.inr rfl)) sgs_nil)))) (fun _ _ _ _ _ => sts_nil) (fun _ _ _ _ _ => (se_bin od_mod (se_bin od_sub (se_var 15) (se_bin od_mul (se_var 9) (se_var 16))) (se_var 0))))))))
  (ss_cons (ss_set 10 S.nd rfl (by first | exact Or.inl rfl | exact Or.inr rfl) (se_comp (own := [("at", 7)]) (vg := [7]) rfl S.nd (blkOk_by (by kernel_rfl)) (si_rng1 g.b_range rfl (se_var 2)) (fun _ _ _ _ _ => (sg_nm 7 S.nd rfl (by first | exact Or.inl rfl | exact Or.inr rfl))) (fun _ _ _ _ _ => (sts_one (st_cmp (od_ne hr.units) (se_idx (se_var 6) (se_var 7)) se_int (by rfl)))) (fun _ _ _ _ _ => (se_var 7))))
  (ss_one (ss_if (st_cmp (od_ne hr.units) (se_var 10) (se_lst sa_nil) (by rfl)) (ss_cons (ss_set 11 S.nd rfl (by first | exact Or.inl rfl | exact Or.inr rfl) (se_call d_inverse_of hr (by decide) rfl (sa_cons (se_var 0) (sa_cons (se_idx (se_var 6) (se_idx (se_var 10) se_int)) sa_nil))))
  (ss_cons (ss_set 6 S.nd rfl (by first | exact Or.inl rfl | exact Or.inr rfl) (se_comp (own := [("one", 15)]) (vg := [15]) rfl S.nd (blkOk_by (by kernel_rfl)) (si_seq (se_var 6)) (fun _ _ _ _ _ => (sg_nm 15 S.nd rfl (by first | exact Or.inl rfl | exact Or.inr rfl))) (fun _ _ _ _ _ => sts_nil) (fun _ _ _ _ _ => (se_bin od_mod (se_bin od_mul (se_var 15) (se_var 11)) (se_var 0)))))
  (ss_cons (ss_setLc 4 (own := [("mate", 8)]) (vg := [8]) rfl S.nd rfl rfl (sw_true rfl rfl rfl (by kernel_rfl)) (blkOk_by (by kernel_rfl)) (si_seq (se_var 4)) (fun _ _ _ _ _ => (sg_nm 8 S.nd rfl (by first | exact Or.inl rfl | exact Or.inr rfl))) (fun _ _ _ _ _ => sts_nil) (fun _ _ _ _ _ => (se_comp (own := [("one", 15), ("other", 16)]) (vg := [15, 16]) rfl S.nd (blkOk_by (by kernel_rfl)) (si_zip g.b_zip rfl (se_var 8) (se_var 6)) (fun _ _ _ _ _ => (sg_tp rfl (sgs_cons (sg_nm 15 S.nd rfl (by first | exact Or.inl rfl | exact Or.inr rfl)) (sgs_cons (sg_nm 16 S.nd rfl (by first | exact Or.inl rfl | exact Or.inr rfl)) sgs_nil)))) (fun _ _ _ _ _ => sts_nil) (fun _ _ _ _ _ => (se_bin od_mod (se_bin od_sub (se_var 15) (se_bin od_mul (se_idx (se_var 8) (se_idx (se_var 10) se_int)) (se_var 16))) (se_var 0))))))
  (ss_one (ss_par 3 4 rfl S.nd rfl rfl (by decide) rfl rfl (sa_cons (se_lst (sa_star (se_var 3) (sa_cons (se_idx (se_var 10) se_int) sa_nil))) (sa_cons (se_lst (sa_star (se_var 4) (sa_cons (se_var 6) sa_nil))) sa_nil)) (by rfl)))))) ss_nil))))))
  (ss_cons (ss_own 12 S.nd rfl (by first | exact Or.inl rfl | exact Or.inr rfl) (sn_lst' sa_nil))
  (ss_cons (ss_for (vg := [13]) rfl passS (si_rng1 g.b_range rfl (se_var 2)) (sg_nm 13 S.nd rfl (by first | exact Or.inl rfl | exact Or.inr rfl))
  (ss_one (ss_if (st_cmp od_notIn (se_var 13) (se_var 3) (by rfl)) (ss_cons (ss_own 14 S.nd rfl (by first | exact Or.inl rfl | exact Or.inr rfl) (sn_mul' (se_lst (sa_cons se_int sa_nil)) (se_var 2)))
  (ss_cons (ss_setI 14 (se_var 13) se_int)
  (ss_cons (ss_for (vg := [7, 8]) rfl passS (si_zip g.b_zip rfl (se_var 3) (se_var 4)) (sg_tp rfl (sgs_cons (sg_nm 7 S.nd rfl (by first | exact Or.inl rfl | exact Or.inr rfl)) (sgs_cons (sg_nm 8 S.nd rfl (by first | exact Or.inl rfl | exact Or.inr rfl)) sgs_nil)))
  (ss_one (ss_setI 14 (se_var 7) (se_bin od_mod (se_bin od_sub se_int (se_idx (se_var 8) (se_var 13))) (se_var 0)))))
  (ss_one (ss_append 12 (se_thaw 14 (se_callTy bi_tuple rfl g.b_tuple (by kernel_rfl) (sa_cons (se_var 14) sa_nil)))))))) ss_nil)))
  (ss_one (ss_fz1 12 (ss_ret (se_thaw 12 (se_var 12)))))))))
abbrev t_is_poly : Stmt := top 17
theorem sc_is_poly : FnScope ["value", "prime", "most", "one"] ["value", "prime", "most"] (defScope t_is_poly) := ⟨rfl, rfl, rfl, by decide +kernel, rfl, by decide +kernel, by decide +kernel⟩
theorem k_is_poly {P : Program} {w : World} {K : PySem.W.Frag} {mg : Str → Option Value} {base : Heap} {f : Addr} {fd : FuncData} (g : G P w K mg) (F : FunD K "is_poly" "is_poly" (defArgs t_is_poly) (defBody t_is_poly) (defScope t_is_poly) [] [] f fd) (hm : mg "is_poly" = some (.ref f)) (d_is_integer : DefOk P w K mg base "is_integer" 1 1 f_is_integer) :
    DefOk P w K mg base "is_poly" 2 3 f_is_poly := by
  refine def_ok (N := ["value", "prime", "most", "one"]) (ps := ["value", "prime", "most"]) (k := 1) F sc_is_poly hm (F.bindsN fun _ _ _ _ _ _ us hl => match us, hl with | [_, _, _], _ => rfl) rfl fun cdv A outer s H E hr => ?_
  have S := sc_is_poly
  exact (ss_cons (ss_if (st_w (sw_or (st_not (st_val (se_isi .tuple g.b_isinstance g.b_tuple (by kernel_rfl) rfl rfl (se_var 0)))) (sw_or1 (st_not (st_val (se_callB (bi_all rfl) rfl g.b_all (by kernel_rfl) (sa_cons (se_comp (own := [("one", 3)]) (vg := [3]) rfl S.nd (blkOk_by (by kernel_rfl)) (si_seq (se_var 0)) (fun _ _ _ _ _ => (sg_nm 3 S.nd rfl (by first | exact Or.inl rfl | exact Or.inr rfl))) (fun _ _ _ _ _ => sts_nil) (fun _ _ _ _ _ => (se_and (se_call d_is_integer hr (by decide) rfl (sa_cons (se_var 3) sa_nil)) (se_one (se_chain od_le od_lt se_int (se_var 3) (se_var 1)))))) sa_nil))))))) (ss_one (ss_ret se_bl)) ss_nil)
  (ss_one (ss_ret (se_and (se_or (se_cmp (od_eq hr.units) (se_var 0) (se_tup sa_nil) (by rfl)) (se_one (se_cmp (od_ne hr.units) (se_idx (se_var 0) (se_neg se_int)) se_int (by rfl)))) (se_one (se_or (se_isN (se_var 2)) (se_one (se_cmp od_le (se_callB bi_len rfl g.b_len (by kernel_rfl) (sa_cons (se_var 0) sa_nil)) (se_var 2) (by rfl)))))))))
abbrev t_least_power : Stmt := top 23
theorem sc_least_power : FnScope ["poly", "at", "number"] ["poly"] (defScope t_least_power) := ⟨rfl, rfl, rfl, by decide +kernel, rfl, by decide +kernel, by decide +kernel⟩
theorem k_least_power {P : Program} {w : World} {K : PySem.W.Frag} {mg : Str → Option Value} {base : Heap} {f : Addr} {fd : FuncData} (g : G P w K mg) (F : FunD K "least_power" "least_power" (defArgs t_least_power) (defBody t_least_power) (defScope t_least_power) [] [] f fd) (hm : mg "least_power" = some (.ref f)) :
    DefOk P w K mg base "least_power" 1 1 f_least_power := by
  refine def_ok (N := ["poly", "at", "number"]) (ps := ["poly"]) (k := 0) F sc_least_power hm (F.bindsN fun _ _ _ _ _ _ us hl => match us, hl with | [_], _ => rfl) rfl fun cdv A outer s H E hr => ?_
  have S := sc_least_power
  exact (ss_one (ss_ret (se_idx (se_comp (own := [("at", 1), ("number", 2)]) (vg := [1, 2]) rfl S.nd (blkOk_by (by kernel_rfl)) (si_enum g.b_enumerate rfl (se_var 0)) (fun _ _ _ _ _ => (sg_tp rfl (sgs_cons (sg_nm 1 S.nd rfl (by first | exact Or.inl rfl | exact Or.inr rfl)) (sgs_cons (sg_nm 2 S.nd rfl (by first | exact Or.inl rfl | exact Or.inr rfl)) sgs_nil)))) (fun _ _ _ _ _ => (sts_one (st_cmp (od_ne hr.units) (se_var 2) se_int (by rfl)))) (fun _ _ _ _ _ => (se_var 1))) se_int)))
abbrev t_first_in : Stmt := top 24
theorem sc_first_in : FnScope ["prime", "told"] ["prime", "told"] (defScope t_first_in) := ⟨rfl, rfl, rfl, by decide +kernel, rfl, by decide +kernel, by decide +kernel⟩
theorem k_first_in {P : Program} {w : World} {K : PySem.W.Frag} {mg : Str → Option Value} {base : Heap} {f : Addr} {fd : FuncData} (g : G P w K mg) (F : FunD K "first_in" "first_in" (defArgs t_first_in) (defBody t_first_in) (defScope t_first_in) [] [] f fd) (hm : mg "first_in" = some (.ref f)) (d_least_power : DefOk P w K mg base "least_power" 1 1 f_least_power) :
    DefOk P w K mg base "first_in" 2 2 f_first_in := by
  refine def_ok (N := ["prime", "told"]) (ps := ["prime", "told"]) (k := 1) F sc_first_in hm (F.bindsN fun _ _ _ _ _ _ us hl => match us, hl with | [_, _], _ => rfl) rfl fun cdv A outer s H E hr => ?_
  have S := sc_first_in
  exact (ss_one (ss_ret (se_bin od_add (se_bin od_fdiv (se_call d_least_power hr (by decide) rfl (sa_cons (se_idx (se_var 1) se_int) sa_nil)) (se_bin od_sub (se_var 0) se_int)) se_int)))
abbrev t_shares_at : Stmt := top 25
theorem sc_shares_at : FnScope ["prime", "told", "power", "many", "found", "times", "poly", "at", "number", "place", "rest"] ["prime", "told", "power", "many"] (defScope t_shares_at) := ⟨rfl, rfl, rfl, by decide +kernel, rfl, by decide +kernel, by decide +kernel⟩
theorem k_shares_at {P : Program} {w : World} {K : PySem.W.Frag} {mg : Str → Option Value} {base : Heap} {f : Addr} {fd : FuncData} (g : G P w K mg) (F : FunD K "shares_at" "shares_at" (defArgs t_shares_at) (defBody t_shares_at) (defScope t_shares_at) [] [] f fd) (hm : mg "shares_at" = some (.ref f)) (d_power_of : DefOk P w K mg base "power_of" 1 2 f_power_of) :
    DefOk P w K mg base "shares_at" 2 4 f_shares_at := by
  refine def_ok (N := ["prime", "told", "power", "many", "found", "times", "poly", "at", "number", "place", "rest"]) (ps := ["prime", "told", "power", "many"]) (k := 1) F sc_shares_at hm (F.bindsN fun _ _ _ _ _ _ us hl => match us, hl with | [_, _, _, _], _ => rfl) rfl fun cdv A outer s H E hr => ?_
  have S := sc_shares_at
  exact (ss_cons (ss_own 4 S.nd rfl (by first | exact Or.inl rfl | exact Or.inr rfl) (sn_mul' (se_lst (sa_cons se_int sa_nil)) (se_var 3)))
  (ss_cons (ss_for (vg := [5, 6]) rfl passS (si_enum g.b_enumerate rfl (se_var 1)) (sg_tp rfl (sgs_cons (sg_nm 5 S.nd rfl (by first | exact Or.inl rfl | exact Or.inr rfl)) (sgs_cons (sg_nm 6 S.nd rfl (by first | exact Or.inl rfl | exact Or.inr rfl)) sgs_nil)))
  (ss_one (ss_for (vg := [7, 8]) rfl passS (si_enum g.b_enumerate rfl (se_var 6)) (sg_tp rfl (sgs_cons (sg_nm 7 S.nd rfl (by first | exact Or.inl rfl | exact Or.inr rfl)) (sgs_cons (sg_nm 8 S.nd rfl (by first | exact Or.inl rfl | exact Or.inr rfl)) sgs_nil)))
  (ss_cons (ss_asg (se_callB bi_divmod rfl g.b_divmod (by kernel_rfl) (sa_cons (se_bin od_sub (se_var 2) (se_var 7)) (sa_cons (se_call d_power_of hr (by decide) rfl (sa_cons (se_var 0) (sa_cons (se_var 5) sa_nil))) sa_nil))) (sg_tp rfl (sgs_cons (sg_nm 9 S.nd rfl (by first | exact Or.inl rfl | exact Or.inr rfl)) (sgs_cons (sg_nm 10 S.nd rfl (by first | exact Or.inl rfl | exact Or.inr rfl)) sgs_nil))))
  (ss_one (ss_if (st_w (sw_and (st_cmp od_ge (se_var 2) (se_var 7) (by rfl)) (sw_and (st_cmp (od_eq hr.units) (se_var 10) se_int (by rfl)) (sw_and1 (st_cmp od_lt (se_var 9) (se_var 3) (by rfl)))))) (ss_one (ss_setI 4 (se_var 9) (se_thaw 4 (se_bin od_mod (se_bin od_add (se_idx (se_var 4) (se_var 9)) (se_var 8)) (se_var 0))))) ss_nil))))))
  (ss_one (ss_fz1 4 (ss_ret (se_thaw 4 (se_var 4)))))))
abbrev t_beginnings : Stmt := top 26
theorem sc_beginnings : FnScope ["prime", "told", "many", "views", "rows", "power", "view", "row"] ["prime", "told"] (defScope t_beginnings) := ⟨rfl, rfl, rfl, by decide +kernel, rfl, by decide +kernel, by decide +kernel⟩
theorem k_beginnings {P : Program} {w : World} {K : PySem.W.Frag} {mg : Str → Option Value} {base : Heap} {f : Addr} {fd : FuncData} (g : G P w K mg) (F : FunD K "beginnings" "beginnings" (defArgs t_beginnings) (defBody t_beginnings) (defScope t_beginnings) [] [] f fd) (hm : mg "beginnings" = some (.ref f)) (d_first_in : DefOk P w K mg base "first_in" 2 2 f_first_in) (d_least_power : DefOk P w K mg base "least_power" 1 1 f_least_power) (d_shares_at : DefOk P w K mg base "shares_at" 2 4 f_shares_at) (d_kernel_rows : DefOk P w K mg base "kernel_rows" 2 3 f_kernel_rows) :
    DefOk P w K mg base "beginnings" 3 2 f_beginnings := by
  refine def_ok (N := ["prime", "told", "many", "views", "rows", "power", "view", "row"]) (ps := ["prime", "told"]) (k := 2) F sc_beginnings hm (F.bindsN fun _ _ _ _ _ _ us hl => match us, hl with | [_, _], _ => rfl) rfl fun cdv A outer s H E hr => ?_
  have S := sc_beginnings
  exact (ss_cons (ss_set 2 S.nd rfl (by first | exact Or.inl rfl | exact Or.inr rfl) (se_call d_first_in hr (by decide) rfl (sa_cons (se_var 0) (sa_cons (se_var 1) sa_nil))))
  (ss_cons (ss_setLc 3 (own := [("power", 5)]) (vg := [5]) rfl S.nd rfl rfl (sw_true rfl rfl rfl (by kernel_rfl)) (blkOk_by (by kernel_rfl)) (si_rng1 g.b_range rfl (se_bin od_add (se_call d_least_power hr (by decide) rfl (sa_cons (se_idx (se_var 1) se_int) sa_nil)) (se_var 2))) (fun _ _ _ _ _ => (sg_nm 5 S.nd rfl (by first | exact Or.inl rfl | exact Or.inr rfl))) (fun _ _ _ _ _ => sts_nil) (fun _ _ _ _ _ => (se_call d_shares_at hr (by decide) rfl (sa_cons (se_var 0) (sa_cons (se_var 1) (sa_cons (se_var 5) (sa_cons (se_var 2) sa_nil)))))))
  (ss_cons (ss_set 4 S.nd rfl (by first | exact Or.inl rfl | exact Or.inr rfl) (se_call d_kernel_rows hr (by decide) rfl (sa_cons (se_var 0) (sa_cons (se_comp (own := [("view", 6)]) (vg := [6]) rfl S.nd (blkOk_by (by kernel_rfl)) (si_seq (se_var 3)) (fun _ _ _ _ _ => (sg_nm 6 S.nd rfl (by first | exact Or.inl rfl | exact Or.inr rfl))) (fun _ _ _ _ _ => sts_nil) (fun _ _ _ _ _ => (se_rev2 (se_var 6)))) (sa_cons (se_var 2) sa_nil)))))
  (ss_one (ss_ret (se_rev2 (se_callTy bi_tuple rfl g.b_tuple (by kernel_rfl) (sa_cons (se_comp (own := [("row", 7)]) (vg := [7]) rfl S.nd (blkOk_by (by kernel_rfl)) (si_seq (se_var 4)) (fun _ _ _ _ _ => (sg_nm 7 S.nd rfl (by first | exact Or.inl rfl | exact Or.inr rfl))) (fun _ _ _ _ _ => sts_nil) (fun _ _ _ _ _ => (se_rev2 (se_var 7)))) sa_nil))))))))
abbrev t_value_at : Stmt := top 27
theorem sc_value_at : FnScope ["prime", "told", "letters", "power", "found", "times", "poly", "step", "at", "number"] ["prime", "told", "letters", "power"] (defScope t_value_at) := ⟨rfl, rfl, rfl, by decide +kernel, rfl, by decide +kernel, by decide +kernel⟩
theorem k_value_at {P : Program} {w : World} {K : PySem.W.Frag} {mg : Str → Option Value} {base : Heap} {f : Addr} {fd : FuncData} (g : G P w K mg) (F : FunD K "value_at" "value_at" (defArgs t_value_at) (defBody t_value_at) (defScope t_value_at) [] [] f fd) (hm : mg "value_at" = some (.ref f)) (d_power_of : DefOk P w K mg base "power_of" 1 2 f_power_of) :
    DefOk P w K mg base "value_at" 2 4 f_value_at := by
  refine def_ok (N := ["prime", "told", "letters", "power", "found", "times", "poly", "step", "at", "number"]) (ps := ["prime", "told", "letters", "power"]) (k := 1) F sc_value_at hm (F.bindsN fun _ _ _ _ _ _ us hl => match us, hl with | [_, _, _, _], _ => rfl) rfl fun cdv A outer s H E hr => ?_
  have S := sc_value_at
  exact (ss_cons (ss_set 4 S.nd rfl (by first | exact Or.inl rfl | exact Or.inr rfl) se_int)
  (ss_cons (ss_for (vg := [5, 6]) rfl passS (si_enum g.b_enumerate rfl (se_var 1)) (sg_tp rfl (sgs_cons (sg_nm 5 S.nd rfl (by first | exact Or.inl rfl | exact Or.inr rfl)) (sgs_cons (sg_nm 6 S.nd rfl (by first | exact Or.inl rfl | exact Or.inr rfl)) sgs_nil)))
  (ss_cons (ss_set 7 S.nd rfl (by first | exact Or.inl rfl | exact Or.inr rfl) (se_call d_power_of hr (by decide) rfl (sa_cons (se_var 0) (sa_cons (se_var 5) sa_nil))))
  (ss_one (ss_for (vg := [8, 9]) rfl passS (si_enum g.b_enumerate rfl (se_var 6)) (sg_tp rfl (sgs_cons (sg_nm 8 S.nd rfl (by first | exact Or.inl rfl | exact Or.inr rfl)) (sgs_cons (sg_nm 9 S.nd rfl (by first | exact Or.inl rfl | exact Or.inr rfl)) sgs_nil)))
  (ss_one (ss_if (st_w (sw_and (st_cmp od_ge (se_var 3) (se_var 8) (by rfl)) (sw_and (st_cmp (od_eq hr.units) (se_bin od_mod (se_bin od_sub (se_var 3) (se_var 8)) (se_var 7)) se_int (by rfl)) (sw_and1 (st_cmp od_lt (se_bin od_fdiv (se_bin od_sub (se_var 3) (se_var 8)) (se_var 7)) (se_callB bi_len rfl g.b_len (by kernel_rfl) (sa_cons (se_var 2) sa_nil)) (by rfl)))))) (ss_one (ss_aug 4 oi_add S.nd rfl (by first | exact Or.inl rfl | exact Or.inr rfl) (se_bin od_mul (se_var 9) (se_idx (se_var 2) (se_bin od_fdiv (se_bin od_sub (se_var 3) (se_var 8)) (se_var 7)))))) ss_nil))))))
  (ss_one (ss_ret (se_bin od_mod (se_var 4) (se_var 0))))))
abbrev t_broken_at : Stmt := top 28
theorem sc_broken_at : FnScope ["prime", "told", "letters", "power"] ["prime", "told", "letters"] (defScope t_broken_at) := ⟨rfl, rfl, rfl, by decide +kernel, rfl, by decide +kernel, by decide +kernel⟩
theorem k_broken_at {P : Program} {w : World} {K : PySem.W.Frag} {mg : Str → Option Value} {base : Heap} {f : Addr} {fd : FuncData} (g : G P w K mg) (F : FunD K "broken_at" "broken_at" (defArgs t_broken_at) (defBody t_broken_at) (defScope t_broken_at) [] [] f fd) (hm : mg "broken_at" = some (.ref f)) (d_least_power : DefOk P w K mg base "least_power" 1 1 f_least_power) (d_value_at : DefOk P w K mg base "value_at" 2 4 f_value_at) :
    DefOk P w K mg base "broken_at" 3 3 f_broken_at := by
  refine def_ok (N := ["prime", "told", "letters", "power"]) (ps := ["prime", "told", "letters"]) (k := 2) F sc_broken_at hm (F.bindsN fun _ _ _ _ _ _ us hl => match us, hl with | [_, _, _], _ => rfl) rfl fun cdv A outer s H E hr => ?_
  have S := sc_broken_at
  exact (ss_cons (ss_for (vg := [3]) rfl passS (si_rng1 g.b_range rfl (se_bin od_add (se_call d_least_power hr (by decide) rfl (sa_cons (se_idx (se_var 1) se_int) sa_nil)) (se_callB bi_len rfl g.b_len (by kernel_rfl) (sa_cons (se_var 2) sa_nil)))) (sg_nm 3 S.nd rfl (by first | exact Or.inl rfl | exact Or.inr rfl))
  (ss_one (ss_if (st_cmp (od_ne hr.units) (se_call d_value_at hr (by decide) rfl (sa_cons (se_var 0) (sa_cons (se_var 1) (sa_cons (se_var 2) (sa_cons (se_var 3) sa_nil))))) se_int (by rfl)) (ss_one (ss_ret (se_var 3))) ss_nil)))
  (ss_one (ss_ret se_non)))
abbrev t_letters_in : Stmt := top 29
theorem sc_letters_in : FnScope ["prime", "told", "letters", "many", "found", "least", "lead"] ["prime", "told", "letters", "many"] (defScope t_letters_in) := ⟨rfl, rfl, rfl, by decide +kernel, rfl, by decide +kernel, by decide +kernel⟩
theorem k_letters_in {P : Program} {w : World} {K : PySem.W.Frag} {mg : Str → Option Value} {base : Heap} {f : Addr} {fd : FuncData} (g : G P w K mg) (F : FunD K "letters_in" "letters_in" (defArgs t_letters_in) (defBody t_letters_in) (defScope t_letters_in) [] [] f fd) (hm : mg "letters_in" = some (.ref f)) (d_least_power : DefOk P w K mg base "least_power" 1 1 f_least_power) (d_inverse_of : DefOk P w K mg base "inverse_of" 1 2 f_inverse_of) (d_value_at : DefOk P w K mg base "value_at" 2 4 f_value_at) :
    DefOk P w K mg base "letters_in" 3 4 f_letters_in := by
  refine def_ok (N := ["prime", "told", "letters", "many", "found", "least", "lead"]) (ps := ["prime", "told", "letters", "many"]) (k := 2) F sc_letters_in hm (F.bindsN fun _ _ _ _ _ _ us hl => match us, hl with | [_, _, _, _], _ => rfl) rfl fun cdv A outer s H E hr => ?_
  have S := sc_letters_in
  exact (ss_cons (ss_parO 4 5 rfl S.nd rfl rfl (by decide) rfl rfl (sn_list' rfl g.b_list (by kernel_rfl) (se_var 2)) (se_call d_least_power hr (by decide) rfl (sa_cons (se_idx (se_var 1) se_int) sa_nil)) (by rfl))
  (ss_cons (ss_set 6 S.nd rfl (by first | exact Or.inl rfl | exact Or.inr rfl) (se_call d_inverse_of hr (by decide) rfl (sa_cons (se_var 0) (sa_cons (se_idx (se_idx (se_var 1) se_int) (se_var 5)) sa_nil))))
  (ss_cons (ss_while 200 passS (st_thaw 4 (st_cmp od_lt (se_callB bi_len rfl g.b_len (by kernel_rfl) (sa_cons (se_var 4) sa_nil)) (se_var 3) (by rfl)))
  (ss_one (ss_append 4 (se_thaw 4 (se_bin od_mod (se_bin od_sub se_int (se_bin od_mul (se_call d_value_at hr (by decide) rfl (sa_cons (se_var 0) (sa_cons (se_var 1) (sa_cons (se_var 4) (sa_cons (se_bin od_add (se_var 5) (se_callB bi_len rfl g.b_len (by kernel_rfl) (sa_cons (se_var 4) sa_nil))) sa_nil))))) (se_var 6))) (se_var 0))))))
  (ss_one (ss_fz1 4 (ss_ret (se_thaw 4 (se_sl (se_var 4) so_none (so_some (se_var 3))))))))))
abbrev t_require_told : Stmt := top 30
theorem sc_require_told : FnScope ["base", "told", "poly"] ["base", "told"] (defScope t_require_told) := ⟨rfl, rfl, rfl, by decide +kernel, rfl, by decide +kernel, by decide +kernel⟩
theorem k_require_told {P : Program} {w : World} {K : PySem.W.Frag} {mg : Str → Option Value} {base : Heap} {f : Addr} {fd : FuncData} (g : G P w K mg) (F : FunD K "require_told" "require_told" (defArgs t_require_told) (defBody t_require_told) (defScope t_require_told) [] [] f fd) (hm : mg "require_told" = some (.ref f)) (d_is_integer : DefOk P w K mg base "is_integer" 1 1 f_is_integer) (d_is_poly : DefOk P w K mg base "is_poly" 2 3 f_is_poly) :
    DefOk P w K mg base "require_told" 3 2 f_require_told := by
  refine def_ok (N := ["base", "told", "poly"]) (ps := ["base", "told"]) (k := 2) F sc_require_told hm (F.bindsN fun _ _ _ _ _ _ us hl => match us, hl with | [_, _], _ => rfl) rfl fun cdv A outer s H E hr => ?_
  have S := sc_require_told
  exact (ss_cons (ss_if (st_w (sw_or (st_not (st_val (se_call d_is_integer hr (by decide) rfl (sa_cons (se_var 0) sa_nil)))) (sw_or1 (st_cmp od_notIn (se_var 0) (se_globE (by rfl) g.c_PRIMES) (by rfl))))) (ss_one ss_never) ss_nil)
  (ss_cons (ss_if (st_w (sw_or (st_not (st_val (se_isi .tuple g.b_isinstance g.b_tuple (by kernel_rfl) rfl rfl (se_var 1)))) (sw_or1 (st_not (st_chain od_le od_le se_int (se_callB bi_len rfl g.b_len (by kernel_rfl) (sa_cons (se_var 1) sa_nil)) (se_bin od_add (se_globE (by rfl) g.c_MOST_TERMS) se_int)))))) (ss_one ss_never) ss_nil)
  (ss_one (ss_if (st_w (sw_or (st_not (st_val (se_callB (bi_all rfl) rfl g.b_all (by kernel_rfl) (sa_cons (se_comp (own := [("poly", 2)]) (vg := [2]) rfl S.nd (blkOk_by (by kernel_rfl)) (si_seq (se_var 1)) (fun _ _ _ _ _ => (sg_nm 2 S.nd rfl (by first | exact Or.inl rfl | exact Or.inr rfl))) (fun _ _ _ _ _ => sts_nil) (fun _ _ _ _ _ => (se_call d_is_poly hr (by decide) rfl (sa_cons (se_var 2) (sa_cons (se_var 0) (sa_cons (se_globE (by rfl) g.c_MOST_LENGTH) sa_nil)))))) sa_nil)))) (sw_or1 (st_cmp (od_eq hr.units) (se_idx (se_var 1) se_int) (se_tup sa_nil) (by rfl))))) (ss_one ss_never) ss_nil))))
abbrev t_require_letters : Stmt := top 31
theorem sc_require_letters : FnScope ["base", "told", "letters", "letter"] ["base", "told", "letters"] (defScope t_require_letters) := ⟨rfl, rfl, rfl, by decide +kernel, rfl, by decide +kernel, by decide +kernel⟩
theorem k_require_letters {P : Program} {w : World} {K : PySem.W.Frag} {mg : Str → Option Value} {base : Heap} {f : Addr} {fd : FuncData} (g : G P w K mg) (F : FunD K "require_letters" "require_letters" (defArgs t_require_letters) (defBody t_require_letters) (defScope t_require_letters) [] [] f fd) (hm : mg "require_letters" = some (.ref f)) (d_first_in : DefOk P w K mg base "first_in" 2 2 f_first_in) (d_is_within : DefOk P w K mg base "is_within" 2 3 f_is_within) :
    DefOk P w K mg base "require_letters" 3 3 f_require_letters := by
  refine def_ok (N := ["base", "told", "letters", "letter"]) (ps := ["base", "told", "letters"]) (k := 2) F sc_require_letters hm (F.bindsN fun _ _ _ _ _ _ us hl => match us, hl with | [_, _, _], _ => rfl) rfl fun cdv A outer s H E hr => ?_
  have S := sc_require_letters
  exact (ss_cons (ss_if (st_w (sw_or (st_not (st_val (se_isi .tuple g.b_isinstance g.b_tuple (by kernel_rfl) rfl rfl (se_var 2)))) (sw_or1 (st_cmp (od_ne hr.units) (se_callB bi_len rfl g.b_len (by kernel_rfl) (sa_cons (se_var 2) sa_nil)) (se_call d_first_in hr (by decide) rfl (sa_cons (se_var 0) (sa_cons (se_var 1) sa_nil))) (by rfl))))) (ss_one ss_never) ss_nil)
  (ss_one (ss_if (st_not (st_val (se_callB (bi_all rfl) rfl g.b_all (by kernel_rfl) (sa_cons (se_comp (own := [("letter", 3)]) (vg := [3]) rfl S.nd (blkOk_by (by kernel_rfl)) (si_seq (se_var 2)) (fun _ _ _ _ _ => (sg_nm 3 S.nd rfl (by first | exact Or.inl rfl | exact Or.inr rfl))) (fun _ _ _ _ _ => sts_nil) (fun _ _ _ _ _ => (se_call d_is_within hr (by decide) rfl (sa_cons (se_var 3) (sa_cons se_int (sa_cons (se_bin od_sub (se_var 0) se_int) sa_nil)))))) sa_nil)))) (ss_one ss_never) ss_nil)))
abbrev t_require_solution : Stmt := top 32
theorem sc_require_solution : FnScope ["base", "told", "letters", "power"] ["base", "told", "letters"] (defScope t_require_solution) := ⟨rfl, rfl, rfl, by decide +kernel, rfl, by decide +kernel, by decide +kernel⟩
theorem k_require_solution {P : Program} {w : World} {K : PySem.W.Frag} {mg : Str → Option Value} {base : Heap} {f : Addr} {fd : FuncData} (g : G P w K mg) (F : FunD K "require_solution" "require_solution" (defArgs t_require_solution) (defBody t_require_solution) (defScope t_require_solution) [] [] f fd) (hm : mg "require_solution" = some (.ref f)) (d_broken_at : DefOk P w K mg base "broken_at" 3 3 f_broken_at) :
    DefOk P w K mg base "require_solution" 4 3 f_require_solution := by
  refine def_ok (N := ["base", "told", "letters", "power"]) (ps := ["base", "told", "letters"]) (k := 3) F sc_require_solution hm (F.bindsN fun _ _ _ _ _ _ us hl => match us, hl with | [_, _, _], _ => rfl) rfl fun cdv A outer s H E hr => ?_
  have S := sc_require_solution
  exact (ss_cons (ss_set 3 S.nd rfl (by first | exact Or.inl rfl | exact Or.inr rfl) (se_call d_broken_at hr (by decide) rfl (sa_cons (se_var 0) (sa_cons (se_var 1) (sa_cons (se_var 2) sa_nil)))))
  (ss_one (ss_if (st_notN (se_var 3)) (ss_one (ss_raise (g.x_Refused _ rfl rfl rfl rfl) rfl hr rfl g.b_super (se_tup (sa_cons (se_globE (by rfl) g.c_POWER) (sa_cons (se_var 3) sa_nil))))) ss_nil)))
abbrev t_first_many : Stmt := top 33
theorem sc_first_many : FnScope ["base", "told"] ["base", "told"] (defScope t_first_many) := ⟨rfl, rfl, rfl, by decide +kernel, rfl, by decide +kernel, by decide +kernel⟩
theorem k_first_many {P : Program} {w : World} {K : PySem.W.Frag} {mg : Str → Option Value} {base : Heap} {f : Addr} {fd : FuncData} (g : G P w K mg) (F : FunD K "first_many" "first_many" (defArgs t_first_many) (defBody t_first_many) (defScope t_first_many) [] [] f fd) (hm : mg "first_many" = some (.ref f)) (d_require_told : DefOk P w K mg base "require_told" 3 2 f_require_told) (d_first_in : DefOk P w K mg base "first_in" 2 2 f_first_in) :
    DefOk P w K mg base "first_many" 4 2 f_first_many := by
  refine def_ok (N := ["base", "told"]) (ps := ["base", "told"]) (k := 3) F sc_first_many hm (F.bindsN fun _ _ _ _ _ _ us hl => match us, hl with | [_, _], _ => rfl) rfl fun cdv A outer s H E hr => ?_
  have S := sc_first_many
  exact (ss_cons (ss_expr (se_call d_require_told hr (by decide) rfl (sa_cons (se_var 0) (sa_cons (se_var 1) sa_nil))))
  (ss_one (ss_ret (se_call d_first_in hr (by decide) rfl (sa_cons (se_var 0) (sa_cons (se_var 1) sa_nil))))))
abbrev t_first_letters : Stmt := top 34
theorem sc_first_letters : FnScope ["base", "told"] ["base", "told"] (defScope t_first_letters) := ⟨rfl, rfl, rfl, by decide +kernel, rfl, by decide +kernel, by decide +kernel⟩
theorem k_first_letters {P : Program} {w : World} {K : PySem.W.Frag} {mg : Str → Option Value} {base : Heap} {f : Addr} {fd : FuncData} (g : G P w K mg) (F : FunD K "first_letters" "first_letters" (defArgs t_first_letters) (defBody t_first_letters) (defScope t_first_letters) [] [] f fd) (hm : mg "first_letters" = some (.ref f)) (d_require_told : DefOk P w K mg base "require_told" 3 2 f_require_told) (d_beginnings : DefOk P w K mg base "beginnings" 3 2 f_beginnings) :
    DefOk P w K mg base "first_letters" 4 2 f_first_letters := by
  refine def_ok (N := ["base", "told"]) (ps := ["base", "told"]) (k := 3) F sc_first_letters hm (F.bindsN fun _ _ _ _ _ _ us hl => match us, hl with | [_, _], _ => rfl) rfl fun cdv A outer s H E hr => ?_
  have S := sc_first_letters
  exact (ss_cons (ss_expr (se_call d_require_told hr (by decide) rfl (sa_cons (se_var 0) (sa_cons (se_var 1) sa_nil))))
  (ss_one (ss_ret (se_call d_beginnings hr (by decide) rfl (sa_cons (se_var 0) (sa_cons (se_var 1) sa_nil))))))
abbrev t_solution_letters : Stmt := top 35
theorem sc_solution_letters : FnScope ["base", "told", "letters", "many"] ["base", "told", "letters", "many"] (defScope t_solution_letters) := ⟨rfl, rfl, rfl, by decide +kernel, rfl, by decide +kernel, by decide +kernel⟩
theorem k_solution_letters {P : Program} {w : World} {K : PySem.W.Frag} {mg : Str → Option Value} {base : Heap} {f : Addr} {fd : FuncData} (g : G P w K mg) (F : FunD K "solution_letters" "solution_letters" (defArgs t_solution_letters) (defBody t_solution_letters) (defScope t_solution_letters) [] [] f fd) (hm : mg "solution_letters" = some (.ref f)) (d_require_told : DefOk P w K mg base "require_told" 3 2 f_require_told) (d_require_letters : DefOk P w K mg base "require_letters" 3 3 f_require_letters) (d_is_within : DefOk P w K mg base "is_within" 2 3 f_is_within) (d_require_solution : DefOk P w K mg base "require_solution" 4 3 f_require_solution) (d_letters_in : DefOk P w K mg base "letters_in" 3 4 f_letters_in) :
    DefOk P w K mg base "solution_letters" 5 4 f_solution_letters := by
  refine def_ok (N := ["base", "told", "letters", "many"]) (ps := ["base", "told", "letters", "many"]) (k := 4) F sc_solution_letters hm (F.bindsN fun _ _ _ _ _ _ us hl => match us, hl with | [_, _, _, _], _ => rfl) rfl fun cdv A outer s H E hr => ?_
  have S := sc_solution_letters
  exact (ss_cons (ss_expr (se_call d_require_told hr (by decide) rfl (sa_cons (se_var 0) (sa_cons (se_var 1) sa_nil))))
  (ss_cons (ss_expr (se_call d_require_letters hr (by decide) rfl (sa_cons (se_var 0) (sa_cons (se_var 1) (sa_cons (se_var 2) sa_nil)))))
  (ss_cons (ss_if (st_not (st_val (se_call d_is_within hr (by decide) rfl (sa_cons (se_var 3) (sa_cons se_int (sa_cons (se_globE (by rfl) g.c_MOST_LETTERS) sa_nil)))))) (ss_one ss_never) ss_nil)
  (ss_cons (ss_expr (se_call d_require_solution hr (by decide) rfl (sa_cons (se_var 0) (sa_cons (se_var 1) (sa_cons (se_var 2) sa_nil)))))
  (ss_one (ss_ret (se_callTy bi_tuple rfl g.b_tuple (by kernel_rfl) (sa_cons (se_call d_letters_in hr (by decide) rfl (sa_cons (se_var 0) (sa_cons (se_var 1) (sa_cons (se_var 2) (sa_cons (se_var 3) sa_nil))))) sa_nil))))))))
abbrev t__law_roll : Stmt := top 38
theorem sc__law_roll : FnScope ["dice", "total", "found", "one", "two"] ["dice", "total"] (defScope t__law_roll) := ⟨rfl, rfl, rfl, by decide +kernel, rfl, by decide +kernel, by decide +kernel⟩
theorem k__law_roll {P : Program} {w : World} {K : PySem.W.Frag} {mg : Str → Option Value} {base : Heap} {f : Addr} {fd : FuncData} (g : G P w K mg) (F : FunD K "_law_roll" "_law_roll" (defArgs t__law_roll) (defBody t__law_roll) (defScope t__law_roll) [] [] f fd) (hm : mg "_law_roll" = some (.ref f)) :
    DefOk P w K mg base "_law_roll" 1 2 f__law_roll := by
  refine def_ok (N := ["dice", "total", "found", "one", "two"]) (ps := ["dice", "total"]) (k := 0) F sc__law_roll hm (F.bindsN fun _ _ _ _ _ _ us hl => match us, hl with | [_, _], _ => rfl) rfl fun cdv A outer s H E hr => ?_
  have S := sc__law_roll
  exact (ss_cons (ss_if (st_cmp od_gt (se_dice (se_var 0) se_int) se_int (by rfl)) (ss_cons (ss_set 2 S.nd rfl (by first | exact Or.inl rfl | exact Or.inr rfl) (se_bin od_mod (se_dice (se_var 0) se_int) (se_var 1)))
  (ss_cons (ss_dice 0 se_int (se_bin od_fdiv (se_dice (se_var 0) se_int) (se_var 1)))
  (ss_one (ss_ret (se_callTy bi_int rfl g.b_int (by kernel_rfl) (sa_cons (se_var 2) sa_nil)))))) ss_nil)
  (ss_cons (ss_dice 0 se_int (se_bin od_add (se_dice (se_var 0) se_int) se_int))
  (ss_cons (ss_set 3 S.nd rfl (by first | exact Or.inl rfl | exact Or.inr rfl) (se_bin od_mod (se_bin od_add (se_dice (se_var 0) se_int) (se_bin od_mul se_int (se_dice (se_var 0) se_int))) se_int))
  (ss_cons (ss_set 4 S.nd rfl (by first | exact Or.inl rfl | exact Or.inr rfl) (se_bin od_add (se_bin od_mul (se_bin od_mod (se_bin od_add (se_bin od_mul (se_var 3) (se_var 3)) (se_bin od_mul se_int (se_dice (se_var 0) se_int))) se_int) se_int) (se_var 3)))
  (ss_one (ss_ret (se_bin od_mod (se_callTy bi_int rfl g.b_int (by kernel_rfl) (sa_cons (se_bin od_fdiv (se_var 4) se_int) sa_nil)) (se_var 1))))))))
abbrev t__law_pick : Stmt := top 39
theorem sc__law_pick : FnScope ["dice", "items"] ["dice", "items"] (defScope t__law_pick) := ⟨rfl, rfl, rfl, by decide +kernel, rfl, by decide +kernel, by decide +kernel⟩
theorem k__law_pick {P : Program} {w : World} {K : PySem.W.Frag} {mg : Str → Option Value} {base : Heap} {f : Addr} {fd : FuncData} (g : G P w K mg) (F : FunD K "_law_pick" "_law_pick" (defArgs t__law_pick) (defBody t__law_pick) (defScope t__law_pick) [] [] f fd) (hm : mg "_law_pick" = some (.ref f)) (d__law_roll : DefOk P w K mg base "_law_roll" 1 2 f__law_roll) :
    DefOk P w K mg base "_law_pick" 2 2 f__law_pick := by
  refine def_ok (N := ["dice", "items"]) (ps := ["dice", "items"]) (k := 1) F sc__law_pick hm (F.bindsN fun _ _ _ _ _ _ us hl => match us, hl with | [_, _], _ => rfl) rfl fun cdv A outer s H E hr => ?_
  have S := sc__law_pick
  exact (ss_one (ss_ret (se_idx (se_var 1) (se_call d__law_roll hr (by decide) rfl (sa_cons (se_var 0) (sa_cons (se_callB bi_len rfl g.b_len (by kernel_rfl) (sa_cons (se_var 1) sa_nil)) sa_nil))))))
abbrev t__law_se_poly : Stmt := top 40
theorem sc__law_se_poly : FnScope ["row", "base", "found", "number"] ["row", "base"] (defScope t__law_se_poly) := ⟨rfl, rfl, rfl, by decide +kernel, rfl, by decide +kernel, by decide +kernel⟩
theorem k__law_se_poly {P : Program} {w : World} {K : PySem.W.Frag} {mg : Str → Option Value} {base : Heap} {f : Addr} {fd : FuncData} (g : G P w K mg) (F : FunD K "_law_se_poly" "_law_se_poly" (defArgs t__law_se_poly) (defBody t__law_se_poly) (defScope t__law_se_poly) [] [] f fd) (hm : mg "_law_se_poly" = some (.ref f)) :
    DefOk P w K mg base "_law_se_poly" 1 2 f__law_se_poly := by
  refine def_ok (N := ["row", "base", "found", "number"]) (ps := ["row", "base"]) (k := 0) F sc__law_se_poly hm (F.bindsN fun _ _ _ _ _ _ us hl => match us, hl with | [_, _], _ => rfl) rfl fun cdv A outer s H E hr => ?_
  have S := sc__law_se_poly
  exact (ss_cons (ss_setLc 2 (own := [("number", 3)]) (vg := [3]) rfl S.nd rfl rfl (sw_true rfl rfl rfl (by kernel_rfl)) (blkOk_by (by kernel_rfl)) (si_seq (se_var 0)) (fun _ _ _ _ _ => (sg_nm 3 S.nd rfl (by first | exact Or.inl rfl | exact Or.inr rfl))) (fun _ _ _ _ _ => sts_nil) (fun _ _ _ _ _ => (se_bin od_mod (se_var 3) (se_var 1))))
  (ss_cons (ss_while 200 passS (st_w (sw_and (st_cmp (od_ne hr.units) (se_var 2) (se_lst sa_nil) (by rfl)) (sw_and1 (st_cmp (od_eq hr.units) (se_idx (se_var 2) (se_neg se_int)) se_int (by rfl)))))
  (ss_one (ss_set 2 S.nd rfl (by first | exact Or.inl rfl | exact Or.inr rfl) (se_sl (se_var 2) so_none (so_some (se_neg se_int))))))
  (ss_one (ss_ret (se_callTy bi_tuple rfl g.b_tuple (by kernel_rfl) (sa_cons (se_var 2) sa_nil))))))
abbrev t__law_se_times : Stmt := top 41
theorem sc__law_se_times : FnScope ["one", "other", "many", "base", "found", "at", "left", "spot", "right"] ["one", "other", "many", "base"] (defScope t__law_se_times) := ⟨rfl, rfl, rfl, by decide +kernel, rfl, by decide +kernel, by decide +kernel⟩
theorem k__law_se_times {P : Program} {w : World} {K : PySem.W.Frag} {mg : Str → Option Value} {base : Heap} {f : Addr} {fd : FuncData} (g : G P w K mg) (F : FunD K "_law_se_times" "_law_se_times" (defArgs t__law_se_times) (defBody t__law_se_times) (defScope t__law_se_times) [] [] f fd) (hm : mg "_law_se_times" = some (.ref f)) :
    DefOk P w K mg base "_law_se_times" 1 4 f__law_se_times := by
  refine def_ok (N := ["one", "other", "many", "base", "found", "at", "left", "spot", "right"]) (ps := ["one", "other", "many", "base"]) (k := 0) F sc__law_se_times hm (F.bindsN fun _ _ _ _ _ _ us hl => match us, hl with | [_, _, _, _], _ => rfl) rfl fun cdv A outer s H E hr => ?_
  have S := sc__law_se_times
  exact (ss_cons (ss_own 4 S.nd rfl (by first | exact Or.inl rfl | exact Or.inr rfl) (sn_mul' (se_lst (sa_cons se_int sa_nil)) (se_var 2)))
  (ss_cons (ss_for (vg := [5, 6]) rfl passS (si_enum g.b_enumerate rfl (se_sl (se_var 0) so_none (so_some (se_var 2)))) (sg_tp rfl (sgs_cons (sg_nm 5 S.nd rfl (by first | exact Or.inl rfl | exact Or.inr rfl)) (sgs_cons (sg_nm 6 S.nd rfl (by first | exact Or.inl rfl | exact Or.inr rfl)) sgs_nil)))
  (ss_one (ss_for (vg := [7, 8]) rfl passS (si_enum g.b_enumerate rfl (se_sl (se_var 1) so_none (so_some (se_bin od_sub (se_var 2) (se_var 5))))) (sg_tp rfl (sgs_cons (sg_nm 7 S.nd rfl (by first | exact Or.inl rfl | exact Or.inr rfl)) (sgs_cons (sg_nm 8 S.nd rfl (by first | exact Or.inl rfl | exact Or.inr rfl)) sgs_nil)))
  (ss_one (ss_setI 4 (se_bin od_add (se_var 5) (se_var 7)) (se_thaw 4 (se_bin od_mod (se_bin od_add (se_idx (se_var 4) (se_bin od_add (se_var 5) (se_var 7))) (se_bin od_mul (se_var 6) (se_var 8))) (se_var 3))))))))
  (ss_one (ss_fz1 4 (ss_ret (se_thaw 4 (se_var 4)))))))
abbrev t__law_se_spread : Stmt := top 42
theorem sc__law_se_spread : FnScope ["letters", "step", "many", "at"] ["letters", "step", "many"] (defScope t__law_se_spread) := ⟨rfl, rfl, rfl, by decide +kernel, rfl, by decide +kernel, by decide +kernel⟩
theorem k__law_se_spread {P : Program} {w : World} {K : PySem.W.Frag} {mg : Str → Option Value} {base : Heap} {f : Addr} {fd : FuncData} (g : G P w K mg) (F : FunD K "_law_se_spread" "_law_se_spread" (defArgs t__law_se_spread) (defBody t__law_se_spread) (defScope t__law_se_spread) [] [] f fd) (hm : mg "_law_se_spread" = some (.ref f)) :
    DefOk P w K mg base "_law_se_spread" 1 3 f__law_se_spread := by
  refine def_ok (N := ["letters", "step", "many", "at"]) (ps := ["letters", "step", "many"]) (k := 0) F sc__law_se_spread hm (F.bindsN fun _ _ _ _ _ _ us hl => match us, hl with | [_, _, _], _ => rfl) rfl fun cdv A outer s H E hr => ?_
  have S := sc__law_se_spread
  exact (ss_one (ss_ret (se_comp (own := [("at", 3)]) (vg := [3]) rfl S.nd (blkOk_by (by kernel_rfl)) (si_rng1 g.b_range rfl (se_var 2)) (fun _ _ _ _ _ => (sg_nm 3 S.nd rfl (by first | exact Or.inl rfl | exact Or.inr rfl))) (fun _ _ _ _ _ => sts_nil) (fun _ _ _ _ _ => (se_if (st_cmp (od_eq hr.units) (se_bin od_mod (se_var 3) (se_var 1)) se_int (by rfl)) (se_idx (se_var 0) (se_bin od_fdiv (se_var 3) (se_var 1))) se_int)))))
abbrev t__law_se_left : Stmt := top 43
theorem sc__law_se_left : FnScope ["told", "letters", "many", "base", "total", "step", "poly", "part", "one", "other"] ["told", "letters", "many", "base"] (defScope t__law_se_left) := ⟨rfl, rfl, rfl, by decide +kernel, rfl, by decide +kernel, by decide +kernel⟩
theorem k__law_se_left {P : Program} {w : World} {K : PySem.W.Frag} {mg : Str → Option Value} {base : Heap} {f : Addr} {fd : FuncData} (g : G P w K mg) (F : FunD K "_law_se_left" "_law_se_left" (defArgs t__law_se_left) (defBody t__law_se_left) (defScope t__law_se_left) [] [] f fd) (hm : mg "_law_se_left" = some (.ref f)) (d__law_se_times : DefOk P w K mg base "_law_se_times" 1 4 f__law_se_times) (d__law_se_spread : DefOk P w K mg base "_law_se_spread" 1 3 f__law_se_spread) :
    DefOk P w K mg base "_law_se_left" 2 4 f__law_se_left := by
  refine def_ok (N := ["told", "letters", "many", "base", "total", "step", "poly", "part", "one", "other"]) (ps := ["told", "letters", "many", "base"]) (k := 1) F sc__law_se_left hm (F.bindsN fun _ _ _ _ _ _ us hl => match us, hl with | [_, _, _, _], _ => rfl) rfl fun cdv A outer s H E hr => ?_
  have S := sc__law_se_left
  exact (ss_cons (ss_par 4 5 rfl S.nd rfl rfl (by decide) rfl rfl (sa_cons (se_new (sn_mul' (se_lst (sa_cons se_int sa_nil)) (se_var 2))) (sa_cons se_int sa_nil)) (by rfl))
  (ss_cons (ss_for (vg := [6]) rfl passS (si_seq (se_var 0)) (sg_nm 6 S.nd rfl (by first | exact Or.inl rfl | exact Or.inr rfl))
  (ss_cons (ss_set 7 S.nd rfl (by first | exact Or.inl rfl | exact Or.inr rfl) (se_call d__law_se_times hr (by decide) rfl (sa_cons (se_var 6) (sa_cons (se_call d__law_se_spread hr (by decide) rfl (sa_cons (se_var 1) (sa_cons (se_var 5) (sa_cons (se_var 2) sa_nil)))) (sa_cons (se_var 2) (sa_cons (se_var 3) sa_nil))))))
  (ss_one (ss_par 4 5 rfl S.nd rfl rfl (by decide) rfl rfl (sa_cons (se_comp (own := [("one", 8), ("other", 9)]) (vg := [8, 9]) rfl S.nd (blkOk_by (by kernel_rfl)) (si_zip g.b_zip rfl (se_var 4) (se_var 7)) (fun _ _ _ _ _ => (sg_tp rfl (sgs_cons (sg_nm 8 S.nd rfl (by first | exact Or.inl rfl | exact Or.inr rfl)) (sgs_cons (sg_nm 9 S.nd rfl (by first | exact Or.inl rfl | exact Or.inr rfl)) sgs_nil)))) (fun _ _ _ _ _ => sts_nil) (fun _ _ _ _ _ => (se_bin od_mod (se_bin od_add (se_var 8) (se_var 9)) (se_var 3)))) (sa_cons (se_bin od_mul (se_var 5) (se_var 3)) sa_nil)) (by rfl)))))
  (ss_one (ss_ret (se_var 4)))))
abbrev t__law_se_drawn : Stmt := top 44
theorem sc__law_se_drawn : FnScope ["dice", "base", "most", "turn"] ["dice", "base", "most"] (defScope t__law_se_drawn) := ⟨rfl, rfl, rfl, by decide +kernel, rfl, by decide +kernel, by decide +kernel⟩
theorem k__law_se_drawn {P : Program} {w : World} {K : PySem.W.Frag} {mg : Str → Option Value} {base : Heap} {f : Addr} {fd : FuncData} (g : G P w K mg) (F : FunD K "_law_se_drawn" "_law_se_drawn" (defArgs t__law_se_drawn) (defBody t__law_se_drawn) (defScope t__law_se_drawn) [] [] f fd) (hm : mg "_law_se_drawn" = some (.ref f)) (d__law_se_poly : DefOk P w K mg base "_law_se_poly" 1 2 f__law_se_poly) (d__law_roll : DefOk P w K mg base "_law_roll" 1 2 f__law_roll) :
    DefOk P w K mg base "_law_se_drawn" 2 3 f__law_se_drawn := by
  refine def_ok (N := ["dice", "base", "most", "turn"]) (ps := ["dice", "base", "most"]) (k := 1) F sc__law_se_drawn hm (F.bindsN fun _ _ _ _ _ _ us hl => match us, hl with | [_, _, _], _ => rfl) rfl fun cdv A outer s H E hr => ?_
  have S := sc__law_se_drawn
  exact (ss_one (ss_ret (se_call d__law_se_poly hr (by decide) rfl (sa_cons (se_comp (own := [("turn", 3)]) (vg := [3]) rfl S.nd (blkOk_by (by kernel_rfl)) (si_rng1 g.b_range rfl (se_call d__law_roll hr (by decide) rfl (sa_cons (se_var 0) (sa_cons (se_bin od_add (se_var 2) se_int) sa_nil)))) (fun _ _ _ _ _ => (sg_nm 3 S.nd rfl (by first | exact Or.inl rfl | exact Or.inr rfl))) (fun _ _ _ _ _ => sts_nil) (fun _ _ _ _ _ => (se_call d__law_roll hr (by decide) rfl (sa_cons (se_var 0) (sa_cons (se_var 1) sa_nil))))) (sa_cons (se_var 1) sa_nil)))))
abbrev t__law_equation : Stmt := top 45
theorem sc__law_equation : FnScope ["dice", "base", "told", "noughts", "first", "rest", "turn", "poly"] ["dice", "base"] (defScope t__law_equation) := ⟨rfl, rfl, rfl, by decide +kernel, rfl, by decide +kernel, by decide +kernel⟩
theorem k__law_equation {P : Program} {w : World} {K : PySem.W.Frag} {mg : Str → Option Value} {base : Heap} {f : Addr} {fd : FuncData} (g : G P w K mg) (F : FunD K "_law_equation" "_law_equation" (defArgs t__law_equation) (defBody t__law_equation) (defScope t__law_equation) [] [] f fd) (hm : mg "_law_equation" = some (.ref f)) (d__law_roll : DefOk P w K mg base "_law_roll" 1 2 f__law_roll) (d__law_se_drawn : DefOk P w K mg base "_law_se_drawn" 2 3 f__law_se_drawn) :
    DefOk P w K mg base "_law_equation" 3 2 f__law_equation := by
  refine def_ok (N := ["dice", "base", "told", "noughts", "first", "rest", "turn", "poly"]) (ps := ["dice", "base"]) (k := 2) F sc__law_equation hm (F.bindsN fun _ _ _ _ _ _ us hl => match us, hl with | [_, _], _ => rfl) rfl fun cdv A outer s H E hr => ?_
  have S := sc__law_equation
  exact (ss_cons (ss_setLc 2 (own := [("turn", 6)]) (vg := [6]) rfl S.nd rfl rfl (sw_true rfl rfl rfl (by kernel_rfl)) (blkOk_by (by kernel_rfl)) (si_rng1 g.b_range rfl (se_bin od_add se_int (se_call d__law_roll hr (by decide) rfl (sa_cons (se_var 0) (sa_cons se_int sa_nil))))) (fun _ _ _ _ _ => (sg_nm 6 S.nd rfl (by first | exact Or.inl rfl | exact Or.inr rfl))) (fun _ _ _ _ _ => sts_nil) (fun _ _ _ _ _ => (se_call d__law_se_drawn hr (by decide) rfl (sa_cons (se_var 0) (sa_cons (se_var 1) (sa_cons se_int sa_nil))))))
  (ss_cons (ss_set 3 S.nd rfl (by first | exact Or.inl rfl | exact Or.inr rfl) (se_if (st_cmp (od_eq hr.units) (se_call d__law_roll hr (by decide) rfl (sa_cons (se_var 0) (sa_cons se_int sa_nil))) se_int (by rfl)) (se_call d__law_roll hr (by decide) rfl (sa_cons (se_var 0) (sa_cons se_int sa_nil))) se_int))
  (ss_cons (ss_set 4 S.nd rfl (by first | exact Or.inl rfl | exact Or.inr rfl) (se_bin od_add (se_bin od_add (se_bin od_rep (se_tup (sa_cons se_int sa_nil)) (se_var 3)) (se_tup (sa_cons (se_bin od_add se_int (se_call d__law_roll hr (by decide) rfl (sa_cons (se_var 0) (sa_cons (se_bin od_sub (se_var 1) se_int) sa_nil)))) sa_nil))) (se_idx (se_var 2) se_int)))
  (ss_cons (ss_if (st_cmp (od_eq hr.units) (se_call d__law_roll hr (by decide) rfl (sa_cons (se_var 0) (sa_cons se_int sa_nil))) se_int (by rfl)) (ss_cons (ss_set 5 S.nd rfl (by first | exact Or.inl rfl | exact Or.inr rfl) (se_bin od_mod (se_callB (bi_sum rfl) rfl g.b_sum (by kernel_rfl) (sa_cons (se_comp (own := [("poly", 7)]) (vg := [7]) rfl S.nd (blkOk_by (by kernel_rfl)) (si_seq (se_sl (se_var 2) (so_some se_int) so_none)) (fun _ _ _ _ _ => (sg_nm 7 S.nd rfl (by first | exact Or.inl rfl | exact Or.inr rfl))) (fun _ _ _ _ _ => (sts_one (st_cmp (od_ne hr.units) (se_var 7) (se_tup sa_nil) (by rfl)))) (fun _ _ _ _ _ => (se_idx (se_var 7) se_int))) sa_nil)) (se_var 1)))
  (ss_one (ss_set 4 S.nd rfl (by first | exact Or.inl rfl | exact Or.inr rfl) (se_if (st_cmp (od_ne hr.units) (se_var 5) se_int (by rfl)) (se_bin od_add (se_tup (sa_cons (se_bin od_mod (se_bin od_sub (se_var 1) (se_var 5)) (se_var 1)) sa_nil)) (se_idx (se_var 2) se_int)) (se_var 4))))) ss_nil)
  (ss_one (ss_ret (se_bin od_add (se_tup (sa_cons (se_var 4) sa_nil)) (se_callTy bi_tuple rfl g.b_tuple (by kernel_rfl) (sa_cons (se_sl (se_var 2) (so_some se_int) so_none) sa_nil)))))))))
abbrev t__law_low : Stmt := top 46
theorem sc__law_low : FnScope ["poly", "at", "number"] ["poly"] (defScope t__law_low) := ⟨rfl, rfl, rfl, by decide +kernel, rfl, by decide +kernel, by decide +kernel⟩
theorem k__law_low {P : Program} {w : World} {K : PySem.W.Frag} {mg : Str → Option Value} {base : Heap} {f : Addr} {fd : FuncData} (g : G P w K mg) (F : FunD K "_law_low" "_law_low" (defArgs t__law_low) (defBody t__law_low) (defScope t__law_low) [] [] f fd) (hm : mg "_law_low" = some (.ref f)) :
    DefOk P w K mg base "_law_low" 1 1 f__law_low := by
  refine def_ok (N := ["poly", "at", "number"]) (ps := ["poly"]) (k := 0) F sc__law_low hm (F.bindsN fun _ _ _ _ _ _ us hl => match us, hl with | [_], _ => rfl) rfl fun cdv A outer s H E hr => ?_
  have S := sc__law_low
  exact (ss_one (ss_ret (se_idx (se_comp (own := [("at", 1), ("number", 2)]) (vg := [1, 2]) rfl S.nd (blkOk_by (by kernel_rfl)) (si_enum g.b_enumerate rfl (se_var 0)) (fun _ _ _ _ _ => (sg_tp rfl (sgs_cons (sg_nm 1 S.nd rfl (by first | exact Or.inl rfl | exact Or.inr rfl)) (sgs_cons (sg_nm 2 S.nd rfl (by first | exact Or.inl rfl | exact Or.inr rfl)) sgs_nil)))) (fun _ _ _ _ _ => (sts_one (st_cmp (od_ne hr.units) (se_var 2) se_int (by rfl)))) (fun _ _ _ _ _ => (se_var 1))) se_int)))
abbrev t__law_lines : Stmt := top 47
theorem sc__law_lines : FnScope ["told", "many", "base", "found", "low", "units", "at", "letters", "power", "spot", "unit"] ["told", "many", "base"] (defScope t__law_lines) := ⟨rfl, rfl, rfl, by decide +kernel, rfl, by decide +kernel, by decide +kernel⟩
theorem k__law_lines {P : Program} {w : World} {K : PySem.W.Frag} {mg : Str → Option Value} {base : Heap} {f : Addr} {fd : FuncData} (g : G P w K mg) (F : FunD K "_law_lines" "_law_lines" (defArgs t__law_lines) (defBody t__law_lines) (defScope t__law_lines) [] [] f fd) (hm : mg "_law_lines" = some (.ref f)) (d__law_low : DefOk P w K mg base "_law_low" 1 1 f__law_low) (d__law_se_left : DefOk P w K mg base "_law_se_left" 2 4 f__law_se_left) :
    DefOk P w K mg base "_law_lines" 3 3 f__law_lines := by
  refine def_ok (N := ["told", "many", "base", "found", "low", "units", "at", "letters", "power", "spot", "unit"]) (ps := ["told", "many", "base"]) (k := 2) F sc__law_lines hm (F.bindsN fun _ _ _ _ _ _ us hl => match us, hl with | [_, _, _], _ => rfl) rfl fun cdv A outer s H E hr => ?_
  have S := sc__law_lines
  exact (ss_cons (ss_parO 3 4 rfl S.nd rfl rfl (by decide) rfl rfl (sn_lst' sa_nil) (se_call d__law_low hr (by decide) rfl (sa_cons (se_idx (se_var 0) se_int) sa_nil)) (by rfl))
  (ss_cons (ss_own 5 S.nd rfl (by first | exact Or.inl rfl | exact Or.inr rfl) (sn_lst' sa_nil))
  (ss_cons (ss_for (vg := [6]) rfl passS (si_rng1 g.b_range rfl (se_var 1)) (sg_nm 6 S.nd rfl (by first | exact Or.inl rfl | exact Or.inr rfl))
  (ss_cons (ss_setLc 7 (own := [("spot", 9)]) (vg := [9]) rfl S.nd rfl rfl (sw_true rfl rfl rfl (by kernel_rfl)) (blkOk_by (by kernel_rfl)) (si_rng1 g.b_range rfl (se_bin od_add (se_var 4) (se_var 1))) (fun _ _ _ _ _ => (sg_nm 9 S.nd rfl (by first | exact Or.inl rfl | exact Or.inr rfl))) (fun _ _ _ _ _ => sts_nil) (fun _ _ _ _ _ => (se_if (st_cmp (od_eq hr.units) (se_var 9) (se_var 6) (by rfl)) se_int se_int)))
  (ss_one (ss_append 5 (se_call d__law_se_left hr (by decide) rfl (sa_cons (se_var 0) (sa_cons (se_var 7) (sa_cons (se_bin od_add (se_var 4) (se_var 1)) (sa_cons (se_var 2) sa_nil)))))))))
  (ss_cons (ss_fz1 5 (ss_for (vg := [8]) rfl passS (si_rng1 g.b_range rfl (se_bin od_add (se_var 4) (se_var 1))) (sg_nm 8 S.nd rfl (by first | exact Or.inl rfl | exact Or.inr rfl))
  (ss_one (ss_append 3 (se_thaw 5 (se_comp (own := [("unit", 10)]) (vg := [10]) rfl S.nd (blkOk_by (by kernel_rfl)) (si_seq (se_var 5)) (fun _ _ _ _ _ => (sg_nm 10 S.nd rfl (by first | exact Or.inl rfl | exact Or.inr rfl))) (fun _ _ _ _ _ => sts_nil) (fun _ _ _ _ _ => (se_idx (se_var 10) (se_var 8)))))))))
  (ss_one (ss_fz1 3 (ss_ret (se_thaw 3 (se_var 3)))))))))
abbrev t__law_shortened : Stmt := top 49
theorem sc__law_shortened : FnScope ["rows", "base", "left", "line", "row", "lead", "other", "back", "later", "spot", "number", "one", "two", "at"] ["rows", "base"] (defScope t__law_shortened) := ⟨rfl, rfl, rfl, by decide +kernel, rfl, by decide +kernel, by decide +kernel⟩
theorem k__law_shortened {P : Program} {w : World} {K : PySem.W.Frag} {mg : Str → Option Value} {base : Heap} {f : Addr} {fd : FuncData} (g : G P w K mg) (F : FunD K "_law_shortened" "_law_shortened" (defArgs t__law_shortened) (defBody t__law_shortened) (defScope t__law_shortened) [] [] f fd) (hm : mg "_law_shortened" = some (.ref f)) :
    DefOk P w K mg base "_law_shortened" 1 2 f__law_shortened := by
  refine def_ok (N := ["rows", "base", "left", "line", "row", "lead", "other", "back", "later", "spot", "number", "one", "two", "at"]) (ps := ["rows", "base"]) (k := 0) F sc__law_shortened hm (F.bindsN fun _ _ _ _ _ _ us hl => match us, hl with | [_, _], _ => rfl) rfl fun cdv A outer s H E hr => ?_
  have S := sc__law_shortened
  exact (ss_cons (ss_set 2 S.nd rfl (by first | exact Or.inl rfl | exact Or.inr rfl) (se_lst sa_nil))
  (ss_cons (ss_for (vg := [3]) rfl passS (si_seq (se_var 0)) (sg_nm 3 S.nd rfl (by first | exact Or.inl rfl | exact Or.inr rfl))
  (ss_cons (ss_set 4 S.nd rfl (by first | exact Or.inl rfl | exact Or.inr rfl) (se_callTy bi_list rfl g.b_list (by kernel_rfl) (sa_cons (se_var 3) sa_nil)))
  (ss_cons (ss_for (vg := [5, 6]) rfl passS (si_seq (se_var 2)) (sg_tp rfl (sgs_cons (sg_nm 5 S.nd rfl (by first | exact Or.inl rfl | exact Or.inr rfl)) (sgs_cons (sg_nm 6 S.nd rfl (by first | exact Or.inl rfl | exact Or.inr rfl)) sgs_nil)))
  (ss_one (ss_set 4 S.nd rfl (by first | exact Or.inl rfl | exact Or.inr rfl) (se_comp (own := [("one", 11), ("two", 12)]) (vg := [11, 12]) rfl S.nd (blkOk_by (by kernel_rfl)) (si_zip g.b_zip rfl (se_var 4) (se_var 6)) (fun _ _ _ _ _ => (sg_tp rfl (sgs_cons (sg_nm 11 S.nd rfl (by first | exact Or.inl rfl | exact Or.inr rfl)) (sgs_cons (sg_nm 12 S.nd rfl (by first | exact Or.inl rfl | exact Or.inr rfl)) sgs_nil)))) (fun _ _ _ _ _ => sts_nil) (fun _ _ _ _ _ => (se_bin od_mod (se_bin od_sub (se_var 11) (se_bin od_mul (se_idx (se_var 4) (se_var 5)) (se_var 12))) (se_var 1)))))))
  (ss_cons (ss_set 5 S.nd rfl (by first | exact Or.inl rfl | exact Or.inr rfl) (se_idx (se_comp (own := [("at", 13), ("number", 10)]) (vg := [13, 10]) rfl S.nd (blkOk_by (by kernel_rfl)) (si_enum g.b_enumerate rfl (se_var 4)) (fun _ _ _ _ _ => (sg_tp rfl (sgs_cons (sg_nm 13 S.nd rfl (by first | exact Or.inl rfl | exact Or.inr rfl)) (sgs_cons (sg_nm 10 S.nd rfl (by first | exact Or.inl rfl | exact Or.inr rfl)) sgs_nil)))) (fun _ _ _ _ _ => (sts_one (st_cmp (od_ne hr.units) (se_var 10) se_int (by rfl)))) (fun _ _ _ _ _ => (se_var 13))) se_int))
  (ss_cons (ss_set 7 S.nd rfl (by first | exact Or.inl rfl | exact Or.inr rfl) (se_idx (se_comp (own := [("number", 10)]) (vg := [10]) rfl S.nd (blkOk_by (by kernel_rfl)) (si_rng2 g.b_range rfl se_int (se_var 1)) (fun _ _ _ _ _ => (sg_nm 10 S.nd rfl (by first | exact Or.inl rfl | exact Or.inr rfl))) (fun _ _ _ _ _ => (sts_one (st_cmp (od_eq hr.units) (se_bin od_mod (se_bin od_mul (se_var 10) (se_idx (se_var 4) (se_var 5))) (se_var 1)) se_int (by rfl)))) (fun _ _ _ _ _ => (se_var 10))) se_int))
  (ss_cons (ss_set 4 S.nd rfl (by first | exact Or.inl rfl | exact Or.inr rfl) (se_comp (own := [("number", 10)]) (vg := [10]) rfl S.nd (blkOk_by (by kernel_rfl)) (si_seq (se_var 4)) (fun _ _ _ _ _ => (sg_nm 10 S.nd rfl (by first | exact Or.inl rfl | exact Or.inr rfl))) (fun _ _ _ _ _ => sts_nil) (fun _ _ _ _ _ => (se_bin od_mod (se_bin od_mul (se_var 10) (se_var 7)) (se_var 1)))))
  (ss_cons (ss_own 8 S.nd rfl (by first | exact Or.inl rfl | exact Or.inr rfl) (sn_lst' sa_nil))
  (ss_cons (ss_for (vg := [9, 6]) rfl passS (si_seq (se_var 2)) (sg_tp rfl (sgs_cons (sg_nm 9 S.nd rfl (by first | exact Or.inl rfl | exact Or.inr rfl)) (sgs_cons (sg_nm 6 S.nd rfl (by first | exact Or.inl rfl | exact Or.inr rfl)) sgs_nil)))
  (ss_one (ss_append 8 (se_tup (sa_cons (se_var 9) (sa_cons (se_comp (own := [("one", 11), ("two", 12)]) (vg := [11, 12]) rfl S.nd (blkOk_by (by kernel_rfl)) (si_zip g.b_zip rfl (se_var 6) (se_var 4)) (fun _ _ _ _ _ => (sg_tp rfl (sgs_cons (sg_nm 11 S.nd rfl (by first | exact Or.inl rfl | exact Or.inr rfl)) (sgs_cons (sg_nm 12 S.nd rfl (by first | exact Or.inl rfl | exact Or.inr rfl)) sgs_nil)))) (fun _ _ _ _ _ => sts_nil) (fun _ _ _ _ _ => (se_bin od_mod (se_bin od_sub (se_var 11) (se_bin od_mul (se_idx (se_var 6) (se_var 5)) (se_var 12))) (se_var 1)))) sa_nil))))))
  (ss_one (ss_fz1 8 (ss_set 2 S.nd rfl (by first | exact Or.inl rfl | exact Or.inr rfl) (se_thaw 8 (se_callB (bi_sorted hr.units) rfl g.b_sorted (by kernel_rfl) (sa_cons (se_bin od_add (se_var 8) (se_lst (sa_cons (se_tup (sa_cons (se_var 5) (sa_cons (se_var 4) sa_nil))) sa_nil))) sa_nil))))))))))))))
  (ss_one (ss_ret (se_callTy bi_tuple rfl g.b_tuple (by kernel_rfl) (sa_cons (se_comp (own := [("lead", 5), ("row", 4)]) (vg := [5, 4]) rfl S.nd (blkOk_by (by kernel_rfl)) (si_seq (se_var 2)) (fun _ _ _ _ _ => (sg_tp rfl (sgs_cons (sg_nm 5 S.nd rfl (by first | exact Or.inl rfl | exact Or.inr rfl)) (sgs_cons (sg_nm 4 S.nd rfl (by first | exact Or.inl rfl | exact Or.inr rfl)) sgs_nil)))) (fun _ _ _ _ _ => sts_nil) (fun _ _ _ _ _ => (se_callTy bi_tuple rfl g.b_tuple (by kernel_rfl) (sa_cons (se_var 4) sa_nil)))) sa_nil))))))
abbrev t__law_kernel : Stmt := top 48
theorem sc__law_kernel : FnScope ["lines", "many", "base", "left", "leads", "line", "row", "lead", "other", "spots", "back", "rows", "free", "at", "number", "one", "two"] ["lines", "many", "base"] (defScope t__law_kernel) := ⟨rfl, rfl, rfl, by decide +kernel, rfl, by decide +kernel, by decide +kernel⟩
theorem k__law_kernel {P : Program} {w : World} {K : PySem.W.Frag} {mg : Str → Option Value} {base : Heap} {f : Addr} {fd : FuncData} (g : G P w K mg) (F : FunD K "_law_kernel" "_law_kernel" (defArgs t__law_kernel) (defBody t__law_kernel) (defScope t__law_kernel) [] [] f fd) (hm : mg "_law_kernel" = some (.ref f)) (d__law_shortened : DefOk P w K mg base "_law_shortened" 1 2 f__law_shortened) :
    DefOk P w K mg base "_law_kernel" 2 3 f__law_kernel := by
  refine def_ok (N := ["lines", "many", "base", "left", "leads", "line", "row", "lead", "other", "spots", "back", "rows", "free", "at", "number", "one", "two"]) (ps := ["lines", "many", "base"]) (k := 1) F sc__law_kernel hm (F.bindsN fun _ _ _ _ _ _ us hl => match us, hl with | [_, _, _], _ => rfl) rfl fun cdv A outer s H E hr => ?_
  have S := sc__law_kernel
  exact (ss_cons (ss_asg (se_tup (sa_cons (se_lst sa_nil) (sa_cons (se_lst sa_nil) sa_nil))) (sg_tp rfl (sgs_cons (sg_nm 3 S.nd rfl (by first | exact Or.inl rfl | exact Or.inr rfl)) (sgs_cons (sg_nm 4 S.nd rfl (by first | exact Or.inl rfl | exact Or.inr rfl)) sgs_nil))))
  (ss_cons (ss_for (vg := [5]) rfl passS (si_seq (se_var 0)) (sg_nm 5 S.nd rfl (by first | exact Or.inl rfl | exact Or.inr rfl))
  (ss_cons (ss_set 6 S.nd rfl (by first | exact Or.inl rfl | exact Or.inr rfl) (se_callTy bi_list rfl g.b_list (by kernel_rfl) (sa_cons (se_var 5) sa_nil)))
  (ss_cons (ss_for (vg := [7, 8]) rfl passS (si_zip g.b_zip rfl (se_var 4) (se_var 3)) (sg_tp rfl (sgs_cons (sg_nm 7 S.nd rfl (by first | exact Or.inl rfl | exact Or.inr rfl)) (sgs_cons (sg_nm 8 S.nd rfl (by first | exact Or.inl rfl | exact Or.inr rfl)) sgs_nil)))
  (ss_one (ss_set 6 S.nd rfl (by first | exact Or.inl rfl | exact Or.inr rfl) (se_thaw 6 (se_comp (own := [("one", 15), ("two", 16)]) (vg := [15, 16]) rfl S.nd (blkOk_by (by kernel_rfl)) (si_zip g.b_zip rfl (se_var 6) (se_var 8)) (fun _ _ _ _ _ => (sg_tp rfl (sgs_cons (sg_nm 15 S.nd rfl (by first | exact Or.inl rfl | exact Or.inr rfl)) (sgs_cons (sg_nm 16 S.nd rfl (by first | exact Or.inl rfl | exact Or.inr rfl)) sgs_nil)))) (fun _ _ _ _ _ => sts_nil) (fun _ _ _ _ _ => (se_bin od_mod (se_bin od_sub (se_var 15) (se_bin od_mul (se_idx (se_var 6) (se_var 7)) (se_var 16))) (se_var 2))))))))
  (ss_cons (ss_set 9 S.nd rfl (by first | exact Or.inl rfl | exact Or.inr rfl) (se_thaw 6 (se_comp (own := [("at", 13), ("number", 14)]) (vg := [13, 14]) rfl S.nd (blkOk_by (by kernel_rfl)) (si_enum g.b_enumerate rfl (se_var 6)) (fun _ _ _ _ _ => (sg_tp rfl (sgs_cons (sg_nm 13 S.nd rfl (by first | exact Or.inl rfl | exact Or.inr rfl)) (sgs_cons (sg_nm 14 S.nd rfl (by first | exact Or.inl rfl | exact Or.inr rfl)) sgs_nil)))) (fun _ _ _ _ _ => (sts_one (st_cmp (od_ne hr.units) (se_var 14) se_int (by rfl)))) (fun _ _ _ _ _ => (se_var 13)))))
  (ss_one (ss_if (st_cmp (od_ne hr.units) (se_var 9) (se_lst sa_nil) (by rfl)) (ss_cons (ss_set 10 S.nd rfl (by first | exact Or.inl rfl | exact Or.inr rfl) (se_thaw 6 (se_idx (se_comp (own := [("number", 14)]) (vg := [14]) rfl S.nd (blkOk_by (by kernel_rfl)) (si_rng2 g.b_range rfl se_int (se_var 2)) (fun _ _ _ _ _ => (sg_nm 14 S.nd rfl (by first | exact Or.inl rfl | exact Or.inr rfl))) (fun _ _ _ _ _ => (sts_one (st_cmp (od_eq hr.units) (se_bin od_mod (se_bin od_mul (se_var 14) (se_idx (se_var 6) (se_idx (se_var 9) se_int))) (se_var 2)) se_int (by rfl)))) (fun _ _ _ _ _ => (se_var 14))) se_int)))
  (ss_cons (ss_set 6 S.nd rfl (by first | exact Or.inl rfl | exact Or.inr rfl) (se_thaw 6 (se_comp (own := [("number", 14)]) (vg := [14]) rfl S.nd (blkOk_by (by kernel_rfl)) (si_seq (se_var 6)) (fun _ _ _ _ _ => (sg_nm 14 S.nd rfl (by first | exact Or.inl rfl | exact Or.inr rfl))) (fun _ _ _ _ _ => sts_nil) (fun _ _ _ _ _ => (se_bin od_mod (se_bin od_mul (se_var 14) (se_var 10)) (se_var 2))))))
  (ss_cons (ss_set 7 S.nd rfl (by first | exact Or.inl rfl | exact Or.inr rfl) (se_idx (se_var 9) se_int))
  (ss_cons (ss_set 3 S.nd rfl (by first | exact Or.inl rfl | exact Or.inr rfl) (se_thaw 6 (se_bin od_add (se_comp (own := [("other", 8)]) (vg := [8]) rfl S.nd (blkOk_by (by kernel_rfl)) (si_seq (se_var 3)) (fun _ _ _ _ _ => (sg_nm 8 S.nd rfl (by first | exact Or.inl rfl | exact Or.inr rfl))) (fun _ _ _ _ _ => sts_nil) (fun _ _ _ _ _ => (se_comp (own := [("one", 15), ("two", 16)]) (vg := [15, 16]) rfl S.nd (blkOk_by (by kernel_rfl)) (si_zip g.b_zip rfl (se_var 8) (se_var 6)) (fun _ _ _ _ _ => (sg_tp rfl (sgs_cons (sg_nm 15 S.nd rfl (by first | exact Or.inl rfl | exact Or.inr rfl)) (sgs_cons (sg_nm 16 S.nd rfl (by first | exact Or.inl rfl | exact Or.inr rfl)) sgs_nil)))) (fun _ _ _ _ _ => sts_nil) (fun _ _ _ _ _ => (se_bin od_mod (se_bin od_sub (se_var 15) (se_bin od_mul (se_idx (se_var 8) (se_var 7)) (se_var 16))) (se_var 2)))))) (se_lst (sa_cons (se_var 6) sa_nil)))))
  (ss_one (ss_set 4 S.nd rfl (by first | exact Or.inl rfl | exact Or.inr rfl) (se_bin od_add (se_var 4) (se_lst (sa_cons (se_var 7) sa_nil))))))))) ss_nil))))))
  (ss_cons (ss_own 11 S.nd rfl (by first | exact Or.inl rfl | exact Or.inr rfl) (sn_lst' sa_nil))
  (ss_cons (ss_for (vg := [12]) rfl passS (si_seq (se_comp (own := [("at", 13)]) (vg := [13]) rfl S.nd (blkOk_by (by kernel_rfl)) (si_rng1 g.b_range rfl (se_var 1)) (fun _ _ _ _ _ => (sg_nm 13 S.nd rfl (by first | exact Or.inl rfl | exact Or.inr rfl))) (fun _ _ _ _ _ => (sts_one (st_cmp od_notIn (se_var 13) (se_var 4) (by rfl)))) (fun _ _ _ _ _ => (se_var 13)))) (sg_nm 12 S.nd rfl (by first | exact Or.inl rfl | exact Or.inr rfl))
  (ss_cons (ss_own 6 S.nd rfl (by first | exact Or.inl rfl | exact Or.inr rfl) (sn_mul' (se_lst (sa_cons se_int sa_nil)) (se_var 1)))
  (ss_cons (ss_setI 6 (se_var 12) se_int)
  (ss_cons (ss_for (vg := [7, 8]) rfl passS (si_zip g.b_zip rfl (se_var 4) (se_var 3)) (sg_tp rfl (sgs_cons (sg_nm 7 S.nd rfl (by first | exact Or.inl rfl | exact Or.inr rfl)) (sgs_cons (sg_nm 8 S.nd rfl (by first | exact Or.inl rfl | exact Or.inr rfl)) sgs_nil)))
  (ss_one (ss_setI 6 (se_var 7) (se_bin od_mod (se_bin od_sub se_int (se_idx (se_var 8) (se_var 12))) (se_var 2)))))
  (ss_one (ss_fz1 6 (ss_append 11 (se_thaw 6 (se_var 6)))))))))
  (ss_one (ss_fz1 11 (ss_ret (se_thaw 11 (se_call d__law_shortened hr (by decide) rfl (sa_cons (se_var 11) (sa_cons (se_var 2) sa_nil)))))))))))
abbrev t__law_continued : Stmt := top 50
theorem sc__law_continued : FnScope ["told", "letters", "many", "base", "found", "low", "back", "power", "left", "number"] ["told", "letters", "many", "base"] (defScope t__law_continued) := ⟨rfl, rfl, rfl, by decide +kernel, rfl, by decide +kernel, by decide +kernel⟩
theorem k__law_continued {P : Program} {w : World} {K : PySem.W.Frag} {mg : Str → Option Value} {base : Heap} {f : Addr} {fd : FuncData} (g : G P w K mg) (F : FunD K "_law_continued" "_law_continued" (defArgs t__law_continued) (defBody t__law_continued) (defScope t__law_continued) [] [] f fd) (hm : mg "_law_continued" = some (.ref f)) (d__law_low : DefOk P w K mg base "_law_low" 1 1 f__law_low) (d__law_se_left : DefOk P w K mg base "_law_se_left" 2 4 f__law_se_left) :
    DefOk P w K mg base "_law_continued" 3 4 f__law_continued := by
  refine def_ok (N := ["told", "letters", "many", "base", "found", "low", "back", "power", "left", "number"]) (ps := ["told", "letters", "many", "base"]) (k := 2) F sc__law_continued hm (F.bindsN fun _ _ _ _ _ _ us hl => match us, hl with | [_, _, _, _], _ => rfl) rfl fun cdv A outer s H E hr => ?_
  have S := sc__law_continued
  exact (ss_cons (ss_parT 4 5 rfl S.nd rfl rfl (by first | exact Or.inl rfl | exact Or.inr rfl) (by first | exact Or.inl rfl | exact Or.inr rfl) (sn_list' rfl g.b_list (by kernel_rfl) (se_var 1)) (se_call d__law_low hr (by decide) rfl (sa_cons (se_idx (se_var 0) se_int) sa_nil)))
  (ss_cons (ss_set 6 S.nd rfl (by first | exact Or.inl rfl | exact Or.inr rfl) (se_idx (se_comp (own := [("number", 9)]) (vg := [9]) rfl S.nd (blkOk_by (by kernel_rfl)) (si_rng2 g.b_range rfl se_int (se_var 3)) (fun _ _ _ _ _ => (sg_nm 9 S.nd rfl (by first | exact Or.inl rfl | exact Or.inr rfl))) (fun _ _ _ _ _ => (sts_one (st_cmp (od_eq hr.units) (se_bin od_mod (se_bin od_mul (se_var 9) (se_idx (se_idx (se_var 0) se_int) (se_var 5))) (se_var 3)) se_int (by rfl)))) (fun _ _ _ _ _ => (se_var 9))) se_int))
  (ss_cons (ss_while 200 passS (st_thaw 4 (st_cmp od_lt (se_callB bi_len rfl g.b_len (by kernel_rfl) (sa_cons (se_var 4) sa_nil)) (se_var 2) (by rfl)))
  (ss_cons (ss_set 7 S.nd rfl (by first | exact Or.inl rfl | exact Or.inr rfl) (se_thaw 4 (se_bin od_add (se_callB bi_len rfl g.b_len (by kernel_rfl) (sa_cons (se_var 4) sa_nil)) (se_var 5))))
  (ss_cons (ss_set 8 S.nd rfl (by first | exact Or.inl rfl | exact Or.inr rfl) (se_thaw 4 (se_idx (se_call d__law_se_left hr (by decide) rfl (sa_cons (se_var 0) (sa_cons (se_bin od_add (se_var 4) (se_new (sn_mul' (se_lst (sa_cons se_int sa_nil)) (se_bin od_add (se_var 5) se_int)))) (sa_cons (se_bin od_add (se_var 7) se_int) (sa_cons (se_var 3) sa_nil))))) (se_var 7))))
  (ss_one (ss_append 4 (se_bin od_mod (se_bin od_mul (se_bin od_sub se_int (se_var 8)) (se_var 6)) (se_var 3)))))))
  (ss_one (ss_fz1 4 (ss_ret (se_thaw 4 (se_callTy bi_tuple rfl g.b_tuple (by kernel_rfl) (sa_cons (se_sl (se_var 4) so_none (so_some (se_var 2))) sa_nil)))))))))
theorem hv__law_right (a od : Addr) (ρ : Ev) (δ : Di) (d : D) (h : 12 < ρ.length) : (eAnd (eBin neD (eVar 10) (eArg lstF aNil)) (eBin eqD (eXf a od (PySem.Str.ofString "reason") (eVar 12)) (eArg tupF (aCons (eC (.str (PySem.Str.ofString "power"))) (aCons (eBin idxD (eVar 10) (eC (.int 0))) aNil))))) (ρ.set 12 (.va (.exn a od (PySem.Str.ofString "reason") d))) δ = h__law_right d (ρ.set 12 .em) δ := by
  have e1 : ∀ x, (ρ.set 12 x)[10]? = ρ[10]? := fun x => List.getElem?_set_ne (by decide)
  have e3 : ∀ x, (ρ.set 12 x)[12]? = some x := fun x => List.getElem?_set_self h
  have v1 : ∀ x δ, eVar 10 (ρ.set 12 x) δ = eVar 10 ρ δ := fun x δ => by unfold eVar; rw [e1]
  have v2 : ∀ δ, eXf a od (PySem.Str.ofString "reason") (eVar 12) (ρ.set 12 (.va (.exn a od (PySem.Str.ofString "reason") d))) δ = .ok d δ := fun δ => by
    unfold eXf eVar
    rw [e3]
    show (if a = a ∧ od = od ∧ PySem.Str.ofString "reason" = PySem.Str.ofString "reason" then Out.ok d δ else .bad) = _
    rw [if_pos ⟨rfl, rfl, rfl⟩]
  unfold h__law_right eAnd eBin eArg aCons aNil eC
  simp only [v1, v2, Out.bind]
abbrev t__law_right : Stmt := top 51
theorem sc__law_right : FnScope ["dice", "base", "told", "many", "lines", "lot", "letters", "row", "by", "other", "bad", "found", "error", "power", "line", "turn", "one", "two"] ["dice"] (defScope t__law_right) := ⟨rfl, rfl, rfl, by decide +kernel, rfl, by decide +kernel, by decide +kernel⟩
theorem k__law_right {P : Program} {w : World} {K : PySem.W.Frag} {mg : Str → Option Value} {base : Heap} {f : Addr} {fd : FuncData} (g : G P w K mg) (F : FunD K "_law_right" "_law_right" (defArgs t__law_right) (defBody t__law_right) (defScope t__law_right) [] [] f fd) (hm : mg "_law_right" = some (.ref f)) (d__law_pick : DefOk P w K mg base "_law_pick" 2 2 f__law_pick) (d__law_equation : DefOk P w K mg base "_law_equation" 3 2 f__law_equation) (d__law_low : DefOk P w K mg base "_law_low" 1 1 f__law_low) (d__law_lines : DefOk P w K mg base "_law_lines" 3 3 f__law_lines) (d__law_kernel : DefOk P w K mg base "_law_kernel" 2 3 f__law_kernel) (d_first_many : DefOk P w K mg base "first_many" 4 2 f_first_many) (d_first_letters : DefOk P w K mg base "first_letters" 4 2 f_first_letters) (d__law_roll : DefOk P w K mg base "_law_roll" 1 2 f__law_roll) (d_solution_letters : DefOk P w K mg base "solution_letters" 5 4 f_solution_letters) (d__law_continued : DefOk P w K mg base "_law_continued" 3 4 f__law_continued) (d__law_se_left : DefOk P w K mg base "_law_se_left" 2 4 f__law_se_left) :
    DefOk P w K mg base "_law_right" 6 1 f__law_right := by
  refine def_ok (N := ["dice", "base", "told", "many", "lines", "lot", "letters", "row", "by", "other", "bad", "found", "error", "power", "line", "turn", "one", "two"]) (ps := ["dice"]) (k := 5) F sc__law_right hm (F.bindsN fun _ _ _ _ _ _ us hl => match us, hl with | [_], _ => rfl) rfl fun cdv A outer s H E hr => ?_
  have S := sc__law_right
  obtain ⟨C, x_mg, x_fld, x_no, x_em⟩ := g.x_h
  exact (ss_cons (ss_set 1 S.nd rfl (by first | exact Or.inl rfl | exact Or.inr rfl) (se_call d__law_pick hr (by decide) rfl (sa_cons (se_var 0) (sa_cons (se_lst (sa_cons se_int (sa_cons se_int (sa_cons se_int (sa_cons se_int sa_nil))))) sa_nil))))
  (ss_cons (ss_set 2 S.nd rfl (by first | exact Or.inl rfl | exact Or.inr rfl) (se_call d__law_equation hr (by decide) rfl (sa_cons (se_var 0) (sa_cons (se_var 1) sa_nil))))
  (ss_cons (ss_set 3 S.nd rfl (by first | exact Or.inl rfl | exact Or.inr rfl) (se_bin od_add (se_bin od_fdiv (se_call d__law_low hr (by decide) rfl (sa_cons (se_idx (se_var 2) se_int) sa_nil)) (se_bin od_sub (se_var 1) se_int)) se_int))
  (ss_cons (ss_set 4 S.nd rfl (by first | exact Or.inl rfl | exact Or.inr rfl) (se_call d__law_lines hr (by decide) rfl (sa_cons (se_var 2) (sa_cons (se_var 3) (sa_cons (se_var 1) sa_nil)))))
  (ss_cons (ss_set 5 S.nd rfl (by first | exact Or.inl rfl | exact Or.inr rfl) (se_call d__law_kernel hr (by decide) rfl (sa_cons (se_var 4) (sa_cons (se_var 3) (sa_cons (se_var 1) sa_nil)))))
  (ss_cons (ss_if (st_w (sw_or (st_cmp (od_ne hr.units) (se_call d_first_many hr (by decide) rfl (sa_cons (se_var 1) (sa_cons (se_var 2) sa_nil))) (se_var 3) (by rfl)) (sw_or1 (st_cmp (od_ne hr.units) (se_call d_first_letters hr (by decide) rfl (sa_cons (se_var 1) (sa_cons (se_var 2) sa_nil))) (se_var 5) (by rfl))))) (ss_one (ss_ret se_bl)) ss_nil)
  (ss_cons (ss_set 6 S.nd rfl (by first | exact Or.inl rfl | exact Or.inr rfl) (se_bin od_rep (se_tup (sa_cons se_int sa_nil)) (se_var 3)))
  (ss_cons (ss_for (vg := [7]) rfl passS (si_seq (se_var 5)) (sg_nm 7 S.nd rfl (by first | exact Or.inl rfl | exact Or.inr rfl))
  (ss_cons (ss_set 8 S.nd rfl (by first | exact Or.inl rfl | exact Or.inr rfl) (se_call d__law_roll hr (by decide) rfl (sa_cons (se_var 0) (sa_cons (se_var 1) sa_nil))))
  (ss_one (ss_set 6 S.nd rfl (by first | exact Or.inl rfl | exact Or.inr rfl) (se_callTy bi_tuple rfl g.b_tuple (by kernel_rfl) (sa_cons (se_comp (own := [("one", 16), ("other", 9)]) (vg := [16, 9]) rfl S.nd (blkOk_by (by kernel_rfl)) (si_zip g.b_zip rfl (se_var 6) (se_var 7)) (fun _ _ _ _ _ => (sg_tp rfl (sgs_cons (sg_nm 16 S.nd rfl (by first | exact Or.inl rfl | exact Or.inr rfl)) (sgs_cons (sg_nm 9 S.nd rfl (by first | exact Or.inl rfl | exact Or.inr rfl)) sgs_nil)))) (fun _ _ _ _ _ => sts_nil) (fun _ _ _ _ _ => (se_bin od_mod (se_bin od_add (se_var 16) (se_bin od_mul (se_var 8) (se_var 9))) (se_var 1)))) sa_nil))))))
  (ss_cons (ss_if (st_cmp (od_ne hr.units) (se_call d_solution_letters hr (by decide) rfl (sa_cons (se_var 1) (sa_cons (se_var 2) (sa_cons (se_var 6) (sa_cons se_int sa_nil))))) (se_call d__law_continued hr (by decide) rfl (sa_cons (se_var 2) (sa_cons (se_var 6) (sa_cons se_int (sa_cons (se_var 1) sa_nil))))) (by rfl)) (ss_one (ss_ret se_bl)) ss_nil)
  (ss_cons (ss_if (st_cmp (od_ne hr.units) (se_call d__law_se_left hr (by decide) rfl (sa_cons (se_var 2) (sa_cons (se_callTy bi_list rfl g.b_list (by kernel_rfl) (sa_cons (se_call d_solution_letters hr (by decide) rfl (sa_cons (se_var 1) (sa_cons (se_var 2) (sa_cons (se_var 6) (sa_cons se_int sa_nil))))) sa_nil)) (sa_cons se_int (sa_cons (se_var 1) sa_nil))))) (se_new (sn_mul' (se_lst (sa_cons se_int sa_nil)) se_int)) (by rfl)) (ss_one (ss_ret se_bl)) ss_nil)
  (ss_cons (ss_set 9 S.nd rfl (by first | exact Or.inl rfl | exact Or.inr rfl) (se_callTy bi_tuple rfl g.b_tuple (by kernel_rfl) (sa_cons (se_comp (own := [("turn", 15)]) (vg := [15]) rfl S.nd (blkOk_by (by kernel_rfl)) (si_rng1 g.b_range rfl (se_var 3)) (fun _ _ _ _ _ => (sg_nm 15 S.nd rfl (by first | exact Or.inl rfl | exact Or.inr rfl))) (fun _ _ _ _ _ => sts_nil) (fun _ _ _ _ _ => (se_call d__law_roll hr (by decide) rfl (sa_cons (se_var 0) (sa_cons (se_var 1) sa_nil))))) sa_nil)))
  (ss_cons (ss_setLc 10 (own := [("power", 13), ("line", 14)]) (vg := [13, 14]) rfl S.nd rfl rfl (sw_true rfl rfl rfl (by kernel_rfl)) (blkOk_by (by kernel_rfl)) (si_enum g.b_enumerate rfl (se_var 4)) (fun _ _ _ _ _ => (sg_tp rfl (sgs_cons (sg_nm 13 S.nd rfl (by first | exact Or.inl rfl | exact Or.inr rfl)) (sgs_cons (sg_nm 14 S.nd rfl (by first | exact Or.inl rfl | exact Or.inr rfl)) sgs_nil)))) (fun _ _ _ _ _ => (sts_one (st_cmp (od_ne hr.units) (se_bin od_mod (se_callB (bi_sum rfl) rfl g.b_sum (by kernel_rfl) (sa_cons (se_comp (own := [("one", 16), ("two", 17)]) (vg := [16, 17]) rfl S.nd (blkOk_by (by kernel_rfl)) (si_zip g.b_zip rfl (se_var 14) (se_var 9)) (fun _ _ _ _ _ => (sg_tp rfl (sgs_cons (sg_nm 16 S.nd rfl (by first | exact Or.inl rfl | exact Or.inr rfl)) (sgs_cons (sg_nm 17 S.nd rfl (by first | exact Or.inl rfl | exact Or.inr rfl)) sgs_nil)))) (fun _ _ _ _ _ => sts_nil) (fun _ _ _ _ _ => (se_bin od_mul (se_var 16) (se_var 17)))) sa_nil)) (se_var 1)) se_int (by rfl)))) (fun _ _ _ _ _ => (se_var 13)))
  (ss_one (ss_tryR 12 (fe := fun a od => (eAnd (eBin neD (eVar 10) (eArg lstF aNil)) (eBin eqD (eXf a od (PySem.Str.ofString "reason") (eVar 12)) (eArg tupF (aCons (eC (.str (PySem.Str.ofString "power"))) (aCons (eBin idxD (eVar 10) (eC (.int 0))) aNil)))))) rfl rfl S.nd rfl rfl rfl x_mg x_em (fun W pn xe tk pw => (ss_cons (ss_set 11 S.nd rfl (by first | exact Or.inl rfl | exact Or.inr rfl) (se_call d_solution_letters hr (by decide) rfl (sa_cons (se_var 1) (sa_cons (se_var 2) (sa_cons (se_var 9) (sa_cons se_int sa_nil))))))
  (ss_one (ss_ret (se_and (se_cmp (od_eq hr.units) (se_var 10) (se_lst sa_nil) (by rfl)) (se_one (se_cmp (od_eq hr.units) (se_var 11) (se_call d__law_continued hr (by decide) rfl (sa_cons (se_var 2) (sa_cons (se_var 9) (sa_cons se_int (sa_cons (se_var 1) sa_nil))))) (by rfl)))))))) (fun a od oe pn hz hfd => (se_and (se_cmp (od_ne hr.units) (se_var 10) (se_lst sa_nil) (by rfl)) (se_one (se_cmp (od_eq hr.units) (se_xf x_fld x_no hz hfd (se_var 12)) (se_tup (sa_cons se_str (sa_cons (se_idx (se_var 10) se_int) sa_nil))) (by rfl))))) hv__law_right))))))))))))))
abbrev t__law_dice : Stmt := top 37
theorem sc__law_dice : FnScope ["script", "spot", "cell", "great", "seed"] ["script", "spot"] (defScope t__law_dice) := ⟨rfl, rfl, rfl, by decide +kernel, rfl, by decide +kernel, by decide +kernel⟩
theorem k__law_dice {P : Program} {w : World} {K : PySem.W.Frag} {mg : Str → Option Value} {base : Heap} {f : Addr} {fd : FuncData} (g : G P w K mg) (F : FunD K "_law_dice" "_law_dice" (defArgs t__law_dice) (defBody t__law_dice) (defScope t__law_dice) [] [] f fd) : FnOk P w K mg base (L2.CX P w) 1 f fd ["script", "spot"] (spMk K) := by
  have S := sc__law_dice
  refine F.ok S (fun vs H Q E h => ?_) (fun cdv A outer s H vs Q E hr h => ⟨_, pss_cons (ps_set (i := 2) S.nd rfl (Or.inl rfl) (pe_ifExp (pt_cmpR op_lt (pe_var (i := 1) rfl (Or.inl rfl)) (pe_callB call_len rfl g.b_len (by kernel_rfl) (pa_cons (pe_var (i := 0) rfl (Or.inl rfl)) pa_nil)) (by rfl))
      (pe_callTy call_int1 rfl g.b_int (by kernel_rfl) (pa_cons (pe_ix ix_seq (pe_var (i := 0) rfl (Or.inl rfl)) (pe_var (i := 1) rfl (Or.inl rfl)) (by unfold PlainIx; intros; rfl)) pa_nil))
      (pe_op op_add (pe_op op_mul pe_int (pe_var (i := 1) rfl (Or.inl rfl))) pe_int)))
    (pss_cons (ps_set (i := 3) S.nd rfl (Or.inl rfl) (pe_op op_mod (pe_callTy call_int1 rfl g.b_int (by kernel_rfl) (pa_cons (pe_callB call_abs rfl g.b_abs (by kernel_rfl) (pa_cons (pe_var (i := 2) rfl (Or.inl rfl)) pa_nil)) pa_nil)) (pe_op op_powW (pe_op op_pow pe_int pe_int) pe_int)))
    (pss_cons (ps_set (i := 4) S.nd rfl (Or.inl rfl) (pe_op op_add (pe_op op_add (pe_op op_add (pe_op op_mul (pe_op op_mod (pe_var (i := 3) rfl (Or.inl rfl)) pe_int) pe_int) (pe_op op_mul pe_int (pe_var (i := 1) rfl (Or.inl rfl))))
      (pe_op op_mul pe_int (pe_callTy call_int1 rfl g.b_int (by kernel_rfl) (pa_cons (pe_cmpR op_lt (pe_var (i := 2) rfl (Or.inl rfl)) pe_int (by rfl)) pa_nil)))) pe_int))
    (pss_one (ps_ret (pe_lst (pa_cons (pe_callB (call_max2 rfl) rfl g.b_max (by kernel_rfl) (pa_cons pe_int (pa_cons (pe_op op_sub (pe_var (i := 3) rfl (Or.inl rfl)) (pe_op op_pow pe_int pe_int)) pa_nil))) (pa_cons (pe_var (i := 4) rfl (Or.inl rfl)) (pa_cons pe_int pa_nil)))))))), mk_pure h⟩)
  obtain ⟨a, ns, k, rfl, _⟩ := h
  rfl
abbrev t_law : Stmt := top 52
theorem sc_law : FnScope ["script", "spot", "dice", "turn"] ["script"] (defScope t_law) := ⟨rfl, rfl, rfl, by decide +kernel, rfl, by decide +kernel, by decide +kernel⟩
theorem k_law {P : Program} {w : World} {K : PySem.W.Frag} {mg : Str → Option Value} {base : Heap} {f fD : Addr} {fd fdD : FuncData} (g : G P w K mg) (F : FunD K "law" "law" (defArgs t_law) (defBody t_law) (defScope t_law) [] [] f fd)
    (FD : FunD K "_law_dice" "_law_dice" (defArgs t__law_dice) (defBody t__law_dice) (defScope t__law_dice) [] [] fD fdD) (hmD : mg "_law_dice" = some (.ref fD)) (d__law_right : DefOk P w K mg base "_law_right" 6 1 f__law_right) (d_first_letters : DefOk P w K mg base "first_letters" 4 2 f_first_letters)
    (okB : ∀ (a : Addr) (δ : Di), ∃ (d : Sl) (δ' : Di), f_lawB (rhoL a .em) δ = .ok .nx (rhoL a d) δ') (okR : ∀ (a : Addr) (δ : Di), ∃ (δ' : Di), f_lawR (rhoL a .em) δ = .ok (.rt (.bl true)) (rhoL a .em) δ') :
    FnOk P w K mg base (L2.CX P w) 7 f fd ["script"] (spLaw K) := by
  have S := sc_law
  have bD : Binds K fdD ["script", "spot"] [] := FD.bindsN fun _ _ _ _ _ _ us hl => match us, hl with | [_, _], _ => rfl
  have GD : FnOk P w K mg base (L2.CX P w) 1 fD fdD ["script", "spot"] (spMk K) := k__law_dice g FD
  refine F.ok (k := 6) S (fun vs H Q E h => ?_) (fun cdv A outer s H vs Q E hr h => ⟨_, pss_cons (ps_for passS rfl (pi_range1 rfl g.b_range (pa_cons (pe_callB (call_max2 rfl) rfl g.b_max (by kernel_rfl) (pa_cons pe_int (pa_cons (pe_callB (call_min2 rfl) rfl g.b_min (by kernel_rfl)
      (pa_cons pe_int (pa_cons (pe_callB call_len rfl g.b_len (by kernel_rfl) (pa_cons (pe_var (i := 0) rfl (Or.inl rfl)) pa_nil)) pa_nil))) pa_nil))) pa_nil)) (pg_name (i := 1) S.nd rfl (Or.inl rfl))
      (pss_cons (ps_set (i := 2) S.nd rfl (Or.inl rfl) (pe_callSD (E := fun _ => E0) GD (hr.mono (by decide)) rfl hmD FD.kp bD .nil (fun σ => passNo) (pa_cons (pe_var (i := 0) rfl (Or.inl rfl)) (pa_cons (pe_var (i := 1) rfl (Or.inl rfl)) pa_nil)))) (pss_one ps_w))) (pss_one ps_w),
    law_pure (m := 6) (by decide) (by decide) (fB := f_lawB) (fR := f_lawR) (by
      exact (ss_for (vg := [3]) rfl passS (si_rng1 g.b_range rfl se_int) (sg_nm 3 S.nd rfl (by first | exact Or.inl rfl | exact Or.inr rfl))
  (ss_one (ss_if (st_not (st_val (se_call d__law_right hr (by decide) rfl (sa_cons (se_var 2) sa_nil)))) (ss_one (ss_ret se_bl)) ss_nil)))) (by
      exact ((ss_ret (se_cmp (od_eq hr.units) (se_lst (sa_cons (se_call d_first_letters hr (by decide) rfl (sa_cons se_int (sa_cons (se_tup (sa_cons (se_tup (sa_cons se_int sa_nil)) (sa_cons (se_tup (sa_cons se_int (sa_cons se_int sa_nil))) sa_nil))) sa_nil))) (sa_cons (se_call d_first_letters hr (by decide) rfl (sa_cons se_int (sa_cons (se_tup (sa_cons (se_tup (sa_cons se_int sa_nil)) (sa_cons (se_tup (sa_cons se_int sa_nil)) sa_nil))) sa_nil))) (sa_cons (se_call d_first_letters hr (by decide) rfl (sa_cons se_int (sa_cons (se_tup (sa_cons (se_tup (sa_cons se_int sa_nil)) (sa_cons (se_tup (sa_cons se_int sa_nil)) sa_nil))) sa_nil))) sa_nil)))) (se_lst (sa_cons (se_tup (sa_cons (se_tup (sa_cons se_int sa_nil)) sa_nil)) (sa_cons (se_tup sa_nil) (sa_cons (se_tup (sa_cons (se_tup (sa_cons se_int sa_nil)) sa_nil)) sa_nil)))) (by rfl))))) okB okR h⟩)
  obtain ⟨a, ns, rfl, _⟩ := h
  rfl
end K80
end
section
set_option maxHeartbeats 4000000
/-! Sh20: what a law's head tells: defs, free names, constants, own exception classes. -/
namespace Sh
open PySem PySem.Spec PyProof.Rows L2 He
def clsB : Stmt → List Stmt
  | .ClassDef (body := b) .. => b
  | _ => []
/-! ### constants of the module -/
def valsB (f : Value → D → Bool) : List Value → List D → Bool
  | [], [] => true
  | u :: us, d :: ds => f u d && valsB f us ds
  | _, _ => false
def valB (K : PySem.W.Frag) : Nat → Value → D → Bool
  | 0, _, _ => false
  | n + 1, u, d => match u, d with
    | .none, .non => true
    | .bool b, .bl c => b == c
    | .int i _, .int j => decide (i = j)
    | .str z _, .str y => decide (z = y)
    | .ref a, .tup ds => (match K.lookup a with
      | some ⟨.type c, _, .seq its _, _⟩ => decide (c = "tuple") && (decide (its.size ≤ sizeLine) && valsB (valB K n) its.toList ds)
      | _ => false)
    | _, _ => false
theorem valB_ok {K : PySem.W.Frag} : ∀ (n : Nat) {u : Value} {d : D}, valB K n u d = true → ∃ v, L2.RelV v u ∧ ∀ pd H, Rep K pd H v d
  | 0, _, _, h => by cases h
  | n + 1, u, d, h => by
    have many : ∀ {us : List Value} {ds : List D}, valsB (valB K n) us ds = true → ∃ vs, Vals vs us ∧ ∀ pd H, Reps K pd H vs ds := by
      intro us
      induction us with
      | nil =>
        intro ds h
        cases ds with
        | nil => exact ⟨[], .nil, fun _ _ => .nil⟩
        | cons _ _ => cases h
      | cons u us ih =>
        intro ds h
        cases ds with
        | nil => cases h
        | cons d ds =>
          obtain ⟨h1, h2⟩ := ba (show (valB K n u d && valsB (valB K n) us ds) = true from h)
          obtain ⟨v, r1, r2⟩ := valB_ok n h1
          obtain ⟨vs, s1, s2⟩ := ih h2
          exact ⟨v :: vs, .cons r1 s1, fun pd H => .cons (r2 pd H) (s2 pd H)⟩
    cases u with
    | none => cases d with
      | non => exact ⟨.non, rfl, fun _ _ => .non⟩
      | _ => cases h
    | bool b => cases d with
      | bl c =>
        have e : b = c := eq_of_beq (show (b == c) = true from h)
        subst e
        exact ⟨.bl b, rfl, fun _ _ => .bl b⟩
      | _ => cases h
    | int i t => cases d with
      | int j =>
        have e : i = j := of_decide_eq_true h
        subst e
        exact ⟨.int i, ⟨t, rfl⟩, fun _ _ => .int i⟩
      | _ => cases h
    | str z t => cases d with
      | str y =>
        have e : z = y := of_decide_eq_true h
        subst e
        exact ⟨.str z, ⟨t, rfl⟩, fun _ _ => .str z⟩
      | _ => cases h
    | ref a => cases d with
      | tup ds =>
        have h1 : (match K.lookup a with
          | some ⟨.type c, _, .seq its _, _⟩ => decide (c = "tuple") && (decide (its.size ≤ sizeLine) && valsB (valB K n) its.toList ds)
          | _ => false) = true := h
        cases q : K.lookup a with
        | none => rw [q] at h1; cases h1
        | some o =>
          obtain ⟨oc, od, dt, osl⟩ := o
          rw [q] at h1
          cases oc with
          | type c => cases dt with
            | seq its m =>
              obtain ⟨h2, h3⟩ := ba (show (decide (c = "tuple") && (decide (its.size ≤ sizeLine) && valsB (valB K n) its.toList ds)) = true from h1)
              obtain ⟨h4, h5⟩ := ba h3
              obtain ⟨vs, r1, r2⟩ := many h5
              exact ⟨.ref a, rfl, fun pd H => .tup (.inr ⟨_, its, m, q, congrArg Value.type (of_decide_eq_true h2), rfl, of_decide_eq_true h4, r1⟩) (r2 pd H)⟩
            | _ => cases h1
          | _ => cases dt <;> cases h1
      | _ => cases h
    | _ => cases d <;> cases h
def glB (K : PySem.W.Frag) (p : Str × D) : Bool := match PySem.W.nsIn K mainGlobals p.1 with
  | some (some u) => valB K 6 u p.2
  | _ => false
theorem glB_ok {K : PySem.W.Frag} {h : Heap} {mg : Str → Option Value} {p : Str × D} (X : K.In h) (G : h.Ns mainGlobals mg) (c : glB K p = true) : ∃ (v : V) (u : Value), mg p.1 = some u ∧ L2.RelV v u ∧ ∀ pd H, Rep K pd H v p.2 := by
  unfold glB at c
  cases q : PySem.W.nsIn K mainGlobals p.1 with
  | none => rw [q] at c; cases c
  | some o =>
    cases o with
    | none => rw [q] at c; cases c
    | some u =>
      rw [q] at c
      obtain ⟨v, h1, h2⟩ := valB_ok 6 c
      exact ⟨v, u, PySem.W.mg_of X G q, h1, h2⟩

/-! ### own exception classes -/
structure CI where
  x : Str
  fld : Str
  B : String
  newId : String
  initId : String
  bmB : List Value
  qual : Str
  params : Arguments
  body : List Stmt
  scope : Scope
abbrev FnC : Type := Option (Str × Str × Arguments × FuncBody × Scope × Addr × List Str × Value × Addr)
def fnC (K : PySem.W.Frag) (x : Str) : FnC := match K.lookup (ma K (ga K x) "__init__") with
  | some ⟨_, _, .func fd, _⟩ => some (fd.name, fd.qualname, fd.params, fd.body, fd.scope, fd.globals, fd.closure.map (·.1), fd.defaults, fd.builtins)
  | _ => none
def CI.val (c : CI) : FnC := some ("__init__", c.qual, c.params, .stmts c.body, c.scope, mainGlobals, ["__class__"], .none, builtinsNs)
def isFile (file : Str) : Option Value → Bool
  | some (.str z _) => file == z
  | _ => false
def codeFile (K : PySem.W.Frag) (file : Str) (u : Value) : Bool := match u with
  | .ref a => (match K.lookup a with
    | some ⟨_, _, .fields vs, _⟩ => isFile file vs[2]?
    | _ => false)
  | _ => false
def cellIs (K : PySem.W.Frag) (C : Addr) (cl : List (Str × Addr)) : Bool := match cl with
  | [(_, cc)] => (match K.lookup cc with
    | some ⟨_, _, .cell (some (.ref D)), _⟩ => decide (D = C)
    | _ => false)
  | _ => false
def CI.fnOk (file : Str) (K : PySem.W.Frag) (c : CI) : Bool := match K.lookup (ma K (ga K c.x) "__init__") with
  | some ⟨.type t, _, .func fd, _⟩ => decide (t = "function") && (PySem.W.codeIn K fd.code c.qual && (codeFile K file fd.code && cellIs K (ga K c.x) fd.closure))
  | _ => false
def CI.ok (file : Str) (K : PySem.W.Frag) (c : CI) : Bool :=
  decide (PySem.W.nsIn K mainGlobals c.x = some (some (.ref (ga K c.x)))) && (PySem.W.excInitIn K (ga K c.x) c.bmB c.newId && (decide (PySem.W.findIn K (.ref (ga K c.x)) "__init__" = some (some (.ref (ma K (ga K c.x) "__init__")))) &&
  (decide (PySem.W.findIn K (.ref (ga K c.x)) "__setattr__" = some (some (.builtin "object.__setattr__"))) && (decide (PySem.W.findIn K (.ref (ga K c.x)) c.fld = some none) && (PySem.W.hasDictIn K (ga K c.x) && (PySem.W.excOver K (ga K c.x) c.bmB &&
  (decide (PySem.W.ks_superIn K (ga K c.x) (ga K c.x) "__init__" = some (some (.builtin c.initId))) && (decide (PySem.W.subIn K (.ref (ga K c.x)) (.type c.B) = some true) && (decide (PySem.W.mroIn K (ga K c.x) (.ref (ga K c.x)) = some true) &&
  (decide (PySem.W.typeIn K (.ref (ga K c.x)) = some (.type "type")) && (PySem.W.keepIn K (.ref (ga K c.x)) && (decide (PySem.W.nsIn K cStatics "thirdparty.any" = some none) && (xfB K (ga K c.x) && (decide (PySem.W.exmOne K (.ref (ga K c.x)) (.ref (ga K c.x)) = some true) && c.fnOk file K))))))))))))))
structure CIOk (K : PySem.W.Frag) (prog : Program) (c : CI) : Prop where
  ns : PySem.W.nsIn K mainGlobals c.x = some (some (.ref (ga K c.x)))
  ex : ∃ fI cc, ExK K prog c.B c.newId c.initId c.bmB (ga K c.x) fI cc c.fld c.qual c.params c.body c.scope
  xf : XfC K (ga K c.x)
  no : PySem.W.findIn K (.ref (ga K c.x)) c.fld = some none
  em : PySem.W.exmOne K (.ref (ga K c.x)) (.ref (ga K c.x)) = some true
theorem CI.okOf {K : PySem.W.Frag} {prog : Program} {c : CI} (e : fnC K c.x = c.val) (h : c.ok prog.main.file K = true) : CIOk K prog c := by
  obtain ⟨h1, h⟩ := ba h
  obtain ⟨h2, h⟩ := ba h
  obtain ⟨h3, h⟩ := ba h
  obtain ⟨h4, h⟩ := ba h
  obtain ⟨h5, h⟩ := ba h
  obtain ⟨h6, h⟩ := ba h
  obtain ⟨h7, h⟩ := ba h
  obtain ⟨h8, h⟩ := ba h
  obtain ⟨h9, h⟩ := ba h
  obtain ⟨h10, h⟩ := ba h
  obtain ⟨h11, h⟩ := ba h
  obtain ⟨h12, h⟩ := ba h
  obtain ⟨h13, h⟩ := ba h
  obtain ⟨h14, h⟩ := ba h
  obtain ⟨h15, h16⟩ := ba h
  have xf := xfB_ok h14
  have no := of_decide_eq_true h5
  unfold fnC at e
  unfold CI.fnOk at h16
  cases q : K.lookup (ma K (ga K c.x) "__init__") with
  | none => rw [q] at h16; cases h16
  | some o =>
    obtain ⟨oc, od, dt, osl⟩ := o
    rw [q] at e h16
    cases oc with
    | type t => cases dt with
      | func fd =>
        obtain ⟨n1, n2, n3, n4, n5, n6, n7, n8, n9, n10, n11, n12, n13, n14, n15⟩ := fd
        have e2 : (some (n1, n2, n3, n4, n5, n6, n7.map (·.1), n8, n15) : FnC) = (some (("__init__" : Str), c.qual, c.params, FuncBody.stmts c.body, c.scope, mainGlobals, [("__class__" : Str)], Value.none, builtinsNs) : FnC) := e
        simp only [Option.some.injEq, Prod.mk.injEq] at e2
        obtain ⟨e1, e2, e3, e4, e5, e6, e7, e8, e9⟩ := e2
        have h16 : (decide (t = "function") && (PySem.W.codeIn K n13 c.qual && (codeFile K prog.main.file n13 && cellIs K (ga K c.x) n7))) = true := h16
        obtain ⟨k1, k⟩ := ba h16
        obtain ⟨k2, k⟩ := ba k
        obtain ⟨k3, k4⟩ := ba k
        have k1 := of_decide_eq_true k1
        obtain ⟨cc, hcc⟩ : ∃ cc, n7 = [(("__class__" : Str), cc)] := by
          cases n7 with
          | nil => cases e7
          | cons p l => cases l with
            | nil =>
              obtain ⟨y, cc⟩ := p
              have : y = ("__class__" : Str) := (List.cons.inj (show [y] = [("__class__" : Str)] from e7)).1
              exact ⟨cc, by rw [this]⟩
            | cons _ _ => exact absurd (congrArg List.length e7) (by simp)
        subst e1 e2 e3 e4 e5 e6 e8 e9 hcc k1
        have hcell : ∃ (cl : Value) (cld : Option Addr) (csl : Array (Option Value)), K.lookup cc = some ⟨cl, cld, .cell (some (.ref (ga K c.x))), csl⟩ := by
          have k4 : (match K.lookup cc with
            | some ⟨_, _, .cell (some (.ref D)), _⟩ => decide (D = ga K c.x)
            | _ => false) = true := k4
          cases qc : K.lookup cc with
          | none => rw [qc] at k4; cases k4
          | some oc =>
            obtain ⟨c1, c2, c3, c4⟩ := oc
            rw [qc] at k4
            cases c3 with
            | cell v =>
              cases v with
              | none => cases k4
              | some v =>
                cases v with
                | ref D =>
                  have z : D = ga K c.x := of_decide_eq_true k4
                  subst z
                  exact ⟨c1, c2, c4, rfl⟩
                | _ => cases k4
            | _ => cases k4
        have hfile : ∃ (cda : Addr) (ccl : Value) (cdd : Option Addr) (vs : Array Value) (ccs : Array (Option Value)) (file : Str) (tf : Tok), n13 = .ref cda ∧ K.lookup cda = some ⟨ccl, cdd, .fields vs, ccs⟩ ∧ vs[2]? = some (.str file tf) ∧ ((prog.main.file : Str) == file) = true := by
          unfold codeFile at k3
          cases n13 with
          | ref cda =>
            have k3 : (match K.lookup cda with
              | some ⟨_, _, .fields vs, _⟩ => isFile prog.main.file vs[2]?
              | _ => false) = true := k3
            cases qd : K.lookup cda with
            | none => rw [qd] at k3; cases k3
            | some o =>
              obtain ⟨c1, c2, c3, c4⟩ := o
              rw [qd] at k3
              cases c3 with
              | fields vs =>
                have k3 : isFile prog.main.file vs[2]? = true := k3
                cases q2 : vs[2]? with
                | none => rw [q2] at k3; cases k3
                | some v =>
                  rw [q2] at k3
                  cases v with
                  | str z tf => exact ⟨cda, c1, c2, vs, c4, z, tf, rfl, qd, q2, k3⟩
                  | _ => cases k3
              | _ => cases k3
          | _ => cases k3
        obtain ⟨cda, ccl, cdd, vs, ccs, file, tf, rfl, f1, f2, f3⟩ := hfile
        refine ⟨of_decide_eq_true h1, ⟨_, cc, ⟨h2, of_decide_eq_true h3, of_decide_eq_true h4, ?_, h6, h7, of_decide_eq_true h8, of_decide_eq_true h9, of_decide_eq_true h10, xf.exC, of_decide_eq_true h11, h12, of_decide_eq_true h13, ?_, hcell⟩⟩, xf, no, of_decide_eq_true h15⟩
        · unfold PySem.W.takerIn
          rw [no]
          rfl
        · exact ⟨od, .none, n9, n10, n11, n12, cda, n14, osl, ccl, cdd, vs, ccs, file, tf, q, k2, f1, f2, f3, rfl⟩
      | _ => cases h16
    | _ => cases dt <;> cases h16

/-! ### the Hook -/
def asS (g : Addr → Option Obj) : Nat → List Addr
  | 0 => [mainGlobals, cStatics]
  | n + 1 => growD g (asS g n)
abbrev AlS : Type := Bool × List FnW × List FnC
structure HeadS where
  n : Nat
  file : Str
  fa : List Fa
  fn : List DefD
  gl : List (Str × D)
  ci : List CI
def HeadS.obsK (hd : HeadS) (K : PySem.W.Frag) : AlS := ((hd.fa.all fun f => f.ok K) && ((hd.fn.all fun d => d.ok K) && ((hd.gl.all fun p => glB K p) && hd.ci.all fun c => c.ok hd.file K)), hd.fn.map fun d => fnW K d.at_, hd.ci.map fun c => fnC K c.x)
def HeadS.val (hd : HeadS) : AlS := (true, hd.fn.map DefD.val, hd.ci.map CI.val)
def HeadS.obsG (hd : HeadS) (g : Addr → Option Obj) : AlS := hd.obsK (frG g (asS g hd.n))
def HeadS.Says (hd : HeadS) (K : PySem.W.Frag) : Prop := hd.obsK K = hd.val
def HeadS.hook (hd : HeadS) : PySem.W.Hook where
  α := AlS
  obs := fun s => hd.obsG s.heap.get?
  val := fun _ => hd.val
  says := fun _ h => ∃ K : PySem.W.Frag, K.In h ∧ hd.Says K
  of := fun _ _ e => ⟨_, frG_in, e⟩
  keeps := fun _ _ _ ⟨K, hK, c⟩ k => ⟨K, PySem.W.Frag.In.keeps hK k, c⟩
theorem HeadS.obsG_eq {hd : HeadS} {g : Addr → Option Obj} {s : Shared} (h : ∀ a, g a = s.heap.get? a) : hd.obsG g = hd.hook.obs s := by
  have e : g = s.heap.get? := funext h
  rw [e] <;> rfl
section
variable {hd : HeadS} {K : PySem.W.Frag}
theorem HeadS.Says.parts (c : hd.Says K) : (∀ f ∈ hd.fa, f.ok K = true) ∧ (∀ d ∈ hd.fn, d.ok K = true) ∧ (∀ p ∈ hd.gl, glB K p = true) ∧ (∀ x ∈ hd.ci, x.ok hd.file K = true) := by
  have c1 : ((hd.fa.all fun f => f.ok K) && ((hd.fn.all fun d => d.ok K) && ((hd.gl.all fun p => glB K p) && hd.ci.all fun c => c.ok hd.file K))) = true := congrArg (fun z : AlS => z.1) c
  obtain ⟨a, b⟩ := ba c1
  obtain ⟨b, d⟩ := ba b
  obtain ⟨d, e⟩ := ba d
  exact ⟨List.all_eq_true.mp a, List.all_eq_true.mp b, List.all_eq_true.mp d, List.all_eq_true.mp e⟩
theorem HeadS.Says.fact (c : hd.Says K) {f : Fa} (h : f ∈ hd.fa) : f.ok K = true := c.parts.1 f h
theorem HeadS.Says.gl_ (c : hd.Says K) {p : Str × D} (h : p ∈ hd.gl) : glB K p = true := c.parts.2.2.1 p h
theorem HeadS.Says.def_ (c : hd.Says K) (i : Nat) {d : DefD} (h : hd.fn[i]? = some d := by rfl) : ∃ fd, FunD K d.name d.qual d.params d.body d.scope (d.dvs K) (d.kws K) (fAd K d.at_) fd := by
  have e : hd.fn.map (fun d => fnW K d.at_) = hd.fn.map DefD.val := congrArg (fun z : AlS => z.2.1) c
  have e2 : (hd.fn.map fun d => fnW K d.at_)[i]? = (hd.fn.map DefD.val)[i]? := by rw [e]
  rw [List.getElem?_map, List.getElem?_map, h] at e2
  exact DefD.funD (Option.some.inj e2) (c.parts.2.1 d (List.mem_of_getElem? h))
theorem HeadS.Says.ci_ (c : hd.Says K) {prog : Program} (hf : prog.main.file = hd.file) (i : Nat) {x : CI} (h : hd.ci[i]? = some x := by rfl) : CIOk K prog x := by
  have e : hd.ci.map (fun c => fnC K c.x) = hd.ci.map CI.val := congrArg (fun z : AlS => z.2.2) c
  have e2 : (hd.ci.map fun c => fnC K c.x)[i]? = (hd.ci.map CI.val)[i]? := by rw [e]
  rw [List.getElem?_map, List.getElem?_map, h] at e2
  refine CI.okOf (Option.some.inj e2) ?_
  rw [hf]
  exact c.parts.2.2.2 x (List.mem_of_getElem? h)
end
/-- a law's end, where what may be let out hangs on the world -/
theorem walk_S {l : PySem.W.OpenLaw} {n k : Nat} {q : Program} {loose : List Str} {XP : (Str → Option Value) → Heap → Prop} {YP : World → Heap → Prop} {d : DefRec} {CX : World → CXT} {x : Str} (hn : l.most = some n) (hn2 : n ≤ sizeLine) (hdf : d.params.defaults = []) (hr : Room k callerA)
    (F : ∀ (w : World) (mg : Str → Option Value) (fa : Addr) (h : Heap), YP w h → h.Ns mainGlobals mg → mg d.name = some (.ref fa) → ∃ (K : PySem.W.Frag) (fd : FuncData), K.In h ∧ (∀ (s : Shared) (u : Value), BindsTo s fd ⟨[u], []⟩ [(x, u)]) ∧
      ∀ base : Heap, K.In base → base.Ns mainGlobals mg → FnOk l.prog w K mg base (CX w) k fa fd [x] (spLaw K))
    (hCX : ∀ (w : World) (H : Hp) (s : Shared) (e : Value) (s' : Shared), CX w [] H s (fun _ _ _ => False) e s' → False) : PySem.W.WalkO q loose XP YP l.row.toRowW d [] (fun f vs => PySem.call f vs) :=
  Att.attach_call hn hdf fun w s0 s1 mg mb fa o pm cd doc a vs ns G Y ho hd hcd hmg hobj hints hlen hg => by
    obtain ⟨K, fd, KX, hb, hF⟩ := F w mg fa _ Y G.T.g hmg
    exact law_call KX G.T.g G.T.b G.T.builtins G.T.nolimit hg hobj hints (Nat.le_trans hlen hn2) hr hF hb (fun H hO hS => ⟨a, ns, rfl, hS, fun _ => rfl⟩) fun H e s' => hCX w H s1 e s'
theorem cx_no {P : Program} {w : World} {H : Hp} {s : Shared} {e : Value} {s' : Shared} (h : L2.CX P w [] H s (fun _ _ _ => False) e s') : False := by
  obtain ⟨_, _, _, _, _, _, _, _, _, _, _, _, z⟩ := h
  exact z
end Sh
end
section
set_option maxHeartbeats 0
/-! K80H: the head. Printed by gen.py. -/
namespace K80
open PySem PySem.Spec PyProof.Rows L2 Sh
abbrev R : PySem.W.OpenRow := PySem.W.OpenLaw.row PySem.Challenge.rw_digitwords_k80_whole_beginnings_that_equ
def names : List PySem.Str := ([(PySem.Str.ofString "DigitError"), (PySem.Str.ofString "InvalidSeries"), (PySem.Str.ofString "InvalidOperation"), (PySem.Str.ofString "InvalidCount"), (PySem.Str.ofString "Refused"), (PySem.Str.ofString "is_integer"), (PySem.Str.ofString "is_within"), (PySem.Str.ofString "power_of"), (PySem.Str.ofString "inverse_of"), (PySem.Str.ofString "kernel_rows"), (PySem.Str.ofString "PRIMES"), (PySem.Str.ofString "is_poly"), (PySem.Str.ofString "MOST_TERMS"), (PySem.Str.ofString "MOST_LENGTH"), (PySem.Str.ofString "MOST_LETTERS"), (PySem.Str.ofString "POWER"), (PySem.Str.ofString "least_power"), (PySem.Str.ofString "first_in"), (PySem.Str.ofString "shares_at"), (PySem.Str.ofString "beginnings"), (PySem.Str.ofString "value_at"), (PySem.Str.ofString "broken_at"), (PySem.Str.ofString "letters_in"), (PySem.Str.ofString "require_told"), (PySem.Str.ofString "require_letters"), (PySem.Str.ofString "require_solution"), (PySem.Str.ofString "first_many"), (PySem.Str.ofString "first_letters"), (PySem.Str.ofString "solution_letters"), (PySem.Str.ofString "_law_dice"), (PySem.Str.ofString "_law_roll"), (PySem.Str.ofString "_law_pick"), (PySem.Str.ofString "_law_se_poly"), (PySem.Str.ofString "_law_se_times"), (PySem.Str.ofString "_law_se_spread"), (PySem.Str.ofString "_law_se_left"), (PySem.Str.ofString "_law_se_drawn"), (PySem.Str.ofString "_law_equation"), (PySem.Str.ofString "_law_low"), (PySem.Str.ofString "_law_lines")] : List PySem.Str) ++ ([(PySem.Str.ofString "_law_kernel"), (PySem.Str.ofString "_law_shortened"), (PySem.Str.ofString "_law_continued"), (PySem.Str.ofString "_law_right")] : List PySem.Str)
def dD (x : Str) (i : Nat) : He.DefD := ⟨(x, none), x, x, defArgs (top i), defBody (top i), defScope (top i), [], []⟩
def hd : HeadS := ⟨5, PySem.Challenge.rw_digitwords_k80_whole_beginnings_that_equ.prog.main.file, [.free "abs", .free "all", .free "bool", .free "divmod", .free "enumerate", .free "int", .free "isinstance", .free "len", .free "list", .free "max", .free "min", .free "range", .free "sorted", .free "sum", .free "super", .free "tuple", .free "zip", .glo "is_integer", .glo "is_within", .glo "power_of", .glo "inverse_of", .glo "kernel_rows", .glo "is_poly", .glo "least_power", .glo "first_in", .glo "shares_at", .glo "beginnings", .glo "value_at", .glo "broken_at", .glo "letters_in", .glo "require_told", .glo "require_letters", .glo "require_solution", .glo "first_many", .glo "first_letters", .glo "solution_letters", .glo "_law_roll", .glo "_law_pick", .glo "_law_se_poly", .glo "_law_se_times", .glo "_law_se_spread", .glo "_law_se_left", .glo "_law_se_drawn", .glo "_law_equation", .glo "_law_low", .glo "_law_lines", .glo "_law_shortened", .glo "_law_kernel", .glo "_law_continued", .glo "_law_right", .glo "_law_dice", .glo "law"], [dD "is_integer" 7, dD "is_within" 8, dD "power_of" 10, dD "inverse_of" 12, dD "kernel_rows" 14, dD "is_poly" 17, dD "least_power" 23, dD "first_in" 24, dD "shares_at" 25, dD "beginnings" 26, dD "value_at" 27, dD "broken_at" 28, dD "letters_in" 29, dD "require_told" 30, dD "require_letters" 31, dD "require_solution" 32, dD "first_many" 33, dD "first_letters" 34, dD "solution_letters" 35, dD "_law_roll" 38, dD "_law_pick" 39, dD "_law_se_poly" 40, dD "_law_se_times" 41, dD "_law_se_spread" 42, dD "_law_se_left" 43, dD "_law_se_drawn" 44, dD "_law_equation" 45, dD "_law_low" 46, dD "_law_lines" 47, dD "_law_shortened" 49, dD "_law_kernel" 48, dD "_law_continued" 50, dD "_law_right" 51, dD "_law_dice" 37, dD "law" 52], [("MOST_LENGTH", (.int 13)), ("MOST_LETTERS", (.int 2000)), ("MOST_TERMS", (.int 3)), ("POWER", (.str (PySem.Str.ofString "power"))), ("PRIMES", (.tup [(.int 2), (.int 3), (.int 5)]))], [⟨"Refused", "reason", "ArithmeticError", "ArithmeticError.__new__", "ArithmeticError.__init__", [.type "ArithmeticError", .type "Exception", .type "BaseException", .type "object"], "Refused.__init__", defArgs ((clsB (top 5)).getD 0 (.Pass ⟨0, 0, 0, 0⟩)), defBody ((clsB (top 5)).getD 0 (.Pass ⟨0, 0, 0, 0⟩)), defScope ((clsB (top 5)).getD 0 (.Pass ⟨0, 0, 0, 0⟩))⟩]⟩
abbrev hk : PySem.W.Hook := hd.hook
def ob (s : PySem.W.SharedT) : AlS := hd.obsG (HandSHeadRun.getT s)
theorem ob_eq (s : PySem.W.SharedT) : ob s = hk.obs s.abs := HeadS.obsG_eq (HandSHeadRun.getT_eq s)
theorem run (w : World) : HandSHeadRun.RunEq R (PySem.W.view R.prog [52]) hk ob 8000 names w := by
  intro os
  kernel_rfl
theorem g_of {w : World} {K : PySem.W.Frag} {h : Heap} {mg : Str → Option Value} (X : K.In h) (Gn : h.Ns mainGlobals mg) (c : hd.Says K) : G PySem.Challenge.rw_digitwords_k80_whole_beginnings_that_equ.prog w K mg where
  b_abs := He.free_ok X Gn (c.fact (List.mem_of_getElem? (i := 0) rfl))
  b_all := He.free_ok X Gn (c.fact (List.mem_of_getElem? (i := 1) rfl))
  b_bool := He.free_ok X Gn (c.fact (List.mem_of_getElem? (i := 2) rfl))
  b_divmod := He.free_ok X Gn (c.fact (List.mem_of_getElem? (i := 3) rfl))
  b_enumerate := He.free_ok X Gn (c.fact (List.mem_of_getElem? (i := 4) rfl))
  b_int := He.free_ok X Gn (c.fact (List.mem_of_getElem? (i := 5) rfl))
  b_isinstance := He.free_ok X Gn (c.fact (List.mem_of_getElem? (i := 6) rfl))
  b_len := He.free_ok X Gn (c.fact (List.mem_of_getElem? (i := 7) rfl))
  b_list := He.free_ok X Gn (c.fact (List.mem_of_getElem? (i := 8) rfl))
  b_max := He.free_ok X Gn (c.fact (List.mem_of_getElem? (i := 9) rfl))
  b_min := He.free_ok X Gn (c.fact (List.mem_of_getElem? (i := 10) rfl))
  b_range := He.free_ok X Gn (c.fact (List.mem_of_getElem? (i := 11) rfl))
  b_sorted := He.free_ok X Gn (c.fact (List.mem_of_getElem? (i := 12) rfl))
  b_sum := He.free_ok X Gn (c.fact (List.mem_of_getElem? (i := 13) rfl))
  b_super := He.free_ok X Gn (c.fact (List.mem_of_getElem? (i := 14) rfl))
  b_tuple := He.free_ok X Gn (c.fact (List.mem_of_getElem? (i := 15) rfl))
  b_zip := He.free_ok X Gn (c.fact (List.mem_of_getElem? (i := 16) rfl))
  c_MOST_LENGTH := glB_ok (p := ("MOST_LENGTH", (.int 13))) X Gn (c.gl_ (List.mem_of_getElem? (i := 0) rfl))
  c_MOST_LETTERS := glB_ok (p := ("MOST_LETTERS", (.int 2000))) X Gn (c.gl_ (List.mem_of_getElem? (i := 1) rfl))
  c_MOST_TERMS := glB_ok (p := ("MOST_TERMS", (.int 3))) X Gn (c.gl_ (List.mem_of_getElem? (i := 2) rfl))
  c_POWER := glB_ok (p := ("POWER", (.str (PySem.Str.ofString "power")))) X Gn (c.gl_ (List.mem_of_getElem? (i := 3) rfl))
  c_PRIMES := glB_ok (p := ("PRIMES", (.tup [(.int 2), (.int 3), (.int 5)]))) X Gn (c.gl_ (List.mem_of_getElem? (i := 4) rfl))
  x_Refused := fun Y eK eP ew em => by
    have t := c.ci_ (prog := PySem.Challenge.rw_digitwords_k80_whole_beginnings_that_equ.prog) rfl 0
    have m := PySem.W.mg_of X Gn t.ns
    obtain ⟨fI, cc, T⟩ := t.ex
    rw [← eK, ← eP] at T
    rw [← em, ← eK] at m
    exact ⟨_, _, _, _, _, fI, cc, "self", _, _, _, _, _, _, _, _, _, _, _, _, _, _, _, F.excBase_ArithmeticError, PySem.W.kxs_ArithmeticError, F.store_ArithmeticError, T, m, fun dV kV doc pm an cdv ct a b e => (by subst e; rfl), rfl, rfl, (by decide +kernel), rfl, rfl, (by decide), rfl, rfl,
      (by rw [eP]; rfl), rfl, rfl, rfl, (by decide), (by decide), fun A h u L cda m s Q E hu hr hns hm k hq => jR_run rfl rfl rfl (by decide) hns hm hr (by decide +kernel) hu k hq, fun env e => (by unfold interactive; rw [e]; rfl), fun env => rfl, fun env => rfl, fun env => rfl, fun env => rfl⟩
  x_h := by
    have t := c.ci_ (prog := PySem.Challenge.rw_digitwords_k80_whole_beginnings_that_equ.prog) rfl 0
    exact ⟨_, PySem.W.mg_of X Gn t.ns, t.xf, t.no, t.em⟩
theorem facts {w : World} {K : PySem.W.Frag} {h : Heap} {mg : Str → Option Value} {f : Addr} (X : K.In h) (Gn : h.Ns mainGlobals mg) (hfa : mg ("law" : Str) = some (.ref f)) (c : hd.Says K)
    (okB : ∀ (a : Addr) (δ : Di), ∃ (d : Sl) (δ' : Di), f_lawB (rhoL a .em) δ = .ok .nx (rhoL a d) δ') (okR : ∀ (a : Addr) (δ : Di), ∃ (δ' : Di), f_lawR (rhoL a .em) δ = .ok (.rt (.bl true)) (rhoL a .em) δ') :
    ∃ fd : FuncData, (∀ (s : Shared) (v : Value), BindsTo s fd ⟨[v], []⟩ [("script", v)]) ∧ ∀ base : Heap, K.In base → base.Ns mainGlobals mg → FnOk PySem.Challenge.rw_digitwords_k80_whole_beginnings_that_equ.prog w K mg base (L2.CX PySem.Challenge.rw_digitwords_k80_whole_beginnings_that_equ.prog w) 7 f fd ["script"] (spLaw K) := by
  have g : G PySem.Challenge.rw_digitwords_k80_whole_beginnings_that_equ.prog w K mg := g_of X Gn c
  obtain ⟨fd0, F0⟩ := c.def_ 0 (d := dD "is_integer" 7) rfl
  have m0 : mg "is_integer" = some (.ref (He.ga K "is_integer")) := He.glo_ok X Gn (c.fact (List.mem_of_getElem? (i := 17) rfl))
  obtain ⟨fd1, F1⟩ := c.def_ 1 (d := dD "is_within" 8) rfl
  have m1 : mg "is_within" = some (.ref (He.ga K "is_within")) := He.glo_ok X Gn (c.fact (List.mem_of_getElem? (i := 18) rfl))
  obtain ⟨fd2, F2⟩ := c.def_ 2 (d := dD "power_of" 10) rfl
  have m2 : mg "power_of" = some (.ref (He.ga K "power_of")) := He.glo_ok X Gn (c.fact (List.mem_of_getElem? (i := 19) rfl))
  obtain ⟨fd3, F3⟩ := c.def_ 3 (d := dD "inverse_of" 12) rfl
  have m3 : mg "inverse_of" = some (.ref (He.ga K "inverse_of")) := He.glo_ok X Gn (c.fact (List.mem_of_getElem? (i := 20) rfl))
  obtain ⟨fd4, F4⟩ := c.def_ 4 (d := dD "kernel_rows" 14) rfl
  have m4 : mg "kernel_rows" = some (.ref (He.ga K "kernel_rows")) := He.glo_ok X Gn (c.fact (List.mem_of_getElem? (i := 21) rfl))
  obtain ⟨fd5, F5⟩ := c.def_ 5 (d := dD "is_poly" 17) rfl
  have m5 : mg "is_poly" = some (.ref (He.ga K "is_poly")) := He.glo_ok X Gn (c.fact (List.mem_of_getElem? (i := 22) rfl))
  obtain ⟨fd6, F6⟩ := c.def_ 6 (d := dD "least_power" 23) rfl
  have m6 : mg "least_power" = some (.ref (He.ga K "least_power")) := He.glo_ok X Gn (c.fact (List.mem_of_getElem? (i := 23) rfl))
  obtain ⟨fd7, F7⟩ := c.def_ 7 (d := dD "first_in" 24) rfl
  have m7 : mg "first_in" = some (.ref (He.ga K "first_in")) := He.glo_ok X Gn (c.fact (List.mem_of_getElem? (i := 24) rfl))
  obtain ⟨fd8, F8⟩ := c.def_ 8 (d := dD "shares_at" 25) rfl
  have m8 : mg "shares_at" = some (.ref (He.ga K "shares_at")) := He.glo_ok X Gn (c.fact (List.mem_of_getElem? (i := 25) rfl))
  obtain ⟨fd9, F9⟩ := c.def_ 9 (d := dD "beginnings" 26) rfl
  have m9 : mg "beginnings" = some (.ref (He.ga K "beginnings")) := He.glo_ok X Gn (c.fact (List.mem_of_getElem? (i := 26) rfl))
  obtain ⟨fd10, F10⟩ := c.def_ 10 (d := dD "value_at" 27) rfl
  have m10 : mg "value_at" = some (.ref (He.ga K "value_at")) := He.glo_ok X Gn (c.fact (List.mem_of_getElem? (i := 27) rfl))
  obtain ⟨fd11, F11⟩ := c.def_ 11 (d := dD "broken_at" 28) rfl
  have m11 : mg "broken_at" = some (.ref (He.ga K "broken_at")) := He.glo_ok X Gn (c.fact (List.mem_of_getElem? (i := 28) rfl))
  obtain ⟨fd12, F12⟩ := c.def_ 12 (d := dD "letters_in" 29) rfl
  have m12 : mg "letters_in" = some (.ref (He.ga K "letters_in")) := He.glo_ok X Gn (c.fact (List.mem_of_getElem? (i := 29) rfl))
  obtain ⟨fd13, F13⟩ := c.def_ 13 (d := dD "require_told" 30) rfl
  have m13 : mg "require_told" = some (.ref (He.ga K "require_told")) := He.glo_ok X Gn (c.fact (List.mem_of_getElem? (i := 30) rfl))
  obtain ⟨fd14, F14⟩ := c.def_ 14 (d := dD "require_letters" 31) rfl
  have m14 : mg "require_letters" = some (.ref (He.ga K "require_letters")) := He.glo_ok X Gn (c.fact (List.mem_of_getElem? (i := 31) rfl))
  obtain ⟨fd15, F15⟩ := c.def_ 15 (d := dD "require_solution" 32) rfl
  have m15 : mg "require_solution" = some (.ref (He.ga K "require_solution")) := He.glo_ok X Gn (c.fact (List.mem_of_getElem? (i := 32) rfl))
  obtain ⟨fd16, F16⟩ := c.def_ 16 (d := dD "first_many" 33) rfl
  have m16 : mg "first_many" = some (.ref (He.ga K "first_many")) := He.glo_ok X Gn (c.fact (List.mem_of_getElem? (i := 33) rfl))
  obtain ⟨fd17, F17⟩ := c.def_ 17 (d := dD "first_letters" 34) rfl
  have m17 : mg "first_letters" = some (.ref (He.ga K "first_letters")) := He.glo_ok X Gn (c.fact (List.mem_of_getElem? (i := 34) rfl))
  obtain ⟨fd18, F18⟩ := c.def_ 18 (d := dD "solution_letters" 35) rfl
  have m18 : mg "solution_letters" = some (.ref (He.ga K "solution_letters")) := He.glo_ok X Gn (c.fact (List.mem_of_getElem? (i := 35) rfl))
  obtain ⟨fd19, F19⟩ := c.def_ 19 (d := dD "_law_roll" 38) rfl
  have m19 : mg "_law_roll" = some (.ref (He.ga K "_law_roll")) := He.glo_ok X Gn (c.fact (List.mem_of_getElem? (i := 36) rfl))
  obtain ⟨fd20, F20⟩ := c.def_ 20 (d := dD "_law_pick" 39) rfl
  have m20 : mg "_law_pick" = some (.ref (He.ga K "_law_pick")) := He.glo_ok X Gn (c.fact (List.mem_of_getElem? (i := 37) rfl))
  obtain ⟨fd21, F21⟩ := c.def_ 21 (d := dD "_law_se_poly" 40) rfl
  have m21 : mg "_law_se_poly" = some (.ref (He.ga K "_law_se_poly")) := He.glo_ok X Gn (c.fact (List.mem_of_getElem? (i := 38) rfl))
  obtain ⟨fd22, F22⟩ := c.def_ 22 (d := dD "_law_se_times" 41) rfl
  have m22 : mg "_law_se_times" = some (.ref (He.ga K "_law_se_times")) := He.glo_ok X Gn (c.fact (List.mem_of_getElem? (i := 39) rfl))
  obtain ⟨fd23, F23⟩ := c.def_ 23 (d := dD "_law_se_spread" 42) rfl
  have m23 : mg "_law_se_spread" = some (.ref (He.ga K "_law_se_spread")) := He.glo_ok X Gn (c.fact (List.mem_of_getElem? (i := 40) rfl))
  obtain ⟨fd24, F24⟩ := c.def_ 24 (d := dD "_law_se_left" 43) rfl
  have m24 : mg "_law_se_left" = some (.ref (He.ga K "_law_se_left")) := He.glo_ok X Gn (c.fact (List.mem_of_getElem? (i := 41) rfl))
  obtain ⟨fd25, F25⟩ := c.def_ 25 (d := dD "_law_se_drawn" 44) rfl
  have m25 : mg "_law_se_drawn" = some (.ref (He.ga K "_law_se_drawn")) := He.glo_ok X Gn (c.fact (List.mem_of_getElem? (i := 42) rfl))
  obtain ⟨fd26, F26⟩ := c.def_ 26 (d := dD "_law_equation" 45) rfl
  have m26 : mg "_law_equation" = some (.ref (He.ga K "_law_equation")) := He.glo_ok X Gn (c.fact (List.mem_of_getElem? (i := 43) rfl))
  obtain ⟨fd27, F27⟩ := c.def_ 27 (d := dD "_law_low" 46) rfl
  have m27 : mg "_law_low" = some (.ref (He.ga K "_law_low")) := He.glo_ok X Gn (c.fact (List.mem_of_getElem? (i := 44) rfl))
  obtain ⟨fd28, F28⟩ := c.def_ 28 (d := dD "_law_lines" 47) rfl
  have m28 : mg "_law_lines" = some (.ref (He.ga K "_law_lines")) := He.glo_ok X Gn (c.fact (List.mem_of_getElem? (i := 45) rfl))
  obtain ⟨fd29, F29⟩ := c.def_ 29 (d := dD "_law_shortened" 49) rfl
  have m29 : mg "_law_shortened" = some (.ref (He.ga K "_law_shortened")) := He.glo_ok X Gn (c.fact (List.mem_of_getElem? (i := 46) rfl))
  obtain ⟨fd30, F30⟩ := c.def_ 30 (d := dD "_law_kernel" 48) rfl
  have m30 : mg "_law_kernel" = some (.ref (He.ga K "_law_kernel")) := He.glo_ok X Gn (c.fact (List.mem_of_getElem? (i := 47) rfl))
  obtain ⟨fd31, F31⟩ := c.def_ 31 (d := dD "_law_continued" 50) rfl
  have m31 : mg "_law_continued" = some (.ref (He.ga K "_law_continued")) := He.glo_ok X Gn (c.fact (List.mem_of_getElem? (i := 48) rfl))
  obtain ⟨fd32, F32⟩ := c.def_ 32 (d := dD "_law_right" 51) rfl
  have m32 : mg "_law_right" = some (.ref (He.ga K "_law_right")) := He.glo_ok X Gn (c.fact (List.mem_of_getElem? (i := 49) rfl))
  obtain ⟨fd33, F33⟩ := c.def_ 33 (d := dD "_law_dice" 37) rfl
  have m33 : mg "_law_dice" = some (.ref (He.ga K "_law_dice")) := He.glo_ok X Gn (c.fact (List.mem_of_getElem? (i := 50) rfl))
  obtain ⟨fd34, F34⟩ := c.def_ 34 (d := dD "law" 52) rfl
  have m34 : mg "law" = some (.ref (He.ga K "law")) := He.glo_ok X Gn (c.fact (List.mem_of_getElem? (i := 51) rfl))
  have k0 := fun base : Heap => k_is_integer (w := w) (base := base) g F0 m0
  have k1 := fun base : Heap => k_is_within (w := w) (base := base) g F1 m1 (k0 base)
  have k2 := fun base : Heap => k_power_of (w := w) (base := base) g F2 m2
  have k3 := fun base : Heap => k_inverse_of (w := w) (base := base) g F3 m3
  have k4 := fun base : Heap => k_kernel_rows (w := w) (base := base) g F4 m4 (k3 base)
  have k5 := fun base : Heap => k_is_poly (w := w) (base := base) g F5 m5 (k0 base)
  have k6 := fun base : Heap => k_least_power (w := w) (base := base) g F6 m6
  have k7 := fun base : Heap => k_first_in (w := w) (base := base) g F7 m7 (k6 base)
  have k8 := fun base : Heap => k_shares_at (w := w) (base := base) g F8 m8 (k2 base)
  have k9 := fun base : Heap => k_beginnings (w := w) (base := base) g F9 m9 (k7 base) (k6 base) (k8 base) (k4 base)
  have k10 := fun base : Heap => k_value_at (w := w) (base := base) g F10 m10 (k2 base)
  have k11 := fun base : Heap => k_broken_at (w := w) (base := base) g F11 m11 (k6 base) (k10 base)
  have k12 := fun base : Heap => k_letters_in (w := w) (base := base) g F12 m12 (k6 base) (k3 base) (k10 base)
  have k13 := fun base : Heap => k_require_told (w := w) (base := base) g F13 m13 (k0 base) (k5 base)
  have k14 := fun base : Heap => k_require_letters (w := w) (base := base) g F14 m14 (k7 base) (k1 base)
  have k15 := fun base : Heap => k_require_solution (w := w) (base := base) g F15 m15 (k11 base)
  have k16 := fun base : Heap => k_first_many (w := w) (base := base) g F16 m16 (k13 base) (k7 base)
  have k17 := fun base : Heap => k_first_letters (w := w) (base := base) g F17 m17 (k13 base) (k9 base)
  have k18 := fun base : Heap => k_solution_letters (w := w) (base := base) g F18 m18 (k13 base) (k14 base) (k1 base) (k15 base) (k12 base)
  have k19 := fun base : Heap => k__law_roll (w := w) (base := base) g F19 m19
  have k20 := fun base : Heap => k__law_pick (w := w) (base := base) g F20 m20 (k19 base)
  have k21 := fun base : Heap => k__law_se_poly (w := w) (base := base) g F21 m21
  have k22 := fun base : Heap => k__law_se_times (w := w) (base := base) g F22 m22
  have k23 := fun base : Heap => k__law_se_spread (w := w) (base := base) g F23 m23
  have k24 := fun base : Heap => k__law_se_left (w := w) (base := base) g F24 m24 (k22 base) (k23 base)
  have k25 := fun base : Heap => k__law_se_drawn (w := w) (base := base) g F25 m25 (k21 base) (k19 base)
  have k26 := fun base : Heap => k__law_equation (w := w) (base := base) g F26 m26 (k19 base) (k25 base)
  have k27 := fun base : Heap => k__law_low (w := w) (base := base) g F27 m27
  have k28 := fun base : Heap => k__law_lines (w := w) (base := base) g F28 m28 (k27 base) (k24 base)
  have k29 := fun base : Heap => k__law_shortened (w := w) (base := base) g F29 m29
  have k30 := fun base : Heap => k__law_kernel (w := w) (base := base) g F30 m30 (k29 base)
  have k31 := fun base : Heap => k__law_continued (w := w) (base := base) g F31 m31 (k27 base) (k24 base)
  have k32 := fun base : Heap => k__law_right (w := w) (base := base) g F32 m32 (k20 base) (k26 base) (k27 base) (k28 base) (k30 base) (k16 base) (k17 base) (k19 base) (k18 base) (k31 base) (k24 base)
  have e := hfa.symm.trans m34
  cases e
  have b := L2.FunD.bindsA (ps := ["script"]) F34 fun _ _ _ _ _ _ us hl => match us, hl with | [_], _ => rfl
  exact ⟨fd34, fun s v => b s [v] rfl, fun base _ _ => k_law g F34 F33 m33 (k32 base) (k17 base) okB okR⟩
end K80
open PySem PySem.W PySem.Calls PyProof.Rows
theorem K80.done (okB : ∀ (a : PySem.Addr) (δ : Sh.Di), ∃ (d : Sh.Sl) (δ' : Sh.Di), K80.f_lawB (Sh.rhoL a .em) δ = .ok .nx (Sh.rhoL a d) δ') (okR : ∀ (a : PySem.Addr) (δ : Sh.Di), ∃ (δ' : Sh.Di), K80.f_lawR (Sh.rhoL a .em) δ = .ok (.rt (.bl true)) (Sh.rhoL a .em) δ') : PySem.Challenge.rw_digitwords_k80_whole_beginnings_that_equ.Holds := by
  w_on; o_law
  refine HandSHeadRun.head_any (r := OpenLaw.row PySem.Challenge.rw_digitwords_k80_whole_beginnings_that_equ) (q := view (OpenLaw.row PySem.Challenge.rw_digitwords_k80_whole_beginnings_that_equ).prog [52]) (H := K80.hk) (ob := K80.ob) (M := 8000) (loose := K80.names) (d := HandSHeadRun.topDef (OpenLaw.row PySem.Challenge.rw_digitwords_k80_whole_beginnings_that_equ).prog 52) (kwd := []) K80.ob_eq
    (by kernel_rfl) (fun s => by kernel_rfl) K80.run (by kernel_rfl) (by kernel_rfl) (by kernel_rfl) (by rfl) (by first | assumption | decide +kernel) (by decide +kernel) ⟨rfl, rfl, rfl, rfl, rfl, by decide +kernel⟩ ?hw ?hc
  case hw => w_witness2
  case hc =>
    refine Sh.walk_S (l := PySem.Challenge.rw_digitwords_k80_whole_beginnings_that_equ) (n := 63) (k := 7) (x := "script") (CX := fun w => L2.CX PySem.Challenge.rw_digitwords_k80_whole_beginnings_that_equ.prog w) rfl (by decide) (by kernel_rfl) ⟨rfl, by decide, by decide⟩ ?F (fun _ _ _ _ _ z => Sh.cx_no z)
    intro w mg fa h Y G hmg0
    obtain ⟨K, KX, c⟩ := Y
    have hmg : mg ("law" : PySem.Str) = some (.ref fa) := by
      have e : (HandSHeadRun.topDef (OpenLaw.row PySem.Challenge.rw_digitwords_k80_whole_beginnings_that_equ).prog 52).name = ("law" : PySem.Str) := by kernel_rfl
      rw [← e]
      exact hmg0
    obtain ⟨fd, hb, hF⟩ := K80.facts (w := w) KX G hmg c okB okR
    exact ⟨K, fd, KX, hb, hF⟩
end
section
set_option maxHeartbeats 4000000
/-! LA: vectors modulo p; a space has one reduced basis. Plain Lean. -/
namespace LA
abbrev Vec := Nat → Int
def S : Nat → (Nat → Int) → Int
  | 0, _ => 0
  | n + 1, f => S n f + f n
theorem S_congr {p : Int} {f g : Nat → Int} : ∀ {n : Nat}, (∀ k, k < n → p ∣ f k - g k) → p ∣ S n f - S n g
  | 0, _ => by simp [S]
  | n + 1, h => by
    obtain ⟨a, ha⟩ := S_congr (n := n) fun k hk => h k (Nat.lt_succ_of_lt hk)
    obtain ⟨b, hb⟩ := h n (Nat.lt_succ_self n)
    exact ⟨a + b, by unfold S; grind⟩
theorem S_eq {f g : Nat → Int} : ∀ {n : Nat}, (∀ k, k < n → f k = g k) → S n f = S n g
  | 0, _ => rfl
  | n + 1, h => by unfold S; rw [S_eq fun k hk => h k (Nat.lt_succ_of_lt hk), h n (Nat.lt_succ_self n)]
theorem S_sub {f g : Nat → Int} {c : Int} : ∀ {n : Nat}, S n (fun k => f k - c * g k) = S n f - c * S n g
  | 0 => by simp [S]
  | n + 1 => by unfold S; rw [S_sub]; grind
theorem S_add {f g : Nat → Int} : ∀ {n : Nat}, S n (fun k => f k + g k) = S n f + S n g
  | 0 => by simp [S]
  | n + 1 => by unfold S; rw [S_add]; grind
theorem S_zero {f : Nat → Int} : ∀ {n : Nat}, (∀ k, k < n → f k = 0) → S n f = 0
  | 0, _ => rfl
  | n + 1, h => by unfold S; rw [S_zero fun k hk => h k (Nat.lt_succ_of_lt hk), h n (Nat.lt_succ_self n)]; rfl
theorem S_one {f : Nat → Int} {a : Nat} : ∀ {n : Nat}, a < n → (∀ k, k < n → k ≠ a → f k = 0) → S n f = f a
  | 0, h, _ => absurd h (Nat.not_lt_zero _)
  | n + 1, h, hf => by
    unfold S
    by_cases c : a = n
    · subst c
      rw [S_zero fun k hk => hf k (Nat.lt_succ_of_lt hk) (by omega)]
      omega
    · rw [S_one (a := a) (by omega) fun k hk => hf k (Nat.lt_succ_of_lt hk), hf n (Nat.lt_succ_self n) (by omega)]
      omega
theorem S_two {f : Nat → Int} {a b n : Nat} (ha : a < n) (hb : b < n) (hab : a ≠ b) (hf : ∀ k, k < n → k ≠ a → k ≠ b → f k = 0) : S n f = f a + f b := by
  have h1 : S n f = S n (fun k => (if k = a then f a else 0) + (if k = a then 0 else f k)) := S_eq fun k hk => by
    by_cases c : k = a
    · subst c; simp
    · simp [c]
  rw [h1, S_add, S_one (a := a) ha (fun k hk c => by simp [c]), S_one (a := b) hb (fun k hk c => by
    by_cases d : k = a
    · simp [d]
    · simp [d]; exact hf k hk d c)]
  have e : ¬ b = a := fun z => hab z.symm
  simp [e]
/-- a space modulo p, of vectors of m places -/
structure Sp (p : Int) (m : Nat) (V : Vec → Prop) : Prop where
  sub : ∀ x y c, V x → V y → V fun k => x k - c * y k
  cg : ∀ x y, V x → (∀ k, k < m → p ∣ x k - y k) → V y
theorem Sp.add {p : Int} {m : Nat} {V : Vec → Prop} (s : Sp p m V) {x y : Vec} (c : Int) (hx : V x) (hy : V y) : V fun k => x k + c * y k :=
  s.cg _ _ (s.sub x y (-c) hx hy) fun k _ => ⟨0, by grind⟩
theorem Sp.zero {p : Int} {m : Nat} {V : Vec → Prop} (s : Sp p m V) {x : Vec} (hx : V x) {y : Vec} (h : ∀ k, k < m → p ∣ y k) : V y :=
  s.cg _ _ (s.sub x x 1 hx hx) fun k hk => by
    obtain ⟨a, ha⟩ := h k hk
    exact ⟨-a, by grind⟩
/-- rows, each with a place of its own -/
structure Own (p : Int) (bs : List (Nat × Vec)) : Prop where
  nd : (bs.map (·.1)).Nodup
  one : ∀ q ∈ bs, q.2 q.1 = 1
  off : ∀ q ∈ bs, ∀ r ∈ bs, q.1 ≠ r.1 → q.2 r.1 = 0
def red (bs : List (Nat × Vec)) (x : Vec) : Vec := bs.foldl (fun x q => fun k => x k - x q.1 * q.2 k) x
theorem red_cons (q : Nat × Vec) (bs : List (Nat × Vec)) (x : Vec) : red (q :: bs) x = red bs fun k => x k - x q.1 * q.2 k := rfl
theorem Own.tail {p : Int} {q : Nat × Vec} {bs : List (Nat × Vec)} (o : Own p (q :: bs)) : Own p bs := ⟨(List.nodup_cons.mp o.nd).2, fun r h => o.one r (List.mem_cons_of_mem _ h), fun r h t h' => o.off r (List.mem_cons_of_mem _ h) t (List.mem_cons_of_mem _ h')⟩
/-- a place where all rows are nought is left as it was -/
theorem red_keep : ∀ {bs : List (Nat × Vec)} {x : Vec} {k : Nat}, (∀ q ∈ bs, q.2 k = 0) → red bs x k = x k
  | [], _, _, _ => rfl
  | q :: bs, x, k, h => by
    rw [red_cons, red_keep fun r hr => h r (List.mem_cons_of_mem _ hr), h q List.mem_cons_self]
    simp
theorem red_in {p : Int} {m : Nat} {V : Vec → Prop} (s : Sp p m V) : ∀ {bs : List (Nat × Vec)} {x : Vec}, (∀ q ∈ bs, V q.2) → V x → V (red bs x)
  | [], _, _, hx => hx
  | q :: bs, x, h, hx => red_in s (bs := bs) (x := fun k => x k - x q.1 * q.2 k) (fun r hr => h r (List.mem_cons_of_mem _ hr)) (s.sub _ _ _ hx (h q List.mem_cons_self))
theorem red_out {p : Int} {m : Nat} {V : Vec → Prop} (s : Sp p m V) : ∀ {bs : List (Nat × Vec)} {x : Vec}, (∀ q ∈ bs, V q.2) → V (red bs x) → V x
  | [], _, _, hx => hx
  | q :: bs, x, h, hx => by
    have h1 := red_out s (bs := bs) (x := fun k => x k - x q.1 * q.2 k) (fun r hr => h r (List.mem_cons_of_mem _ hr)) hx
    exact s.cg _ _ (s.add (x q.1) h1 (h q List.mem_cons_self)) fun k _ => ⟨0, by grind⟩
/-- each own place is nought behind it -/
theorem red_own {p : Int} : ∀ {bs : List (Nat × Vec)} {x : Vec}, Own p bs → ∀ q ∈ bs, red bs x q.1 = 0
  | [], _, _, q, h => by cases h
  | q :: bs, x, o, r, h => by
    have hn : ∀ t ∈ bs, t.1 ≠ q.1 := fun t ht e => (List.nodup_cons.mp o.nd).1 (List.mem_map.mpr ⟨t, ht, e⟩)
    rw [red_cons]
    rcases List.mem_cons.mp h with e | e
    · subst e
      rw [red_keep fun t ht => o.off t (List.mem_cons_of_mem _ ht) r List.mem_cons_self (hn t ht), o.one r List.mem_cons_self]
      grind
    · exact red_own o.tail r e
/-- a place k where each row is nought or the vector is nought at the row's own place: the same modulo p -/
theorem red_same {p : Int} : ∀ {bs : List (Nat × Vec)} {x : Vec} {k : Nat}, Own p bs → (∀ q ∈ bs, p ∣ x q.1 ∨ q.2 k = 0) → p ∣ red bs x k - x k
  | [], x, k, _, _ => ⟨0, by simp [red]⟩
  | q :: bs, x, k, o, h => by
    have hn : ∀ t ∈ bs, q.1 ≠ t.1 := fun t ht e => (List.nodup_cons.mp o.nd).1 (List.mem_map.mpr ⟨t, ht, e.symm⟩)
    rw [red_cons]
    have ih := red_same (bs := bs) (x := fun k => x k - x q.1 * q.2 k) (k := k) o.tail fun t ht => by
      rcases h t (List.mem_cons_of_mem _ ht) with z | z
      · left
        rw [o.off q List.mem_cons_self t (List.mem_cons_of_mem _ ht) (hn t ht)]
        simpa using z
      · exact .inr z
    obtain ⟨a, ha⟩ := ih
    rcases h q List.mem_cons_self with ⟨b, hb⟩ | z
    · exact ⟨a - b * q.2 k, by grind⟩
    · exact ⟨a, by grind⟩
/-- a reduced basis: rows with their leading places, all that is in V is told by them -/
structure Ech (p : Int) (m : Nat) (V : Vec → Prop) (bs : List (Nat × Vec)) : Prop where
  own : Own p bs
  lt : ∀ q ∈ bs, q.1 < m
  lead : ∀ q ∈ bs, ∀ k, k < q.1 → q.2 k = 0
  mem : ∀ q ∈ bs, V q.2
  all : ∀ x, V x → (∀ q ∈ bs, p ∣ x q.1) → ∀ k, k < m → p ∣ x k
theorem Ech.leads {p : Int} {m : Nat} {V : Vec → Prop} (s : Sp p m V) {bs : List (Nat × Vec)} (e : Ech p m V bs) {x : Vec} {l : Nat} (hx : V x) (hl : l < m) (h0 : ∀ k, k < l → p ∣ x k) (h1 : ¬ p ∣ x l) : ∃ q ∈ bs, q.1 = l := by
  refine Classical.byContradiction fun hn => h1 ?_
  have hy := e.all (red bs x) (red_in s e.mem hx) (fun q hq => by rw [red_own e.own q hq]; exact Int.dvd_zero p) l hl
  obtain ⟨a, ha⟩ := red_same (p := p) (bs := bs) (x := x) (k := l) e.own fun q hq => by
    by_cases c : q.1 < l
    · exact .inl (h0 _ c)
    · exact .inr (e.lead q hq l (by
        have : q.1 ≠ l := fun z => hn ⟨q, hq, z⟩
        omega))
  obtain ⟨b, hb⟩ := hy
  exact ⟨b - a, by grind⟩
/-- two reduced bases of one space: the same places, the same rows -/
theorem Ech.same {p : Int} {m : Nat} {V : Vec → Prop} (hp : 1 < p) (s : Sp p m V) {bs cs : List (Nat × Vec)} (e : Ech p m V bs) (f : Ech p m V cs) : ∀ q ∈ bs, ∃ r ∈ cs, r.1 = q.1 ∧ ∀ k, k < m → p ∣ r.2 k - q.2 k := fun q hq => by
  have lead : ∀ {bs cs : List (Nat × Vec)}, Ech p m V bs → Ech p m V cs → ∀ q ∈ bs, ∃ r ∈ cs, r.1 = q.1 := fun {bs cs} e f q hq => f.leads s (e.mem q hq) (e.lt q hq) (fun k hk => by rw [e.lead q hq k hk]; exact Int.dvd_zero p) (by
    rw [e.own.one q hq]
    intro z
    have := Int.le_of_dvd (by omega) z
    omega)
  obtain ⟨r, hr, er⟩ := lead e f q hq
  refine ⟨r, hr, er, ?_⟩
  have hd := e.all (fun k => r.2 k - 1 * q.2 k) (s.sub _ _ _ (f.mem r hr) (e.mem q hq)) fun t ht => by
    obtain ⟨u, hu, eu⟩ := lead e f t ht
    show p ∣ r.2 t.1 - 1 * q.2 t.1
    by_cases c : t.1 = q.1
    · rw [c, ← er, f.own.one r hr, er, e.own.one q hq]
      exact ⟨0, by omega⟩
    · have h1 : q.2 t.1 = 0 := e.own.off q hq t ht (fun z => c z.symm)
      have h2 : r.2 t.1 = 0 := by rw [← eu]; exact f.own.off r hr u hu (by rw [er, eu]; exact fun z => c z.symm)
      rw [h1, h2]
      exact ⟨0, by omega⟩
  intro k hk
  have := hd k hk
  simpa using this
end LA
end
section
set_option maxHeartbeats 4000000
/-! LB: elimination on lists, modulo p. Plain Lean. -/
namespace LA
theorem S_rev {f : Nat → Int} : ∀ {n : Nat}, S n (fun k => f (n - 1 - k)) = S n f := by
  have shift : ∀ (n : Nat) (g : Nat → Int), S (n + 1) g = g 0 + S n (fun k => g (k + 1)) := by
    intro n
    induction n with
    | zero => intro g; simp [S]
    | succ n ih => intro g; rw [show S (n + 1 + 1) g = S (n + 1) g + g (n + 1) from rfl, ih, show S (n + 1) (fun k => g (k + 1)) = S n (fun k => g (k + 1)) + g (n + 1) from rfl]; omega
  intro n
  induction n generalizing f with
  | zero => rfl
  | succ n ih =>
    rw [shift, show S (n + 1) f = S n f + f n from rfl]
    have h1 : S n (fun k => f (n + 1 - 1 - (k + 1))) = S n f := by
      rw [← ih (f := f)]
      exact S_eq fun k hk => by
        show f (n + 1 - 1 - (k + 1)) = f (n - 1 - k)
        congr 1
        omega
    rw [h1]
    show f (n + 1 - 1 - 0) + _ = _
    rw [show n + 1 - 1 - 0 = n by omega]
    omega
theorem red_lin : ∀ {bs : List (Nat × Vec)} {x y : Vec} {c : Int} {k : Nat}, red bs (fun k => x k - c * y k) k = red bs x k - c * red bs y k
  | [], _, _, _, _ => rfl
  | q :: bs, x, y, c, k => by
    rw [red_cons, red_cons, red_cons, ← red_lin (bs := bs)]
    congr 1
    funext j
    grind
theorem red_cg {p : Int} {m : Nat} : ∀ {bs : List (Nat × Vec)} {x y : Vec}, (∀ q ∈ bs, q.1 < m) → (∀ k, k < m → p ∣ x k - y k) → ∀ k, k < m → p ∣ red bs x k - red bs y k
  | [], _, _, _, h, k, hk => h k hk
  | q :: bs, x, y, hl, h, k, hk => by
    rw [red_cons, red_cons]
    refine red_cg (bs := bs) (fun r hr => hl r (List.mem_cons_of_mem _ hr)) (fun j hj => ?_) k hk
    obtain ⟨a, ha⟩ := h j hj
    obtain ⟨b, hb⟩ := h q.1 (hl q List.mem_cons_self)
    exact ⟨a - b * q.2 j, by grind⟩
theorem red_nil {bs : List (Nat × Vec)} : red bs (fun _ => 0) = fun _ => 0 := by
  induction bs with
  | nil => rfl
  | cons q bs ih => rw [red_cons]; simpa using ih
theorem red_self {p : Int} : ∀ {bs : List (Nat × Vec)}, Own p bs → ∀ q ∈ bs, red bs q.2 = fun _ => 0
  | [], _, q, h => by cases h
  | q :: bs, o, r, h => by
    have hn : ∀ t ∈ bs, t.1 ≠ q.1 := fun t ht e => (List.nodup_cons.mp o.nd).1 (List.mem_map.mpr ⟨t, ht, e⟩)
    rw [red_cons]
    rcases List.mem_cons.mp h with e | e
    · subst e
      have : (fun k => r.2 k - r.2 r.1 * r.2 k) = fun _ => (0 : Int) := by
        funext k
        rw [o.one r List.mem_cons_self]
        omega
      rw [this, red_nil]
    · have : (fun k => r.2 k - r.2 q.1 * q.2 k) = r.2 := by
        funext k
        rw [o.off r h q List.mem_cons_self (hn r e)]
        simp
      rw [this]
      exact red_self o.tail r e
/-- what is told by rows and is nought at their places is nought -/
theorem span_zero {p : Int} {m : Nat} {bs : List (Nat × Vec)} (o : Own p bs) (hl : ∀ q ∈ bs, q.1 < m) {x : Vec} (hx : ∀ V : Vec → Prop, Sp p m V → (∀ q ∈ bs, V q.2) → (∃ y, V y) → V x) (h0 : ∀ q ∈ bs, p ∣ x q.1) : ∀ k, k < m → p ∣ x k := by
  have s : Sp p m (fun y => ∀ k, k < m → p ∣ red bs y k) := {
    sub := fun x y c hx hy k hk => by
      rw [red_lin]
      obtain ⟨a, ha⟩ := hx k hk
      obtain ⟨b, hb⟩ := hy k hk
      exact ⟨a - c * b, by grind⟩
    cg := fun x y hx h k hk => by
      obtain ⟨a, ha⟩ := hx k hk
      obtain ⟨b, hb⟩ := red_cg (bs := bs) hl h k hk
      exact ⟨a - b, by grind⟩ }
  have h := hx _ s (fun q hq k hk => by rw [red_self o q hq]; exact Int.dvd_zero p) ⟨fun _ => 0, fun k _ => by rw [red_nil]; exact Int.dvd_zero p⟩
  intro k hk
  obtain ⟨a, ha⟩ := h k hk
  obtain ⟨b, hb⟩ := red_same (p := p) (bs := bs) (x := x) (k := k) o fun q hq => .inl (h0 q hq)
  exact ⟨a - b, by grind⟩

/-! ### lists -/
abbrev ev (l : List Int) : Vec := fun k => l.getD k 0
structure Row (p : Int) (m : Nat) (l : List Int) : Prop where
  len : l.length = m
  rng : ∀ x ∈ l, 0 ≤ x ∧ x < p
theorem Row.at {p : Int} {m : Nat} {l : List Int} (r : Row p m l) {k : Nat} (h : k < m) : 0 ≤ ev l k ∧ ev l k < p := by
  have hk : k < l.length := by rw [r.len]; exact h
  show 0 ≤ l.getD k 0 ∧ l.getD k 0 < p
  rw [List.getD_eq_getElem?_getD, List.getElem?_eq_getElem hk]
  exact r.rng _ (List.getElem_mem hk)
theorem row_eq {p : Int} {m : Nat} {a b : List Int} (ha : Row p m a) (hb : Row p m b) (h : ∀ k, k < m → p ∣ ev a k - ev b k) : a = b := by
  refine List.ext_getElem (by rw [ha.len, hb.len]) fun k h1 h2 => ?_
  have hm : k < m := by rw [← ha.len]; exact h1
  have e1 : ev a k = a[k] := by show a.getD k 0 = _; rw [List.getD_eq_getElem?_getD, List.getElem?_eq_getElem h1]; rfl
  have e2 : ev b k = b[k] := by show b.getD k 0 = _; rw [List.getD_eq_getElem?_getD, List.getElem?_eq_getElem h2]; rfl
  have r1 := ha.at hm
  have r2 := hb.at hm
  obtain ⟨c, hc⟩ := h k hm
  rw [e1] at r1 hc
  rw [e2] at r2 hc
  have : c = 0 := by
    rcases Int.lt_trichotomy c 0 with z | z | z
    · have : p * c ≤ p * (-1) := Int.mul_le_mul_of_nonneg_left (by omega) (by omega)
      omega
    · exact z
    · have : p * 1 ≤ p * c := Int.mul_le_mul_of_nonneg_left (by omega) (by omega)
      omega
  subst this
  omega
def subR (p : Int) (row : List Int) (c : Int) (mate : List Int) : List Int := List.zipWith (fun one other => (one - c * other) % p) row mate
theorem subR_row {p : Int} {m : Nat} (hp : 0 < p) {a b : List Int} {c : Int} (ha : Row p m a) (hb : Row p m b) : Row p m (subR p a c b) where
  len := by unfold subR; rw [List.length_zipWith, ha.len, hb.len, Nat.min_self]
  rng := fun x hx => by
    unfold subR at hx
    obtain ⟨i, h, e⟩ := List.mem_iff_getElem.mp hx
    rw [List.getElem_zipWith] at e
    subst e
    exact ⟨Int.emod_nonneg _ (by omega), Int.emod_lt_of_pos _ hp⟩
theorem subR_at {p : Int} {m : Nat} {a b : List Int} {c : Int} (ha : a.length = m) (hb : b.length = m) {k : Nat} (h : k < m) : ev (subR p a c b) k = (ev a k - c * ev b k) % p := by
  show (List.zipWith _ a b).getD k 0 = (a.getD k 0 - c * b.getD k 0) % p
  have h1 : k < a.length := by omega
  have h2 : k < b.length := by omega
  simp only [List.getD_eq_getElem?_getD, List.getElem?_zipWith, List.getElem?_eq_getElem h1, List.getElem?_eq_getElem h2]
  rfl
def mulR (p : Int) (row : List Int) (c : Int) : List Int := row.map fun one => one * c % p
theorem mulR_row {p : Int} {m : Nat} (hp : 0 < p) {a : List Int} {c : Int} (ha : a.length = m) : Row p m (mulR p a c) where
  len := by unfold mulR; rw [List.length_map, ha]
  rng := fun x hx => by
    unfold mulR at hx
    obtain ⟨y, _, e⟩ := List.mem_map.mp hx
    subst e
    exact ⟨Int.emod_nonneg _ (by omega), Int.emod_lt_of_pos _ hp⟩
theorem mulR_at {p : Int} {m : Nat} {a : List Int} {c : Int} (ha : a.length = m) {k : Nat} (h : k < m) : ev (mulR p a c) k = ev a k * c % p := by
  show (List.map _ a).getD k 0 = a.getD k 0 * c % p
  have h1 : k < a.length := by omega
  simp only [List.getD_eq_getElem?_getD, List.getElem?_map, List.getElem?_eq_getElem h1]
  rfl
theorem mod_zero {p a : Int} (hp : 0 < p) (h : 0 ≤ a) (h2 : a < p) (hd : p ∣ a) : a = 0 := by
  have := Int.emod_eq_of_lt h h2
  rw [← this]
  exact Int.emod_eq_zero_of_dvd hd
abbrev Pr := List (Nat × List Int)
abbrev evP (l : Pr) : List (Nat × Vec) := l.map fun q => (q.1, ev q.2)
def redL (p : Int) : Pr → List Int → List Int
  | [], row => row
  | q :: r, row => redL p r (subR p row (row.getD q.1 0) q.2)
theorem redL_row {p : Int} {m : Nat} (hp : 0 < p) : ∀ {l : Pr} {row : List Int}, (∀ q ∈ l, Row p m q.2) → Row p m row → Row p m (redL p l row)
  | [], _, _, h => h
  | q :: r, row, hl, h => redL_row hp (l := r) (fun t ht => hl t (List.mem_cons_of_mem _ ht)) (subR_row hp h (hl q List.mem_cons_self))
/-- the list form of red -/
theorem redL_red {p : Int} {m : Nat} (hp : 0 < p) : ∀ {l : Pr} {row : List Int}, (∀ q ∈ l, Row p m q.2 ∧ q.1 < m) → Row p m row → ∀ k, k < m → p ∣ ev (redL p l row) k - red (evP l) (ev row) k
  | [], row, _, _, k, _ => ⟨0, by simp [redL, red]⟩
  | q :: r, row, hl, h, k, hk => by
    have hq := hl q List.mem_cons_self
    have ih := redL_red hp (l := r) (row := subR p row (row.getD q.1 0) q.2) (fun t ht => hl t (List.mem_cons_of_mem _ ht)) (subR_row hp h hq.1) k hk
    obtain ⟨a, ha⟩ := ih
    have hc := red_cg (p := p) (m := m) (bs := evP r) (x := ev (subR p row (row.getD q.1 0) q.2)) (y := fun k => ev row k - ev row q.1 * ev q.2 k) (fun t ht => by
      obtain ⟨u, hu, e⟩ := List.mem_map.mp ht
      subst e
      exact (hl u (List.mem_cons_of_mem _ hu)).2) (fun j hj => by
        rw [subR_at h.len hq.1.len hj]
        exact Int.dvd_emod_sub_self) k hk
    obtain ⟨b, hb⟩ := hc
    refine ⟨a + b, ?_⟩
    show ev (redL p r (subR p row (row.getD q.1 0) q.2)) k - red (evP r) (fun k => ev row k - ev row q.1 * ev q.2 k) k = p * (a + b)
    grind
end LA
end
section
set_option maxHeartbeats 4000000
/-! LC: what elimination keeps. Plain Lean. -/
namespace LA
def nzs (m : Nat) (row : List Int) : List Nat := (List.range m).filter fun k => row.getD k 0 != 0
theorem range_first {P : Nat → Bool} : ∀ {m l : Nat} {t : List Nat}, (List.range m).filter P = l :: t → P l = true ∧ l < m ∧ ∀ k, k < l → P k = false := by
  intro m l t h
  have hl : l ∈ (List.range m).filter P := by rw [h]; exact List.mem_cons_self
  obtain ⟨h1, h2⟩ := List.mem_filter.mp hl
  refine ⟨h2, List.mem_range.mp h1, fun k hk => ?_⟩
  cases q : P k with
  | false => rfl
  | true =>
    have hs : ((List.range m).filter P).Pairwise (· < ·) := List.Pairwise.sublist List.filter_sublist List.pairwise_lt_range
    rw [h] at hs
    have hm : k ∈ (List.range m).filter P := List.mem_filter.mpr ⟨List.mem_range.mpr (Nat.lt_trans hk (List.mem_range.mp h1)), q⟩
    rw [h] at hm
    rcases List.mem_cons.mp hm with e | e
    · omega
    · have := (List.pairwise_cons.mp hs).1 k e
      omega
theorem nzs_nil {m : Nat} {row : List Int} (h : nzs m row = []) : ∀ k, k < m → ev row k = 0 := fun k hk => by
  have : k ∉ nzs m row := by rw [h]; exact List.not_mem_nil
  unfold nzs at this
  rw [List.mem_filter] at this
  refine Classical.byContradiction fun hn => this ⟨List.mem_range.mpr hk, ?_⟩
  simpa using hn
theorem nzs_cons {m l : Nat} {t : List Nat} {row : List Int} (h : nzs m row = l :: t) : ev row l ≠ 0 ∧ l < m ∧ ∀ k, k < l → ev row k = 0 := by
  obtain ⟨h1, h2, h3⟩ := range_first h
  exact ⟨by simpa using h1, h2, fun k hk => by have := h3 k hk; simpa using this⟩
def stepL (p : Int) (inv : Int → Int) (m : Nat) (left : Pr) (row : List Int) : Pr := match nzs m (redL p left row) with
  | [] => left
  | l :: _ => left.map (fun q => (q.1, subR p q.2 (q.2.getD l 0) (mulR p (redL p left row) (inv ((redL p left row).getD l 0))))) ++ [(l, mulR p (redL p left row) (inv ((redL p left row).getD l 0)))]
structure Inv (p : Int) (m : Nat) (rows : List (List Int)) (left : Pr) : Prop where
  row : ∀ q ∈ left, Row p m q.2 ∧ q.1 < m
  own : Own p (evP left)
  lead : ∀ q ∈ left, ∀ k, k < q.1 → ev q.2 k = 0
  to : ∀ V : Vec → Prop, Sp p m V → (∃ y, V y) → (∀ r ∈ rows, V (ev r)) → ∀ q ∈ left, V (ev q.2)
  fro : ∀ V : Vec → Prop, Sp p m V → (∃ y, V y) → (∀ q ∈ left, V (ev q.2)) → ∀ r ∈ rows, V (ev r)
theorem Inv.nil {p : Int} {m : Nat} : Inv p m [] [] where
  row := fun _ h => nomatch h
  own := ⟨List.nodup_nil, fun _ h => (nomatch h), fun _ h => (nomatch h)⟩
  lead := fun _ h => nomatch h
  to := fun _ _ _ _ _ h => nomatch h
  fro := fun _ _ _ _ _ h => nomatch h
theorem mem_evP {left : Pr} {q : Nat × Vec} (h : q ∈ evP left) : ∃ r ∈ left, q = (r.1, ev r.2) := by
  obtain ⟨r, h1, h2⟩ := List.mem_map.mp h
  exact ⟨r, h1, h2.symm⟩
theorem evP_mem {left : Pr} {r : Nat × List Int} (h : r ∈ left) : (r.1, ev r.2) ∈ evP left := List.mem_map.mpr ⟨r, h, rfl⟩
theorem Sp.scale {p : Int} {m : Nat} {V : Vec → Prop} (s : Sp p m V) {x : Vec} (c : Int) (hx : V x) : V fun k => c * x k :=
  s.cg _ _ (s.sub x x (1 - c) hx hx) fun k _ => ⟨0, by grind⟩
section
variable {p : Int} {m : Nat} {rows : List (List Int)} {left : Pr} {row : List Int} {inv : Int → Int}
theorem Inv.step (hp : 1 < p) (hinv : ∀ a, 0 < a → a < p → p ∣ a * inv a - 1) (I : Inv p m rows left) (hr : Row p m row) : Inv p m (rows ++ [row]) (stepL p inv m left row) := by
  have hp0 : 0 < p := by omega
  have R : Row p m (redL p left row) := redL_row hp0 (fun q hq => (I.row q hq).1) hr
  have RR : ∀ k, k < m → p ∣ ev (redL p left row) k - red (evP left) (ev row) k := redL_red hp0 I.row hr
  generalize hrr : redL p left row = r at R RR
  have r0 : ∀ q ∈ left, ev r q.1 = 0 := fun q hq => by
    have h := RR q.1 (I.row q hq).2
    rw [show red (evP left) (ev row) q.1 = 0 from red_own I.own _ (evP_mem hq)] at h
    have b := R.at (I.row q hq).2
    exact mod_zero hp0 b.1 b.2 (by simpa using h)
  have split : ∀ {P : List Int → Prop}, (∀ t ∈ rows, P t) → P row → ∀ t ∈ rows ++ [row], P t := fun h1 h2 t ht => by
    rcases List.mem_append.mp ht with z | z
    · exact h1 t z
    · rw [List.mem_singleton.mp z]; exact h2
  have back : ∀ V : Vec → Prop, Sp p m V → (∀ q ∈ left, V (ev q.2)) → V (ev r) → V (ev row) := fun V s hl h =>
    red_out s (bs := evP left) (fun q hq => by obtain ⟨t, h1, h2⟩ := mem_evP hq; rw [h2]; exact hl t h1) (s.cg _ _ h RR)
  have forth : ∀ V : Vec → Prop, Sp p m V → (∀ q ∈ left, V (ev q.2)) → V (ev row) → V (ev r) := fun V s hl h =>
    s.cg _ _ (red_in s (bs := evP left) (fun q hq => by obtain ⟨t, h1, h2⟩ := mem_evP hq; rw [h2]; exact hl t h1) h) fun k hk => by
      obtain ⟨a, ha⟩ := RR k hk
      exact ⟨-a, by grind⟩
  unfold stepL
  rw [hrr]
  split
  · rename_i hn
    have hz := nzs_nil hn
    refine ⟨I.row, I.own, I.lead, fun V s hy h => I.to V s hy fun t ht => h t (List.mem_append_left _ ht), fun V s hy h => split (I.fro V s hy h) (back V s h ?_)⟩
    obtain ⟨y, hy⟩ := hy
    exact s.zero hy fun k hk => by rw [hz k hk]; exact Int.dvd_zero p
  · rename_i l t hn
    obtain ⟨n1, n2, n3⟩ := nzs_cons hn
    have rl := R.at n2
    have hpos : 0 < ev r l := by omega
    have hiv := hinv _ hpos rl.2
    show Inv p m (rows ++ [row]) (left.map (fun q => (q.1, subR p q.2 (q.2.getD l 0) (mulR p r (inv (ev r l))))) ++ [(l, mulR p r (inv (ev r l)))])
    have W : Row p m (mulR p r (inv (ev r l))) := mulR_row hp0 R.len
    have wat : ∀ k, k < m → ev (mulR p r (inv (ev r l))) k = ev r k * inv (ev r l) % p := fun k hk => mulR_at R.len hk
    generalize hw : mulR p r (inv (ev r l)) = w at W wat
    have w1 : ev w l = 1 := by
      rw [wat l n2]
      obtain ⟨a, ha⟩ := hiv
      have : ev r l * inv (ev r l) = 1 + p * a := by omega
      rw [this, Int.add_mul_emod_self_left]
      exact Int.emod_eq_of_lt (by omega) hp
    have wz : ∀ k, k < m → ev r k = 0 → ev w k = 0 := fun k hk h => by rw [wat k hk, h]; simp
    have nl : ∀ q ∈ left, q.1 ≠ l := fun q hq e => n1 (by rw [← e]; exact r0 q hq)
    have bat : ∀ q ∈ left, ∀ k, k < m → ev (subR p q.2 (q.2.getD l 0) w) k = (ev q.2 k - ev q.2 l * ev w k) % p := fun q hq k hk => subR_at (I.row q hq).1.len W.len hk
    have brow : ∀ q ∈ left, Row p m (subR p q.2 (q.2.getD l 0) w) := fun q hq => subR_row hp0 (I.row q hq).1 W
    have mem : ∀ q ∈ left.map (fun q => (q.1, subR p q.2 (q.2.getD l 0) w)) ++ [(l, w)], (∃ b ∈ left, q = (b.1, subR p b.2 (b.2.getD l 0) w)) ∨ q = (l, w) := fun q hq => by
      rcases List.mem_append.mp hq with z | z
      · obtain ⟨b, h1, h2⟩ := List.mem_map.mp z
        exact .inl ⟨b, h1, h2.symm⟩
      · exact .inr (List.mem_singleton.mp z)
    have one : ∀ b ∈ left, ev b.2 b.1 = 1 := fun b hb => I.own.one _ (evP_mem hb)
    have off : ∀ b ∈ left, ∀ c ∈ left, b.1 ≠ c.1 → ev b.2 c.1 = 0 := fun b hb c hc n => I.own.off _ (evP_mem hb) _ (evP_mem hc) n
    have keeps : ∀ V : Vec → Prop, Sp p m V → V (ev w) → ∀ b ∈ left, V (ev b.2) → V (ev (subR p b.2 (b.2.getD l 0) w)) := fun V s hwv b hb h => s.cg _ _ (s.sub _ _ (ev b.2 l) h hwv) fun k hk => by
      rw [bat b hb k hk]
      obtain ⟨a, ha⟩ := Int.dvd_emod_sub_self (x := ev b.2 k - ev b.2 l * ev w k) (m := p)
      exact ⟨-a, by grind⟩
    have gives : ∀ V : Vec → Prop, Sp p m V → V (ev w) → ∀ b ∈ left, V (ev (subR p b.2 (b.2.getD l 0) w)) → V (ev b.2) := fun V s hwv b hb h => s.cg _ _ (s.add (ev b.2 l) h hwv) fun k hk => by
      rw [bat b hb k hk]
      obtain ⟨a, ha⟩ := Int.dvd_emod_sub_self (x := ev b.2 k - ev b.2 l * ev w k) (m := p)
      exact ⟨a, by grind⟩
    refine ⟨fun q hq => ?_, ⟨?_, fun q hq => ?_, fun q hq u hu n => ?_⟩, fun q hq k hk => ?_, fun V s hy h => ?_, fun V s hy h => ?_⟩
    · rcases mem q hq with ⟨b, hb, rfl⟩ | rfl
      · exact ⟨brow b hb, (I.row b hb).2⟩
      · exact ⟨W, n2⟩
    · have e : ((evP (left.map (fun q => (q.1, subR p q.2 (q.2.getD l 0) w)) ++ [(l, w)])).map (·.1)) = (evP left).map (·.1) ++ [l] := by
        simp [evP, List.map_append, List.map_map, Function.comp_def]
      rw [e]
      refine List.nodup_append.mpr ⟨I.own.nd, by simp, fun a ha b hb => ?_⟩
      rw [List.mem_singleton.mp hb]
      obtain ⟨c, hc, e⟩ := List.mem_map.mp ha
      obtain ⟨d, hd, e2⟩ := mem_evP hc
      rw [← e, e2]
      exact nl d hd
    · obtain ⟨c, hc, rfl⟩ := mem_evP hq
      rcases mem c hc with ⟨b, hb, rfl⟩ | rfl
      · show ev (subR p b.2 (b.2.getD l 0) w) b.1 = 1
        rw [bat b hb _ (I.row b hb).2, one b hb, wz _ (I.row b hb).2 (r0 b hb)]
        simp
        exact Int.emod_eq_of_lt (by omega) hp
      · exact w1
    · obtain ⟨c, hc, rfl⟩ := mem_evP hq
      obtain ⟨d, hd, rfl⟩ := mem_evP hu
      rcases mem c hc with ⟨b, hb, rfl⟩ | rfl
      · rcases mem d hd with ⟨b', hb', rfl⟩ | rfl
        · show ev (subR p b.2 (b.2.getD l 0) w) b'.1 = 0
          rw [bat b hb _ (I.row b' hb').2, off b hb b' hb' n, wz _ (I.row b' hb').2 (r0 b' hb')]
          simp
        · show ev (subR p b.2 (b.2.getD l 0) w) l = 0
          rw [bat b hb _ n2, w1]
          simp
      · rcases mem d hd with ⟨b', hb', rfl⟩ | rfl
        · exact wz _ (I.row b' hb').2 (r0 b' hb')
        · exact absurd rfl n
    · rcases mem q hq with ⟨b, hb, rfl⟩ | rfl
      · have hk : k < b.1 := hk
        have hkm : k < m := Nat.lt_trans hk (I.row b hb).2
        show ev (subR p b.2 (b.2.getD l 0) w) k = 0
        rw [bat b hb _ hkm, I.lead b hb k hk]
        by_cases c : l < b.1
        · rw [I.lead b hb l c]; simp
        · have : ev w k = 0 := wz k hkm (n3 k (by have := nl b hb; omega))
          rw [this]; simp
      · exact wz k (Nat.lt_trans hk n2) (n3 k hk)
    · have hl := I.to V s hy fun t ht => h t (List.mem_append_left _ ht)
      have hw' : V (ev w) := s.cg _ _ (s.scale (inv (ev r l)) (forth V s hl (h row (List.mem_append_right _ (List.mem_singleton_self _))))) fun k hk => by
        rw [wat k hk]
        obtain ⟨a, ha⟩ := Int.dvd_emod_sub_self (x := ev r k * inv (ev r l)) (m := p)
        exact ⟨-a, by grind⟩
      intro q hq
      rcases mem q hq with ⟨b, hb, rfl⟩ | rfl
      · exact keeps V s hw' b hb (hl b hb)
      · exact hw'
    · have hw' : V (ev w) := h (l, w) (List.mem_append_right _ (List.mem_singleton_self _))
      have hl : ∀ b ∈ left, V (ev b.2) := fun b hb => gives V s hw' b hb (h _ (List.mem_append_left _ (List.mem_map.mpr ⟨b, hb, rfl⟩)))
      refine split (I.fro V s hy hl) (back V s hl ?_)
      refine s.cg _ _ (s.scale (ev r l) hw') fun k hk => ?_
      rw [wat k hk]
      obtain ⟨a, ha⟩ := Int.dvd_emod_sub_self (x := ev r k * inv (ev r l)) (m := p)
      obtain ⟨c, hc⟩ := hiv
      exact ⟨ev r l * a + c * ev r k, by grind⟩
def elimL (p : Int) (inv : Int → Int) (m : Nat) (rows : List (List Int)) : Pr := rows.foldl (stepL p inv m) []
theorem elim_inv (hp : 1 < p) (hinv : ∀ a, 0 < a → a < p → p ∣ a * inv a - 1) : ∀ (rows done : List (List Int)) (left : Pr), Inv p m done left → (∀ r ∈ rows, Row p m r) → Inv p m (done ++ rows) (rows.foldl (stepL p inv m) left)
  | [], done, left, I, _ => by rw [List.append_nil]; exact I
  | r :: rows, done, left, I, h => by
    have := elim_inv hp hinv rows (done ++ [r]) (stepL p inv m left r) (I.step hp hinv (h r List.mem_cons_self)) fun t ht => h t (List.mem_cons_of_mem _ ht)
    rw [List.append_assoc] at this
    exact this
end
end LA
end
section
set_option maxHeartbeats 4000000
/-! LD: the kernel's reduced basis, by two roads. Plain Lean. -/
namespace LA
def KA (p : Int) (m : Nat) (A : List (List Int)) (x : Vec) : Prop := ∀ r ∈ A, p ∣ S m fun k => ev r k * x k
theorem sp_KA {p : Int} {m : Nat} {A : List (List Int)} : Sp p m (KA p m A) where
  sub := fun x y c hx hy r hr => by
    have e : S m (fun k => ev r k * (x k - c * y k)) = S m (fun k => ev r k * x k) - c * S m (fun k => ev r k * y k) := by
      rw [← S_sub]
      exact S_eq fun k _ => by grind
    obtain ⟨a, ha⟩ := hx r hr
    obtain ⟨b, hb⟩ := hy r hr
    exact ⟨a - c * b, by rw [e, ha, hb]; grind⟩
  cg := fun x y hx h r hr => by
    obtain ⟨a, ha⟩ := hx r hr
    obtain ⟨b, hb⟩ := S_congr (p := p) (n := m) (f := fun k => ev r k * x k) (g := fun k => ev r k * y k) fun k hk => by
      obtain ⟨c, hc⟩ := h k hk
      exact ⟨ev r k * c, by grind⟩
    exact ⟨a - b, by grind⟩
theorem KA.zero {p : Int} {m : Nat} {A : List (List Int)} : KA p m A fun _ => 0 := fun r _ => by
  rw [S_zero fun k _ => by simp]; exact Int.dvd_zero p
theorem sp_of {p : Int} {m : Nat} (x : Vec) : Sp p m fun r => p ∣ S m fun k => r k * x k where
  sub := fun r t c hr ht => by
    have e : S m (fun k => (r k - c * t k) * x k) = S m (fun k => r k * x k) - c * S m (fun k => t k * x k) := by
      rw [← S_sub]
      exact S_eq fun k _ => by grind
    show p ∣ S m (fun k => (r k - c * t k) * x k)
    obtain ⟨a, ha⟩ := hr
    obtain ⟨b, hb⟩ := ht
    exact ⟨a - c * b, by rw [e, ha, hb]; grind⟩
  cg := fun r t hr h => by
    obtain ⟨a, ha⟩ := hr
    obtain ⟨b, hb⟩ := S_congr (p := p) (n := m) (f := fun k => r k * x k) (g := fun k => t k * x k) fun k hk => by
      obtain ⟨c, hc⟩ := h k hk
      exact ⟨c * x k, by grind⟩
    exact ⟨a - b, by grind⟩
section
variable {p : Int} {m : Nat} {A : List (List Int)} {left : Pr}
theorem ker_iff (I : Inv p m A left) {x : Vec} : KA p m A x ↔ ∀ q ∈ left, p ∣ S m fun k => ev q.2 k * x k :=
  ⟨fun h => I.to _ (sp_of x) ⟨fun _ => 0, by rw [S_zero fun k _ => by simp]; exact Int.dvd_zero p⟩ h, fun h => I.fro _ (sp_of x) ⟨fun _ => 0, by rw [S_zero fun k _ => by simp]; exact Int.dvd_zero p⟩ h⟩
/-! ### a vector for each free place -/
def setsL (l : List (Nat × Int)) (t : List Int) : List Int := l.foldl (fun t q => t.set q.1 q.2) t
theorem setsL_len : ∀ {l : List (Nat × Int)} {t : List Int}, (setsL l t).length = t.length
  | [], _ => rfl
  | q :: l, t => by show (setsL l (t.set q.1 q.2)).length = _; rw [setsL_len, List.length_set]
theorem ev_set {t : List Int} {i k : Nat} {v : Int} (h : i < t.length) : ev (t.set i v) k = if k = i then v else ev t k := by
  show (t.set i v).getD k 0 = _
  by_cases c : k = i
  · subst c; simp [List.getD_eq_getElem?_getD, h]
  · rw [if_neg c]; show _ = t.getD k 0; simp [List.getD_eq_getElem?_getD, List.getElem?_set, Ne.symm c]
theorem setsL_other : ∀ {l : List (Nat × Int)} {t : List Int} {k : Nat}, (∀ q ∈ l, q.1 < t.length) → (∀ q ∈ l, q.1 ≠ k) → ev (setsL l t) k = ev t k
  | [], _, _, _, _ => rfl
  | q :: l, t, k, hl, h => by
    show ev (setsL l (t.set q.1 q.2)) k = _
    rw [setsL_other (fun r hr => by rw [List.length_set]; exact hl r (List.mem_cons_of_mem _ hr)) (fun r hr => h r (List.mem_cons_of_mem _ hr)), ev_set (hl q List.mem_cons_self), if_neg fun e => h q List.mem_cons_self e.symm]
theorem setsL_at : ∀ {l : List (Nat × Int)} {t : List Int}, (l.map (·.1)).Nodup → (∀ q ∈ l, q.1 < t.length) → ∀ q ∈ l, ev (setsL l t) q.1 = q.2
  | [], _, _, _, q, h => nomatch h
  | q :: l, t, nd, hl, r, hr => by
    have nd' := List.nodup_cons.mp nd
    show ev (setsL l (t.set q.1 q.2)) r.1 = _
    rcases List.mem_cons.mp hr with e | e
    · subst e
      rw [setsL_other (fun t ht => by rw [List.length_set]; exact hl t (List.mem_cons_of_mem _ ht)) (fun t ht e => nd'.1 (List.mem_map.mpr ⟨t, ht, e⟩)), ev_set (hl r List.mem_cons_self), if_pos rfl]
    · exact setsL_at nd'.2 (fun t ht => by rw [List.length_set]; exact hl t (List.mem_cons_of_mem _ ht)) r e
def vfL (p : Int) (m : Nat) (left : Pr) (f : Nat) : List Int := setsL (left.map fun q => (q.1, (0 - q.2.getD f 0) % p)) ((List.replicate m 0).set f 1)
def leadsL (left : Pr) : List Nat := left.map (·.1)
def freesL (m : Nat) (left : Pr) : List Nat := (List.range m).filter fun f => !(leadsL left).contains f
theorem mem_frees {f : Nat} : f ∈ freesL m left ↔ f < m ∧ ∀ q ∈ left, q.1 ≠ f := by
  unfold freesL leadsL
  rw [List.mem_filter, List.mem_range]
  refine and_congr_right fun _ => ⟨fun h q hq e => ?_, fun h => ?_⟩
  · have h : (!(left.map (·.1)).contains f) = true := h
    have : (left.map (·.1)).contains f = true := List.contains_iff_mem.mpr (List.mem_map.mpr ⟨q, hq, e⟩)
    rw [this] at h
    cases h
  · cases z : (left.map (·.1)).contains f with
    | false => rfl
    | true =>
      obtain ⟨q, hq, e⟩ := List.mem_map.mp (List.contains_iff_mem.mp z)
      exact absurd e (h q hq)
theorem vf_len {f : Nat} : (vfL p m left f).length = m := by unfold vfL; rw [setsL_len]; simp
theorem base_ev {f k : Nat} (h : f < m) : ev ((List.replicate m (0 : Int)).set f 1) k = if k = f then 1 else 0 := by
  rw [ev_set (by simpa using h)]
  by_cases c : k = f
  · rw [if_pos c, if_pos c]
  · rw [if_neg c, if_neg c]
    show (List.replicate m (0 : Int)).getD k 0 = 0
    simp [List.getD_eq_getElem?_getD, List.getElem?_replicate]
    split <;> rfl
theorem vf_lead (I : Inv p m A left) {f : Nat} : ∀ q ∈ left, ev (vfL p m left f) q.1 = (0 - ev q.2 f) % p := fun q hq => by
  unfold vfL
  have := setsL_at (l := left.map fun q => (q.1, (0 - q.2.getD f 0) % p)) (t := (List.replicate m 0).set f 1) (by
    have := I.own.nd
    simpa [evP, List.map_map, Function.comp_def] using this) (fun r hr => by
      obtain ⟨b, hb, e⟩ := List.mem_map.mp hr
      rw [← e]
      simpa using (I.row b hb).2) (q.1, (0 - q.2.getD f 0) % p) (List.mem_map.mpr ⟨q, hq, rfl⟩)
  exact this
theorem vf_other (I : Inv p m A left) {f k : Nat} (hf : f < m) (h : ∀ q ∈ left, q.1 ≠ k) : ev (vfL p m left f) k = if k = f then 1 else 0 := by
  unfold vfL
  rw [setsL_other (fun r hr => by
      obtain ⟨b, hb, e⟩ := List.mem_map.mp hr
      rw [← e]
      simpa using (I.row b hb).2) (fun r hr => by
      obtain ⟨b, hb, e⟩ := List.mem_map.mp hr
      rw [← e]
      exact h b hb), base_ev hf]
theorem lead_dec (left : Pr) (k : Nat) : (∃ q ∈ left, q.1 = k) ∨ ∀ q ∈ left, q.1 ≠ k := by
  by_cases c : ∃ q ∈ left, q.1 = k
  · exact .inl c
  · exact .inr fun q hq e => c ⟨q, hq, e⟩
theorem vf_row (hp : 1 < p) (I : Inv p m A left) {f : Nat} (hf : f ∈ freesL m left) : Row p m (vfL p m left f) where
  len := vf_len
  rng := fun x hx => by
    obtain ⟨h1, h2⟩ := mem_frees.mp hf
    obtain ⟨k, hk, e⟩ := List.mem_iff_getElem.mp hx
    have e2 : ev (vfL p m left f) k = x := by show (vfL p m left f).getD k 0 = x; rw [List.getD_eq_getElem?_getD, List.getElem?_eq_getElem hk, e]; rfl
    rcases lead_dec left k with ⟨q, hq, e3⟩ | h
    · rw [← e3, vf_lead I q hq] at e2
      rw [← e2]
      exact ⟨Int.emod_nonneg _ (by omega), Int.emod_lt_of_pos _ (by omega)⟩
    · rw [vf_other I h1 h] at e2
      rw [← e2]
      split <;> omega
theorem vf_mem (hp : 1 < p) (I : Inv p m A left) {f : Nat} (hf : f ∈ freesL m left) : KA p m A (ev (vfL p m left f)) := by
  obtain ⟨h1, h2⟩ := mem_frees.mp hf
  refine (ker_iff I).mpr fun q hq => ?_
  have one := I.own.one _ (evP_mem hq)
  have e : S m (fun k => ev q.2 k * ev (vfL p m left f) k) = ev q.2 q.1 * ev (vfL p m left f) q.1 + ev q.2 f * ev (vfL p m left f) f := S_two (I.row q hq).2 h1 (h2 q hq) fun k hk n1 n2 => by
    rcases lead_dec left k with ⟨r, hr, e⟩ | h
    · have : ev q.2 r.1 = 0 := I.own.off _ (evP_mem hq) _ (evP_mem hr) (fun z => n1 (by rw [← e]; exact z.symm))
      rw [← e, this]; simp
    · rw [vf_other I h1 h, if_neg n2]; simp
  rw [e, vf_lead I q hq, vf_other I h1 h2, if_pos rfl, show ev q.2 q.1 = 1 from one]
  obtain ⟨a, ha⟩ := Int.dvd_emod_sub_self (x := 0 - ev q.2 f) (m := p)
  exact ⟨a, by grind⟩
theorem vf_all (I : Inv p m A left) {x : Vec} (hx : KA p m A x) (h : ∀ f ∈ freesL m left, p ∣ x f) : ∀ k, k < m → p ∣ x k := fun k hk => by
  rcases lead_dec left k with ⟨q, hq, e⟩ | hn
  · have hd := (ker_iff I).mp hx q hq
    have one := I.own.one _ (evP_mem hq)
    have hc := S_congr (p := p) (n := m) (f := fun j => ev q.2 j * x j) (g := fun j => if j = k then x k else 0) fun j hj => by
      by_cases c : j = k
      · subst c
        rw [if_pos rfl, ← e, show ev q.2 q.1 = 1 from one]
        exact ⟨0, by grind⟩
      · rw [if_neg c]
        rcases lead_dec left j with ⟨r, hr, e2⟩ | hn
        · have : ev q.2 r.1 = 0 := I.own.off _ (evP_mem hq) _ (evP_mem hr) (fun z => c (by rw [← e2, ← e]; exact z.symm))
          rw [← e2, this]
          exact ⟨0, by grind⟩
        · obtain ⟨a, ha⟩ := h j (mem_frees.mpr ⟨hj, hn⟩)
          exact ⟨ev q.2 j * a, by grind⟩
    have hone : S m (fun j => if j = k then x k else 0) = x k := by
      rw [S_one (a := k) hk fun j _ c => if_neg c, if_pos rfl]
    rw [hone] at hc
    obtain ⟨a, ha⟩ := hd
    obtain ⟨b, hb⟩ := hc
    exact ⟨a - b, by grind⟩
  · exact h k (mem_frees.mpr ⟨hk, hn⟩)
def fbL (p : Int) (m : Nat) (left : Pr) : Pr := (freesL m left).map fun f => (f, vfL p m left f)
theorem frees_sorted : (freesL m left).Pairwise (· < ·) := List.Pairwise.sublist List.filter_sublist List.pairwise_lt_range
theorem fb_own (I : Inv p m A left) : Own p (evP (fbL p m left)) where
  nd := by
    have e : (evP (fbL p m left)).map (·.1) = freesL m left := by simp [evP, fbL, List.map_map, Function.comp_def]
    rw [e]
    exact frees_sorted.imp fun h => Nat.ne_of_lt h
  one := fun q hq => by
    obtain ⟨r, hr, rfl⟩ := mem_evP hq
    obtain ⟨f, hf, rfl⟩ := List.mem_map.mp hr
    obtain ⟨h1, h2⟩ := mem_frees.mp hf
    show ev (vfL p m left f) f = 1
    rw [vf_other I h1 h2, if_pos rfl]
  off := fun q hq t ht n => by
    obtain ⟨r, hr, rfl⟩ := mem_evP hq
    obtain ⟨f, hf, rfl⟩ := List.mem_map.mp hr
    obtain ⟨u, hu, rfl⟩ := mem_evP ht
    obtain ⟨f', hf', rfl⟩ := List.mem_map.mp hu
    obtain ⟨h1, _⟩ := mem_frees.mp hf
    obtain ⟨_, h2⟩ := mem_frees.mp hf'
    show ev (vfL p m left f) f' = 0
    rw [vf_other I h1 h2, if_neg fun z => n z.symm]
theorem fb_span (hp : 1 < p) (I : Inv p m A left) {x : Vec} (hx : KA p m A x) {V : Vec → Prop} (s : Sp p m V) (hy : ∃ y, V y) (h : ∀ f ∈ freesL m left, V (ev (vfL p m left f))) : V x := by
  have all : ∀ {W : Vec → Prop}, (∀ f ∈ freesL m left, W (ev (vfL p m left f))) → ∀ q ∈ evP (fbL p m left), W q.2 := fun h q hq => by
    obtain ⟨r, hr, rfl⟩ := mem_evP hq
    obtain ⟨f, hf, rfl⟩ := List.mem_map.mp hr
    exact h f hf
  refine red_out s (bs := evP (fbL p m left)) (all h) ?_
  obtain ⟨y, hy⟩ := hy
  refine s.zero hy (vf_all I (red_in sp_KA (all fun f hf => vf_mem hp I hf) hx) fun f hf => ?_)
  have := red_own (p := p) (bs := evP (fbL p m left)) (x := x) (fb_own I) (f, ev (vfL p m left f)) (evP_mem (List.mem_map.mpr ⟨f, hf, rfl⟩))
  rw [show red (evP (fbL p m left)) x f = 0 from this]
  exact Int.dvd_zero p
end
theorem Inv.perm {p : Int} {m : Nat} {rows : List (List Int)} {a b : Pr} (I : Inv p m rows a) (h : b.Perm a) : Inv p m rows b where
  row := fun q hq => I.row q (h.mem_iff.mp hq)
  own := ⟨((h.map (fun q : Nat × List Int => (q.1, ev q.2))).map (·.1)).nodup_iff.mpr I.own.nd, fun q hq => I.own.one q ((h.map _).mem_iff.mp hq), fun q hq r hr => I.own.off q ((h.map _).mem_iff.mp hq) r ((h.map _).mem_iff.mp hr)⟩
  lead := fun q hq => I.lead q (h.mem_iff.mp hq)
  to := fun V s hy hr q hq => I.to V s hy hr q (h.mem_iff.mp hq)
  fro := fun V s hy hl => I.fro V s hy fun q hq => hl q (h.mem_iff.mpr hq)
theorem pr_eq : ∀ {bs cs : Pr}, bs.Pairwise (fun a b => a.1 < b.1) → cs.Pairwise (fun a b => a.1 < b.1) → (∀ q ∈ bs, q ∈ cs) → (∀ q ∈ cs, q ∈ bs) → bs = cs
  | [], [], _, _, _, _ => rfl
  | [], c :: cs, _, _, _, h => nomatch h c List.mem_cons_self
  | b :: bs, [], _, _, h, _ => nomatch h b List.mem_cons_self
  | b :: bs, c :: cs, h1, h2, h3, h4 => by
    have p1 := List.pairwise_cons.mp h1
    have p2 := List.pairwise_cons.mp h2
    have e : b = c := by
      rcases List.mem_cons.mp (h3 b List.mem_cons_self) with z | z
      · exact z
      · rcases List.mem_cons.mp (h4 c List.mem_cons_self) with y | y
        · exact y.symm
        · have := p2.1 b z
          have := p1.1 c y
          omega
    subst e
    congr 1
    refine pr_eq p1.2 p2.2 (fun q hq => ?_) fun q hq => ?_
    · rcases List.mem_cons.mp (h3 q (List.mem_cons_of_mem _ hq)) with z | z
      · have := p1.1 q hq; rw [z] at this; omega
      · exact z
    · rcases List.mem_cons.mp (h4 q (List.mem_cons_of_mem _ hq)) with z | z
      · have := p2.1 q hq; rw [z] at this; omega
      · exact z
/-- two sorted reduced bases of rows are one -/
theorem ech_eq {p : Int} {m : Nat} {V : Vec → Prop} (hp : 1 < p) (s : Sp p m V) {bs cs : Pr} (e : Ech p m V (evP bs)) (f : Ech p m V (evP cs)) (hb : ∀ q ∈ bs, Row p m q.2) (hc : ∀ q ∈ cs, Row p m q.2)
    (h1 : bs.Pairwise fun a b => a.1 < b.1) (h2 : cs.Pairwise fun a b => a.1 < b.1) : bs = cs := by
  have go : ∀ {bs cs : Pr}, Ech p m V (evP bs) → Ech p m V (evP cs) → (∀ q ∈ bs, Row p m q.2) → (∀ q ∈ cs, Row p m q.2) → ∀ q ∈ bs, q ∈ cs := fun {bs cs} e f hb hc q hq => by
    obtain ⟨r, hr, e1, e2⟩ := e.same hp s f _ (evP_mem hq)
    obtain ⟨t, ht, rfl⟩ := mem_evP hr
    have : t.2 = q.2 := row_eq (hc t ht) (hb q hq) e2
    have : t = q := Prod.ext e1 this
    rw [← this]
    exact ht
  exact pr_eq h1 h2 (go e f hb hc) (go f e hc hb)
end LA
end
section
set_option maxHeartbeats 4000000
/-! LE: the two roads to the kernel's reduced basis meet. Plain Lean. -/
namespace LA
theorem ev_rev {m : Nat} {l : List Int} (h : l.length = m) {k : Nat} (hk : k < m) : ev l.reverse k = ev l (m - 1 - k) := by
  show l.reverse.getD k 0 = l.getD (m - 1 - k) 0
  have h1 : k < l.length := by omega
  simp only [List.getD_eq_getElem?_getD, List.getElem?_reverse h1, h]
theorem rev_row {p : Int} {m : Nat} {l : List Int} (h : Row p m l) : Row p m l.reverse := ⟨by rw [List.length_reverse]; exact h.len, fun x hx => h.rng x (List.mem_reverse.mp hx)⟩
theorem KA_rev {p : Int} {m : Nat} {A : List (List Int)} (hA : ∀ r ∈ A, Row p m r) {x y : Vec} (h : ∀ k, k < m → x k = y (m - 1 - k)) : KA p m (A.map List.reverse) x ↔ KA p m A y := by
  have e : ∀ r ∈ A, S m (fun k => ev r.reverse k * x k) = S m (fun k => ev r k * y k) := fun r hr => by
    rw [← S_rev (f := fun k => ev r k * y k)]
    exact S_eq fun k hk => by rw [ev_rev (hA r hr).len hk, h k hk]
  refine ⟨fun g r hr => ?_, fun g r hr => ?_⟩
  · rw [← e r hr]; exact g _ (List.mem_map.mpr ⟨r, hr, rfl⟩)
  · obtain ⟨t, ht, rfl⟩ := List.mem_map.mp hr
    rw [e t ht]; exact g t ht
section
variable {p : Int} {m : Nat} {A : List (List Int)} {left : Pr}
def progB (p : Int) (m : Nat) (left : Pr) : Pr := ((freesL m left).map fun f => (m - 1 - f, (vfL p m left f).reverse)).reverse
theorem mem_progB {q : Nat × List Int} : q ∈ progB p m left ↔ ∃ f ∈ freesL m left, q = (m - 1 - f, (vfL p m left f).reverse) := by
  unfold progB
  rw [List.mem_reverse, List.mem_map]
  exact ⟨fun ⟨f, h, e⟩ => ⟨f, h, e.symm⟩, fun ⟨f, h, e⟩ => ⟨f, h, e.symm⟩⟩
theorem progB_sorted : (progB p m left).Pairwise fun a b => a.1 < b.1 := by
  unfold progB
  rw [List.pairwise_reverse, List.pairwise_map]
  have h := frees_sorted (m := m) (left := left)
  have hm : ∀ f ∈ freesL m left, f < m := fun f hf => (mem_frees.mp hf).1
  refine List.Pairwise.imp_of_mem (fun {a b} ha hb hab => ?_) h
  have := hm a ha
  have := hm b hb
  show m - 1 - b < m - 1 - a
  omega
theorem progB_row (hp : 1 < p) {A' : List (List Int)} (I : Inv p m A' left) : ∀ q ∈ progB p m left, Row p m q.2 := fun q hq => by
  obtain ⟨f, hf, rfl⟩ := mem_progB.mp hq
  exact rev_row (vf_row hp I hf)
theorem prog_ech (hp : 1 < p) (hA : ∀ r ∈ A, Row p m r) (I : Inv p m (A.map List.reverse) left) : Ech p m (KA p m A) (evP (progB p m left)) := by
  have inj : ∀ {f f' : Nat}, f < m → f' < m → m - 1 - f = m - 1 - f' → f = f' := fun h1 h2 e => by omega
  have at_ : ∀ f ∈ freesL m left, ∀ k, k < m → ev (vfL p m left f).reverse k = ev (vfL p m left f) (m - 1 - k) := fun f _ k hk => ev_rev vf_len hk
  have mem : ∀ q ∈ evP (progB p m left), ∃ f ∈ freesL m left, f < m ∧ (∀ q ∈ left, q.1 ≠ f) ∧ q = (m - 1 - f, ev (vfL p m left f).reverse) := fun q hq => by
    obtain ⟨r, hr, rfl⟩ := mem_evP hq
    obtain ⟨f, hf, rfl⟩ := mem_progB.mp hr
    obtain ⟨h1, h2⟩ := mem_frees.mp hf
    exact ⟨f, hf, h1, h2, rfl⟩
  refine ⟨⟨?_, fun q hq => ?_, fun q hq t ht n => ?_⟩, fun q hq => ?_, fun q hq k hk => ?_, fun q hq => ?_, fun x hx h => ?_⟩
  · have e : (evP (progB p m left)).map (·.1) = (progB p m left).map (·.1) := by simp [evP, List.map_map, Function.comp_def]
    rw [e]
    exact List.pairwise_map.mpr (progB_sorted.imp fun h => Nat.ne_of_lt h)
  · obtain ⟨f, hf, h1, h2, rfl⟩ := mem q hq
    show ev (vfL p m left f).reverse (m - 1 - f) = 1
    rw [at_ f hf _ (by omega), show m - 1 - (m - 1 - f) = f by omega, vf_other I h1 h2, if_pos rfl]
  · obtain ⟨f, hf, h1, h2, rfl⟩ := mem q hq
    obtain ⟨f', hf', h1', h2', rfl⟩ := mem t ht
    show ev (vfL p m left f).reverse (m - 1 - f') = 0
    rw [at_ f hf _ (by omega), show m - 1 - (m - 1 - f') = f' by omega, vf_other I h1 h2', if_neg fun z => n (by show m - 1 - f = m - 1 - f'; rw [z])]
  · obtain ⟨f, hf, h1, h2, rfl⟩ := mem q hq
    show m - 1 - f < m
    omega
  · obtain ⟨f, hf, h1, h2, rfl⟩ := mem q hq
    have hk : k < m - 1 - f := hk
    show ev (vfL p m left f).reverse k = 0
    rw [at_ f hf _ (by omega)]
    rcases lead_dec left (m - 1 - k) with ⟨r, hr, e⟩ | hn
    · rw [← e, vf_lead I r hr, show ev r.2 f = 0 from I.lead r hr f (by omega)]
      simp
    · rw [vf_other I h1 hn, if_neg (by omega)]
  · obtain ⟨f, hf, h1, h2, rfl⟩ := mem q hq
    exact (KA_rev hA (x := ev (vfL p m left f)) (y := ev (vfL p m left f).reverse) fun k hk => by rw [at_ f hf _ (by omega), show m - 1 - (m - 1 - k) = k by omega]).mp (vf_mem hp I hf)
  · have hx' : KA p m (A.map List.reverse) (fun k => x (m - 1 - k)) := (KA_rev hA fun k hk => rfl).mpr hx
    have z := vf_all I hx' fun f hf => by
      have := h (m - 1 - f, ev (vfL p m left f).reverse) (evP_mem (r := (m - 1 - f, (vfL p m left f).reverse)) (mem_progB.mpr ⟨f, hf, rfl⟩))
      exact this
    intro k hk
    have := z (m - 1 - k) (by omega)
    rw [show m - 1 - (m - 1 - k) = k by omega] at this
    exact this
/-- the law's road: the rows of the kernel shortened -/
theorem law_ech (hp : 1 < p) (I : Inv p m A left) {left2 : Pr} (J : Inv p m ((freesL m left).map (vfL p m left)) left2) : Ech p m (KA p m A) (evP left2) where
  own := J.own
  lt := fun q hq => by obtain ⟨r, hr, rfl⟩ := mem_evP hq; exact (J.row r hr).2
  lead := fun q hq => by obtain ⟨r, hr, rfl⟩ := mem_evP hq; exact J.lead r hr
  mem := fun q hq => by
    obtain ⟨r, hr, rfl⟩ := mem_evP hq
    refine J.to _ sp_KA ⟨_, KA.zero⟩ (fun t ht => ?_) r hr
    obtain ⟨f, hf, rfl⟩ := List.mem_map.mp ht
    exact vf_mem hp I hf
  all := fun x hx h => span_zero J.own (fun q hq => by obtain ⟨r, hr, rfl⟩ := mem_evP hq; exact (J.row r hr).2) (fun V s hV hy => fb_span hp I hx s hy fun f hf =>
    J.fro V s hy (fun q hq => hV _ (evP_mem hq)) _ (List.mem_map.mpr ⟨f, hf, rfl⟩)) h
/-- a further kernel row is not told by those ahead of it -/
theorem vf_new (hp : 1 < p) (I : Inv p m A left) {fs : List Nat} {f : Nat} {left2 : Pr} (hf : f ∈ freesL m left) (hfs : ∀ g ∈ fs, g ∈ freesL m left ∧ g ≠ f) (J : Inv p m (fs.map (vfL p m left)) left2) : nzs m (redL p left2 (vfL p m left f)) ≠ [] := fun hn => by
  obtain ⟨h1, h2⟩ := mem_frees.mp hf
  have hz := nzs_nil hn
  have R := vf_row hp I hf
  have RR := redL_red (p := p) (by omega) J.row R
  have s : Sp p m fun y => p ∣ y f := {
    sub := fun x y c hx hy => by
      show p ∣ x f - c * y f
      obtain ⟨a, ha⟩ := hx
      obtain ⟨b, hb⟩ := hy
      exact ⟨a - c * b, by grind⟩
    cg := fun x y hx h => by
      obtain ⟨a, ha⟩ := hx
      obtain ⟨b, hb⟩ := h f h1
      exact ⟨a - b, by grind⟩ }
  have hJ : ∀ q ∈ left2, p ∣ ev q.2 f := J.to _ s ⟨fun _ => 0, Int.dvd_zero p⟩ fun t ht => by
    obtain ⟨g, hg, rfl⟩ := List.mem_map.mp ht
    obtain ⟨g1, g2⟩ := hfs g hg
    show p ∣ ev (vfL p m left g) f
    rw [vf_other I (mem_frees.mp g1).1 h2, if_neg fun z => g2 z.symm]
    exact Int.dvd_zero p
  have hv : p ∣ ev (vfL p m left f) f := red_out s (bs := evP left2) (x := ev (vfL p m left f)) (fun q hq => by obtain ⟨r, hr, rfl⟩ := mem_evP hq; exact hJ r hr) (by
    obtain ⟨a, ha⟩ := RR f h1
    rw [hz f h1] at ha
    exact ⟨-a, by grind⟩)
  rw [vf_other I h1 h2, if_pos rfl] at hv
  have := Int.le_of_dvd (by omega) hv
  omega
/-- the two meet -/
theorem roads (hp : 1 < p) (hA : ∀ r ∈ A, Row p m r) {l1 l2 left2 : Pr} (I1 : Inv p m (A.map List.reverse) l1) (I2 : Inv p m A l2) (J : Inv p m ((freesL m l2).map (vfL p m l2)) left2) (hs : left2.Pairwise fun a b => a.1 < b.1) : progB p m l1 = left2 :=
  ech_eq hp sp_KA (prog_ech hp hA I1) (law_ech hp I2 J) (progB_row hp I1) (fun q hq => (J.row q hq).1) progB_sorted hs
end
end LA
end
section
set_option maxHeartbeats 4000000
/-! LF: what an equation asks of letters. Plain Lean. -/
namespace LA
def polyV (s : Nat) (x : Vec) (n : Nat) : List Int → Nat → Int
  | [], _ => 0
  | a :: c, j => (if j ≤ n ∧ (n - j) % s = 0 then a * x ((n - j) / s) else 0) + polyV s x n c (j + 1)
def toldV (P : Nat) (x : Vec) (n : Nat) : List (List Int) → Nat → Int
  | [], _ => 0
  | c :: t, s => polyV s x n c 0 + toldV P x n t (s * P)
theorem polyV_lin {s : Nat} {x y : Vec} {c : Int} {n : Nat} : ∀ {l : List Int} {j : Nat}, polyV s (fun k => x k - c * y k) n l j = polyV s x n l j - c * polyV s y n l j
  | [], _ => by simp [polyV]
  | a :: l, j => by
    unfold polyV
    rw [polyV_lin (s := s) (l := l)]
    by_cases h : j ≤ n ∧ (n - j) % s = 0
    · rw [if_pos h, if_pos h, if_pos h]; grind
    · rw [if_neg h, if_neg h, if_neg h]; grind
theorem toldV_lin {P : Nat} {x y : Vec} {c : Int} {n : Nat} : ∀ {l : List (List Int)} {s : Nat}, toldV P (fun k => x k - c * y k) n l s = toldV P x n l s - c * toldV P y n l s
  | [], _ => by simp [toldV]
  | a :: l, s => by
    unfold toldV
    rw [toldV_lin (l := l), polyV_lin]; grind
theorem polyV_cg {p : Int} {s : Nat} {x y : Vec} {n : Nat} (h : ∀ k, k ≤ n → p ∣ x k - y k) : ∀ {l : List Int} {j : Nat}, p ∣ polyV s x n l j - polyV s y n l j
  | [], _ => by simp [polyV]
  | a :: l, j => by
    unfold polyV
    obtain ⟨b, hb⟩ := polyV_cg (s := s) h (l := l) (j := j + 1)
    by_cases h' : j ≤ n ∧ (n - j) % s = 0
    · rw [if_pos h', if_pos h']
      obtain ⟨d, hd⟩ := h ((n - j) / s) (Nat.le_trans (Nat.div_le_self _ _) (Nat.sub_le _ _))
      exact ⟨a * d + b, by grind⟩
    · rw [if_neg h', if_neg h']
      exact ⟨b, by grind⟩
theorem toldV_cg {p : Int} {P : Nat} {x y : Vec} {n : Nat} (h : ∀ k, k ≤ n → p ∣ x k - y k) : ∀ {l : List (List Int)} {s : Nat}, p ∣ toldV P x n l s - toldV P y n l s
  | [], _ => by simp [toldV]
  | a :: l, s => by
    unfold toldV
    obtain ⟨b, hb⟩ := toldV_cg (P := P) h (l := l) (s := s * P)
    obtain ⟨d, hd⟩ := polyV_cg h (s := s) (l := a) (j := 0)
    exact ⟨d + b, by grind⟩
theorem toldV_eq {P : Nat} {x y : Vec} {n : Nat} (h : ∀ k, k ≤ n → x k = y k) {l : List (List Int)} {s : Nat} : toldV P x n l s = toldV P y n l s := by
  have := toldV_cg (p := 0) (P := P) (fun k hk => ⟨0, by rw [h k hk]; simp⟩) (l := l) (s := s) (x := x) (y := y) (n := n)
  obtain ⟨d, hd⟩ := this
  omega
def unit (k : Nat) : Vec := fun t => if t = k then 1 else 0
theorem polyV_zero {s n : Nat} {x : Vec} : ∀ {l : List Int} {j : Nat}, (∀ i, i < l.length → j + i ≤ n → (n - (j + i)) % s = 0 → l.getD i 0 = 0 ∨ x ((n - (j + i)) / s) = 0) → polyV s x n l j = 0
  | [], _, _ => rfl
  | a :: l, j, h => by
    unfold polyV
    rw [polyV_zero (l := l) (j := j + 1) fun i hi h1 h2 => by
      have := h (i + 1) (by rw [List.length_cons]; omega) (by omega) (by rw [show j + (i + 1) = j + 1 + i by omega]; exact h2)
      rw [show j + (i + 1) = j + 1 + i by omega] at this
      exact this]
    by_cases h' : j ≤ n ∧ (n - j) % s = 0
    · rw [if_pos h']
      rcases h 0 (by rw [List.length_cons]; omega) h'.1 h'.2 with e | e
      · have e : a = 0 := e
        rw [e]; simp
      · have e : x ((n - j) / s) = 0 := e
        rw [e]; simp
    · rw [if_neg h']; rfl
theorem toldV_far {P L n : Nat} (hP : 0 < P) (hL : n / P < L) : ∀ {t : List (List Int)} {s : Nat}, P ≤ s → toldV P (unit L) n t s = 0
  | [], _, _ => rfl
  | c :: t, s, hs => by
    unfold toldV
    rw [toldV_far hP hL (t := t) (s := s * P) (Nat.le_trans hs (Nat.le_mul_of_pos_right _ hP)), polyV_zero fun i _ h1 h2 => .inr ?_]
    · rfl
    · have h3 : (n - (0 + i)) / s ≤ n / P := Nat.le_trans (Nat.div_le_div_right (Nat.sub_le _ _)) (Nat.div_le_div_left hs hP)
      unfold unit
      rw [if_neg (by omega)]
theorem polyV_unit {L n : Nat} : ∀ {c : List Int} {j : Nat}, polyV 1 (unit L) n c j = if j + L ≤ n then c.getD (n - L - j) 0 else 0
  | [], j => by simp [polyV]
  | a :: c, j => by
    unfold polyV
    rw [polyV_unit (c := c) (j := j + 1)]
    unfold unit
    rw [Nat.div_one, Nat.mod_one]
    by_cases h1 : j + L ≤ n
    · rw [if_pos h1]
      by_cases h2 : j + L = n
      · rw [if_pos ⟨by omega, rfl⟩, if_pos (by omega), if_neg (by omega), show n - L - j = 0 by omega]
        simp
      · rw [if_pos ⟨by omega, rfl⟩, if_neg (by omega), if_pos (by omega), show n - L - j = (n - L - (j + 1)) + 1 by omega]
        simp
    · rw [if_neg h1, if_neg (by omega : ¬ (j + 1 + L ≤ n))]
      by_cases h3 : j ≤ n
      · rw [if_pos ⟨h3, rfl⟩, if_neg (by omega)]; simp
      · rw [if_neg fun h => h3 h.1]; rfl
theorem toldV_unit {P L n : Nat} {c : List Int} {t : List (List Int)} (hP : 0 < P) (hL : n / P < L) : toldV P (unit L) n (c :: t) 1 = if L ≤ n then c.getD (n - L) 0 else 0 := by
  unfold toldV
  rw [toldV_far hP hL (by omega), polyV_unit, Nat.zero_add, Int.add_zero, Nat.sub_zero]
/-- a list one letter longer -/
theorem ev_app {l : List Int} {c : Int} : ev (l ++ [c]) = fun k => ev l k - (-c) * unit l.length k := by
  funext k
  unfold unit
  show (l ++ [c]).getD k 0 = l.getD k 0 - -c * _
  rw [List.getD_eq_getElem?_getD, List.getD_eq_getElem?_getD]
  by_cases h : k < l.length
  · rw [List.getElem?_append_left h, if_neg (by omega)]; grind
  · rw [List.getElem?_append_right (by omega)]
    by_cases h2 : k = l.length
    · subst h2; rw [if_pos rfl, List.getElem?_eq_none (l := l) (by omega)]; simp
    · rw [if_neg h2, List.getElem?_eq_none (l := l) (by omega), List.getElem?_eq_none (by rw [List.length_singleton]; omega)]; simp
/-- the letters stand in the equation, as far as they tell -/
def Good (p : Int) (P : Nat) (c : List Int) (t : List (List Int)) (low : Nat) (l : List Int) : Prop := ∀ n, n < low + l.length → p ∣ toldV P (ev l) n (c :: t) 1
theorem Good.step {p : Int} {P : Nat} {c : List Int} {t : List (List Int)} {low : Nat} {l : List Int} {iv : Int} (hP : 0 < P) (hlow : ∀ k, k < low → c.getD k 0 = 0) (hi : p ∣ c.getD low 0 * iv - 1) (hl : low + l.length < P * l.length) (G : Good p P c t low l) :
    Good p P c t low (l ++ [(0 - toldV P (ev l) (low + l.length) (c :: t) 1 * iv) % p]) := fun n hn => by
  rw [List.length_append, List.length_singleton] at hn
  have hd : n / P < l.length := by
    rw [Nat.div_lt_iff_lt_mul hP, Nat.mul_comm]; omega
  rw [ev_app, toldV_lin, toldV_unit hP hd]
  by_cases h : n < low + l.length
  · have := G n h
    by_cases h2 : l.length ≤ n
    · rw [if_pos h2, hlow _ (by omega)]; simpa using this
    · rw [if_neg h2]; simpa using this
  · have e : n = low + l.length := by omega
    subst e
    rw [if_pos (by omega), show low + l.length - l.length = low by omega]
    generalize toldV P (ev l) (low + l.length) (c :: t) 1 = v
    obtain ⟨b, hb⟩ := hi
    have hm := Int.mul_ediv_add_emod (0 - v * iv) p
    generalize (0 - v * iv) % p = r at hm ⊢
    generalize (0 - v * iv) / p = q at hm
    exact ⟨-(v * b) - c.getD low 0 * q, by grind⟩
end LA
end
section
set_option maxHeartbeats 4000000
/-! LG: letters that go on. Plain Lean. -/
namespace LA
def nextL (p : Int) (P : Nat) (told : List (List Int)) (low : Nat) (iv : Int) (l : List Int) : Int := (0 - toldV P (ev l) (low + l.length) told 1 % p * iv) % p
def contL (p : Int) (P : Nat) (told : List (List Int)) (low : Nat) (iv : Int) : Nat → List Int → List Int
  | 0, l => l
  | k + 1, l => contL p P told low iv k (l ++ [nextL p P told low iv l])
section
variable {p : Int} {P low : Nat} {c : List Int} {t told : List (List Int)} {iv : Int}
theorem contL_len : ∀ {k : Nat} {l : List Int}, (contL p P told low iv k l).length = l.length + k
  | 0, l => rfl
  | k + 1, l => by
    show (contL p P told low iv k (l ++ [nextL p P told low iv l])).length = _
    rw [contL_len, List.length_append, List.length_singleton]; omega
theorem next_rng (hp : 0 < p) {l : List Int} : 0 ≤ nextL p P told low iv l ∧ nextL p P told low iv l < p := ⟨Int.emod_nonneg _ (by omega), Int.emod_lt_of_pos _ hp⟩
theorem app_rng (hp : 0 < p) {l : List Int} (h : ∀ a ∈ l, 0 ≤ a ∧ a < p) : ∀ a ∈ l ++ [nextL p P told low iv l], 0 ≤ a ∧ a < p := fun a ha => by
  rcases List.mem_append.mp ha with h2 | h2
  · exact h a h2
  · rw [List.mem_singleton.mp h2]; exact next_rng hp
theorem contL_rng (hp : 0 < p) : ∀ {k : Nat} {l : List Int}, (∀ a ∈ l, 0 ≤ a ∧ a < p) → ∀ a ∈ contL p P told low iv k l, 0 ≤ a ∧ a < p
  | 0, l, h => h
  | k + 1, l, h => contL_rng hp (k := k) (app_rng hp h)
theorem next_eq {l : List Int} : nextL p P told low iv l = (0 - toldV P (ev l) (low + l.length) told 1 * iv) % p := by
  unfold nextL
  have hm := Int.mul_ediv_add_emod (toldV P (ev l) (low + l.length) told 1) p
  generalize toldV P (ev l) (low + l.length) told 1 = v at hm ⊢
  generalize v % p = r at hm ⊢
  generalize v / p = q at hm
  refine Int.emod_emod_of_dvd _ (Int.dvd_refl p) |>.symm.trans ?_
  rw [Int.emod_emod_of_dvd _ (Int.dvd_refl p)]
  rw [show 0 - r * iv = (0 - v * iv) + p * (q * iv) by grind, Int.add_mul_emod_self_left]
theorem contL_good (hP : 1 < P) (hlow : ∀ k, k < low → c.getD k 0 = 0) (hi : p ∣ c.getD low 0 * iv - 1) : ∀ {k : Nat} {l : List Int}, low + l.length < P * l.length → Good p P c t low l → Good p P c t low (contL p P (c :: t) low iv k l)
  | 0, l, _, G => G
  | k + 1, l, hl, G => by
    refine contL_good hP hlow hi (k := k) ?_ ?_
    · rw [List.length_append, List.length_singleton, Nat.mul_add]; omega
    · rw [next_eq]; exact G.step (by omega) hlow hi hl
/-- what is asked of a list is asked of its entries -/
theorem toldV_sum {n : Nat} {s : Nat} {x : Vec} : ∀ {m : Nat}, toldV P (fun k => if k < m then x k else 0) n told s = S m fun k => toldV P (unit k) n told s * x k
  | 0 => by
    have h := toldV_lin (P := P) (x := fun _ => 0) (y := fun _ => 0) (c := 1) (n := n) (l := told) (s := s)
    simp only [Nat.not_lt_zero, if_false, S]
    simp only [Int.sub_self, Int.mul_zero] at h
    omega
  | m + 1 => by
    have h := toldV_lin (P := P) (x := fun k => if k < m then x k else 0) (y := unit m) (c := -x m) (n := n) (l := told) (s := s)
    rw [toldV_sum (m := m)] at h
    have e : (fun k => if k < m + 1 then x k else 0) = fun k => (if k < m then x k else 0) - -x m * unit m k := by
      funext k
      unfold unit
      by_cases h1 : k < m
      · rw [if_pos (by omega), if_pos h1, if_neg (by omega)]; simp
      · by_cases h2 : k = m
        · subst h2; rw [if_pos (by omega), if_neg h1, if_pos rfl]; simp
        · rw [if_neg (by omega), if_neg h1, if_neg h2]; simp
    rw [e, h]
    show _ = S m _ + _
    grind
theorem ev_cut {l : List Int} {m : Nat} (h : l.length = m) : (fun k => if k < m then ev l k else 0) = ev l := by
  funext k
  by_cases h1 : k < m
  · rw [if_pos h1]
  · rw [if_neg h1]
    show 0 = l.getD k 0
    rw [List.getD_eq_getElem?_getD, List.getElem?_eq_none (by omega)]; rfl
end
end LA
end
section
set_option maxHeartbeats 4000000
/-! E1: what the printed functions give, in general. -/
namespace Sh
open PySem PySem.Spec PyProof.Rows L2
/-! ### one step -/
section
variable {ρ : Ev} {δ δ1 δ2 δ3 : Di} {fa fb fc : EF} {a b p : Int} {d x y z : D}
theorem v_var {i : Nat} (h : ρ[i]? = some (.va d)) : eVar i ρ δ = .ok d δ := by unfold eVar; rw [h]
theorem v_bin {g : D → D → Option D} (h1 : fa ρ δ = .ok x δ1) (h2 : fb ρ δ1 = .ok y δ2) (h : g x y = some z) : eBin g fa fb ρ δ = .ok z δ2 := by
  unfold eBin; rw [h1]; show (fb ρ δ1).bind _ = _; rw [h2]; show Out.get (g x y) δ2 = _; rw [h]; rfl
theorem v_un {g : D → Option D} (h1 : fa ρ δ = .ok x δ1) (h : g x = some z) : eUn g fa ρ δ = .ok z δ1 := by
  unfold eUn; rw [h1]; show Out.get (g x) δ1 = _; rw [h]; rfl
theorem v_arg {g : List D → Option D} {fs : AF} {ds : List D} (h1 : fs ρ δ = .ok ds δ1) (h : g ds = some z) : eArg g fs ρ δ = .ok z δ1 := by
  unfold eArg; rw [h1]; show Out.get (g ds) δ1 = _; rw [h]; rfl
theorem v_nil : aNil ρ δ = .ok [] δ := rfl
theorem v_cons {fs : AF} {ds : List D} (h1 : fa ρ δ = .ok x δ1) (h2 : fs ρ δ1 = .ok ds δ2) : aCons fa fs ρ δ = .ok (x :: ds) δ2 := by
  unfold aCons; rw [h1]; show (fs ρ δ1).bind _ = _; rw [h2]; rfl
theorem v_star {fs : AF} {xs ds : List D} (h1 : fa ρ δ = .ok x δ1) (hx : seqOf x = some xs) (h2 : fs ρ δ1 = .ok ds δ2) : aStar fa fs ρ δ = .ok (xs ++ ds) δ2 := by
  unfold aStar; rw [h1]; show (Out.get (seqOf x) δ1).bind _ = _; rw [hx]; show (fs ρ δ1).bind _ = _; rw [h2]; rfl
theorem v_call {n : Nat} {F : List D → Di → Out D} {fs : AF} {ds : List D} (h1 : fs ρ δ = .ok ds δ1) (hn : ds.length = n) (h : F ds δ1 = .ok z δ2) : eCall n F fs ρ δ = .ok z δ2 := by
  unfold eCall; rw [h1]; show (if ds.length = n then F ds δ1 else .bad) = _; rw [if_pos hn, h]
theorem modD_ok (h : 0 < p) : modD (.int a) (.int p) = some (.int (a % p)) := if_pos h
theorem fdivD_ok (h : 0 < p) (h2 : p < 1073741824) : fdivD (.int a) (.int p) = some (.int (a / p)) := if_pos ⟨h, h2⟩
theorem mulD_ok (h : mulB a ∨ mulB b) : mulD (.int a) (.int b) = some (.int (a * b)) := if_pos h
theorem mulB_of (h : -1000000 < a) (h2 : a < 1000000) : mulB a := ⟨by omega, by omega⟩
theorem t_of {f : EF} {k : Bool} (h : f ρ δ = .ok (.bl k) δ1) : tOf f ρ δ = .ok k δ1 := by unfold tOf; rw [h]; rfl
theorem v_and_t (h1 : fa ρ δ = .ok (.bl true) δ1) (h2 : fb ρ δ1 = .ok z δ2) : eAnd fa fb ρ δ = .ok z δ2 := by unfold eAnd; rw [h1]; exact h2
theorem v_and_f (h1 : fa ρ δ = .ok (.bl false) δ1) : eAnd fa fb ρ δ = .ok (.bl false) δ1 := by unfold eAnd; rw [h1]; rfl
theorem v_or_t (h1 : fa ρ δ = .ok (.bl true) δ1) : eOr fa fb ρ δ = .ok (.bl true) δ1 := by unfold eOr; rw [h1]; rfl
theorem v_or_f (h1 : fa ρ δ = .ok (.bl false) δ1) (h2 : fb ρ δ1 = .ok z δ2) : eOr fa fb ρ δ = .ok z δ2 := by unfold eOr; rw [h1]; exact h2
theorem v_chain {g g' : D → D → Option D} {k : Bool} (h1 : fa ρ δ = .ok x δ1) (h2 : fb ρ δ1 = .ok y δ2) (hg : g x y = some (.bl k)) (h3 : fc ρ δ2 = .ok z δ2) {l : Bool} (hg' : g' y z = some (.bl l)) : eChain g g' fa fb fc ρ δ = .ok (.bl (k && l)) δ2 := by
  unfold eChain; rw [h1]; show (fb ρ δ1).bind _ = _; rw [h2]
  cases k with
  | true => show (match g x y with | some (.bl true) => (fc ρ δ2).bind fun z δ3 => Out.get (g' y z) δ3 | some (.bl false) => .ok (.bl false) δ2 | _ => .bad) = _; rw [hg]; show (fc ρ δ2).bind _ = _; rw [h3]; show Out.get (g' y z) δ2 = _; rw [hg']; rfl
  | false => show (match g x y with | some (.bl true) => (fc ρ δ2).bind fun z δ3 => Out.get (g' y z) δ3 | some (.bl false) => .ok (.bl false) δ2 | _ => .bad) = _; rw [hg]; rfl
theorem v_if_t {t : TF} (h1 : t ρ δ = .ok true δ1) (h : fa ρ δ1 = .ok z δ2) : eIf t fa fb ρ δ = .ok z δ2 := by unfold eIf; rw [h1]; exact h
theorem v_if_f {t : TF} (h1 : t ρ δ = .ok false δ1) (h : fb ρ δ1 = .ok z δ2) : eIf t fa fb ρ δ = .ok z δ2 := by unfold eIf; rw [h1]; exact h
theorem t_and {t u : TF} {k l : Bool} (h1 : t ρ δ = .ok k δ1) (h2 : u ρ δ1 = .ok l δ1) : tAnd t u ρ δ = .ok (k && l) δ1 := by
  unfold tAnd; rw [h1]; cases k
  · rfl
  · exact h2
theorem t_not {t : TF} {k : Bool} (h1 : t ρ δ = .ok k δ1) : tNot t ρ δ = .ok (!k) δ1 := by unfold tNot; rw [h1]; rfl
theorem t_or {t u : TF} {k l : Bool} (h1 : t ρ δ = .ok k δ1) (h2 : u ρ δ1 = .ok l δ1) : tOr t u ρ δ = .ok (k || l) δ1 := by
  unfold tOr; rw [h1]; cases k
  · exact h2
  · rfl
end
/-! ### comprehensions, loops -/
theorem comp_map {g : GF} {t : TF} {e : EF} {ρ : Ev} {δ : Di} (f : D → D) : ∀ {ds : List D}, (∀ d ∈ ds, ∃ ρ1, g d ρ = some ρ1 ∧ t ρ1 δ = .ok true δ ∧ e ρ1 δ = .ok (f d) δ) → compL g t e ρ ds δ = .ok (ds.map f) δ
  | [], _ => rfl
  | d :: ds, h => by
    obtain ⟨ρ1, h1, h2, h3⟩ := h d List.mem_cons_self
    unfold compL
    rw [h1]
    show (t ρ1 δ).bind _ = _
    rw [h2]
    show (e ρ1 δ).bind _ = _
    rw [h3]
    show (compL g t e ρ ds δ).bind _ = _
    rw [comp_map f fun d hd => h d (List.mem_cons_of_mem _ hd)]
    rfl
theorem comp_filt {g : GF} {t : TF} {e : EF} {ρ : Ev} {δ : Di} (P : D → Bool) (f : D → D) : ∀ {ds : List D}, (∀ d ∈ ds, ∃ ρ1, g d ρ = some ρ1 ∧ t ρ1 δ = .ok (P d) δ ∧ (P d = true → e ρ1 δ = .ok (f d) δ)) → compL g t e ρ ds δ = .ok ((ds.filter P).map f) δ
  | [], _ => rfl
  | d :: ds, h => by
    obtain ⟨ρ1, h1, h2, h3⟩ := h d List.mem_cons_self
    have ih := comp_filt P f (ds := ds) fun d hd => h d (List.mem_cons_of_mem _ hd)
    unfold compL
    rw [h1]
    show (t ρ1 δ).bind _ = _
    rw [h2]
    cases q : P d with
    | true =>
      show (e ρ1 δ).bind _ = _
      rw [h3 q]
      show (compL g t e ρ ds δ).bind _ = _
      rw [ih, List.filter_cons_of_pos q]
      rfl
    | false =>
      show compL g t e ρ ds δ = _
      rw [ih, List.filter_cons_of_neg (by rw [q]; exact Bool.false_ne_true)]
theorem v_comp {vs : List Nat} {it : IF} {g : GF} {t : TF} {e : EF} {ρ : Ev} {δ δ1 δ2 : Di} {ds ys : List D} (h1 : it ρ δ = .ok ds δ1) (h2 : compL g t e (wipeE ρ vs) ds δ1 = .ok ys δ2) (h : ys.length ≤ lim) : eComp vs it g t e ρ δ = .ok (.lst ys) δ2 := by
  unfold eComp; rw [h1]
  show (match compL g t e (wipeE ρ vs) ds δ1 with | .ok ys δ2 => if ys.length ≤ lim then (Out.ok (D.lst ys) δ2 : Out D) else .bad | _ => (.bad : Out D)) = _
  rw [h2]
  show (if ys.length ≤ lim then Out.ok (D.lst ys) δ2 else .bad) = _
  rw [if_pos h]
theorem for_rel {g : GF} {b : SF} (R : List D → Ev → Di → Prop) (hs : ∀ d ds ρ δ, R (d :: ds) ρ δ → ∃ ρ1 ρ2 δ2, g d ρ = some ρ1 ∧ b ρ1 δ = .ok .nx ρ2 δ2 ∧ R ds ρ2 δ2) : ∀ {ds : List D} {ρ : Ev} {δ : Di}, R ds ρ δ → ∃ ρ' δ', forL g b ds ρ δ = .ok .nx ρ' δ' ∧ R [] ρ' δ'
  | [], ρ, δ, h => ⟨ρ, δ, rfl, h⟩
  | d :: ds, ρ, δ, h => by
    obtain ⟨ρ1, ρ2, δ2, h1, h2, h3⟩ := hs d ds ρ δ h
    obtain ⟨ρ', δ', h4, h5⟩ := for_rel R hs h3
    refine ⟨ρ', δ', ?_, h5⟩
    unfold forL
    rw [h1]
    show (match b ρ1 δ with | .ok .nx ρ2 δ2 => forL g b ds ρ2 δ2 | .ok .ct ρ2 δ2 => forL g b ds ρ2 δ2 | .ok .bk ρ2 δ2 => .ok .nx ρ2 δ2 | .ok (.rt r) ρ2 δ2 => .ok (.rt r) ρ2 δ2 | .er x ρ2 δ2 => .er x ρ2 δ2 | .bad => .bad) = _
    rw [h2]
    exact h4
theorem s_for {it : IF} {g : GF} {b : SF} {ρ : Ev} {δ δ1 : Di} {ds : List D} {o : OutS} (h1 : it ρ δ = .ok ds δ1) (h2 : forL g b ds ρ δ1 = o) : sFor it g b ρ δ = o := by unfold sFor; rw [h1]; exact h2
theorem s_seq {f g : SF} {ρ ρ1 : Ev} {δ δ1 : Di} {o : OutS} (h1 : f ρ δ = .ok .nx ρ1 δ1) (h2 : g ρ1 δ1 = o) : sSeq f g ρ δ = o := by unfold sSeq; rw [h1]; exact h2
theorem s_asg {g : GF} {f : EF} {ρ ρ1 : Ev} {δ δ1 : Di} {d : D} (h1 : f ρ δ = .ok d δ1) (h2 : g d ρ = some ρ1) : sAsg g f ρ δ = .ok .nx ρ1 δ1 := by
  unfold sAsg sE; rw [h1]; show kG g d ρ δ1 = _; unfold kG; rw [h2]
theorem s_ret {f : EF} {ρ : Ev} {δ δ1 : Di} {d : D} (h1 : f ρ δ = .ok d δ1) : sRet f ρ δ = .ok (.rt d) ρ δ1 := by unfold sRet sE; rw [h1]
theorem s_if {t : TF} {f g : SF} {ρ : Ev} {δ δ1 : Di} {k : Bool} {o : OutS} (h1 : t ρ δ = .ok k δ1) (h2 : (if k = true then f ρ δ1 else g ρ δ1) = o) : sIf t f g ρ δ = o := by
  unfold sIf; rw [h1]; cases k
  · exact h2
  · exact h2
theorem r_run {n : Nat} {b : SF} {ds : List D} {δ δ' : Di} {d : D} {ρ' : Ev} (h : b (startE n ds) δ = .ok (.rt d) ρ' δ') : runF n b ds δ = .ok d δ' := by unfold runF; rw [h]

/-! ### ints, lists of ints -/
abbrev vs (l : List Int) : List D := l.map D.int
theorem vs_at {l : List Int} {k : Nat} (h : k < l.length) : idxD (.lst (vs l)) (.int k) = some (.int (l.getD k 0)) := by
  show atI (vs l) (k : Int) = _
  unfold atI ixN
  rw [if_pos (by omega), if_pos (by rw [List.length_map]; omega)]
  show (vs l)[(k : Int).toNat]? = _
  rw [show (k : Int).toNat = k by omega, List.getElem?_map, List.getElem?_eq_getElem h, List.getD_eq_getElem?_getD, List.getElem?_eq_getElem h]
  rfl
theorem vs_atT {l : List Int} {k : Nat} (h : k < l.length) : idxD (.tup (vs l)) (.int k) = some (.int (l.getD k 0)) := vs_at h
theorem ds_at {l : List D} {k : Nat} {d : D} (h : l[k]? = some d) : idxD (.lst l) (.int k) = some d := by
  have hl := (List.getElem?_eq_some_iff.mp h).1
  show atI l (k : Int) = _
  unfold atI ixN
  rw [if_pos (by omega), if_pos (by omega)]
  show l[(k : Int).toNat]? = _
  rw [show (k : Int).toNat = k by omega, h]
theorem ds_atT {l : List D} {k : Nat} {d : D} (h : l[k]? = some d) : idxD (.tup l) (.int k) = some d := ds_at h
theorem eqv_int (a b : Int) : PyData.eqv (.int a) (.int b) = decide (a = b) := by
  rw [PyData.eqv]
  by_cases h : a = b <;> simp [h]
theorem eqD_int (a b : Int) : eqD (.int a) (.int b) = some (.bl (decide (a = b))) := by
  unfold eqD
  rw [if_pos (by rfl)]
  show some (D.bl (PyData.eqv (.int a) (.int b))) = _
  rw [eqv_int]
theorem neD_int (a b : Int) : neD (.int a) (.int b) = some (.bl (!decide (a = b))) := by
  unfold neD
  rw [if_pos (by rfl)]
  show some (D.bl (!PyData.eqv (.int a) (.int b))) = _
  rw [eqv_int]
theorem rng_q1 : (-4611686018427387904 : Int) ≤ 0 := by decide
theorem rng_q2 : (1000000 : Int) < 4611686018427387904 := by decide
theorem rng_q3 {i : Int} (h : 0 ≤ i) (h2 : i ≤ 1000000) : -4611686018427387904 ≤ i ∧ i < 4611686018427387904 := ⟨Int.le_trans rng_q1 h, Int.lt_of_le_of_lt h2 rng_q2⟩
theorem rngB_of {i : Int} (h : 0 ≤ i) (h2 : i ≤ 1000000) : rngB i := rng_q3 h h2
theorem rng1_a {f : EF} {ρ : Ev} {δ δ1 : Di} {j : Int} (h : f ρ δ = .ok (.int j) δ1) : iRng1 f ρ δ = if rngB j then Out.ok (rngL 0 j.toNat) δ1 else .bad := by
  unfold iRng1
  rw [h]
  rfl
theorem rng1_b {f : EF} {ρ : Ev} {δ δ1 : Di} {j : Int} (h : f ρ δ = .ok (.int j) δ1) (hb : rngB j) : iRng1 f ρ δ = Out.ok (rngL 0 j.toNat) δ1 := (rng1_a h).trans (if_pos hb)
theorem rngB_nat {n : Nat} (hn : n ≤ 1000000) : ∀ j : Int, j = n → rngB j := fun j h => rngB_of (by omega) (by omega)
theorem i_rng1 {f : EF} {ρ : Ev} {δ δ1 : Di} {n : Nat} (h : f ρ δ = .ok (.int n) δ1) (hn : n ≤ 1000000) : iRng1 f ρ δ = .ok (rngL 0 n) δ1 := by
  have h2 := rng1_b h (rngB_nat hn _ rfl)
  rw [Int.toNat_natCast] at h2
  exact h2
theorem i_rngM {f : EF} {ρ : Ev} {δ δ1 : Di} {M : Int} {n : Nat} (h : f ρ δ = .ok (.int M) δ1) (hM : M = n) (hn : n ≤ 1000000) : iRng1 f ρ δ = .ok (rngL 0 n) δ1 := by
  subst hM; exact i_rng1 h hn
theorem i_rng2 {f g : EF} {ρ : Ev} {δ δ1 δ2 : Di} {a b : Int} (h : f ρ δ = .ok (.int a) δ1) (h2 : g ρ δ1 = .ok (.int b) δ2) (ha : 0 ≤ a) (ha2 : a ≤ 1000000) (hb : 0 ≤ b) (hb2 : b ≤ 1000000) : iRng2 f g ρ δ = .ok (rngL a (b - a).toNat) δ2 := by
  have h3 : rngB a ∧ rngB b := ⟨rngB_of ha ha2, rngB_of hb hb2⟩
  have h4 : iRng2 f g ρ δ = if rngB a ∧ rngB b then Out.ok (rngL a (b - a).toNat) δ2 else .bad := by
    unfold iRng2
    rw [h]
    show (g ρ δ1).bind _ = _
    rw [h2]
    rfl
  exact h4.trans (if_pos h3)
theorem rng_eq (n : Nat) : rngL 0 n = (List.range n).map fun (i : Nat) => D.int i := by
  unfold rngL
  exact List.map_congr_left fun i _ => by rw [Int.zero_add]
theorem i_seq {f : EF} {ρ : Ev} {δ δ1 : Di} {d : D} {ds : List D} (h : f ρ δ = .ok d δ1) (hs : seqOf d = some ds) : iSeq f ρ δ = .ok ds δ1 := by
  unfold iSeq; rw [h]; show Out.get (seqOf d) δ1 = _; rw [hs]; rfl
theorem i_enum {f : EF} {ρ : Ev} {δ δ1 : Di} {d : D} {ds : List D} (h : f ρ δ = .ok d δ1) (hs : seqOf d = some ds) : iEnum f ρ δ = .ok (enumL 0 ds) δ1 := by
  unfold iEnum; rw [h]; show (Out.get (seqOf d) δ1).bind _ = _; rw [hs]; rfl
theorem i_zip {f g : EF} {ρ : Ev} {δ δ1 δ2 : Di} {d e : D} {ds es : List D} (h : f ρ δ = .ok d δ1) (h2 : g ρ δ1 = .ok e δ2) (hs : seqOf d = some ds) (hs2 : seqOf e = some es) : iZip f g ρ δ = .ok (zipL ds es) δ2 := by
  unfold iZip; rw [h]; show (g ρ δ1).bind _ = _; rw [h2]
  show (match seqOf d, seqOf e with | some ds, some es => (Out.ok (zipL ds es) δ2 : Out (List D)) | _, _ => .bad) = _
  rw [hs, hs2]
theorem zip_map {α β : Type} (f : α → D) (g : β → D) : ∀ (a : List α) (b : List β), zipL (a.map f) (b.map g) = (a.zip b).map fun q => .tup [f q.1, g q.2]
  | [], b => by cases b <;> rfl
  | x :: a, [] => rfl
  | x :: a, y :: b => by
    show .tup [f x, g y] :: zipL (a.map f) (b.map g) = _
    rw [zip_map f g a b]; rfl
theorem enum_map {α : Type} (f : α → D) : ∀ (a : List α) (n : Nat), enumL n (a.map f) = ((List.range' n a.length).zip a).map fun q => .tup [.int (q.1 : Nat), f q.2]
  | [], n => rfl
  | x :: a, n => by
    show .tup [.int (n : Nat), f x] :: enumL (n + 1) (a.map f) = _
    rw [enum_map f a (n + 1)]
    rfl
end Sh
end
section
set_option maxHeartbeats 4000000
/-! E2: what the printed functions give, in general: slots, own lists, rows. -/
namespace Sh
open PySem PySem.Spec PyProof.Rows L2
theorem lt' {i n : Nat} (h : Nat.blt i n = true) : i < n := Nat.le_of_ble_eq_true h
theorem idx0 {d : D} {l : List D} : idxD (.lst (d :: l)) (.int 0) = some d := ds_at (k := 0) rfl
theorem idx0T {d : D} {l : List D} : idxD (.tup (d :: l)) (.int 0) = some d := ds_at (k := 0) rfl
section
variable {ρ ρ1 : Ev} {δ δ1 δ2 : Di} {f fa fb fe : EF} {d x y : D} {i j : Nat}
theorem g_nm (h : i < ρ.length) : gNm i d ρ = some (ρ.set i (.va d)) := if_pos h
theorem g_tp2 (h : i < ρ.length) (h2 : j < ρ.length) : gTp [gNm i, gNm j] (.tup [x, y]) ρ = some ((ρ.set i (.va x)).set j (.va y)) := by
  show gAll [gNm i, gNm j] [x, y] ρ = _
  unfold gAll
  rw [g_nm h]
  show gAll [gNm j] [y] (ρ.set i (.va x)) = _
  unfold gAll
  rw [g_nm (by rw [List.length_set]; exact h2)]
  rfl
theorem g_tpl2 (h : i < ρ.length) (h2 : j < ρ.length) : gTp [gNm i, gNm j] (.tup [x, y]) ρ = some ((ρ.set i (.va x)).set j (.va y)) := g_tp2 h h2
theorem v_thaw {xs : List D} (h : ρ[i]? = some (.ow xs)) (h2 : f (ρ.set i (.va (.lst xs))) δ = .ok d δ1) (h3 : d.nol = true) : eThaw i f ρ δ = .ok d δ1 := by
  unfold eThaw; rw [h]
  show (match f (ρ.set i (.va (.lst xs))) δ with | .ok d δ' => if d.nol = true then Out.ok d δ' else .bad | .er x δ' => if x.arg.nol = true then .er x δ' else .bad | .bad => .bad) = _
  rw [h2]
  exact if_pos h3
theorem v_thawN {o : Out D} (h : ρ[i]? = some (.va x)) (h2 : f ρ δ = o) : eThaw i f ρ δ = o := by
  unfold eThaw; rw [h]; exact h2
theorem v_thawE {o : Out D} (h : ρ[i]? = some .em) (h2 : f ρ δ = o) : eThaw i f ρ δ = o := by
  unfold eThaw; rw [h]; exact h2
theorem t_thaw {t : TF} {k : Bool} {xs : List D} (h : ρ[i]? = some (.ow xs)) (h2 : t (ρ.set i (.va (.lst xs))) δ = .ok k δ1) : tThaw i t ρ δ = .ok k δ1 := by
  unfold tThaw; rw [h]
  show (match t (ρ.set i (.va (.lst xs))) δ with | .ok d δ' => Out.ok d δ' | _ => .bad) = _
  rw [h2]
theorem s_fz {s : SF} {xs : List D} {o : OutS} (h : ρ[i]? = some (.ow xs)) (h2 : s (ρ.set i (.va (.lst xs))) δ = o) : sFz i s ρ δ = o := by
  unfold sFz fz; rw [h]; exact h2
theorem s_own {n : NF} {ys : List D} (h : n ρ δ = .ok ys δ1) (hi : i < ρ.length) : sOwn i n ρ δ = .ok .nx (ρ.set i (.ow ys)) δ1 := by
  unfold sOwn; rw [h]; exact if_pos hi
theorem s_app {xs : List D} (h : ρ[i]? = some (.ow xs)) (h2 : f ρ δ = .ok d δ1) (hl : xs.length < lim) : sAppend i f ρ δ = .ok .nx (ρ.set i (.ow (xs ++ [d]))) δ1 := by
  unfold sAppend; rw [h]
  show sE f _ ρ δ = _
  unfold sE; rw [h2]
  exact if_pos hl
theorem s_setI {xs : List D} {k : Nat} (h : f ρ δ = .ok d δ1) (h1 : ρ[i]? = some (.ow xs)) (h2 : fe ρ δ1 = .ok (.int k) δ2) (hk : k < xs.length) : sSetI i fe f ρ δ = .ok .nx (ρ.set i (.ow (xs.set k d))) δ2 := by
  have hx : ixN xs.length (k : Int) = some k := by
    unfold ixN
    rw [if_pos (by omega), if_pos (by omega)]
    rfl
  unfold sSetI sE
  rw [h]
  dsimp only
  rw [h1]
  dsimp only
  rw [h2]
  dsimp only
  rw [hx]
theorem s_par {fs : AF} (h : fs ρ δ = .ok [x, y] δ1) (hi : i < ρ.length) (hj : j < ρ.length) : sPar i j fs ρ δ = .ok .nx ((ρ.set i (.va x)).set j (.va y)) δ1 := by
  unfold sPar; rw [h]; exact if_pos ⟨hi, hj⟩
theorem s_parO {n : NF} {ys : List D} (h : n ρ δ = .ok ys δ1) (h2 : f ρ δ1 = .ok x δ2) (hi : i < ρ.length) (hj : j < ρ.length) (ne : i ≠ j) : sParO i j n f ρ δ = .ok .nx ((ρ.set i (.ow ys)).set j (.va x)) δ2 := by
  unfold sParO; rw [h]
  show (match f ρ δ1 with | .ok d δ2 => if i < ρ.length ∧ j < ρ.length ∧ i ≠ j then OutS.ok .nx ((ρ.set i (.ow ys)).set j (.va d)) δ2 else .bad | .er x δ2 => .er x ρ δ2 | .bad => .bad) = _
  rw [h2]; exact if_pos ⟨hi, hj, ne⟩
theorem s_drop (h : f ρ δ = .ok d δ1) : sDrop f ρ δ = .ok .nx ρ δ1 := by unfold sDrop sE; rw [h]
theorem s_aug {g : D → D → Option D} {z : D} (h : ρ[i]? = some (.va x)) (h2 : f ρ δ = .ok y δ1) (h3 : g x y = some z) : sAug g i f ρ δ = .ok .nx (ρ.set i (.va z)) δ1 := by
  unfold sAug; rw [h]
  show sE f _ ρ δ = _
  unfold sE; rw [h2]
  show (match g x y with | some z => OutS.ok .nx (ρ.set i (.va z)) δ1 | none => .bad) = _
  rw [h3]
theorem n_lst {fs : AF} {ds : List D} (h : fs ρ δ = .ok ds δ1) (hl : ds.length ≤ lim) : nLst fs ρ δ = .ok ds δ1 := by
  unfold nLst; rw [h]; exact if_pos hl
theorem mul_ok {a : List D} {k : Nat} (h : a.length * k ≤ lim) (hk : k ≤ 1000000) : (if -9223372036854775808 ≤ (k : Int) ∧ (k : Int) < 9223372036854775808 ∧ a.length * (k : Int).toNat ≤ lim then Out.ok (List.replicate (k : Int).toNat a).flatten δ1 else .bad) = .ok (List.replicate k a).flatten δ1 := by
  have hc : -9223372036854775808 ≤ (k : Int) ∧ (k : Int) < 9223372036854775808 ∧ a.length * (k : Int).toNat ≤ lim := ⟨by omega, by omega, by rw [Int.toNat_natCast]; exact h⟩
  rw [if_pos hc, Int.toNat_natCast]
theorem n_mulA {xs : List D} {j : Int} (h : fa ρ δ = .ok (.lst xs) δ1) (h2 : fb ρ δ1 = .ok (.int j) δ2) : nMul fa fb ρ δ = if -9223372036854775808 ≤ j ∧ j < 9223372036854775808 ∧ xs.length * j.toNat ≤ lim then .ok (List.replicate j.toNat xs).flatten δ2 else .bad := by
  unfold nMul; rw [h]
  show (fb ρ δ1).bind _ = _
  rw [h2]
  rfl
theorem n_mul {xs : List D} {k : Nat} (h : fa ρ δ = .ok (.lst xs) δ1) (h2 : fb ρ δ1 = .ok (.int k) δ2) (hl : xs.length * k ≤ lim) (hk : k ≤ 1000000) : nMul fa fb ρ δ = .ok (List.replicate k xs).flatten δ2 := (n_mulA h h2).trans (mul_ok hl hk)
theorem n_mulM {xs : List D} {M : Int} {k : Nat} (h : fa ρ δ = .ok (.lst xs) δ1) (h2 : fb ρ δ1 = .ok (.int M) δ2) (hM : M = k) (hl : xs.length * k ≤ lim) (hk : k ≤ 1000000) : nMul fa fb ρ δ = .ok (List.replicate k xs).flatten δ2 := by
  subst hM; exact n_mul h h2 hl hk
theorem flat_one {d : D} : ∀ {k : Nat}, (List.replicate k [d]).flatten = List.replicate k d
  | 0 => rfl
  | k + 1 => by
    rw [List.replicate_succ, List.replicate_succ, List.flatten_cons, flat_one]; rfl
/-- [0] * k -/
theorem n_zeros {M : Int} {k : Nat} (h2 : fb ρ δ = .ok (.int M) δ2) (hM : M = k) (hk : k ≤ 1000000) : nMul (eArg lstF (aCons (eC (.int 0)) aNil)) fb ρ δ = .ok (vs (List.replicate k 0)) δ2 := by
  have h := n_mulM (fa := eArg lstF (aCons (eC (.int 0)) aNil)) (ρ := ρ) (δ := δ) (v_arg (v_cons rfl v_nil) rfl) h2 hM (by show 1 * k ≤ lim; exact Nat.le_trans (by omega : 1 * k ≤ 1000000) (by decide)) hk
  rw [h, flat_one]
  unfold vs
  rw [List.map_replicate]
theorem n_list {ds : List D} (h : f ρ δ = .ok x δ1) (h2 : seqOf x = some ds) : nList f ρ δ = .ok ds δ1 := by
  unfold nList; rw [h]; show Out.get (seqOf x) δ1 = _; rw [h2]; rfl
theorem v_new {n : NF} {ys : List D} (h : n ρ δ = .ok ys δ1) : eNew n ρ δ = .ok (.lst ys) δ1 := by unfold eNew; rw [h]; rfl
end
theorem nol_vs : ∀ {l : List Int}, nolL (vs l) = true
  | [] => by unfold vs; rw [List.map_nil, nolL]
  | a :: l => by
    show nolL (.int a :: vs l) = true
    rw [nolL, nol_vs]; rfl
theorem nol_tup {l : List Int} : D.nol (.tup (vs l)) = true := by rw [D.nol]; exact nol_vs
theorem set_vs {l : List Int} {k : Nat} {a : Int} : (vs l).set k (.int a) = vs (l.set k a) := by
  unfold vs; rw [List.map_set]
/-! ### comprehensions over ints -/
section
variable {ρ : Ev} {δ : Di} {e : EF} {i j : Nat}
theorem c_map {a : List Int} (F : Int → Int) (hi : i < ρ.length) (he : ∀ x ∈ a, e (ρ.set i (.va (.int x))) δ = .ok (.int (F x)) δ) : compL (gNm i) tYes e ρ (vs a) δ = .ok (vs (a.map F)) δ := by
  have h := comp_map (g := gNm i) (t := tYes) (e := e) (ρ := ρ) (δ := δ) (fun d => match d with | .int x => .int (F x) | _ => .non) (ds := vs a) fun d hd => by
    obtain ⟨x, hx, e1⟩ := List.mem_map.mp hd
    subst e1
    exact ⟨_, g_nm hi, rfl, he x hx⟩
  rw [h]
  unfold vs
  rw [List.map_map, List.map_map]
  rfl
theorem zipF {α β γ : Type} (F : α → β → γ) : ∀ (a : List α) (b : List β), (a.zip b).map (fun q => F q.1 q.2) = List.zipWith F a b
  | [], b => by cases b <;> rfl
  | x :: a, [] => rfl
  | x :: a, y :: b => by
    show F x y :: (a.zip b).map (fun q => F q.1 q.2) = F x y :: List.zipWith F a b
    rw [zipF F a b]
theorem c_zip {a b : List Int} (F : Int → Int → Int) (hi : i < ρ.length) (hj : j < ρ.length) (he : ∀ x ∈ a, ∀ y ∈ b, e ((ρ.set i (.va (.int x))).set j (.va (.int y))) δ = .ok (.int (F x y)) δ) : compL (gTp [gNm i, gNm j]) tYes e ρ (zipL (vs a) (vs b)) δ = .ok (vs (List.zipWith F a b)) δ := by
  rw [zip_map]
  have h := comp_map (g := gTp [gNm i, gNm j]) (t := tYes) (e := e) (ρ := ρ) (δ := δ) (fun d => match d with | .tup [.int x, .int y] => .int (F x y) | _ => .non) (ds := (a.zip b).map fun q => .tup [.int q.1, .int q.2]) fun d hd => by
    obtain ⟨q, hq, e1⟩ := List.mem_map.mp hd
    subst e1
    have hq2 : (q.1, q.2) ∈ a.zip b := hq
    exact ⟨_, g_tp2 hi hj, rfl, he q.1 (List.of_mem_zip hq2).1 q.2 (List.of_mem_zip hq2).2⟩
  rw [h, List.map_map, ← zipF F a b]
  unfold vs
  rw [List.map_map]
  rfl
/-- the places where something holds -/
theorem c_range {n : Nat} (P : Nat → Bool) {t : TF} (hi : i < ρ.length) (ht : ∀ k, k < n → t (ρ.set i (.va (.int k))) δ = .ok (P k) δ) (he : ∀ k, k < n → e (ρ.set i (.va (.int k))) δ = .ok (.int k) δ) : compL (gNm i) t e ρ (rngL 0 n) δ = .ok (((List.range n).filter P).map fun (k : Nat) => D.int k) δ := by
  rw [rng_eq]
  have h := comp_filt (g := gNm i) (t := t) (e := e) (ρ := ρ) (δ := δ) (fun d => match d with | .int x => P x.toNat | _ => false) id (ds := (List.range n).map fun (k : Nat) => D.int k) fun d hd => by
    obtain ⟨k, hk, e1⟩ := List.mem_map.mp hd
    subst e1
    exact ⟨_, g_nm hi, ht k (List.mem_range.mp hk), fun _ => he k (List.mem_range.mp hk)⟩
  rw [h, List.filter_map, List.map_map]
  rfl
theorem c_all {α : Type} {g : GF} {t : TF} (e1 F : α → D) : ∀ {l : List α}, (∀ a ∈ l, ∃ ρ1, g (e1 a) ρ = some ρ1 ∧ t ρ1 δ = .ok true δ ∧ e ρ1 δ = .ok (F a) δ) → compL g t e ρ (l.map e1) δ = .ok (l.map F) δ
  | [], _ => rfl
  | a :: l, h => by
    obtain ⟨ρ1, h1, h2, h3⟩ := h a List.mem_cons_self
    have ih := c_all (g := g) (t := t) e1 F (l := l) fun d hd => h d (List.mem_cons_of_mem _ hd)
    show compL g t e ρ (e1 a :: l.map e1) δ = _
    unfold compL
    rw [h1]
    show (t ρ1 δ).bind _ = _
    rw [h2]
    show (e ρ1 δ).bind _ = _
    rw [h3]
    show (compL g t e ρ (l.map e1) δ).bind _ = _
    rw [ih]
    rfl
end
end Sh
end
section
set_option maxHeartbeats 4000000
/-! E3: what the small functions of k80 give. -/
namespace K80
open PySem PySem.Spec PyProof.Rows L2 Sh
/-- the inverse modulo 2, 3 and 5 -/
def inv (p a : Int) : Int := if a = 2 then (if p = 3 then 2 else 3) else if a = 3 then 2 else if a = 4 then 4 else 1
def P3 (p : Int) : Prop := p = 2 ∨ p = 3 ∨ p = 5
theorem P3.lo {p : Int} (h : P3 p) : 2 ≤ p := by rcases h with h | h | h <;> omega
theorem P3.hi {p : Int} (h : P3 p) : p ≤ 5 := by rcases h with h | h | h <;> omega
theorem P3.pos {p : Int} (h : P3 p) : 0 < p := by have := h.lo; omega
theorem P3.one {p : Int} (h : P3 p) : 1 < p := by have := h.lo; omega
theorem inv_ok {p a : Int} (hp : P3 p) (h1 : 0 < a) (h2 : a < p) : p ∣ a * inv p a - 1 := by
  rcases hp with e | e | e <;> subst e
  · have : a = 1 := by omega
    subst this; decide
  · rcases (by omega : a = 1 ∨ a = 2) with e | e <;> subst e <;> decide
  · rcases (by omega : a = 1 ∨ a = 2 ∨ a = 3 ∨ a = 4) with e | e | e | e <;> subst e <;> decide
theorem inv_rng {p a : Int} (hp : P3 p) (h1 : 0 < a) (h2 : a < p) : 0 ≤ inv p a ∧ inv p a < 5 := by
  unfold inv
  split
  · split <;> omega
  · split
    · omega
    · split <;> omega
theorem c_inv {p a : Int} {i : Nat} {t : TF} {ρ : Ev} {δ : Di} (hp : P3 p) (h1 : 0 < a) (h2 : a < p) (hi : i < ρ.length) (ht : ∀ x : Int, 0 < x → x < p → t (ρ.set i (.va (.int x))) δ = .ok (decide (x * a % p = 1)) δ) : ∃ l : List D, compL (gNm i) t (eVar i) ρ (rngL 1 (p - 1).toNat) δ = .ok (.int (inv p a) :: l) δ ∧ l.length ≤ 5 := by
  have h := comp_filt (g := gNm i) (t := t) (e := eVar i) (ρ := ρ) (δ := δ) (fun d => match d with | .int x => decide (x * a % p = 1) | _ => false) id (ds := rngL 1 (p - 1).toNat) fun d hd => by
    obtain ⟨k, hk, e1⟩ := List.mem_map.mp hd
    subst e1
    have hk := List.mem_range.mp hk
    refine ⟨_, g_nm hi, ht _ (by omega) (by have := hp.lo; omega), fun _ => v_var (List.getElem?_set_self hi)⟩
  rw [h]
  rcases hp with e | e | e <;> subst e
  · have : a = 1 := by omega
    subst this; exact ⟨_, rfl, by decide⟩
  · rcases (by omega : a = 1 ∨ a = 2) with e | e <;> subst e <;> exact ⟨_, rfl, by decide⟩
  · rcases (by omega : a = 1 ∨ a = 2 ∨ a = 3 ∨ a = 4) with e | e | e | e <;> subst e <;> exact ⟨_, rfl, by decide⟩
theorem v_inv {p a : Int} {i : Nat} {vs : List Nat} {t : TF} {fp : EF} {ρ : Ev} {δ : Di} (hp : P3 p) (h1 : 0 < a) (h2 : a < p) (hf : fp ρ δ = .ok (.int p) δ) (hi : i < ρ.length) (ht : ∀ x : Int, 0 < x → x < p → t ((wipeE ρ vs).set i (.va (.int x))) δ = .ok (decide (x * a % p = 1)) δ) : eBin idxD (eComp vs (iRng2 (eC (.int 1)) fp) (gNm i) t (eVar i)) (eC (.int 0)) ρ δ = .ok (.int (inv p a)) δ := by
  obtain ⟨l, hl, hn⟩ := c_inv (ρ := wipeE ρ vs) hp h1 h2 (by rw [wipeE_len]; exact hi) ht
  have := hp.lo; have := hp.hi
  exact v_bin (v_comp (i_rng2 rfl hf (by omega) (by omega) (by omega) (by omega)) hl (by rw [List.length_cons]; exact Nat.le_trans (Nat.succ_le_succ hn) (by decide))) rfl idx0
section
variable {δ : Di} {p a b : Int}
theorem mulP (hp : P3 p) : mulB p := by have := hp.lo; have := hp.hi; exact mulB_of (by omega) (by omega)
theorem x_int : f_is_integer [.int a] δ = .ok (.bl true) δ := rfl
theorem x_within {lo hi : Int} (h : lo ≤ a) (h2 : a ≤ hi) : f_is_within [.int a, .int lo, .int hi] δ = .ok (.bl true) δ := by
  refine r_run (ρ' := [.va (.int a), .va (.int lo), .va (.int hi)]) (s_ret ?_)
  refine v_and_t (v_call (v_cons (v_var rfl) v_nil) rfl x_int) ?_
  have e1 : leD (.int lo) (.int a) = some (.bl true) := congrArg (fun k => some (D.bl k)) (decide_eq_true h)
  have e2 : leD (.int a) (.int hi) = some (.bl true) := congrArg (fun k => some (D.bl k)) (decide_eq_true h2)
  exact v_chain (v_var rfl) (v_var rfl) e1 (v_var rfl) e2
theorem x_power (hp : P3 p) {n : Nat} (hn : n < 4) : f_power_of [.int p, .int n] δ = .ok (.int (p ^ n)) δ := by
  rcases hp with e | e | e <;> subst e <;> rcases (by omega : n = 0 ∨ n = 1 ∨ n = 2 ∨ n = 3) with e | e | e | e <;> subst e <;> kernel_rfl
theorem x_inverse (hp : P3 p) (h1 : 0 < a) (h2 : a < p) : f_inverse_of [.int p, .int a] δ = .ok (.int (inv p a)) δ := by
  have := hp.lo; have := hp.hi
  refine r_run (ρ' := [.va (.int p), .va (.int a), .em]) (s_ret ?_)
  refine v_inv (i := 2) hp h1 h2 (v_var rfl) (lt' rfl) fun x hx hx2 => t_of ?_
  exact v_bin (v_bin (v_bin (v_var rfl) (v_var rfl) (mulD_ok (.inl (mulB_of (by omega) (by omega))))) (v_var rfl) (modD_ok hp.pos)) rfl (eqD_int _ _)
end
end K80
end
section
set_option maxHeartbeats 4000000
/-! E4: statements run towards what is wanted after them. -/
namespace Sh
open PySem PySem.Spec PyProof.Rows L2
inductive Wp (o : OutS) (N : Ev → Di → Prop) (R : D → Di → Prop) : Prop
  | nx (ρ : Ev) (δ : Di) (h : o = .ok .nx ρ δ) (h2 : N ρ δ)
  | rt (d : D) (ρ : Ev) (δ : Di) (h : o = .ok (.rt d) ρ δ) (h2 : R d δ)
section
variable {N N1 : Ev → Di → Prop} {R : D → Di → Prop} {ρ ρ1 : Ev} {δ δ1 δ2 : Di} {f : EF} {s s1 s2 : SF} {d x y z : D} {i j : Nat} {o : OutS}
theorem w_is {ρ1 : Ev} (h : o = .ok .nx ρ1 δ1) (h2 : N ρ1 δ1) : Wp o N R := .nx _ _ h h2
theorem w_mono (h : Wp o N1 R) (h2 : ∀ ρ δ, N1 ρ δ → N ρ δ) : Wp o N R := by
  cases h with
  | nx ρ δ h h3 => exact .nx _ _ h (h2 _ _ h3)
  | rt d ρ δ h h3 => exact .rt _ _ _ h h3
theorem w_seq (h : Wp (s1 ρ δ) (fun ρ1 δ1 => Wp (s2 ρ1 δ1) N R) R) : Wp (sSeq s1 s2 ρ δ) N R := by
  cases h with
  | nx ρ δ h h3 => rw [s_seq h rfl]; exact h3
  | rt d ρ1 δ1 h h3 =>
    refine .rt d ρ1 δ1 ?_ h3
    unfold sSeq
    rw [h]
theorem w_nil (h : N ρ δ) : Wp (sNil ρ δ) N R := .nx _ _ rfl h
theorem w_asg {g : GF} (h : f ρ δ = .ok d δ1) (h1 : g d ρ = some ρ1) (h2 : N ρ1 δ1) : Wp (sAsg g f ρ δ) N R := w_is (s_asg h h1) h2
/-- x = e -/
theorem w_let (h : f ρ δ = .ok d δ1) (h1 : Nat.blt i ρ.length = true) (h2 : N (ρ.set i (.va d)) δ1) : Wp (sAsg (gNm i) f ρ δ) N R := w_is (s_asg h (g_nm (lt' h1))) h2
theorem w_ret (h : f ρ δ = .ok d δ1) (h2 : R d δ1) : Wp (sRet f ρ δ) N R := .rt _ _ _ (s_ret h) h2
theorem w_if {t : TF} {k : Bool} (h : t ρ δ = .ok k δ1) (ht : k = true → Wp (s1 ρ δ1) N R) (hf : k = false → Wp (s2 ρ δ1) N R) : Wp (sIf t s1 s2 ρ δ) N R := by
  rw [s_if h rfl]
  cases k with
  | true => exact ht rfl
  | false => exact hf rfl
theorem w_own {n : NF} {ys : List D} (h : n ρ δ = .ok ys δ1) (hi : Nat.blt i ρ.length = true) (h2 : N (ρ.set i (.ow ys)) δ1) : Wp (sOwn i n ρ δ) N R := w_is (s_own h (lt' hi)) h2
theorem w_fz {xs : List D} (h : ρ[i]? = some (.ow xs)) (h2 : Wp (s (ρ.set i (.va (.lst xs))) δ) N R) : Wp (sFz i s ρ δ) N R := by rw [s_fz h rfl]; exact h2
theorem w_app {xs : List D} (h : ρ[i]? = some (.ow xs)) (h2 : f ρ δ = .ok d δ1) (hl : xs.length < lim) (h3 : N (ρ.set i (.ow (xs ++ [d]))) δ1) : Wp (sAppend i f ρ δ) N R := w_is (s_app h h2 hl) h3
theorem w_setI {fe : EF} {xs : List D} {k : Nat} (h : f ρ δ = .ok d δ1) (h1 : ρ[i]? = some (.ow xs)) (h2 : fe ρ δ1 = .ok (.int k) δ2) (hk : k < xs.length) (h3 : N (ρ.set i (.ow (xs.set k d))) δ2) : Wp (sSetI i fe f ρ δ) N R := w_is (s_setI h h1 h2 hk) h3
theorem w_par {fs : AF} (h : fs ρ δ = .ok [x, y] δ1) (hi : Nat.blt i ρ.length = true) (hj : Nat.blt j ρ.length = true) (h3 : N ((ρ.set i (.va x)).set j (.va y)) δ1) : Wp (sPar i j fs ρ δ) N R := w_is (s_par h (lt' hi) (lt' hj)) h3
theorem w_parO {n : NF} {ys : List D} (h : n ρ δ = .ok ys δ1) (h2 : f ρ δ1 = .ok x δ2) (hi : Nat.blt i ρ.length = true) (hj : Nat.blt j ρ.length = true) (ne : i ≠ j) (h3 : N ((ρ.set i (.ow ys)).set j (.va x)) δ2) : Wp (sParO i j n f ρ δ) N R := w_is (s_parO h h2 (lt' hi) (lt' hj) ne) h3
theorem w_drop (h : f ρ δ = .ok d δ1) (h3 : N ρ δ1) : Wp (sDrop f ρ δ) N R := w_is (s_drop h) h3
theorem w_aug {g : D → D → Option D} (h : ρ[i]? = some (.va x)) (h2 : f ρ δ = .ok y δ1) (h3 : g x y = some z) (h4 : N (ρ.set i (.va z)) δ1) : Wp (sAug g i f ρ δ) N R := w_is (s_aug h h2 h3) h4
theorem w_run {n : Nat} {b : SF} {ds : List D} (h : Wp (b (startE n ds) δ) (fun _ _ => False) fun d δ2 => d = z ∧ δ2 = δ1) : runF n b ds δ = .ok z δ1 := by
  cases h with
  | nx ρ δ h h3 => exact h3.elim
  | rt d ρ δ h h3 => rw [r_run h, h3.1, h3.2]
theorem w_runE {n : Nat} {b : SF} {ds : List D} {Q : D → Di → Prop} (h : Wp (b (startE n ds) δ) (fun _ _ => False) Q) : ∃ d δ1, runF n b ds δ = .ok d δ1 ∧ Q d δ1 := by
  cases h with
  | nx ρ δ h h3 => exact h3.elim
  | rt d ρ δ h h3 => exact ⟨_, _, r_run h, h3⟩
/-- a loop: what holds with the rest to come -/
theorem w_for {it : IF} {g : GF} {ds : List D} (J : List D → Ev → Di → Prop) (hi : it ρ δ = .ok ds δ1) (h0 : J ds ρ δ1) (hs : ∀ d ds ρ δ, J (d :: ds) ρ δ → ∃ ρ1, g d ρ = some ρ1 ∧ Wp (s ρ1 δ) (J ds) R) (hq : ∀ ρ δ, J [] ρ δ → N ρ δ) : Wp (sFor it g s ρ δ) N R := by
  rw [s_for hi rfl]
  clear hi
  induction ds generalizing ρ δ1 with
  | nil => exact .nx _ _ rfl (hq _ _ h0)
  | cons d ds ih =>
    obtain ⟨ρ1, h1, h2⟩ := hs d ds ρ δ1 h0
    cases h2 with
    | nx ρ5 δ5 e h3 =>
      have h4 := ih h3
      unfold forL
      rw [h1]
      dsimp only
      rw [e]
      exact h4
    | rt d ρ5 δ5 e h3 =>
      refine .rt d ρ5 δ5 ?_ h3
      unfold forL
      rw [h1]
      dsimp only
      rw [e]
/-- a loop that gathers; the number says how many are still to come -/
theorem w_foldN {α σ : Type} {it : IF} {g : GF} {l : List α} {st : σ} (e : α → D) (St : Nat → σ → Ev → Prop) (step : σ → α → σ) (hi : it ρ δ = .ok (l.map e) δ) (h0 : St l.length st ρ) (hs : ∀ a ∈ l, ∀ k st ρ, St (k + 1) st ρ → ∃ ρ1, g (e a) ρ = some ρ1 ∧ Wp (s ρ1 δ) (fun ρ2 δ2 => δ2 = δ ∧ St k (step st a) ρ2) R) (hq : ∀ ρ, St 0 (l.foldl step st) ρ → N ρ δ) : Wp (sFor it g s ρ δ) N R := by
  refine w_for (fun ds ρ δ2 => δ2 = δ ∧ ∃ l2 st2, ds = l2.map e ∧ (∀ a ∈ l2, a ∈ l) ∧ l2.foldl step st2 = l.foldl step st ∧ St l2.length st2 ρ) hi ⟨rfl, l, st, rfl, fun _ h => h, rfl, h0⟩ ?_ ?_
  · rintro d ds ρ δ2 ⟨e0, l2, st2, e1, h1, h2, h3⟩
    subst e0
    cases l2 with
    | nil => cases e1
    | cons a l2 =>
      cases e1
      obtain ⟨ρ1, h4, h5⟩ := hs a (h1 a List.mem_cons_self) l2.length st2 ρ h3
      exact ⟨ρ1, h4, w_mono h5 fun ρ2 δ3 h6 => ⟨h6.1, l2, step st2 a, rfl, fun b hb => h1 b (List.mem_cons_of_mem _ hb), h2, h6.2⟩⟩
  · rintro ρ δ2 ⟨e0, l2, st2, e1, h1, h2, h3⟩
    subst e0
    have : l2 = [] := List.map_eq_nil_iff.mp e1.symm
    subst this
    exact hq ρ (by rw [← h2]; exact h3)
theorem w_fold {α σ : Type} {it : IF} {g : GF} {l : List α} {st : σ} (e : α → D) (St : σ → Ev → Prop) (step : σ → α → σ) (hi : it ρ δ = .ok (l.map e) δ) (h0 : St st ρ) (hs : ∀ a ∈ l, ∀ st ρ, St st ρ → ∃ ρ1, g (e a) ρ = some ρ1 ∧ Wp (s ρ1 δ) (fun ρ2 δ2 => δ2 = δ ∧ St (step st a) ρ2) R) (hq : ∀ ρ, St (l.foldl step st) ρ → N ρ δ) : Wp (sFor it g s ρ δ) N R :=
  w_foldN e (fun _ => St) step hi h0 (fun a ha _ st ρ h => hs a ha st ρ h) hq
/-- while -/
theorem w_wh {t : TF} {n : Nat} (J : Nat → Ev → Di → Prop) (h0 : J n ρ δ) (hs : ∀ n ρ δ, J n ρ δ → ∃ m k, n = m + 1 ∧ t ρ δ = .ok k δ ∧ (k = false → N ρ δ) ∧ (k = true → Wp (s ρ δ) (J m) R)) : Wp (whL t s n ρ δ) N R := by
  induction n generalizing ρ δ with
  | zero => obtain ⟨m, _, h, _⟩ := hs 0 ρ δ h0; cases h
  | succ n ih =>
    obtain ⟨m, k, h, h1, h2, h3⟩ := hs (n + 1) ρ δ h0
    cases h
    unfold whL
    rw [h1]
    cases k with
    | false => exact .nx _ _ rfl (h2 rfl)
    | true =>
      dsimp only
      cases h3 rfl with
      | nx ρ5 δ5 e h4 => rw [e]; exact ih h4
      | rt d ρ5 δ5 e h4 => refine .rt d ρ5 δ5 ?_ h4; rw [e]
end
theorem leD_i (a b : Int) : leD (.int a) (.int b) = some (.bl (decide (a ≤ b))) := rfl
theorem ltD_i (a b : Int) : ltD (.int a) (.int b) = some (.bl (decide (a < b))) := rfl
theorem geD_i (a b : Int) : geD (.int a) (.int b) = some (.bl (decide (b ≤ a))) := rfl
theorem gtD_i (a b : Int) : gtD (.int a) (.int b) = some (.bl (decide (b < a))) := rfl
theorem addD_i (a b : Int) : addD (.int a) (.int b) = some (.int (a + b)) := rfl
theorem subD_i (a b : Int) : subD (.int a) (.int b) = some (.int (a - b)) := rfl
theorem zip_self {α : Type} (f g : α → D) : ∀ l : List α, zipL (l.map f) (l.map g) = l.map fun q => .tup [f q, g q]
  | [] => rfl
  | x :: l => by
    show .tup [f x, g x] :: zipL (l.map f) (l.map g) = _
    rw [zip_self f g l]; rfl
end Sh
end
section
set_option maxHeartbeats 4000000
/-! E5: data that may be compared. -/
namespace Sh
open PySem PySem.Spec PyProof.Rows L2
structure Nice (n : Nat) (d : D) : Prop where
  nod : d.nod = true
  lay : PyData.canLay0 d.py = true
  dep : PyData.depth d.py ≤ n
  rf : PyData.eqv d.py d.py = true
structure NiceL (n : Nat) (ds : List D) : Prop where
  nod : nodL ds = true
  lay : PyData.canLayAll0 (pyL ds) = true
  dep : PyData.depthAll (pyL ds) ≤ n
  rf : PyData.eqvAll (pyL ds) (pyL ds) = true
theorem NiceL.of {n : Nat} : ∀ {ds : List D}, (∀ d ∈ ds, Nice n d) → NiceL n ds
  | [], _ => ⟨rfl, by rw [pyL, PyData.canLayAll0], by rw [pyL, PyData.depthAll]; omega, by rw [pyL, PyData.eqvAll]⟩
  | d :: ds, h => by
    have h1 := h d List.mem_cons_self
    have h2 := NiceL.of fun d hd => h d (List.mem_cons_of_mem _ hd)
    refine ⟨?_, ?_, ?_, ?_⟩
    · rw [nodL, h1.nod, h2.nod]; rfl
    · rw [pyL, PyData.canLayAll0, h1.lay, h2.lay]; rfl
    · rw [pyL, PyData.depthAll]; exact Nat.max_le.mpr ⟨h1.dep, h2.dep⟩
    · rw [pyL, PyData.eqvAll, h1.rf, h2.rf]; rfl
theorem nice_int {n : Nat} {a : Int} : Nice n (.int a) := ⟨rfl, by rw [D.py, PyData.canLay0], by rw [D.py, PyData.depth]; omega, by rw [D.py, eqv_int, decide_eq_true rfl]⟩
theorem nice_lst {n : Nat} {ds : List D} (h : ∀ d ∈ ds, Nice n d) : Nice (n + 1) (.lst ds) := by
  have h := NiceL.of h
  exact ⟨h.nod, by rw [D.py, PyData.canLay0]; exact h.lay, by rw [D.py, PyData.depth]; exact Nat.succ_le_succ h.dep, by rw [D.py, PyData.eqv]; exact h.rf⟩
theorem nice_tup {n : Nat} {ds : List D} (h : ∀ d ∈ ds, Nice n d) : Nice (n + 1) (.tup ds) := by
  have h := NiceL.of h
  exact ⟨h.nod, by rw [D.py, PyData.canLay0]; exact h.lay, by rw [D.py, PyData.depth]; exact Nat.succ_le_succ h.dep, by rw [D.py, PyData.eqv]; exact h.rf⟩
theorem nice_vs {n : Nat} {l : List Int} : ∀ d ∈ vs l, Nice n d := fun d hd => by
  obtain ⟨a, _, e⟩ := List.mem_map.mp hd
  subst e; exact nice_int
theorem Nice.shaped {n : Nat} {d : D} (h : Nice n d) (hn : n ≤ 64) : SeqAt.shaped d.py = true := by
  unfold SeqAt.shaped
  rw [h.lay, decide_eq_true (Nat.le_trans h.dep hn)]; rfl
theorem Nice.ok {n m : Nat} {d e : D} (h : Nice n d) (h2 : Nice m e) (hn : n ≤ 64) (hm : m ≤ 64) : eqOk d e = true := by
  unfold eqOk
  rw [h.nod, h2.nod, h.shaped hn, h2.shaped hm]; rfl
theorem eqD_same {n : Nat} {d : D} (h : Nice n d) (hn : n ≤ 64) : eqD d d = some (.bl true) := by
  unfold eqD
  rw [if_pos (h.ok h hn hn), h.rf]
theorem neD_same {n : Nat} {d : D} (h : Nice n d) (hn : n ≤ 64) : neD d d = some (.bl false) := by
  unfold neD
  rw [if_pos (h.ok h hn hn), h.rf]; rfl
theorem nice_nil {n : Nat} : Nice (n + 1) (.lst []) := nice_lst fun _ h => nomatch h
theorem nice_nilT {n : Nat} : Nice (n + 1) (.tup []) := nice_tup fun _ h => nomatch h
theorem nil_py {xs : List D} : PyData.eqvAll (pyL xs) [] = xs.isEmpty := by
  cases xs with
  | nil => rw [pyL, PyData.eqvAll]; rfl
  | cons x xs => rw [pyL, PyData.eqvAll]; rfl
theorem eqD_nil {n : Nat} {xs : List D} (h : ∀ d ∈ xs, Nice n d) (hn : n < 64) : eqD (.lst xs) (.lst []) = some (.bl xs.isEmpty) := by
  unfold eqD
  rw [if_pos ((nice_lst h).ok (nice_nil (n := 0)) (by omega) (by decide)), D.py, D.py, PyData.eqv, pyL, nil_py]
theorem neD_nil {n : Nat} {xs : List D} (h : ∀ d ∈ xs, Nice n d) (hn : n < 64) : neD (.lst xs) (.lst []) = some (.bl !xs.isEmpty) := by
  unfold neD
  rw [if_pos ((nice_lst h).ok (nice_nil (n := 0)) (by omega) (by decide)), D.py, D.py, PyData.eqv, pyL, nil_py]
theorem eqD_nilT {n : Nat} {xs : List D} (h : ∀ d ∈ xs, Nice n d) (hn : n < 64) : eqD (.tup xs) (.tup []) = some (.bl xs.isEmpty) := by
  unfold eqD
  rw [if_pos ((nice_tup h).ok (nice_nilT (n := 0)) (by omega) (by decide)), D.py, D.py, PyData.eqv, pyL, nil_py]
theorem neD_nilT {n : Nat} {xs : List D} (h : ∀ d ∈ xs, Nice n d) (hn : n < 64) : neD (.tup xs) (.tup []) = some (.bl !xs.isEmpty) := by
  unfold neD
  rw [if_pos ((nice_tup h).ok (nice_nilT (n := 0)) (by omega) (by decide)), D.py, D.py, PyData.eqv, pyL, nil_py]
end Sh
end
section
set_option maxHeartbeats 4000000
/-! E6: kernel_rows. -/
namespace K80
open PySem PySem.Spec PyProof.Rows L2 Sh LA
abbrev lD (left : Pr) : List D := left.map fun q => .int (q.1 : Nat)
abbrev rD (left : Pr) : List D := left.map fun q => .lst (vs q.2)
abbrev qD (A : List (List Int)) : List D := A.map fun r => .lst (vs r)
theorem lim_of {n : Nat} (h : n ≤ 1000000) : n ≤ lim := Nat.le_trans h (by decide)
theorem len_vs {l : List Int} {n : Nat} (h : l.length ≤ n) (hn : n ≤ 1000000) : (vs l).length ≤ lim := by rw [List.length_map]; exact lim_of (by omega)
theorem Inv.len {p : Int} {m : Nat} {A : List (List Int)} {left : Pr} (I : Inv p m A left) : left.length ≤ m := by
  have h := List.Nodup.length_le_of_subset I.own.nd (l₂ := List.range m) fun x hx => by
    obtain ⟨q, hq, e⟩ := List.mem_map.mp hx
    obtain ⟨r, hr, e2⟩ := mem_evP hq
    subst e e2
    exact List.mem_range.mpr (I.row r hr).2
  rw [List.length_map, List.length_map, List.length_range] at h
  exact h
theorem lst_ok {ds : List D} {n : Nat} (h : ds.length ≤ n) (hn : n ≤ 1000000) : lstF ds = some (.lst ds) := if_pos (lim_of (Nat.le_trans h hn))
theorem subR_len {p c : Int} {a b : List Int} {m : Nat} (ha : a.length = m) : (subR p a c b).length ≤ m := by
  unfold subR; rw [List.length_zipWith]; omega
theorem mulR_len {p c : Int} {a : List Int} {m : Nat} (ha : a.length = m) : (mulR p a c).length ≤ m := by
  unfold mulR; rw [List.length_map]; omega
section
variable {p : Int} {m : Nat} {A : List (List Int)} {δ : Di}
theorem step_nil {left : Pr} {row : List Int} (h : nzs m (redL p left row) = []) : stepL p (inv p) m left row = left := by unfold stepL; rw [h]
theorem step_cons {left : Pr} {row : List Int} {l : Nat} {t : List Nat} (h : nzs m (redL p left row) = l :: t) : stepL p (inv p) m left row = left.map (fun q => (q.1, subR p q.2 (q.2.getD l 0) (mulR p (redL p left row) (inv p ((redL p left row).getD l 0))))) ++ [(l, mulR p (redL p left row) (inv p ((redL p left row).getD l 0)))] := by unfold stepL; rw [h]
abbrev kr (p : Int) (M : Int) (A : List (List Int)) (left : Pr) (x5 x6 x7 x8 x9 x10 x11 : Sl) : Ev := [.va (.int p), .va (.lst (qD A)), .va (.int M), .va (.lst (lD left)), .va (.lst (rD left)), x5, x6, x7, x8, x9, x10, x11, .em, .em, .em, .em, .em]
abbrev kf (p : Int) (M : Int) (A : List (List Int)) (left : Pr) (x5 x6 x7 x8 x9 x10 x11 : Sl) (xs : List D) (x13 x14 : Sl) : Ev := [.va (.int p), .va (.lst (qD A)), .va (.int M), .va (.lst (lD left)), .va (.lst (rD left)), x5, x6, x7, x8, x9, x10, x11, .ow xs, x13, x14, .em, .em]
theorem mulR' (hp : P3 p) {a b : Int} (h : 0 ≤ a) (h2 : a < p) : mulB a ∨ mulB b := .inl (mulB_of (by omega) (by have := hp.hi; omega))
theorem in_flat : ∀ {l : Pr}, flL (lD l) = some (l.map fun q => V.int (q.1 : Nat))
  | [] => rfl
  | q :: l => by
    show (match flD (.int (q.1 : Nat)), flL (lD l) with | some v, some vs => some (v :: vs) | _, _ => none) = _
    rw [in_flat (l := l)]
    rfl
theorem in_leads {left : Pr} {f : Nat} : inD true (.int f) (.lst (lD left)) = some (.bl (!(leadsL left).contains f)) := by
  show (match flD (.int f), flL (lD left) with | some v, some vs => some (D.bl (if true then !inV v vs else inV v vs)) | _, _ => none) = _
  rw [in_flat]
  show some (D.bl (!inV (V.int f) (left.map fun q => V.int (q.1 : Nat)))) = _
  congr 3
  unfold inV leadsL
  induction left with
  | nil => rfl
  | cons q l ih =>
    rw [List.map_cons, List.map_cons, List.any_cons, List.contains_cons, ih]
    congr 1
    show ((q.1 : Int) == (f : Int)) = (f == q.1)
    by_cases h : f = q.1
    · subst h; simp
    · rw [beq_eq_false_iff_ne.mpr h]
      exact beq_eq_false_iff_ne.mpr fun e => h (Int.ofNat.inj e).symm
theorem red_fold : ∀ {left : Pr} {row : List Int}, left.foldl (fun r q => subR p r (r.getD q.1 0) q.2) row = redL p left row
  | [], _ => rfl
  | q :: l, row => red_fold (left := l)
theorem ne_nil {l : List Nat} : neD (.lst (l.map fun (k : Nat) => D.int k)) (.lst []) = some (.bl !l.isEmpty) := by
  rw [neD_nil (n := 0) (fun d hd => by
    obtain ⟨k, _, e⟩ := List.mem_map.mp hd
    subst e; exact nice_int) (by decide), List.isEmpty_map]
theorem nzs_len {l : List Int} : (nzs m l).length ≤ m := by
  unfold nzs
  exact Nat.le_trans (List.length_filter_le _ _) (by rw [List.length_range]; exact Nat.le_refl _)
theorem len_nzs {l : List Int} (h : m ≤ 1000000) : (((List.range m).filter fun k => l.getD k 0 != 0).map fun (k : Nat) => D.int k).length ≤ lim := by
  rw [List.length_map]; exact lim_of (Nat.le_trans (nzs_len (m := m) (l := l)) h)
theorem neD_b (a b : Int) : neD (.int a) (.int b) = some (.bl (a != b)) := by
  rw [neD_int]
  by_cases h : a = b
  · subst h; simp
  · simp [h]
theorem x_nzs {ρ : Ev} {i : Nat} {r : List Int} {ws : List Nat} {t : TF} {fm : EF} {M : Int} (hf : fm ρ δ = .ok (.int M) δ) (hM : M = m) (hi : i < ρ.length) (hm : m ≤ 1000000) (ht : ∀ k, k < m → t ((wipeE ρ ws).set i (.va (.int k))) δ = .ok (r.getD k 0 != 0) δ) : eComp ws (iRng1 fm) (gNm i) t (eVar i) ρ δ = .ok (.lst ((nzs m r).map fun (k : Nat) => D.int k)) δ := by
  have hi2 : i < (wipeE ρ ws).length := by rw [wipeE_len]; exact hi
  exact v_comp (i_rngM hf hM hm) (c_range (fun k => r.getD k 0 != 0) hi2 ht fun k hk => v_var (List.getElem?_set_self hi2)) (len_nzs hm)
theorem foldl_filt {α β : Type} {P : α → Bool} {g : α → β} : ∀ {l : List α} {xs : List β}, l.foldl (fun xs f => if P f = true then xs ++ [g f] else xs) xs = xs ++ (l.filter P).map g
  | [], xs => by simp
  | a :: l, xs => by
    rw [List.foldl_cons, foldl_filt]
    cases h : P a with
    | true => rw [if_pos rfl, List.filter_cons_of_pos h, List.map_cons, List.append_assoc]; rfl
    | false => rw [if_neg Bool.false_ne_true, List.filter_cons_of_neg (by rw [h]; exact Bool.false_ne_true)]
theorem lD_app {left : Pr} {l : Nat} {v : List Int} {G : List Int → List Int} : lD (left.map (fun q => (q.1, G q.2)) ++ [(l, v)]) = lD left ++ [.int l] := by
  unfold lD; rw [List.map_append, List.map_map]; rfl
theorem rD_app {left : Pr} {l : Nat} {v : List Int} {G : List Int → List Int} : rD (left.map (fun q => (q.1, G q.2)) ++ [(l, v)]) = left.map (fun q => .lst (vs (G q.2))) ++ [.lst (vs v)] := by
  unfold rD; rw [List.map_append, List.map_map]; rfl
theorem set_fold {left : Pr} {f : Nat} : left.foldl (fun t q => t.set q.1 ((0 - q.2.getD f 0) % p)) ((List.replicate m (0 : Int)).set f 1) = vfL p m left f := by
  unfold vfL setsL; rw [List.foldl_map]
theorem x_kernel_rows {M : Int} (hM : M = m) (hp : P3 p) (hA : ∀ r ∈ A, Row p m r) (hm : m ≤ 1000) : f_kernel_rows [.int p, .lst (qD A), .int M] δ = .ok (.lst ((freesL m (elimL p (inv p) m A)).map fun f => .tup (vs (vfL p m (elimL p (inv p) m A) f)))) δ := by
  have hlo := hp.lo
  have hhi := hp.hi
  refine w_run (w_seq (w_par (v_cons (v_arg v_nil rfl) (v_cons (v_arg v_nil rfl) v_nil)) rfl rfl ?_))
  refine w_seq (w_fold (l := A) (st := ([] : Pr)) (fun r => .lst (vs r)) (fun left ρ => (∃ done, Inv p m done left) ∧ ∃ x5 x6 x7 x8 x9 x10 x11, ρ = kr p M A left x5 x6 x7 x8 x9 x10 x11) (stepL p (inv p) m) (i_seq (v_var rfl) rfl) ⟨⟨[], Inv.nil⟩, _, _, _, _, _, _, _, rfl⟩ ?_ ?_)
  · rintro row hrow left ρ ⟨⟨done, I⟩, x5, x6, x7, x8, x9, x10, x11, rfl⟩
    refine ⟨_, g_nm (lt' rfl), w_seq (w_let (v_arg (v_cons (v_var rfl) v_nil) rfl) rfl ?_)⟩
    refine w_seq (w_fold (l := left) (st := row) (fun q => .tup [.int (q.1 : Nat), .lst (vs q.2)]) (fun r ρ => Row p m r ∧ ∃ x7 x8 x9, ρ = kr p M A left (.va (.lst (vs row))) (.va (.lst (vs r))) x7 x8 x9 x10 x11) (fun r q => subR p r (r.getD q.1 0) q.2) (i_zip (v_var rfl) (v_var rfl) rfl rfl |>.trans (by rw [zip_self])) ⟨hA row hrow, _, _, _, rfl⟩ ?_ ?_)
    · rintro q hq r ρ ⟨hr, x7, x8, x9, rfl⟩
      have hq1 := I.row q hq
      have hc := hr.at hq1.2
      refine ⟨_, g_tp2 (lt' rfl) (lt' rfl), w_seq (w_let (v_bin (v_var rfl) (v_var rfl) (vs_at (by rw [hr.len]; exact hq1.2))) rfl (w_let (v_comp (i_zip (v_var rfl) (v_var rfl) rfl rfl) (c_zip (fun one other => (one - r.getD q.1 0 * other) % p) (lt' rfl) (lt' rfl) fun x hx y hy => ?_) (len_vs (subR_len (p := p) hr.len) (by omega))) rfl ⟨rfl, subR_row hp.pos hr hq1.1, _, _, _, rfl⟩))⟩
      exact v_bin (v_bin (v_var rfl) (v_bin (v_var rfl) (v_var rfl) (mulD_ok (mulR' hp hc.1 hc.2))) rfl) (v_var rfl) (modD_ok hp.pos)
    · rintro ρ ⟨hr, x7, x8, x9, rfl⟩
      rw [red_fold] at hr ⊢
      generalize hrr : redL p left row = r at hr ⊢
      have hstep := fun (L : Pr) (h : L = stepL p (inv p) m left row) => h
      refine w_seq (w_let (x_nzs (r := r) (v_var rfl) hM (lt' rfl) (by omega) fun k hk => t_of (v_bin (v_bin (v_var rfl) (v_var rfl) (vs_at (by rw [hr.len]; exact hk))) rfl (neD_b _ _))) rfl ?_)
      refine w_if (t_of (v_bin (v_var rfl) (v_arg v_nil rfl) (ne_nil (l := nzs m r)))) (fun hk => ?_) fun hk => ?_
      · cases hn : nzs m r with
        | nil => rw [hn] at hk; cases hk
        | cons l t =>
          obtain ⟨h1, h2, h3⟩ := nzs_cons hn
          have ha := hr.at h2
          have h0 : 0 < r.getD l 0 := by
            have : r.getD l 0 ≠ 0 := h1
            have := ha.1
            show 0 < ev r l
            omega
          have hi := inv_rng hp h0 ha.2
          have hs := I.step hp.one (fun a => inv_ok hp) (hA row hrow)
          have e2 := step_cons (p := p) (left := left) (row := row) (by rw [hrr]; exact hn)
          rw [hrr] at e2
          have hmr := mulR_row (c := inv p (r.getD l 0)) hp.pos hr.len
          have hl2 := Inv.len I
          refine w_seq (w_let (v_call (v_cons (v_var rfl) (v_cons (v_bin (v_var rfl) (v_bin (v_var rfl) rfl idx0) (vs_at (by rw [hr.len]; exact h2))) v_nil)) rfl (x_inverse hp h0 ha.2)) rfl ?_)
          refine w_seq (w_let (v_comp (i_seq (v_var rfl) rfl) (c_map (fun one => one * inv p (r.getD l 0) % p) (lt' rfl) fun x hx => v_bin (v_bin (v_var rfl) (v_var rfl) (mulD_ok (.inr (mulB_of (by omega) (by omega))))) (v_var rfl) (modD_ok hp.pos)) (len_vs (mulR_len (p := p) hr.len) (by omega))) rfl ?_)
          refine w_seq (w_let (v_comp (i_seq (v_var rfl) rfl) (c_all (fun (q : Nat × List Int) => D.lst (vs q.2)) (fun q => .lst (vs (subR p q.2 (q.2.getD l 0) (mulR p r (inv p (r.getD l 0)))))) fun q hq => ⟨_, g_nm (lt' rfl), rfl, ?_⟩) (by rw [List.length_map]; exact lim_of (by omega))) rfl ?_)
          · have hq1 := (I.row q hq).1
            have hc := hq1.at h2
            refine v_comp (i_zip (v_var rfl) (v_var rfl) rfl rfl) (c_zip (fun one other => (one - q.2.getD l 0 * other) % p) (lt' rfl) (lt' rfl) fun x hx y hy => ?_) (len_vs (subR_len (p := p) hq1.len) (by omega))
            exact v_bin (v_bin (v_var rfl) (v_bin (v_bin (v_var rfl) (v_bin (v_var rfl) rfl idx0) (vs_at (by rw [hq1.len]; exact h2))) (v_var rfl) (mulD_ok (mulR' hp hc.1 hc.2))) rfl) (v_var rfl) (modD_ok hp.pos)
          · refine w_par (v_cons (v_arg (v_star (v_var rfl) rfl (v_cons (v_bin (v_var rfl) rfl idx0) v_nil)) (lst_ok (n := m + 1) (by rw [List.length_append, List.length_map]; exact Nat.succ_le_succ hl2) (by omega))) (v_cons (v_arg (v_star (v_var rfl) rfl (v_cons (v_var rfl) v_nil)) (lst_ok (n := m + 1) (by rw [List.length_append, List.length_map]; exact Nat.succ_le_succ hl2) (by omega))) v_nil)) rfl rfl ⟨rfl, ⟨_, hs⟩, ?_⟩
            rw [e2]
            unfold kr
            rw [lD_app (G := fun v => subR p v (v.getD l 0) (mulR p r (inv p (r.getD l 0)))), rD_app (G := fun v => subR p v (v.getD l 0) (mulR p r (inv p (r.getD l 0))))]
            exact ⟨_, _, _, _, _, _, _, rfl⟩
      · cases hn : nzs m r with
        | cons l t => rw [hn] at hk; cases hk
        | nil =>
          have e2 := step_nil (p := p) (left := left) (row := row) (by rw [hrr]; exact hn)
          have hs := I.step hp.one (fun a => inv_ok hp) (hA row hrow)
          refine w_nil ⟨rfl, ⟨_, hs⟩, ?_⟩
          rw [e2]
          exact ⟨_, _, _, _, _, _, _, rfl⟩
  · rintro ρ ⟨⟨done, I⟩, x5, x6, x7, x8, x9, x10, x11, rfl⟩
    rw [show A.foldl (stepL p (inv p) m) [] = elimL p (inv p) m A from rfl] at I ⊢
    generalize elimL p (inv p) m A = left at I ⊢
    refine w_seq (w_own (n_lst v_nil (Nat.zero_le _)) rfl ?_)
    refine w_seq (w_foldN (l := List.range m) (st := ([] : List D)) (fun (f : Nat) => .int f) (fun k xs ρ => xs.length + k ≤ m ∧ ∃ x7 x8 x13 x14, ρ = kf p M A left x5 x6 x7 x8 x9 x10 x11 xs x13 x14) (fun xs f => if (!(leadsL left).contains f) = true then xs ++ [.tup (vs (vfL p m left f))] else xs) ((i_rngM (v_var rfl) hM (by omega)).trans (by rw [rng_eq])) ⟨by rw [List.length_range, List.length_nil]; omega, _, _, _, _, rfl⟩ ?_ ?_)
    · rintro f hf n xs ρ ⟨hl, x7, x8, x13, x14, rfl⟩
      have hf := List.mem_range.mp hf
      refine ⟨_, g_nm (lt' rfl), w_if (t_of (v_bin (v_var rfl) (v_var rfl) in_leads)) (fun hk => ?_) fun hk => ?_⟩
      · rw [if_pos hk]
        refine w_seq (w_own (n_zeros (v_var rfl) hM (by omega)) rfl (w_seq (w_setI (k := f) rfl rfl (v_var rfl) (by rw [List.length_map, List.length_replicate]; exact hf) ?_)))
        refine w_seq (w_fold (l := left) (st := (List.replicate m (0 : Int)).set f 1) (fun q => .tup [.int (q.1 : Nat), .lst (vs q.2)]) (fun t ρ => t.length = m ∧ ∃ x7 x8, ρ = kf p M A left x5 x6 x7 x8 x9 x10 x11 xs (.va (.int f)) (.ow (vs t))) (fun t q => t.set q.1 ((0 - q.2.getD f 0) % p)) (i_zip (v_var rfl) (v_var rfl) rfl rfl |>.trans (by rw [zip_self])) ⟨by simp, _, _, by rw [set_vs]; rfl⟩ ?_ ?_)
        · rintro q hq t ρ ⟨ht, x7, x8, rfl⟩
          have hq1 := I.row q hq
          refine ⟨_, g_tp2 (lt' rfl) (lt' rfl), w_setI (k := q.1) (v_bin (v_bin rfl (v_bin (v_var rfl) (v_var rfl) (vs_at (by rw [hq1.1.len]; exact hf))) rfl) (v_var rfl) (modD_ok hp.pos)) rfl (v_var rfl) (by rw [List.length_map, ht]; exact hq1.2) ⟨rfl, by rw [List.length_set]; exact ht, .va (.int (q.1 : Nat)), .va (.lst (vs q.2)), ?_⟩⟩
          rw [set_vs]; rfl
        · rintro ρ ⟨ht, x7, x8, rfl⟩
          refine w_app (xs := xs) rfl (v_thaw rfl (v_arg (v_cons (v_var rfl) v_nil) rfl) nol_tup) (Nat.lt_of_le_of_lt (Nat.le_trans (by omega : xs.length ≤ m) hm) (by decide)) ⟨rfl, by rw [List.length_append, List.length_singleton]; omega, ?_⟩
          rw [set_fold]
          exact ⟨_, _, _, _, rfl⟩
      · rw [if_neg (by rw [hk]; exact Bool.false_ne_true)]
        exact w_nil ⟨rfl, by omega, _, _, _, _, rfl⟩
    · rintro ρ ⟨_, x7, x8, x13, x14, rfl⟩
      rw [foldl_filt]
      exact w_fz rfl (w_ret (v_thawN rfl (v_var rfl)) ⟨rfl, rfl⟩)
end
end K80
end
section
set_option maxHeartbeats 4000000
/-! E7: least_power, first_in, shares_at. -/
namespace K80
open PySem PySem.Spec PyProof.Rows L2 Sh LA
def nzF : Nat → List Int → List Nat
  | _, [] => []
  | j, a :: c => if (a != 0) = true then j :: nzF (j + 1) c else nzF (j + 1) c
theorem nzF_eq : ∀ {c : List Int} {j : Nat}, nzF j c = ((List.range c.length).filter fun k => c.getD k 0 != 0).map fun k => k + j
  | [], _ => rfl
  | a :: c, j => by
    unfold nzF
    rw [nzF_eq (c := c), List.length_cons, List.range_succ_eq_map]
    have e : ((List.range c.length).map Nat.succ).filter (fun k => (a :: c).getD k 0 != 0) = ((List.range c.length).filter fun k => c.getD k 0 != 0).map Nat.succ := by
      rw [List.filter_map]; rfl
    have e2 : ((List.range c.length).filter fun k => c.getD k 0 != 0).map (fun k => k + (j + 1)) = (((List.range c.length).filter fun k => c.getD k 0 != 0).map Nat.succ).map fun k => k + j := by
      rw [List.map_map]
      exact List.map_congr_left fun k _ => by show k + (j + 1) = k.succ + j; omega
    cases h : a != 0 with
    | true =>
      rw [if_pos rfl, List.filter_cons_of_pos (by exact h), e, List.map_cons, Nat.zero_add, e2]
    | false =>
      rw [if_neg Bool.false_ne_true, List.filter_cons_of_neg (by show ¬ (a != 0) = true; rw [h]; exact Bool.false_ne_true), e, e2]
theorem c_enum {g : GF} {t : TF} {e : EF} {ρ : Ev} {δ : Di} (h : ∀ (j : Nat) (a : Int), ∃ ρ1, g (.tup [.int j, .int a]) ρ = some ρ1 ∧ t ρ1 δ = .ok (a != 0) δ ∧ e ρ1 δ = .ok (.int j) δ) : ∀ {c : List Int} {j : Nat}, compL g t e ρ (enumL j (vs c)) δ = .ok ((nzF j c).map fun (k : Nat) => D.int k) δ
  | [], _ => rfl
  | a :: c, j => by
    obtain ⟨ρ1, h1, h2, h3⟩ := h j a
    have ih := c_enum h (c := c) (j := j + 1)
    show compL g t e ρ (.tup [.int (j : Nat), .int a] :: enumL (j + 1) (vs c)) δ = _
    unfold compL nzF
    rw [h1]
    show (t ρ1 δ).bind _ = _
    rw [h2]
    cases q : a != 0 with
    | true =>
      show (e ρ1 δ).bind _ = _
      rw [h3]
      show (compL g t e ρ (enumL (j + 1) (vs c)) δ).bind _ = _
      rw [ih]; rfl
    | false => exact ih
section
variable {p : Int} {m low : Nat} {δ : Di}
/-- the places of what is not nought, by enumerate -/
theorem x_enum {ρ : Ev} {i j : Nat} {c : List Int} {d : D} {ws : List Nat} {t : TF} {f : EF} (hf : f ρ δ = .ok d δ) (hd : seqOf d = some (vs c)) (hl : c.length ≤ 1000000) (hi : i < ρ.length) (hj : j < ρ.length) (hij : j ≠ i) (ht : ∀ (k : Nat) (a : Int), t (((wipeE ρ ws).set i (.va (.int k))).set j (.va (.int a))) δ = .ok (a != 0) δ) : eComp ws (iEnum f) (gTp [gNm i, gNm j]) t (eVar i) ρ δ = .ok (.lst ((nzs c.length c).map fun (k : Nat) => D.int k)) δ := by
  have hi2 : i < (wipeE ρ ws).length := by rw [wipeE_len]; exact hi
  have hj2 : j < (wipeE ρ ws).length := by rw [wipeE_len]; exact hj
  have e : nzF 0 c = nzs c.length c := by
    rw [nzF_eq]
    exact (List.map_congr_left fun k _ => Nat.add_zero k).trans (List.map_id _)
  rw [← e]
  refine v_comp (i_enum hf hd) (c_enum fun k a => ⟨_, g_tp2 hi2 hj2, ht k a, v_var ?_⟩) ?_
  · rw [List.getElem?_set_ne hij]; exact List.getElem?_set_self hi2
  · rw [e, List.length_map]; exact lim_of (Nat.le_trans nzs_len hl)
theorem x_least {c : List Int} {l : List Nat} (h : nzs c.length c = low :: l) (hl : c.length ≤ 1000000) : f_least_power [.tup (vs c)] δ = .ok (.int low) δ := by
  refine w_run (w_ret (v_bin (x_enum (v_var rfl) rfl hl (lt' rfl) (lt' rfl) (by decide) fun k a => t_of (v_bin (v_var rfl) rfl (neD_b _ _))) rfl ?_) ⟨rfl, rfl⟩)
  rw [h]
  exact idx0
theorem x_first_in {c : List Int} {t : List D} {l : List Nat} (hp : P3 p) (h : nzs c.length c = low :: l) (hl : c.length ≤ 1000000) : f_first_in [.int p, .tup (.tup (vs c) :: t)] δ = .ok (.int ((low : Int) / (p - 1) + 1)) δ := by
  have := hp.lo; have := hp.hi
  exact w_run (w_ret (v_bin (v_bin (v_call (v_cons (v_bin (v_var rfl) rfl idx0T) v_nil) rfl (x_least h hl)) (v_bin (v_var rfl) rfl rfl) (fdivD_ok (by omega) (by omega))) rfl rfl) ⟨rfl, rfl⟩)
end
end K80
end
section
set_option maxHeartbeats 4000000
/-! E8: shares_at. -/
namespace K80
open PySem PySem.Spec PyProof.Rows L2 Sh LA
abbrev tD (told : List (List Int)) : List D := told.map fun c => .tup (vs c)
section
variable {p : Int} {P m n : Nat} {told : List (List Int)} {δ : Di}
theorem pow_ok (hp : P3 p) (hP : p = P) {i : Nat} (hi : i < 4) : 0 < P ^ i ∧ P ^ i ≤ 125 ∧ p ^ i = ((P ^ i : Nat) : Int) := by
  subst hP
  have h1 : 0 < P := by have := hp.lo; omega
  have h5 : P ≤ 5 := by have := hp.hi; omega
  refine ⟨Nat.pow_pos h1, ?_, by simp⟩
  have h2 : P ^ i ≤ 5 ^ i := Nat.pow_le_pow_left h5 i
  have h3 : 5 ^ i ≤ 5 ^ 3 := Nat.pow_le_pow_right (by omega) (by omega)
  exact Nat.le_trans h2 h3
theorem divmod_ok (hp : P3 p) (hP : p = P) {i : Nat} (hi : i < 4) {j : Nat} : ∃ q r : Int, divmodF [.int ((n : Int) - j), .int (p ^ i)] = some (.tup [.int q, .int r]) ∧ (j ≤ n → q = ((n - j) / P ^ i : Nat) ∧ r = ((n - j) % P ^ i : Nat)) := by
  obtain ⟨h1, h2, h3⟩ := pow_ok hp hP hi
  refine ⟨_, _, if_pos ⟨by omega, by omega⟩, fun h => ?_⟩
  rw [h3, show (n : Int) - j = ((n - j : Nat) : Int) by omega]
  exact ⟨(Int.natCast_ediv _ _).symm, (Int.natCast_emod _ _).symm⟩
/-- the shares of one power -/
def lineL (P : Nat) (p : Int) (m : Nat) (told : List (List Int)) (n : Nat) : List Int := (List.range m).map fun k => toldV P (unit k) n told 1 % p
theorem lineL_row (hp : P3 p) : Row p m (lineL P p m told n) where
  len := by unfold lineL; rw [List.length_map, List.length_range]
  rng := fun x hx => by
    obtain ⟨k, _, e⟩ := List.mem_map.mp hx
    subst e
    exact ⟨Int.emod_nonneg _ (by have := hp.lo; omega), Int.emod_lt_of_pos _ hp.pos⟩
theorem lineL_at {k : Nat} (hk : k < m) : ev (lineL P p m told n) k = toldV P (unit k) n told 1 % p := by
  show (lineL P p m told n).getD k 0 = _
  unfold lineL
  rw [List.getD_eq_getElem?_getD, List.getElem?_map, List.getElem?_range hk]; rfl
abbrev sh (p : Int) (told : List (List Int)) (n : Nat) (M : Int) (r : List Int) (x5 x6 x7 x8 x9 x10 : Sl) : Ev := [.va (.int p), .va (.tup (tD told)), .va (.int n), .va (.int M), .ow (vs r), x5, x6, x7, x8, x9, x10]
theorem row_put (hp : P3 p) {r : List Int} {q : Nat} {a : Int} (hr : Row p m r) (hq : q < m) : Row p m (r.set q ((r.getD q 0 + a) % p)) where
  len := by rw [List.length_set]; exact hr.len
  rng := fun x hx => by
    rcases List.mem_or_eq_of_mem_set hx with h | h
    · exact hr.rng x h
    · subst h; exact ⟨Int.emod_nonneg _ (by have := hp.lo; omega), Int.emod_lt_of_pos _ hp.pos⟩
theorem polyV_cons {s : Nat} {x : Vec} {n : Nat} {a : Int} {l : List Int} {j : Nat} : polyV s x n (a :: l) j = (if j ≤ n ∧ (n - j) % s = 0 then a * x ((n - j) / s) else 0) + polyV s x n l (j + 1) := rfl
theorem toldV_cons {x : Vec} {n : Nat} {c : List Int} {l : List (List Int)} {s : Nat} : toldV P x n (c :: l) s = polyV s x n c 0 + toldV P x n l (s * P) := rfl
theorem x_shares {M : Int} (hM : M = m) (hp : P3 p) (hP : p = P) (hm : m ≤ 1000) (ht : told.length ≤ 4) : f_shares_at [.int p, .tup (tD told), .int n, .int M] δ = .ok (.lst (vs (lineL P p m told n))) δ := by
  have hlo := hp.lo
  have hhi := hp.hi
  refine w_run (w_seq (w_own (n_zeros (v_var rfl) hM (by omega)) rfl ?_))
  refine w_seq (w_for (fun ds ρ δ2 => δ = δ2 ∧ ∃ i rest r x5 x6 x7 x8 x9 x10, ds = enumL i (tD rest) ∧ i + rest.length ≤ 4 ∧ Row p m r ∧ (∀ k, k < m → p ∣ ev r k + toldV P (unit k) n rest (P ^ i) - toldV P (unit k) n told 1) ∧ ρ = sh p told n M r x5 x6 x7 x8 x9 x10) (i_enum (v_var rfl) rfl) ⟨rfl, 0, told, List.replicate m 0, _, _, _, _, _, _, rfl, by omega, ⟨List.length_replicate, fun x hx => by rw [(List.mem_replicate.mp hx).2]; omega⟩, fun k hk => ?_, rfl⟩ ?_ ?_)
  · rw [Nat.pow_zero, show ev (List.replicate m 0) k = 0 by
      show (List.replicate m (0 : Int)).getD k 0 = 0
      rw [List.getD_eq_getElem?_getD, List.getElem?_replicate_of_lt hk]; rfl]
    exact ⟨0, by omega⟩
  · rintro d ds ρ δ2 ⟨e0, i, rest, r, x5, x6, x7, x8, x9, x10, e1, hi, hr, hv, rfl⟩
    subst e0
    cases rest with
    | nil => cases e1
    | cons c rest =>
      cases e1
      rw [List.length_cons] at hi
      refine ⟨_, g_tp2 (lt' rfl) (lt' rfl), ?_⟩
      refine w_for (fun ds ρ δ2 => δ = δ2 ∧ ∃ j c2 r2 x7 x8 x9 x10, ds = enumL j (vs c2) ∧ Row p m r2 ∧ (∀ k, k < m → p ∣ ev r2 k + polyV (P ^ i) (unit k) n c2 j - (ev r k + polyV (P ^ i) (unit k) n c 0)) ∧ ρ = sh p told n M r2 (.va (.int i)) (.va (.tup (vs c))) x7 x8 x9 x10) (i_enum (v_var rfl) rfl) ⟨rfl, 0, c, r, _, _, _, _, rfl, hr, fun k hk => ⟨0, by omega⟩, rfl⟩ ?_ ?_
      · rintro d ds ρ δ2 ⟨e0, j, c2, r2, x7, x8, x9, x10, e1, hr2, hv2, rfl⟩
        subst e0
        cases c2 with
        | nil => cases e1
        | cons a c2 =>
          cases e1
          obtain ⟨q, s, hdm, hqs⟩ := divmod_ok (n := n) (j := j) hp hP (i := i) (by omega)
          refine ⟨_, g_tp2 (lt' rfl) (lt' rfl), w_seq ?_⟩
          refine w_asg (v_arg (v_cons (v_bin (v_var rfl) (v_var rfl) (subD_i _ _)) (v_cons (v_call (v_cons (v_var rfl) (v_cons (v_var rfl) v_nil)) rfl (x_power hp (by omega))) v_nil)) hdm) (g_tp2 (lt' rfl) (lt' rfl)) ?_
          refine w_if (t_and (t_of (v_bin (v_var rfl) (v_var rfl) (geD_i _ _))) (t_and (t_of (v_bin (v_var rfl) rfl (eqD_int _ _))) (t_of (v_bin (v_var rfl) (v_var rfl) (ltD_i _ _))))) (fun hk => ?_) fun hk2 => ?_
          · simp only [Bool.and_eq_true, decide_eq_true_eq] at hk
            obtain ⟨h1, h2, h3⟩ := hk
            have h1 : j ≤ n := by omega
            obtain ⟨eq, es⟩ := hqs h1
            have hQ : (n - j) / P ^ i < m := by omega
            have hS : (n - j) % P ^ i = 0 := by omega
            have hstep := fun k => polyV_cons (s := P ^ i) (x := unit k) (n := n) (a := a) (l := c2) (j := j)
            simp only [if_pos (And.intro h1 hS)] at hstep
            generalize (n - j) / P ^ i = Q at hQ eq hstep
            subst eq
            refine w_setI (v_thaw rfl (v_bin (v_bin (v_bin (v_var rfl) (v_var rfl) (vs_at (by rw [hr2.len]; exact hQ))) (v_var rfl) (addD_i _ _)) (v_var rfl) (modD_ok hp.pos)) rfl) rfl (v_var rfl) (by rw [List.length_map, hr2.len]; exact hQ) ⟨rfl, j + 1, c2, r2.set Q ((r2.getD Q 0 + a) % p), _, _, _, _, rfl, row_put hp hr2 hQ, fun k hk => ?_, by rw [set_vs]; rfl⟩
            have := hv2 k hk
            rw [hstep k] at this
            rw [ev_set (by rw [hr2.len]; exact hQ)]
            unfold unit at this ⊢
            by_cases hkQ : k = Q
            · subst hkQ
              rw [if_pos rfl] at this
              rw [if_pos rfl]
              have hm2 := Int.mul_ediv_add_emod (r2.getD k 0 + a) p
              generalize (r2.getD k 0 + a) % p = v at hm2 ⊢
              generalize (r2.getD k 0 + a) / p = w at hm2
              have e3 : ev r2 k = r2.getD k 0 := rfl
              rw [e3] at this
              obtain ⟨b, hb⟩ := this
              exact ⟨b - w, by grind⟩
            · rw [if_neg (fun h => hkQ h.symm)] at this
              rw [if_neg hkQ]
              obtain ⟨b, hb⟩ := this
              exact ⟨b, by grind⟩
          · refine w_nil ⟨rfl, j + 1, c2, r2, _, _, _, _, rfl, hr2, fun k hk => ?_, rfl⟩
            have := hv2 k hk
            rw [polyV_cons] at this
            have e0 : (if j ≤ n ∧ (n - j) % P ^ i = 0 then a * unit k ((n - j) / P ^ i) else 0) = 0 := by
              by_cases h : j ≤ n ∧ (n - j) % P ^ i = 0
              · obtain ⟨eq, es⟩ := hqs h.1
                have hne : ¬ (q < M) := fun h5 => by
                  rw [decide_eq_true (by omega : (j : Int) ≤ n), decide_eq_true (by omega : s = 0), decide_eq_true h5] at hk2
                  cases hk2
                rw [if_pos h]
                unfold unit
                rw [if_neg (by omega)]; simp
              · rw [if_neg h]
            rw [e0] at this
            simpa using this
      · rintro ρ δ2 ⟨e0, j, c2, r2, x7, x8, x9, x10, e1, hr2, hv2, rfl⟩
        subst e0
        cases c2 with
        | cons a c2 => cases e1
        | nil =>
          refine ⟨rfl, i + 1, rest, r2, _, _, _, _, _, _, rfl, by omega, hr2, fun k hk => ?_, rfl⟩
          have h1 := hv k hk
          have h2 := hv2 k hk
          rw [toldV_cons] at h1
          rw [Nat.pow_succ]
          generalize polyV (P ^ i) (unit k) n c 0 = v1 at h1 h2
          have e3 : polyV (P ^ i) (unit k) n [] j = 0 := rfl
          rw [e3] at h2
          obtain ⟨b1, hb1⟩ := h1
          obtain ⟨b2, hb2⟩ := h2
          exact ⟨b1 + b2, by grind⟩
  · rintro ρ δ2 ⟨e0, i, rest, r, x5, x6, x7, x8, x9, x10, e1, hi, hr, hv, rfl⟩
    subst e0
    cases rest with
    | cons a c2 => cases e1
    | nil =>
      refine w_fz rfl (w_ret (v_thawN rfl (v_var rfl)) ⟨?_, rfl⟩)
      rw [row_eq hr (lineL_row hp) fun k hk => ?_]
      rw [lineL_at hk]
      have h1 := hv k hk
      have e3 : toldV P (unit k) n [] (P ^ i) = 0 := rfl
      rw [e3] at h1
      have hm2 := Int.mul_ediv_add_emod (toldV P (unit k) n told 1) p
      generalize toldV P (unit k) n told 1 % p = v at hm2 ⊢
      obtain ⟨b1, hb1⟩ := h1
      exact ⟨b1 + toldV P (unit k) n told 1 / p, by grind⟩
end
end K80
end
section
set_option maxHeartbeats 4000000
/-! E9: beginnings. -/
namespace K80
open PySem PySem.Spec PyProof.Rows L2 Sh LA
section
variable {p : Int} {P m low : Nat} {c : List Int} {t : List (List Int)} {δ : Di} {l : List Nat}
/-- the rows that the letters must meet -/
def rowsA (P : Nat) (p : Int) (m low : Nat) (told : List (List Int)) : List (List Int) := (List.range (low + m)).map (lineL P p m told)
theorem rowsA_row (hp : P3 p) {told : List (List Int)} : ∀ r ∈ rowsA P p m low told, Row p m r := fun r hr => by
  obtain ⟨n, _, e⟩ := List.mem_map.mp hr
  subst e; exact lineL_row hp
theorem v_rev {ρ : Ev} {f : EF} {xs : List D} (h : f ρ δ = .ok (.lst xs) δ) : eUn revD2 f ρ δ = .ok (.lst xs.reverse) δ := v_un h rfl
theorem v_revT {ρ : Ev} {f : EF} {xs : List D} (h : f ρ δ = .ok (.tup xs) δ) : eUn revD2 f ρ δ = .ok (.tup xs.reverse) δ := v_un h rfl
theorem x_beginnings (hp : P3 p) (hP : p = P) (hm : (low : Int) / (p - 1) + 1 = m) (hl : nzs c.length c = low :: l) (hlow : low ≤ 20) (hm2 : m ≤ 20) (hc : c.length ≤ 100) (ht : (c :: t).length ≤ 4) :
    f_beginnings [.int p, .tup (tD (c :: t))] δ = .ok (.tup ((progB p m (elimL p (inv p) m ((rowsA P p m low (c :: t)).map List.reverse))).map fun q => .tup (vs q.2))) δ := by
  have hlo := hp.lo
  have hhi := hp.hi
  refine w_run (w_seq (w_let (v_call (v_cons (v_var rfl) (v_cons (v_var rfl) v_nil)) rfl (x_first_in hp hl (by omega))) rfl ?_))
  generalize hM : (low : Int) / (p - 1) + 1 = M
  rw [hM] at hm
  refine w_seq (w_let (v_comp (δ2 := δ) (i_rngM (n := low + m) (v_bin (v_call (v_cons (v_bin (v_var rfl) rfl idx0T) v_nil) rfl (x_least hl (by omega))) (v_var rfl) (addD_i _ _)) (by omega) (by omega)) (ys := qD (rowsA P p m low (c :: t))) ?_ ?_) rfl ?_)
  · rw [rng_eq]
    unfold qD rowsA
    rw [List.map_map]
    exact c_all _ _ fun n _ => ⟨_, g_nm (lt' rfl), rfl, v_call (v_cons (v_var rfl) (v_cons (v_var rfl) (v_cons (v_var rfl) (v_cons (v_var rfl) v_nil)))) rfl (x_shares hm hp hP (by omega) ht)⟩
  · unfold qD rowsA
    rw [List.length_map, List.length_map, List.length_range]
    exact lim_of (by omega)
  refine w_seq (w_let (v_call (v_cons (v_var rfl) (v_cons (v_comp (δ2 := δ) (i_seq (v_var rfl) rfl) (ys := qD ((rowsA P p m low (c :: t)).map List.reverse)) ?_ ?_) (v_cons (v_var rfl) v_nil))) rfl (x_kernel_rows hm hp ?_ (by omega))) rfl ?_)
  · unfold qD
    rw [List.map_map]
    refine c_all _ _ fun r _ => ⟨_, g_nm (lt' rfl), rfl, ?_⟩
    refine (v_rev (xs := vs r) (v_var rfl)).trans ?_
    show Out.ok (D.lst (vs r).reverse) δ = .ok (.lst (vs r.reverse)) δ
    unfold vs
    rw [List.map_reverse]
  · unfold qD rowsA
    rw [List.length_map, List.length_map, List.length_map, List.length_range]
    exact lim_of (by omega)
  · intro r hr
    obtain ⟨s, hs, e⟩ := List.mem_map.mp hr
    subst e
    exact rev_row (rowsA_row hp s hs)
  · generalize elimL p (inv p) m ((rowsA P p m low (c :: t)).map List.reverse) = L
    refine w_ret (v_revT (v_arg (v_cons (v_comp (δ2 := δ) (i_seq (v_var rfl) rfl) (c_all _ (fun f => .tup (vs (vfL p m L f).reverse)) fun f _ => ⟨_, g_nm (lt' rfl), rfl, ?_⟩) ?_) v_nil) rfl)) ⟨?_, rfl⟩
    · refine (v_revT (xs := vs (vfL p m L f)) (v_var rfl)).trans ?_
      unfold vs
      rw [List.map_reverse]
    · rw [List.length_map]
      refine lim_of (Nat.le_trans (List.length_filter_le _ _) (by rw [List.length_range]; omega))
    · unfold progB
      rw [← List.map_reverse, ← List.map_reverse, List.map_map]
      rfl
end
end K80
end
section
set_option maxHeartbeats 4000000
/-! E10: value_at. -/
namespace K80
open PySem PySem.Spec PyProof.Rows L2 Sh LA
section
variable {p : Int} {P m n low : Nat} {told : List (List Int)} {δ : Di} {x : List Int} {dl : D}
def IsV (dl : D) (x : List Int) : Prop := dl = .lst (vs x) ∨ dl = .tup (vs x)
theorem IsV.len (h : IsV dl x) : lenF [dl] = some (.int x.length) := by
  rcases h with e | e <;> subst e
  · show some (D.int ((vs x).length : Nat)) = _
    rw [List.length_map]
  · show some (D.int ((vs x).length : Nat)) = _
    rw [List.length_map]
theorem IsV.at (h : IsV dl x) {k : Nat} (hk : k < x.length) : idxD dl (.int k) = some (.int (x.getD k 0)) := by
  rcases h with e | e <;> subst e
  · exact vs_at hk
  · exact vs_atT hk
abbrev va (p : Int) (told : List (List Int)) (dl : D) (n : Nat) (v : Int) (x5 x6 x7 x8 x9 : Sl) : Ev := [.va (.int p), .va (.tup (tD told)), .va dl, .va (.int n), .va (.int v), x5, x6, x7, x8, x9]
theorem div_ok (hp : P3 p) (hP : p = P) {i : Nat} (hi : i < 4) {j : Nat} : ∃ q r : Int, fdivD (.int ((n : Int) - j)) (.int (p ^ i)) = some (.int q) ∧ modD (.int ((n : Int) - j)) (.int (p ^ i)) = some (.int r) ∧ (j ≤ n → q = ((n - j) / P ^ i : Nat) ∧ r = ((n - j) % P ^ i : Nat)) := by
  obtain ⟨h1, h2, h3⟩ := pow_ok hp hP hi
  refine ⟨_, _, if_pos ⟨by omega, by omega⟩, if_pos (by omega), fun h => ?_⟩
  rw [h3, show (n : Int) - j = ((n - j : Nat) : Int) by omega]
  exact ⟨(Int.natCast_ediv _ _).symm, (Int.natCast_emod _ _).symm⟩
theorem x_value (hd : IsV dl x) (hx : ∀ a ∈ x, 0 ≤ a ∧ a < p) (hp : P3 p) (hP : p = P) (ht : told.length ≤ 4) : f_value_at [.int p, .tup (tD told), dl, .int n] δ = .ok (.int (toldV P (ev x) n told 1 % p)) δ := by
  have hlo := hp.lo
  have hhi := hp.hi
  refine w_run (w_seq (w_let rfl rfl ?_))
  refine w_seq (w_for (fun ds ρ δ2 => δ = δ2 ∧ ∃ i rest v x5 x6 x7 x8 x9, ds = enumL i (tD rest) ∧ i + rest.length ≤ 4 ∧ v + toldV P (ev x) n rest (P ^ i) = toldV P (ev x) n told 1 ∧ ρ = va p told dl n v x5 x6 x7 x8 x9) (i_enum (v_var rfl) rfl) ⟨rfl, 0, told, 0, _, _, _, _, _, rfl, by omega, by rw [Nat.pow_zero]; omega, rfl⟩ ?_ ?_)
  · rintro d ds ρ δ2 ⟨e0, i, rest, v, x5, x6, x7, x8, x9, e1, hi, hv, rfl⟩
    subst e0
    cases rest with
    | nil => cases e1
    | cons c rest =>
      cases e1
      rw [List.length_cons] at hi
      refine ⟨_, g_tp2 (lt' rfl) (lt' rfl), w_seq (w_let (v_call (v_cons (v_var rfl) (v_cons (v_var rfl) v_nil)) rfl (x_power hp (by omega))) rfl ?_)⟩
      refine w_for (fun ds ρ δ2 => δ = δ2 ∧ ∃ j c2 v2 x8 x9, ds = enumL j (vs c2) ∧ v2 + polyV (P ^ i) (ev x) n c2 j = v + polyV (P ^ i) (ev x) n c 0 ∧ ρ = va p told dl n v2 (.va (.int i)) (.va (.tup (vs c))) (.va (.int (p ^ i))) x8 x9) (i_enum (v_var rfl) rfl) ⟨rfl, 0, c, v, _, _, rfl, rfl, rfl⟩ ?_ ?_
      · rintro d ds ρ δ2 ⟨e0, j, c2, v2, x8, x9, e1, hv2, rfl⟩
        subst e0
        cases c2 with
        | nil => cases e1
        | cons a c2 =>
          cases e1
          obtain ⟨q, s, hdv, hmo, hqs⟩ := div_ok (n := n) (j := j) hp hP (i := i) (by omega)
          rw [polyV_cons] at hv2
          refine ⟨_, g_tp2 (lt' rfl) (lt' rfl), ?_⟩
          refine w_if (t_and (t_of (v_bin (v_var rfl) (v_var rfl) (geD_i _ _))) (t_and (t_of (v_bin (v_bin (v_bin (v_var rfl) (v_var rfl) (subD_i _ _)) (v_var rfl) hmo) rfl (eqD_int _ _))) (t_of (v_bin (v_bin (v_bin (v_var rfl) (v_var rfl) (subD_i _ _)) (v_var rfl) hdv) (v_arg (v_cons (v_var rfl) v_nil) hd.len) (ltD_i _ _))))) (fun hk => ?_) fun hk2 => ?_
          · simp only [Bool.and_eq_true, decide_eq_true_eq] at hk
            obtain ⟨h1, h2, h3⟩ := hk
            have h1 : j ≤ n := by omega
            obtain ⟨eq, es⟩ := hqs h1
            have hQ : (n - j) / P ^ i < x.length := by omega
            have hS : (n - j) % P ^ i = 0 := by omega
            rw [if_pos (And.intro h1 hS)] at hv2
            generalize (n - j) / P ^ i = Q at hQ eq hv2
            subst eq
            have hb : 0 ≤ x.getD Q 0 ∧ x.getD Q 0 < p := by
              rw [List.getD_eq_getElem?_getD, List.getElem?_eq_getElem hQ]
              exact hx _ (List.getElem_mem hQ)
            refine w_aug rfl (v_bin (v_var rfl) (v_bin (v_var rfl) (v_bin (v_bin (v_var rfl) (v_var rfl) (subD_i _ _)) (v_var rfl) hdv) (hd.at hQ)) (mulD_ok (.inr (mulB_of (by omega) (by omega))))) rfl ⟨rfl, j + 1, c2, v2 + a * x.getD Q 0, _, _, rfl, ?_, rfl⟩
            have e3 : ev x Q = x.getD Q 0 := rfl
            rw [e3] at hv2
            omega
          · refine w_nil ⟨rfl, j + 1, c2, v2, _, _, rfl, ?_, rfl⟩
            have e0 : (if j ≤ n ∧ (n - j) % P ^ i = 0 then a * ev x ((n - j) / P ^ i) else 0) = 0 := by
              by_cases h : j ≤ n ∧ (n - j) % P ^ i = 0
              · obtain ⟨eq, es⟩ := hqs h.1
                have hne : ¬ (q < (x.length : Int)) := fun h5 => by
                  rw [decide_eq_true (by omega : (j : Int) ≤ n), decide_eq_true (by omega : s = 0), decide_eq_true h5] at hk2
                  cases hk2
                rw [if_pos h]
                have e4 : ev x ((n - j) / P ^ i) = 0 := by
                  show x.getD _ 0 = 0
                  rw [List.getD_eq_getElem?_getD, List.getElem?_eq_none (by omega)]; rfl
                rw [e4]; simp
              · rw [if_neg h]
            rw [e0] at hv2
            omega
      · rintro ρ δ2 ⟨e0, j, c2, v2, x8, x9, e1, hv2, rfl⟩
        subst e0
        cases c2 with
        | cons a c2 => cases e1
        | nil =>
          refine ⟨rfl, i + 1, rest, v2, _, _, _, _, _, rfl, by omega, ?_, rfl⟩
          rw [toldV_cons] at hv
          rw [Nat.pow_succ]
          have e3 : polyV (P ^ i) (ev x) n [] j = 0 := rfl
          rw [e3] at hv2
          omega
  · rintro ρ δ2 ⟨e0, i, rest, v, x5, x6, x7, x8, x9, e1, hi, hv, rfl⟩
    subst e0
    cases rest with
    | cons a c2 => cases e1
    | nil =>
      have e3 : toldV P (ev x) n [] (P ^ i) = 0 := rfl
      rw [e3] at hv
      have hv : v = toldV P (ev x) n told 1 := by omega
      subst hv
      exact w_ret (v_bin (v_var rfl) (v_var rfl) (modD_ok hp.pos)) ⟨rfl, rfl⟩
end
end K80
end
section
set_option maxHeartbeats 4000000
/-! E11: broken_at. -/
namespace K80
open PySem PySem.Spec PyProof.Rows L2 Sh LA
theorem filt_first {P : Nat → Bool} {N i : Nat} (hi : i < N) (h0 : ∀ n, n < i → P n = false) (h1 : P i = true) : ∃ t, (List.range N).filter P = i :: t := by
  cases h : (List.range N).filter P with
  | nil =>
    have := List.mem_filter.mpr ⟨List.mem_range.mpr hi, h1⟩
    rw [h] at this; cases this
  | cons l t =>
    obtain ⟨h2, h3, h4⟩ := range_first h
    refine ⟨t, ?_⟩
    rcases Nat.lt_trichotomy l i with h5 | h5 | h5
    · rw [h0 l h5] at h2; cases h2
    · rw [h5]
    · rw [h4 i h5] at h1; cases h1
theorem filt_none {P : Nat → Bool} {N : Nat} (h0 : ∀ n, n < N → P n = false) : (List.range N).filter P = [] :=
  List.filter_eq_nil_iff.mpr fun n hn h => by rw [h0 n (List.mem_range.mp hn)] at h; cases h
def brk : List Nat → D
  | [] => .non
  | n :: _ => .int n
section
variable {p : Int} {P m n low : Nat} {told : List (List Int)} {c : List Int} {δ : Di} {x : List Int} {dl : D} {l : List Nat}
/-- the powers where the equation fails -/
def badL (P : Nat) (p : Int) (told : List (List Int)) (x : List Int) (N : Nat) : List Nat := (List.range N).filter fun n => toldV P (ev x) n told 1 % p != 0
theorem x_broken (hd : IsV dl x) (hx : ∀ a ∈ x, 0 ≤ a ∧ a < p) (hp : P3 p) (hP : p = P) (ht : (c :: told).length ≤ 4) (hl : nzs c.length c = low :: l) (hc : c.length ≤ 100) (hlow : low ≤ 100) (hx2 : x.length ≤ 1000) : f_broken_at [.int p, .tup (tD (c :: told)), dl] δ = .ok (brk (badL P p (c :: told) x (low + x.length))) δ := by
  refine w_run (w_seq (w_for (fun ds ρ δ2 => δ = δ2 ∧ ∃ i k x3, ds = (List.range' i k).map (fun (n : Nat) => D.int n) ∧ i + k = low + x.length ∧ (∀ n, n < i → (toldV P (ev x) n (c :: told) 1 % p != 0) = false) ∧ ρ = [.va (.int p), .va (.tup (tD (c :: told))), .va dl, x3]) ((i_rngM (n := low + x.length) (v_bin (v_call (v_cons (v_bin (v_var rfl) rfl idx0T) v_nil) rfl (x_least hl (by omega))) (v_arg (v_cons (v_var rfl) v_nil) hd.len) (addD_i _ _)) (by omega) (by omega)).trans (by rw [rng_eq])) ⟨rfl, 0, low + x.length, _, by rw [List.range_eq_range'], by omega, fun n hn => absurd hn (Nat.not_lt_zero _), rfl⟩ ?_ ?_))
  · rintro d ds ρ δ2 ⟨e0, i, k, x3, e1, hk, h0, rfl⟩
    subst e0
    cases k with
    | zero => cases e1
    | succ k =>
      rw [List.range'_succ, List.map_cons] at e1
      cases e1
      refine ⟨_, g_nm (lt' rfl), w_if (t_of (v_bin (v_call (v_cons (v_var rfl) (v_cons (v_var rfl) (v_cons (v_var rfl) (v_cons (v_var rfl) v_nil)))) rfl (x_value hd hx hp hP ht)) rfl (neD_b _ _))) (fun hk2 => ?_) fun hk2 => ?_⟩
      · refine w_ret (v_var rfl) ⟨?_, rfl⟩
        obtain ⟨t, ht⟩ := filt_first (P := fun n => toldV P (ev x) n (c :: told) 1 % p != 0) (N := low + x.length) (by omega) h0 hk2
        unfold badL
        rw [ht]; rfl
      · refine w_nil ⟨rfl, i + 1, k, _, rfl, by omega, fun n hn => ?_, rfl⟩
        rcases Nat.lt_or_ge n i with h | h
        · exact h0 n h
        · rw [show n = i by omega]; exact hk2
  · rintro ρ δ2 ⟨e0, i, k, x3, e1, hk, h0, rfl⟩
    subst e0
    cases k with
    | succ k => rw [List.range'_succ] at e1; cases e1
    | zero =>
      refine w_ret rfl ⟨?_, rfl⟩
      unfold badL
      rw [filt_none fun n hn => h0 n (by omega)]; rfl
end
end K80
end
section
set_option maxHeartbeats 4000000
/-! E12: letters_in. -/
namespace K80
open PySem PySem.Spec PyProof.Rows L2 Sh LA
section
variable {p : Int} {P m n low : Nat} {told : List (List Int)} {c : List Int} {δ : Di} {x : List Int} {dl : D} {l : List Nat}
theorem x_valueM {N : Int} (hN : N = n) (hd : IsV dl x) (hx : ∀ a ∈ x, 0 ≤ a ∧ a < p) (hp : P3 p) (hP : p = P) (ht : told.length ≤ 4) : f_value_at [.int p, .tup (tD told), dl, .int N] δ = .ok (.int (toldV P (ev x) n told 1 % p)) δ := by
  subst hN; exact x_value hd hx hp hP ht
theorem cut_len {xs : List D} {K : Int} (h : K = xs.length) : cutD xs none (some K) = xs := by
  subst h
  exact cut_all ⟨rfl, by rw [HT.sIx_nat, Nat.min_self]⟩
theorem v_cutL {ρ : Ev} {f g : EF} {xs : List D} {K : Int} (h : f ρ δ = .ok (.lst xs) δ) (h2 : g ρ δ = .ok (.int K) δ) (hK : K = xs.length) : eSl f oNone (oSome g) ρ δ = .ok (.lst xs) δ := by
  unfold eSl
  rw [h]
  show ((oSome g ρ δ).bind fun hi δ3 => Out.get (slD (.lst xs) none hi) δ3) = _
  unfold oSome
  rw [h2]
  show Out.get (slD (.lst xs) none (some K)) δ = _
  show Out.ok (D.lst (cutD xs none (some K))) δ = _
  rw [cut_len hK]
theorem IsV.seq (h : IsV dl x) : seqOf dl = some (vs x) := by rcases h with e | e <;> subst e <;> rfl
theorem nol_int {a : Int} : D.nol (.int a) = true := by unfold D.nol; rfl
theorem lead_rng (hp : P3 p) (hc0 : ∀ a ∈ c, 0 ≤ a ∧ a < p) (hl : nzs c.length c = low :: l) : low < c.length ∧ 0 < c.getD low 0 ∧ c.getD low 0 < p ∧ ∀ k, k < low → c.getD k 0 = 0 := by
  obtain ⟨h1, h2, h3⟩ := nzs_cons hl
  have h4 : 0 ≤ c.getD low 0 ∧ c.getD low 0 < p := by
    rw [List.getD_eq_getElem?_getD, List.getElem?_eq_getElem h2]
    exact hc0 _ (List.getElem_mem h2)
  have h5 : c.getD low 0 ≠ 0 := h1
  exact ⟨h2, by omega, h4.2, h3⟩
theorem x_letters {K : Int} {k : Nat} (hK : K = k) (hk : k ≤ 150) (hxk : x.length ≤ k) (hd : IsV dl x) (hx : ∀ a ∈ x, 0 ≤ a ∧ a < p) (hp : P3 p) (hP : p = P) (ht : (c :: told).length ≤ 4) (hl : nzs c.length c = low :: l) (hc : c.length ≤ 100) (hc0 : ∀ a ∈ c, 0 ≤ a ∧ a < p) : f_letters_in [.int p, .tup (tD (c :: told)), dl, .int K] δ = .ok (.lst (vs (contL p P (c :: told) low (inv p (c.getD low 0)) (k - x.length) x))) δ := by
  obtain ⟨h1, h2, h3, h4⟩ := lead_rng hp hc0 hl
  have hi := inv_rng hp h2 h3
  refine w_run (w_seq (w_parO (n_list (v_var rfl) hd.seq) (v_call (v_cons (v_bin (v_var rfl) rfl idx0T) v_nil) rfl (x_least hl (by omega))) rfl rfl (by decide) ?_))
  refine w_seq (w_let (v_call (v_cons (v_var rfl) (v_cons (v_bin (v_bin (v_var rfl) rfl idx0T) (v_var rfl) (vs_atT h1)) v_nil)) rfl (x_inverse hp h2 h3)) rfl ?_)
  generalize hiv : inv p (c.getD low 0) = iv at hi
  refine w_seq (w_wh (fun f ρ δ2 => δ = δ2 ∧ ∃ y, k - y.length < f ∧ y.length ≤ k ∧ (∀ a ∈ y, 0 ≤ a ∧ a < p) ∧ contL p P (c :: told) low iv (k - y.length) y = contL p P (c :: told) low iv (k - x.length) x ∧ ρ = [.va (.int p), .va (.tup (tD (c :: told))), .va dl, .va (.int K), .ow (vs y), .va (.int low), .va (.int iv)]) ⟨rfl, x, by omega, hxk, hx, rfl, rfl⟩ ?_)
  rintro f ρ δ2 ⟨e0, y, hf, hy, hy2, hy3, rfl⟩
  subst e0
  cases f with
  | zero => omega
  | succ f =>
    refine ⟨f, _, rfl, t_thaw rfl (t_of (v_bin (v_arg (v_cons (v_var rfl) v_nil) (IsV.len (x := y) (.inl rfl))) (v_var rfl) (ltD_i _ _))), fun hk2 => ?_, fun hk2 => ?_⟩
    · have hk2 := of_decide_eq_false hk2
      have hyk : y.length = k := by omega
      rw [hyk, Nat.sub_self] at hy3
      refine w_fz rfl (w_ret (v_thawN rfl (v_cutL (v_var rfl) (v_var rfl) (by rw [List.length_map]; omega))) ⟨?_, rfl⟩)
      rw [← hy3]; rfl
    · have hk2 := of_decide_eq_true hk2
      have hyk : y.length < k := by omega
      refine w_app rfl (v_thaw rfl (v_bin (v_bin rfl (v_bin (v_call (v_cons (v_var rfl) (v_cons (v_var rfl) (v_cons (v_var rfl) (v_cons (v_bin (v_var rfl) (v_arg (v_cons (v_var rfl) v_nil) (IsV.len (x := y) (.inl rfl))) (addD_i _ _)) v_nil)))) rfl (x_valueM (n := low + y.length) (by omega) (.inl rfl) hy2 hp hP ht)) (v_var rfl) (mulD_ok (.inr (mulB_of (by omega) (by omega))))) (subD_i _ _)) (v_var rfl) (modD_ok hp.pos)) nol_int) (by rw [List.length_map]; exact Nat.lt_of_lt_of_le (by omega : y.length < 151) (by decide)) ⟨rfl, y ++ [nextL p P (c :: told) low iv y], ?_, ?_, app_rng hp.pos hy2, ?_, ?_⟩
      · rw [List.length_append, List.length_singleton]; omega
      · rw [List.length_append, List.length_singleton]; omega
      · rw [← hy3, List.length_append, List.length_singleton, show k - y.length = (k - (y.length + 1)) + 1 by omega]; rfl
      · unfold vs
        rw [List.map_append]; rfl
end
end K80
end
section
set_option maxHeartbeats 4000000
/-! E13: what is required. -/
namespace K80
open PySem PySem.Spec PyProof.Rows L2 Sh LA
structure Told (p : Int) (P : Nat) (c : List Int) (t : List (List Int)) (low m : Nat) (l : List Nat) : Prop where
  p3 : P3 p
  hP : p = P
  len2 : 2 ≤ (c :: t).length
  len4 : (c :: t).length ≤ 4
  rng : ∀ d ∈ c :: t, (∀ a ∈ d, 0 ≤ a ∧ a < p) ∧ d.length ≤ 9 ∧ (d ≠ [] → d.getD (d.length - 1) 0 ≠ 0)
  hlow : nzs c.length c = low :: l
  hm : (low : Int) / (p - 1) + 1 = m
section
variable {p : Int} {P m n low : Nat} {t : List (List Int)} {c : List Int} {δ : Di} {x : List Int} {dl : D} {l : List Nat}
theorem Told.cc (T : Told p P c t low m l) : (∀ a ∈ c, 0 ≤ a ∧ a < p) ∧ c.length ≤ 9 := ⟨(T.rng c List.mem_cons_self).1, (T.rng c List.mem_cons_self).2.1⟩
theorem Told.low9 (T : Told p P c t low m l) : low < 9 := by
  have := (nzs_cons T.hlow).2.1
  have := T.cc.2
  omega
theorem Told.bd (T : Told p P c t low m l) : m ≤ 9 ∧ 0 < m ∧ low + m < P * m ∧ 1 < P := by
  have h1 := T.low9
  have h2 := T.hm
  have h3 := T.hP
  rcases T.p3 with e | e | e
  · rw [e] at h2 h3
    have : P = 2 := by omega
    subst this
    omega
  · rw [e] at h2 h3
    have : P = 3 := by omega
    subst this
    omega
  · rw [e] at h2 h3
    have : P = 5 := by omega
    subst this
    omega
theorem all_yes {α : Type} : ∀ {l : List α}, allF [.lst (l.map fun _ => .bl true)] = some (.bl true)
  | [] => rfl
  | a :: l => by
    have h := all_yes (l := l)
    show (bolsOf (.bl true :: l.map fun _ => .bl true)).map _ = _
    have h : (bolsOf (l.map fun _ => D.bl true)).map (fun ns => D.bl (ns.all id)) = some (.bl true) := h
    unfold bolsOf
    cases e : bolsOf (l.map fun _ => D.bl true) with
    | none => rw [e] at h; cases h
    | some ns =>
      rw [e] at h
      have h : some (D.bl (ns.all id)) = some (.bl true) := h
      show some (D.bl ((true :: ns).all id)) = _
      rw [List.all_cons]
      exact h
theorem last_at {xs : List D} {d : D} {k : Nat} (hk : xs.length = k + 1) (h : xs[k]? = some d) : idxD (.tup xs) (.int (-1)) = some d := by
  show atI xs (-1) = _
  unfold atI ixN
  rw [if_neg (by omega), if_pos (by omega), hk]
  show xs[((-1 : Int) + ((k + 1 : Nat) : Int)).toNat]? = _
  rw [show ((-1 : Int) + ((k + 1 : Nat) : Int)).toNat = k by omega, h]
theorem x_poly (hp : P3 p) (h0 : ∀ a ∈ c, 0 ≤ a ∧ a < p) (h9 : c.length ≤ 9) (hl : c ≠ [] → c.getD (c.length - 1) 0 ≠ 0) : f_is_poly [.tup (vs c), .int p, .int 13] δ = .ok (.bl true) δ := by
  refine w_run (w_seq (w_if (k := false) (t_or (k := false) (l := false) (t_not (k := true) (t_of (v_un (v_var rfl) rfl))) (t_not (k := true) (t_of (v_arg (v_cons (v_comp (δ2 := δ) (i_seq (v_var rfl) rfl) (c_all D.int (fun _ => .bl true) fun a ha => ⟨_, g_nm (lt' rfl), rfl, ?_⟩) ?_) v_nil) all_yes)))) (fun h => nomatch h) fun _ => w_nil ?_))
  · have h := h0 a ha
    have e1 : leD (.int 0) (.int a) = some (.bl true) := congrArg (fun k => some (D.bl k)) (decide_eq_true h.1)
    have e2 : ltD (.int a) (.int p) = some (.bl true) := congrArg (fun k => some (D.bl k)) (decide_eq_true h.2)
    exact v_and_t (v_call (v_cons (v_var rfl) v_nil) rfl x_int) (v_chain rfl (v_var rfl) e1 (v_var rfl) e2)
  · rw [List.length_map]; exact lim_of (by omega)
  · have hlen : eOr (eUn (fun x => some (.bl (isN x))) (eVar 2)) (eBin leD (eArg lenF (aCons (eVar 0) aNil)) (eVar 2)) [.va (.tup (vs c)), .va (.int p), .va (.int 13), .em] δ = .ok (.bl true) δ := by
      refine v_or_f (v_un (v_var rfl) rfl) ?_
      have e3 : leD (.int c.length) (.int 13) = some (.bl true) := congrArg (fun k => some (D.bl k)) (decide_eq_true (by omega))
      exact v_bin (v_arg (v_cons (v_var rfl) v_nil) (IsV.len (x := c) (.inr rfl))) (v_var rfl) e3
    cases hc : c with
    | nil =>
      subst hc
      exact w_ret (v_and_t (v_or_t (v_bin (v_var rfl) (v_arg v_nil rfl) (eqD_nilT (n := 0) (fun _ h => nomatch h) (by decide)))) hlen) ⟨rfl, rfl⟩
    | cons a r =>
      have hne : c ≠ [] := by rw [hc]; exact List.cons_ne_nil _ _
      have hlst := hl hne
      have hcl : c.length = (c.length - 1) + 1 := by rw [hc]; simp
      have hem : (vs c).isEmpty = false := by rw [hc]; rfl
      have e5 : neD (.int (c.getD (c.length - 1) 0)) (.int 0) = some (.bl true) := by rw [neD_int, decide_eq_false hlst]; rfl
      rw [← hc]
      refine w_ret (v_and_t (v_or_f (v_bin (v_var rfl) (v_arg v_nil rfl) ((eqD_nilT (n := 0) nice_vs (by decide)).trans (by rw [hem]))) (v_bin (v_bin (v_var rfl) (v_un rfl rfl) (last_at (k := c.length - 1) (d := .int (c.getD (c.length - 1) 0)) (by rw [List.length_map]; exact hcl) ?_)) rfl e5)) hlen) ⟨rfl, rfl⟩
      rw [List.getElem?_map, List.getElem?_eq_getElem (by omega), List.getD_eq_getElem?_getD, List.getElem?_eq_getElem (by omega)]; rfl
end
end K80
end
section
set_option maxHeartbeats 4000000
/-! E14: require_told, first_many, first_letters. -/
namespace Sh
open PySem PySem.Spec PyProof.Rows L2
theorem w_runN {n : Nat} {b : SF} {ds : List D} {δ δ1 : Di} (h : Wp (b (startE n ds) δ) (fun _ δ2 => δ2 = δ1) fun _ _ => False) : runF n b ds δ = .ok .non δ1 := by
  cases h with
  | nx ρ δ h h3 => subst h3; unfold runF; rw [h]
  | rt d ρ δ h h3 => exact h3.elim
end Sh
namespace K80
open PySem PySem.Spec PyProof.Rows L2 Sh LA
section
variable {p : Int} {P m n low : Nat} {t : List (List Int)} {c : List Int} {δ : Di} {x : List Int} {dl : D} {l : List Nat}
theorem in235 (hp : P3 p) : inD true (.int p) (.tup [.int 2, .int 3, .int 5]) = some (.bl false) := by
  rcases hp with e | e | e <;> subst e <;> rfl
theorem len_tD {told : List (List Int)} : lenF [.tup (tD told)] = some (.int told.length) := by
  show some (D.int ((tD told).length : Nat)) = _
  rw [List.length_map]
theorem x_told (T : Told p P c t low m l) : f_require_told [.int p, .tup (tD (c :: t))] δ = .ok .non δ := by
  have hp := T.p3
  have h2 := T.len2
  have h4 := T.len4
  have e1 : leD (.int 2) (.int (c :: t).length) = some (.bl true) := congrArg (fun k => some (D.bl k)) (decide_eq_true (by omega))
  have e2 : leD (.int (c :: t).length) (.int 4) = some (.bl true) := congrArg (fun k => some (D.bl k)) (decide_eq_true (by omega))
  have hcn : (vs c).isEmpty = false := by
    have := (nzs_cons T.hlow).2.1
    cases c with
    | nil => exact absurd this (Nat.not_lt_zero _)
    | cons a r => rfl
  refine w_runN (w_seq (w_if (k := false) (t_or (k := false) (l := false) (t_not (k := true) (t_of (v_call (v_cons (v_var rfl) v_nil) rfl x_int))) (t_of (v_bin (v_var rfl) rfl (in235 hp)))) (fun h => nomatch h) fun _ => w_nil ?_))
  refine w_seq (w_if (k := false) (t_or (k := false) (l := false) (t_not (k := true) (t_of (v_un (v_var rfl) rfl))) (t_not (k := true) (t_of (v_chain rfl (v_arg (v_cons (v_var rfl) v_nil) len_tD) e1 (v_bin rfl rfl rfl) e2)))) (fun h => nomatch h) fun _ => w_nil ?_)
  refine w_if (k := false) (t_or (k := false) (l := false) (t_not (k := true) (t_of (v_arg (v_cons (v_comp (δ2 := δ) (i_seq (v_var rfl) rfl) (c_all (fun d => D.tup (vs d)) (fun _ => .bl true) fun d hd => ⟨_, g_nm (lt' rfl), rfl, v_call (v_cons (v_var rfl) (v_cons (v_var rfl) (v_cons rfl v_nil))) rfl (x_poly hp (T.rng d hd).1 (T.rng d hd).2.1 (T.rng d hd).2.2)⟩) ?_) v_nil) all_yes))) (t_of (v_bin (v_bin (v_var rfl) rfl idx0T) (v_arg v_nil rfl) ((eqD_nilT (n := 0) nice_vs (by decide)).trans (by rw [hcn]))))) (fun h => nomatch h) fun _ => w_nil rfl
  rw [List.length_map]; exact lim_of (by omega)
theorem Told.first (T : Told p P c t low m l) : f_first_in [.int p, .tup (tD (c :: t))] δ = .ok (.int m) δ := by
  rw [← T.hm]
  exact x_first_in T.p3 T.hlow (by have := T.cc.2; omega)
theorem x_first_many (T : Told p P c t low m l) : f_first_many [.int p, .tup (tD (c :: t))] δ = .ok (.int m) δ :=
  w_run (w_seq (w_drop (v_call (v_cons (v_var rfl) (v_cons (v_var rfl) v_nil)) rfl (x_told T)) (w_ret (v_call (v_cons (v_var rfl) (v_cons (v_var rfl) v_nil)) rfl T.first) ⟨rfl, rfl⟩)))
theorem x_first_letters (T : Told p P c t low m l) : f_first_letters [.int p, .tup (tD (c :: t))] δ = .ok (.tup ((progB p m (elimL p (inv p) m ((rowsA P p m low (c :: t)).map List.reverse))).map fun q => .tup (vs q.2))) δ :=
  w_run (w_seq (w_drop (v_call (v_cons (v_var rfl) (v_cons (v_var rfl) v_nil)) rfl (x_told T)) (w_ret (v_call (v_cons (v_var rfl) (v_cons (v_var rfl) v_nil)) rfl (x_beginnings T.p3 T.hP T.hm T.hlow (by have := T.low9; omega) (by have := T.bd.1; omega) (by have := T.cc.2; omega) T.len4)) ⟨rfl, rfl⟩)))
theorem x_req_letters (T : Told p P c t low m l) (hx : Row p m x) : f_require_letters [.int p, .tup (tD (c :: t)), .tup (vs x)] δ = .ok .non δ := by
  have hlo := T.p3.lo
  have hm9 := T.bd.1
  have e1 : neD (.int (x.length : Nat)) (.int (m : Nat)) = some (.bl false) := by rw [neD_int, hx.len, decide_eq_true rfl]; rfl
  refine w_runN (w_seq (w_if (k := false) (t_or (k := false) (l := false) (t_not (k := true) (t_of (v_un (v_var rfl) rfl))) (t_of (v_bin (v_arg (v_cons (v_var rfl) v_nil) (IsV.len (x := x) (.inr rfl))) (v_call (v_cons (v_var rfl) (v_cons (v_var rfl) v_nil)) rfl T.first) e1))) (fun h => nomatch h) fun _ => w_nil ?_))
  refine w_if (k := false) (t_not (k := true) (t_of (v_arg (v_cons (v_comp (δ2 := δ) (i_seq (v_var rfl) rfl) (c_all D.int (fun _ => .bl true) fun a ha => ⟨_, g_nm (lt' rfl), rfl, v_call (v_cons (v_var rfl) (v_cons rfl (v_cons (v_bin (v_var rfl) rfl (subD_i _ _)) v_nil))) rfl (x_within (hx.rng a ha).1 ?_)⟩) ?_) v_nil) all_yes))) (fun h => nomatch h) fun _ => w_nil rfl
  · have := (hx.rng a ha).2
    omega
  · rw [List.length_map, hx.len]; exact lim_of (by omega)
/-- the letters asked for -/
def askL (P : Nat) (p : Int) (c : List Int) (t : List (List Int)) (low m k : Nat) (x : List Int) : List Int := contL p P (c :: t) low (inv p (c.getD low 0)) (k - m) x
theorem x_solution (T : Told p P c t low m l) (hx : Row p m x) {K : Int} {k : Nat} (hK : K = k) (hk : k ≤ 150) (hk9 : 9 ≤ k) (hb : badL P p (c :: t) x (low + m) = []) : f_solution_letters [.int p, .tup (tD (c :: t)), .tup (vs x), .int K] δ = .ok (.tup (vs (askL P p c t low m k x))) δ := by
  have hm9 := T.bd.1
  have hlow := T.low9
  have hc := T.cc
  have hB : f_require_solution [.int p, .tup (tD (c :: t)), .tup (vs x)] δ = .ok .non δ := by
    refine w_runN (w_seq (w_let (v_call (v_cons (v_var rfl) (v_cons (v_var rfl) (v_cons (v_var rfl) v_nil))) rfl (x_broken (x := x) (.inr rfl) hx.rng T.p3 T.hP T.len4 T.hlow (by omega) (by omega) (by rw [hx.len]; omega))) rfl ?_))
    rw [hx.len, hb]
    exact w_if (k := false) (t_of (v_un (v_var rfl) rfl)) (fun h => nomatch h) fun _ => w_nil rfl
  have hL : f_letters_in [.int p, .tup (tD (c :: t)), .tup (vs x), .int K] δ = .ok (.lst (vs (askL P p c t low m k x))) δ := by
    have := x_letters (δ := δ) (x := x) (dl := .tup (vs x)) hK hk (by rw [hx.len]; omega) (.inr rfl) hx.rng T.p3 T.hP T.len4 T.hlow (by omega) hc.1
    rw [hx.len] at this
    exact this
  refine w_run (w_seq (w_drop (v_call (v_cons (v_var rfl) (v_cons (v_var rfl) v_nil)) rfl (x_told T)) ?_))
  refine w_seq (w_drop (v_call (v_cons (v_var rfl) (v_cons (v_var rfl) (v_cons (v_var rfl) v_nil))) rfl (x_req_letters T hx)) ?_)
  refine w_seq (w_if (k := false) (t_not (k := true) (t_of (v_call (v_cons (v_var rfl) (v_cons rfl (v_cons rfl v_nil))) rfl (x_within (by omega) (by omega))))) (fun h => nomatch h) fun _ => w_nil ?_)
  refine w_seq (w_drop (v_call (v_cons (v_var rfl) (v_cons (v_var rfl) (v_cons (v_var rfl) v_nil))) rfl hB) ?_)
  exact w_ret (v_arg (v_cons (v_call (v_cons (v_var rfl) (v_cons (v_var rfl) (v_cons (v_var rfl) (v_cons (v_var rfl) v_nil)))) rfl hL) v_nil) rfl) ⟨rfl, rfl⟩
end
end K80
end
section
set_option maxHeartbeats 4000000
/-! E15: letters refused. -/
namespace Sh
open PySem PySem.Spec PyProof.Rows L2
section
variable {ρ ρ1 : Ev} {δ δ1 δ2 : Di} {f : EF} {s s1 s2 : SF} {d : D}
theorem er_call {x} {n : Nat} {F : List D → Di → Out D} {fs : AF} {ds : List D} (h1 : fs ρ δ = .ok ds δ1) (hn : ds.length = n) (h : F ds δ1 = .er x δ2) : eCall n F fs ρ δ = .er x δ2 := by
  unfold eCall; rw [h1]; show (if ds.length = n then F ds δ1 else .bad) = _; rw [if_pos hn, h]
/-- it ends in an error -/
inductive We (o : OutS) (x : Ex) (δ1 : Di) : Prop
  | mk (ρ : Ev) (h : o = .er x ρ δ1)
theorem we_seq {x} (h : s1 ρ δ = .ok .nx ρ1 δ1) (h2 : We (s2 ρ1 δ1) x δ2) : We (sSeq s1 s2 ρ δ) x δ2 := by
  rw [s_seq h rfl]; exact h2
theorem we_one {x} (h : We (s1 ρ δ) x δ2) : We (sSeq s1 s2 ρ δ) x δ2 := by
  cases h with
  | mk ρ1 h => exact .mk ρ1 (by unfold sSeq; rw [h])
theorem we_drop {x} (h : f ρ δ = .er x δ1) : We (sDrop f ρ δ) x δ1 := .mk ρ (by unfold sDrop sE; rw [h])
theorem we_run {x} {n : Nat} {b : SF} {ds : List D} (h : We (b (startE n ds) δ) x δ1) : runF n b ds δ = .er x δ1 := by
  cases h with
  | mk ρ1 h => unfold runF; rw [h]
theorem we_raise {c p : Str} (h : f ρ δ = .ok d δ1) (hs : shOk d = true) : We (sRaise c p f ρ δ) ⟨c, p, d⟩ δ1 := .mk ρ (by unfold sRaise sE; rw [h]; exact if_pos hs)
theorem we_if {x} {t : TF} (h : t ρ δ = .ok true δ1) (h2 : We (s1 ρ δ1) x δ2) : We (sIf t s1 s2 ρ δ) x δ2 := by
  rw [s_if h (if_pos rfl)]; exact h2
end
end Sh
namespace K80
open PySem PySem.Spec PyProof.Rows L2 Sh LA
theorem sh_power : ∀ n : Nat, n < 40 → shOk (.tup [.str (PySem.Str.ofString "power"), .int n]) = true := by decide +kernel
section
variable {p : Int} {P m n low : Nat} {t : List (List Int)} {c : List Int} {δ : Di} {x : List Int} {dl : D} {l : List Nat}
theorem x_refused (T : Told p P c t low m l) (hx : Row p m x) {K : Int} (hK0 : 0 ≤ K) (hK1 : K ≤ 2000) {r : List Nat} (hb : badL P p (c :: t) x (low + m) = n :: r) : f_solution_letters [.int p, .tup (tD (c :: t)), .tup (vs x), .int K] δ = .er ⟨PySem.Str.ofString "Refused", PySem.Str.ofString "reason", .tup [.str (PySem.Str.ofString "power"), .int n]⟩ δ := by
  have hm9 := T.bd.1
  have hlow := T.low9
  have hc := T.cc
  have hn : n < low + m := by
    have h : n ∈ badL P p (c :: t) x (low + m) := by rw [hb]; exact List.mem_cons_self
    exact List.mem_range.mp (List.mem_filter.mp h).1
  have hb2 : f_broken_at [.int p, .tup (tD (c :: t)), .tup (vs x)] δ = .ok (.int n) δ := by
    have := x_broken (δ := δ) (x := x) (dl := .tup (vs x)) (.inr rfl) hx.rng T.p3 T.hP T.len4 T.hlow (by omega) (by omega) (by rw [hx.len]; omega)
    rw [hx.len, hb] at this
    exact this
  have hB : f_require_solution [.int p, .tup (tD (c :: t)), .tup (vs x)] δ = .er ⟨PySem.Str.ofString "Refused", PySem.Str.ofString "reason", .tup [.str (PySem.Str.ofString "power"), .int n]⟩ δ := by
    refine we_run (we_seq (s_asg (v_call (v_cons (v_var rfl) (v_cons (v_var rfl) (v_cons (v_var rfl) v_nil))) rfl hb2) (g_nm (lt' rfl))) (we_if (t_of (v_un (v_var rfl) rfl)) ?_))
    exact we_raise (v_arg (v_cons rfl (v_cons (v_var rfl) v_nil)) rfl) (sh_power n (by omega))
  refine we_run (we_seq (s_drop (v_call (v_cons (v_var rfl) (v_cons (v_var rfl) v_nil)) rfl (x_told T))) ?_)
  refine we_seq (s_drop (v_call (v_cons (v_var rfl) (v_cons (v_var rfl) (v_cons (v_var rfl) v_nil))) rfl (x_req_letters T hx))) ?_
  refine we_seq (s_if (k := false) (t_not (k := true) (t_of (v_call (v_cons (v_var rfl) (v_cons rfl (v_cons rfl v_nil))) rfl (x_within hK0 hK1)))) rfl) ?_
  exact we_one (we_drop (er_call (v_cons (v_var rfl) (v_cons (v_var rfl) (v_cons (v_var rfl) v_nil))) rfl hB))
end
end K80
end
section
set_option maxHeartbeats 4000000
/-! E16: the law's products. -/
namespace K80
open PySem PySem.Spec PyProof.Rows L2 Sh LA
section
variable {p : Int} {P m n low : Nat} {t : List (List Int)} {c : List Int} {δ : Di} {x : List Int} {dl : D} {l : List Nat}
theorem y_low {dc : D} (hd : seqOf dc = some (vs c)) (h : nzs c.length c = low :: l) (hl : c.length ≤ 1000000) : f__law_low [dc] δ = .ok (.int low) δ := by
  refine w_run (w_ret (v_bin (x_enum (v_var rfl) hd hl (lt' rfl) (lt' rfl) (by decide) fun k a => t_of (v_bin (v_var rfl) rfl (neD_b _ _))) rfl ?_) ⟨rfl, rfl⟩)
  rw [h]
  exact idx0
/-- letters set apart -/
def spreadL (x : List Int) (s : Nat) (size : Nat) : List Int := (List.range size).map fun n => if n % s = 0 then x.getD (n / s) 0 else 0
theorem y_spread {S Z : Int} {s size : Nat} (hd : IsV dl x) (hS : S = s) (hs : 0 < s) (hs2 : s ≤ 1000) (hZ : Z = size) (hz : size ≤ 1000) (hx : size ≤ x.length) : f__law_se_spread [dl, .int S, .int Z] δ = .ok (.lst (vs (spreadL x s size))) δ := by
  subst hS
  refine w_run (w_ret (v_comp (δ2 := δ) ((i_rngM (v_var rfl) hZ (by omega)).trans (by rw [rng_eq])) (ys := vs (spreadL x s size)) ?_ ?_) ⟨rfl, rfl⟩)
  · unfold spreadL vs
    rw [List.map_map]
    refine c_all _ _ fun n hn => ⟨_, g_nm (lt' rfl), rfl, ?_⟩
    have hn := List.mem_range.mp hn
    show _ = Out.ok (D.int (if n % s = 0 then x.getD (n / s) 0 else 0)) δ
    have hm : modD (.int n) (.int s) = some (.int (n % s : Nat)) := (modD_ok (by omega)).trans (by rw [Int.natCast_emod])
    have hq : fdivD (.int n) (.int s) = some (.int (n / s : Nat)) := (fdivD_ok (by omega) (by omega)).trans (by rw [Int.natCast_ediv])
    by_cases h : n % s = 0
    · rw [if_pos h]
      have hl : n / s < x.length := Nat.lt_of_le_of_lt (Nat.div_le_self _ _) (by omega)
      exact v_if_t (t_of (v_bin (v_bin (v_var rfl) (v_var rfl) hm) rfl ((eqD_int _ _).trans (by rw [decide_eq_true (by omega)])))) (v_bin (v_var rfl) (v_bin (v_var rfl) (v_var rfl) hq) (hd.at hl))
    · rw [if_neg h]
      exact v_if_f (t_of (v_bin (v_bin (v_var rfl) (v_var rfl) hm) rfl ((eqD_int _ _).trans (by rw [decide_eq_false (by omega)])))) rfl
  · unfold spreadL
    rw [List.length_map, List.length_map, List.length_range]
    exact lim_of (by omega)
end
end K80
end
section
set_option maxHeartbeats 4000000
/-! E17: the law's product of two. -/
namespace K80
open PySem PySem.Spec PyProof.Rows L2 Sh LA
theorem w_ex {Q : D → Prop} {n : Nat} {b : SF} {ds : List D} {δ : Di} (h : Wp (b (startE n ds) δ) (fun _ _ => False) fun d δ2 => δ2 = δ ∧ Q d) : ∃ d, runF n b ds δ = .ok d δ ∧ Q d := by
  obtain ⟨d, δ1, h1, h2, h3⟩ := w_runE h
  subst h2
  exact ⟨d, h1, h3⟩
section
variable {p : Int} {P m n low : Nat} {t : List (List Int)} {c : List Int} {δ : Di} {x : List Int} {dl : D} {l : List Nat}
theorem cut_take {xs : List D} {K : Int} {k : Nat} (h : K = k) : Sh.cutD xs none (some K) = xs.take k := by
  subst h
  unfold Sh.cutD
  rw [HT.sIx_nat, HT.sIx_none, List.drop_zero, Nat.sub_zero, List.take_eq_take_iff]
  omega
theorem v_cutG {ρ : Ev} {f g : EF} {xs : List D} {K : Int} {k : Nat} {d : D} (h : f ρ δ = .ok d δ) (hd : d = .lst xs ∨ d = .tup xs) (h2 : g ρ δ = .ok (.int K) δ) (hK : K = k) : ∃ e, eSl f oNone (oSome g) ρ δ = .ok e δ ∧ seqOf e = some (xs.take k) := by
  have go : ∀ e, slD d none (some K) = some e → eSl f oNone (oSome g) ρ δ = .ok e δ := fun e he => by
    unfold eSl
    rw [h]
    show ((oSome g ρ δ).bind fun hi δ3 => Out.get (slD d none hi) δ3) = _
    unfold oSome
    rw [h2]
    show Out.get (slD d none (some K)) δ = _
    rw [he]; rfl
  rcases hd with e | e
  · subst e
    exact ⟨_, go _ (show some (D.lst (Sh.cutD xs none (some K))) = some (D.lst (xs.take k)) by rw [cut_take hK]), rfl⟩
  · subst e
    exact ⟨_, go _ (show some (D.tup (Sh.cutD xs none (some K))) = some (D.tup (xs.take k)) by rw [cut_take hK]), rfl⟩
theorem take_vs {k : Nat} {l : List Int} : (vs l).take k = vs (l.take k) := by unfold vs; rw [List.map_take]
theorem polyV_take {s : Nat} {y : Vec} {N : Nat} (hn : n < N) : ∀ {c : List Int} {j k : Nat}, N ≤ j + k → polyV s y n (c.take k) j = polyV s y n c j
  | [], j, k, _ => by rw [List.take_nil]
  | a :: c, j, 0, h => by
    rw [List.take_zero]
    exact (polyV_zero fun i hi h1 => by omega).symm
  | a :: c, j, k + 1, h => by
    rw [List.take_succ_cons, polyV_cons, polyV_cons, polyV_take hn (c := c) (j := j + 1) (k := k) (by omega)]
abbrev tm (c y : List Int) (size : Int) (p : Int) (r : List Int) (x5 x6 x7 x8 : Sl) : Ev := [.va (.tup (vs c)), .va (.lst (vs y)), .va (.int size), .va (.int p), .ow (vs r), x5, x6, x7, x8]
theorem spread_at {s size k : Nat} (hk : k < size) : ev (spreadL x s size) k = if k % s = 0 then ev x (k / s) else 0 := by
  show (spreadL x s size).getD k 0 = _
  unfold spreadL
  rw [List.getD_eq_getElem?_getD, List.getElem?_map, List.getElem?_range hk]; rfl
theorem ev_take {y : List Int} {k j : Nat} (h : j < k) : ev (y.take k) j = ev y j := by
  show (y.take k).getD j 0 = y.getD j 0
  rw [List.getD_eq_getElem?_getD, List.getD_eq_getElem?_getD, List.getElem?_take_of_lt h]
theorem y_times {Z : Int} {s size : Nat} (hp : P3 p) (hZ : Z = size) (hz : size ≤ 1000) (hc : ∀ a ∈ c, 0 ≤ a ∧ a < p) : ∃ r, f__law_se_times [.tup (vs c), .lst (vs (spreadL x s size)), .int Z, .int p] δ = .ok (.lst (vs r)) δ ∧ Row p size r ∧ ∀ n, n < size → p ∣ ev r n - polyV s (ev x) n c 0 := by
  have hlo := hp.lo
  have hhi := hp.hi
  generalize hy : spreadL x s size = y
  have hya : ∀ k, k < size → ev y k = if k % s = 0 then ev x (k / s) else 0 := fun k hk => by rw [← hy]; exact spread_at hk
  have hyl : y.length = size := by rw [← hy]; unfold spreadL; rw [List.length_map, List.length_range]
  suffices main : ∃ d, f__law_se_times [.tup (vs c), .lst (vs y), .int Z, .int p] δ = .ok d δ ∧ ∃ r, d = .lst (vs r) ∧ Row p size r ∧ ∀ n, n < size → p ∣ ev r n - polyV s (ev x) n c 0 by
    obtain ⟨d, h1, r, h2, h4, h5⟩ := main
    subst h2
    exact ⟨r, h1, h4, h5⟩
  refine w_ex ?_
  refine w_seq (w_own (n_zeros (v_var rfl) hZ (by omega)) rfl ?_)
  obtain ⟨e1, he1, hs1⟩ := v_cutG (δ := δ) (ρ := tm c y Z p (List.replicate size 0) .em .em .em .em) (f := eVar 0) (g := eVar 2) (v_var rfl) (.inr rfl) (v_var rfl) hZ
  rw [take_vs] at hs1
  refine w_seq (w_for (fun ds ρ δ2 => δ = δ2 ∧ ∃ i c2 r x5 x6 x7 x8, ds = enumL i (vs c2) ∧ i + c2.length ≤ size ∧ (∀ a ∈ c2, 0 ≤ a ∧ a < p) ∧ Row p size r ∧ (∀ n, n < size → p ∣ ev r n + polyV s (ev x) n c2 i - polyV s (ev x) n (c.take size) 0) ∧ ρ = tm c y Z p r x5 x6 x7 x8) (i_enum he1 hs1) ⟨rfl, 0, c.take size, List.replicate size 0, _, _, _, _, rfl, by rw [List.length_take]; omega, fun a ha => hc a (List.mem_of_mem_take ha), ⟨List.length_replicate, fun x hx => by rw [(List.mem_replicate.mp hx).2]; omega⟩, fun n hn => ?_, rfl⟩ ?_ ?_)
  · rw [show ev (List.replicate size 0) n = 0 by
      show (List.replicate size (0 : Int)).getD n 0 = 0
      rw [List.getD_eq_getElem?_getD, List.getElem?_replicate_of_lt hn]; rfl]
    exact ⟨0, by omega⟩
  · rintro d ds ρ δ2 ⟨e0, i, c2, r, x5, x6, x7, x8, e1, hi, hc2, hr, hv, rfl⟩
    subst e0
    cases c2 with
    | nil => cases e1
    | cons a c2 =>
      cases e1
      rw [List.length_cons] at hi
      have ha := hc2 a List.mem_cons_self
      refine ⟨_, g_tp2 (lt' rfl) (lt' rfl), ?_⟩
      obtain ⟨e2, he2, hs2⟩ := v_cutG (k := size - i) (δ := δ) (ρ := tm c y Z p r (.va (.int i)) (.va (.int a)) x7 x8) (f := eVar 1) (g := eBin subD (eVar 2) (eVar 5)) (v_var rfl) (.inl rfl) (v_bin (v_var rfl) (v_var rfl) (subD_i _ _)) (by omega)
      rw [take_vs] at hs2
      refine w_for (fun ds ρ δ2 => δ = δ2 ∧ ∃ j y2 r2 x7 x8, ds = enumL j (vs y2) ∧ i + j + y2.length ≤ size ∧ Row p size r2 ∧ (∀ n, n < size → p ∣ ev r2 n + (if i + j ≤ n then a * ev y2 (n - (i + j)) else 0) - (ev r n + (if i ≤ n then a * ev (y.take (size - i)) (n - i) else 0))) ∧ ρ = tm c y Z p r2 (.va (.int i)) (.va (.int a)) x7 x8) (i_enum he2 hs2) ⟨rfl, 0, y.take (size - i), r, _, _, rfl, by rw [List.length_take]; omega, hr, fun n hn => ⟨0, by rw [Nat.add_zero]; omega⟩, rfl⟩ ?_ ?_
      · rintro d ds ρ δ2 ⟨e0, j, y2, r2, x7, x8, e1, hj, hr2, hv2, rfl⟩
        subst e0
        cases y2 with
        | nil => cases e1
        | cons w y2 =>
          cases e1
          rw [List.length_cons] at hj
          have hQ : i + j < size := by omega
          have hadd : addD (.int i) (.int j) = some (.int (i + j : Nat)) := rfl
          refine ⟨_, g_tp2 (lt' rfl) (lt' rfl), w_setI (v_thaw rfl (v_bin (v_bin (v_bin (v_var rfl) (v_bin (v_var rfl) (v_var rfl) hadd) (vs_at (by rw [hr2.len]; exact hQ))) (v_bin (v_var rfl) (v_var rfl) (mulD_ok (mulR' hp ha.1 ha.2))) (addD_i _ _)) (v_var rfl) (modD_ok hp.pos)) nol_int) rfl (v_bin (v_var rfl) (v_var rfl) hadd) (by rw [List.length_map, hr2.len]; exact hQ) ⟨rfl, j + 1, y2, r2.set (i + j) ((r2.getD (i + j) 0 + a * w) % p), _, _, rfl, by omega, row_put hp hr2 hQ, fun n hn => ?_, by rw [set_vs]; rfl⟩⟩
          have h := hv2 n hn
          rw [ev_set (by rw [hr2.len]; exact hQ)]
          by_cases h1 : n = i + j
          · subst h1
            rw [if_pos (Nat.le_refl _), Nat.sub_self, show ev (w :: y2) 0 = w from rfl] at h
            rw [if_pos rfl, if_neg (by omega)]
            have hm2 := Int.mul_ediv_add_emod (r2.getD (i + j) 0 + a * w) p
            generalize (r2.getD (i + j) 0 + a * w) % p = v at hm2 ⊢
            generalize (r2.getD (i + j) 0 + a * w) / p = u at hm2
            have e3 : ev r2 (i + j) = r2.getD (i + j) 0 := rfl
            rw [e3] at h
            obtain ⟨b, hb⟩ := h
            exact ⟨b - u, by grind⟩
          · rw [if_neg h1]
            by_cases h2 : i + j ≤ n
            · rw [if_pos h2, show n - (i + j) = (n - (i + (j + 1))) + 1 by omega, show ev (w :: y2) (n - (i + (j + 1)) + 1) = ev y2 (n - (i + (j + 1))) from rfl] at h
              rw [if_pos (by omega)]; exact h
            · rw [if_neg h2] at h
              rw [if_neg (by omega)]; exact h
      · rintro ρ δ2 ⟨e0, j, y2, r2, x7, x8, e1, hj, hr2, hv2, rfl⟩
        subst e0
        cases y2 with
        | cons w y2 => cases e1
        | nil =>
          refine ⟨rfl, i + 1, c2, r2, _, _, _, _, rfl, by omega, fun a ha => hc2 a (List.mem_cons_of_mem _ ha), hr2, fun n hn => ?_, rfl⟩
          have h := hv2 n hn
          have h' := hv n hn
          rw [polyV_cons] at h'
          have e3 : (if i + j ≤ n then a * ev [] (n - (i + j)) else 0) = 0 := by
            split
            · show a * 0 = 0; simp
            · rfl
          rw [e3] at h
          have e4 : (if i ≤ n then a * ev (y.take (size - i)) (n - i) else 0) = if i ≤ n ∧ (n - i) % s = 0 then a * ev x ((n - i) / s) else 0 := by
            by_cases h1 : i ≤ n
            · rw [if_pos h1, ev_take (by omega), hya _ (by omega)]
              by_cases h2 : (n - i) % s = 0
              · rw [if_pos h2, if_pos ⟨h1, h2⟩]
              · rw [if_neg h2, if_neg fun h => h2 h.2]; simp
            · rw [if_neg h1, if_neg fun h => h1 h.1]
          rw [e4] at h
          obtain ⟨b1, hb1⟩ := h
          obtain ⟨b2, hb2⟩ := h'
          exact ⟨b1 + b2, by grind⟩
  · rintro ρ δ2 ⟨e0, i, c2, r, x5, x6, x7, x8, e1, hi, hc2, hr, hv, rfl⟩
    subst e0
    cases c2 with
    | cons a c2 => cases e1
    | nil =>
      refine w_fz rfl (w_ret (v_thawN rfl (v_var rfl)) ⟨rfl, r, rfl, hr, fun n hn => ?_⟩)
      have h := hv n hn
      rw [polyV_take (N := size) hn (by omega), show polyV s (ev x) n [] i = 0 from rfl, Int.add_zero] at h
      exact h
end
end K80
end
section
set_option maxHeartbeats 4000000
/-! E18: the law's left side. -/
namespace K80
open PySem PySem.Spec PyProof.Rows L2 Sh LA
section
variable {p : Int} {P m n low : Nat} {t told : List (List Int)} {c : List Int} {δ : Di} {x : List Int} {dl : D} {l : List Nat}
def leftL (P : Nat) (p : Int) (told : List (List Int)) (x : List Int) (size : Nat) : List Int := (List.range size).map fun n => toldV P (ev x) n told 1 % p
theorem leftL_row (hp : P3 p) {size : Nat} : Row p size (leftL P p told x size) where
  len := by unfold leftL; rw [List.length_map, List.length_range]
  rng := fun x hx => by
    obtain ⟨k, _, e⟩ := List.mem_map.mp hx
    subst e
    exact ⟨Int.emod_nonneg _ (by have := hp.lo; omega), Int.emod_lt_of_pos _ hp.pos⟩
theorem leftL_at {size k : Nat} (hk : k < size) : ev (leftL P p told x size) k = toldV P (ev x) k told 1 % p := by
  show (leftL P p told x size).getD k 0 = _
  unfold leftL
  rw [List.getD_eq_getElem?_getD, List.getElem?_map, List.getElem?_range hk]; rfl
def addR (p : Int) (a b : List Int) : List Int := List.zipWith (fun u v => (u + v) % p) a b
theorem addR_row (hp : P3 p) {a b : List Int} {size : Nat} (ha : a.length = size) (hb : b.length = size) : Row p size (addR p a b) where
  len := by unfold addR; rw [List.length_zipWith]; omega
  rng := fun z hz => by
    unfold addR at hz
    rw [← zipF] at hz
    obtain ⟨q, _, e⟩ := List.mem_map.mp hz
    subst e
    exact ⟨Int.emod_nonneg _ (by have := hp.lo; omega), Int.emod_lt_of_pos _ hp.pos⟩
theorem addR_at {a b : List Int} {size k : Nat} (ha : a.length = size) (hb : b.length = size) (hk : k < size) : ev (addR p a b) k = (ev a k + ev b k) % p := by
  show (addR p a b).getD k 0 = (a.getD k 0 + b.getD k 0) % p
  unfold addR
  rw [List.getD_eq_getElem?_getD, List.getD_eq_getElem?_getD, List.getD_eq_getElem?_getD, List.getElem?_zipWith, List.getElem?_eq_getElem (by omega), List.getElem?_eq_getElem (by omega)]
  rfl
abbrev lf (told : List (List Int)) (dl : D) (Z p : Int) (r : List Int) (s : Int) (x6 x7 x8 x9 : Sl) : Ev := [.va (.tup (tD told)), .va dl, .va (.int Z), .va (.int p), .va (.lst (vs r)), .va (.int s), x6, x7, x8, x9]
theorem y_left {Z : Int} {size : Nat} (hp : P3 p) (hP : p = P) (hZ : Z = size) (hz : size ≤ 1000) (hd : IsV dl x) (hx : size ≤ x.length) (ht : told.length ≤ 4) (hc : ∀ d ∈ told, ∀ a ∈ d, 0 ≤ a ∧ a < p) : f__law_se_left [.tup (tD told), dl, .int Z, .int p] δ = .ok (.lst (vs (leftL P p told x size))) δ := by
  have hlo := hp.lo
  have hhi := hp.hi
  refine w_run (w_seq (w_par (v_cons (v_new (n_zeros (v_var rfl) hZ (by omega))) (v_cons rfl v_nil)) rfl rfl ?_))
  refine w_seq (w_for (fun ds ρ δ2 => δ = δ2 ∧ ∃ i rest r x6 x7 x8 x9, ds = tD rest ∧ i + rest.length ≤ 4 ∧ (∀ d ∈ rest, ∀ a ∈ d, 0 ≤ a ∧ a < p) ∧ Row p size r ∧ (∀ n, n < size → p ∣ ev r n + toldV P (ev x) n rest (P ^ i) - toldV P (ev x) n told 1) ∧ ρ = lf told dl Z p r (p ^ i) x6 x7 x8 x9) (i_seq (v_var rfl) rfl) ⟨rfl, 0, told, List.replicate size 0, .em, .em, .em, .em, rfl, by omega, hc, ⟨List.length_replicate, fun x hx => by rw [(List.mem_replicate.mp hx).2]; omega⟩, fun n hn => ?_, by rw [Int.pow_zero]; rfl⟩ ?_ ?_)
  · rw [Nat.pow_zero, show ev (List.replicate size 0) n = 0 by
      show (List.replicate size (0 : Int)).getD n 0 = 0
      rw [List.getD_eq_getElem?_getD, List.getElem?_replicate_of_lt hn]; rfl]
    exact ⟨0, by omega⟩
  · rintro d ds ρ δ2 ⟨e0, i, rest, r, x6, x7, x8, x9, e1, hi, hrest, hr, hv, rfl⟩
    subst e0
    cases rest with
    | nil => cases e1
    | cons c rest =>
      cases e1
      rw [List.length_cons] at hi
      obtain ⟨h1, h2, h3⟩ := pow_ok hp hP (i := i) (by omega)
      obtain ⟨r2, ht2, hr2, hv2⟩ := y_times (δ := δ) (x := x) (s := P ^ i) hp hZ hz (hrest c List.mem_cons_self)
      refine ⟨_, g_nm (lt' rfl), w_seq (w_let (v_call (v_cons (v_var rfl) (v_cons (v_call (v_cons (v_var rfl) (v_cons (v_var rfl) (v_cons (v_var rfl) v_nil))) rfl (y_spread hd h3 h1 (by omega) hZ hz hx)) (v_cons (v_var rfl) (v_cons (v_var rfl) v_nil)))) rfl ht2) rfl ?_)⟩
      have hal : (addR p r r2).length = size := (addR_row hp hr.len hr2.len).len
      refine w_par (v_cons (v_comp (δ2 := δ) (i_zip (v_var rfl) (v_var rfl) rfl rfl) (c_zip (fun u v => (u + v) % p) (lt' rfl) (lt' rfl) fun u hu v hv => v_bin (v_bin (v_var rfl) (v_var rfl) (addD_i _ _)) (v_var rfl) (modD_ok hp.pos)) (len_vs (n := size) (Nat.le_of_eq hal) (by omega))) (v_cons (v_bin (v_var rfl) (v_var rfl) (mulD_ok (.inr (mulB_of (by omega) (by omega))))) v_nil)) rfl rfl ⟨rfl, i + 1, rest, addR p r r2, .va (.tup (vs c)), .va (.lst (vs r2)), x8, x9, rfl, by omega, fun d hd => hrest d (List.mem_cons_of_mem _ hd), addR_row hp hr.len hr2.len, fun n hn => ?_, ?_⟩
      · have g1 := hv n hn
        have g2 := hv2 n hn
        rw [toldV_cons] at g1
        rw [addR_at hr.len hr2.len hn, Nat.pow_succ]
        have hm2 := Int.mul_ediv_add_emod (ev r n + ev r2 n) p
        generalize (ev r n + ev r2 n) % p = v at hm2 ⊢
        generalize (ev r n + ev r2 n) / p = u at hm2
        obtain ⟨b1, hb1⟩ := g1
        obtain ⟨b2, hb2⟩ := g2
        exact ⟨b1 + b2 - u, by grind⟩
      · rw [Int.pow_succ]; rfl
  · rintro ρ δ2 ⟨e0, i, rest, r, x6, x7, x8, x9, e1, hi, hrest, hr, hv, rfl⟩
    subst e0
    cases rest with
    | cons a c2 => cases e1
    | nil =>
      refine w_ret (v_var rfl) ⟨?_, rfl⟩
      rw [row_eq hr (leftL_row hp) fun k hk => ?_]
      rw [leftL_at hk]
      have h1 := hv k hk
      have e3 : toldV P (ev x) k [] (P ^ i) = 0 := rfl
      rw [e3] at h1
      have hm2 := Int.mul_ediv_add_emod (toldV P (ev x) k told 1) p
      generalize toldV P (ev x) k told 1 % p = v at hm2 ⊢
      obtain ⟨b1, hb1⟩ := h1
      exact ⟨b1 + toldV P (ev x) k told 1 / p, by grind⟩
end
end K80
end
section
set_option maxHeartbeats 4000000
/-! E19: the law's lines. -/
namespace K80
open PySem PySem.Spec PyProof.Rows L2 Sh LA
theorem foldl_app {α β : Type} {g : α → β} : ∀ {l : List α} {xs : List β}, l.foldl (fun xs a => xs ++ [g a]) xs = xs ++ l.map g
  | [], xs => by simp
  | a :: l, xs => by rw [List.foldl_cons, foldl_app, List.map_cons, List.append_assoc]; rfl
section
variable {p : Int} {P m n low : Nat} {t told : List (List Int)} {c : List Int} {δ : Di} {x : List Int} {dl : D} {l : List Nat}
def unitL (size k : Nat) : List Int := (List.range size).map fun n => if n = k then 1 else 0
theorem unitL_at {size k n : Nat} (h : n < size) : ev (unitL size k) n = unit k n := by
  show (unitL size k).getD n 0 = _
  unfold unitL unit
  rw [List.getD_eq_getElem?_getD, List.getElem?_map, List.getElem?_range h]; rfl
theorem left_unit {size k n : Nat} (h : n < size) : (leftL P p told (unitL size k) size).getD n 0 = toldV P (unit k) n told 1 % p := by
  have h1 : ev (leftL P p told (unitL size k) size) n = _ := leftL_at h
  show ev (leftL P p told (unitL size k) size) n = _
  rw [h1, toldV_eq fun j hj => unitL_at (by omega)]
abbrev ln (told : List (List Int)) (M p : Int) (s3 : Sl) (low : Nat) (s5 s6 s7 s8 : Sl) : Ev := [.va (.tup (tD told)), .va (.int M), .va (.int p), s3, .va (.int low), s5, s6, s7, s8, .em, .em]
theorem y_lines {M : Int} (T : Told p P c t low m l) (hM : M = m) : f__law_lines [.tup (tD (c :: t)), .int M, .int p] δ = .ok (.lst (qD (rowsA P p m low (c :: t)))) δ := by
  have hp := T.p3
  have hlo := hp.lo
  have hhi := hp.hi
  have hm9 := T.bd.1
  have hl9 := T.low9
  refine w_run (w_seq (w_parO (n_lst v_nil (Nat.zero_le _)) (v_call (v_cons (v_bin (v_var rfl) rfl idx0T) v_nil) rfl (y_low rfl T.hlow (by have := T.cc.2; omega))) rfl rfl (by decide) ?_))
  refine w_seq (w_own (n_lst v_nil (Nat.zero_le _)) rfl ?_)
  refine w_seq (w_foldN (l := List.range m) (st := ([] : List D)) (fun (k : Nat) => .int k) (fun k xs ρ => xs.length + k ≤ m ∧ ∃ s6 s7, ρ = ln (c :: t) M p (.ow []) low (.ow xs) s6 s7 .em) (fun xs k => xs ++ [.lst (vs (leftL P p (c :: t) (unitL (low + m) k) (low + m)))]) ((i_rngM (v_var rfl) hM (by omega)).trans (by rw [rng_eq])) ⟨by rw [List.length_range, List.length_nil]; omega, .em, .em, rfl⟩ ?_ ?_)
  · rintro k hk j xs ρ ⟨hl, s6, s7, rfl⟩
    have hul : (unitL (low + m) k).length = low + m := by unfold unitL; rw [List.length_map, List.length_range]
    refine ⟨_, g_nm (lt' rfl), w_seq (w_let (v_comp (δ2 := δ) ((i_rngM (n := low + m) (v_bin (v_var rfl) (v_var rfl) (addD_i _ _)) (by omega) (by omega)).trans (by rw [rng_eq])) (ys := vs (unitL (low + m) k)) ?_ (len_vs (n := 100) (by omega) (by omega))) rfl ?_)⟩
    · unfold unitL vs
      rw [List.map_map]
      refine c_all _ _ fun n hn => ⟨_, g_nm (lt' rfl), rfl, ?_⟩
      show _ = Out.ok (D.int (if n = k then 1 else 0)) δ
      by_cases h : n = k
      · rw [if_pos h]
        exact v_if_t (t_of (v_bin (v_var rfl) (v_var rfl) ((eqD_int _ _).trans (by rw [decide_eq_true (by omega)])))) rfl
      · rw [if_neg h]
        exact v_if_f (t_of (v_bin (v_var rfl) (v_var rfl) ((eqD_int _ _).trans (by rw [decide_eq_false (by omega)])))) rfl
    · refine w_app rfl (v_call (v_cons (v_var rfl) (v_cons (v_var rfl) (v_cons (v_bin (v_var rfl) (v_var rfl) (addD_i _ _)) (v_cons (v_var rfl) v_nil)))) rfl (y_left (size := low + m) hp T.hP (by omega) (by omega) (.inl rfl) (by omega) T.len4 fun d hd => (T.rng d hd).1)) (Nat.lt_of_lt_of_le (by omega : xs.length < 100) (by decide)) ⟨rfl, by rw [List.length_append, List.length_singleton]; omega, _, _, rfl⟩
  · rintro ρ ⟨_, s6, s7, rfl⟩
    rw [foldl_app, List.nil_append]
    refine w_seq (w_fz rfl ?_)
    refine w_foldN (l := List.range (low + m)) (st := ([] : List D)) (fun (n : Nat) => .int n) (fun k xs ρ => xs.length + k ≤ low + m ∧ ∃ s8, ρ = ln (c :: t) M p (.ow xs) low (.va (.lst ((List.range m).map fun k => .lst (vs (leftL P p (c :: t) (unitL (low + m) k) (low + m)))))) s6 s7 s8) (fun xs n => xs ++ [.lst (vs (lineL P p m (c :: t) n))]) ((i_rngM (n := low + m) (v_bin (v_var rfl) (v_var rfl) (addD_i _ _)) (by omega) (by omega)).trans (by rw [rng_eq])) ⟨by rw [List.length_range, List.length_nil]; omega, .em, rfl⟩ ?_ ?_
    · rintro n hn j xs ρ ⟨hl, s8, rfl⟩
      have hn := List.mem_range.mp hn
      refine ⟨_, g_nm (lt' rfl), w_app rfl (v_thawN rfl (v_comp (δ2 := δ) (i_seq (v_var rfl) rfl) (ys := vs (lineL P p m (c :: t) n)) ?_ (len_vs (n := 100) (by rw [(lineL_row hp).len]; omega) (by omega)))) (Nat.lt_of_lt_of_le (by omega : xs.length < 100) (by decide)) ⟨rfl, by rw [List.length_append, List.length_singleton]; omega, _, rfl⟩⟩
      unfold lineL vs
      rw [List.map_map]
      refine c_all _ _ fun k hk => ⟨_, g_nm (lt' rfl), rfl, ?_⟩
      refine (v_bin (v_var rfl) (v_var rfl) (vs_at (by rw [(leftL_row hp).len]; exact hn))).trans ?_
      rw [left_unit hn]; rfl
    · rintro ρ ⟨_, s8, rfl⟩
      rw [foldl_app, List.nil_append]
      refine w_fz rfl (w_ret (v_thawN rfl (v_var rfl)) ⟨?_, rfl⟩)
      unfold qD rowsA
      rw [List.map_map]; rfl
end
end K80
end
section
set_option maxHeartbeats 4000000
/-! E20: the law's letters. -/
namespace K80
open PySem PySem.Spec PyProof.Rows L2 Sh LA
section
variable {p : Int} {P m n low : Nat} {t told : List (List Int)} {c : List Int} {δ : Di} {x : List Int} {dl : D} {l : List Nat}
theorem ev_pad {y : List Int} {k : Nat} : ev (y ++ List.replicate k 0) = ev y := by
  funext n
  show (y ++ List.replicate k 0).getD n 0 = y.getD n 0
  rw [List.getD_eq_getElem?_getD, List.getD_eq_getElem?_getD]
  by_cases h : n < y.length
  · rw [List.getElem?_append_left h]
  · rw [List.getElem?_append_right (by omega), List.getElem?_eq_none (l := y) (by omega), List.getElem?_replicate]
    split <;> rfl
theorem y_continued (T : Told p P c t low m l) (hx : Row p m x) {K : Int} {k : Nat} (hK : K = k) (hk : k ≤ 150) (hk9 : 9 ≤ k) : f__law_continued [.tup (tD (c :: t)), .tup (vs x), .int K, .int p] δ = .ok (.tup (vs (askL P p c t low m k x))) δ := by
  have hp := T.p3
  have hlo := hp.lo
  have hhi := hp.hi
  have hm9 := T.bd.1
  have hl9 := T.low9
  obtain ⟨h1, h2, h3, h4⟩ := lead_rng hp T.cc.1 T.hlow
  have hi := inv_rng hp h2 h3
  refine w_run (w_seq (w_parO (n_list (v_var rfl) rfl) (v_call (v_cons (v_bin (v_var rfl) rfl idx0T) v_nil) rfl (y_low rfl T.hlow (by have := T.cc.2; omega))) rfl rfl (by decide) ?_))
  refine w_seq (w_let (v_inv (i := 9) hp h2 h3 (v_var rfl) (lt' rfl) fun w hw hw2 => t_of (v_bin (v_bin (v_bin (v_var rfl) (v_bin (v_bin (v_var rfl) rfl idx0T) (v_var rfl) (vs_atT h1)) (mulD_ok (.inl (mulB_of (by omega) (by omega))))) (v_var rfl) (modD_ok hp.pos)) rfl (eqD_int _ _))) rfl ?_)
  unfold askL
  generalize inv p (c.getD low 0) = iv at hi
  refine w_seq (w_wh (fun f ρ δ2 => δ = δ2 ∧ ∃ y x7 x8, k - y.length < f ∧ y.length ≤ k ∧ (∀ a ∈ y, 0 ≤ a ∧ a < p) ∧ contL p P (c :: t) low iv (k - y.length) y = contL p P (c :: t) low iv (k - m) x ∧ ρ = [.va (.tup (tD (c :: t))), .va (.tup (vs x)), .va (.int K), .va (.int p), .ow (vs y), .va (.int low), .va (.int iv), x7, x8, .em]) ⟨rfl, x, .em, .em, by omega, by rw [hx.len]; omega, hx.rng, by rw [hx.len], rfl⟩ ?_)
  rintro f ρ δ2 ⟨e0, y, x7, x8, hf, hy, hy2, hy3, rfl⟩
  subst e0
  cases f with
  | zero => omega
  | succ f =>
    refine ⟨f, _, rfl, t_thaw rfl (t_of (v_bin (v_arg (v_cons (v_var rfl) v_nil) (IsV.len (x := y) (.inl rfl))) (v_var rfl) (ltD_i _ _))), fun hk2 => ?_, fun hk2 => ?_⟩
    · have hk2 := of_decide_eq_false hk2
      have hyk : y.length = k := by omega
      rw [hyk, Nat.sub_self] at hy3
      refine w_fz rfl (w_ret (v_thawN rfl (v_arg (v_cons (v_cutL (v_var rfl) (v_var rfl) (by rw [List.length_map]; omega)) v_nil) rfl)) ⟨?_, rfl⟩)
      rw [← hy3]; rfl
    · have hk2 := of_decide_eq_true hk2
      have hyk : y.length < k := by omega
      have hadd : addD (.int y.length) (.int low) = some (.int (y.length + low : Nat)) := rfl
      have hcat : addD (.lst (vs y)) (.lst (vs (List.replicate (low + 1) 0))) = some (.lst (vs (y ++ List.replicate (low + 1) 0))) := by
        have e1 : (vs y).length + (vs (List.replicate (low + 1) 0)).length ≤ lim := by
          rw [List.length_map, List.length_map, List.length_replicate]; exact lim_of (by omega)
        refine (if_pos e1).trans ?_
        unfold vs
        rw [List.map_append]
      have hlf := y_left (δ := δ) (p := p) (P := P) (told := c :: t) (Z := ((y.length + low : Nat) : Int) + 1) (size := y.length + low + 1) (x := y ++ List.replicate (low + 1) 0) (dl := .lst (vs (y ++ List.replicate (low + 1) 0))) hp T.hP (by omega) (by omega) (.inl rfl) (by rw [List.length_append, List.length_replicate]; omega) T.len4 fun d hd => (T.rng d hd).1
      have hat : (leftL P p (c :: t) (y ++ List.replicate (low + 1) 0) (y.length + low + 1)).getD (y.length + low) 0 = toldV P (ev y) (low + y.length) (c :: t) 1 % p := by
        have e1 : ev (leftL P p (c :: t) (y ++ List.replicate (low + 1) 0) (y.length + low + 1)) (y.length + low) = _ := leftL_at (by omega)
        rw [ev_pad, Nat.add_comm y.length low] at e1
        show ev _ _ = _
        rw [Nat.add_comm y.length low]
        exact e1
      refine w_seq (w_let (v_thaw rfl (v_bin (v_arg (v_cons (v_var rfl) v_nil) (IsV.len (x := y) (.inl rfl))) (v_var rfl) hadd) nol_int) rfl ?_)
      refine w_seq (w_let (v_thaw rfl (v_bin (v_call (v_cons (v_var rfl) (v_cons (v_bin (v_var rfl) (v_new (n_zeros (k := low + 1) (v_bin (v_var rfl) rfl (addD_i _ _)) (by omega) (by omega))) hcat) (v_cons (v_bin (v_var rfl) rfl (addD_i _ _)) (v_cons (v_var rfl) v_nil)))) rfl hlf) (v_var rfl) (vs_at (by rw [(leftL_row hp).len]; omega))) nol_int) rfl ?_)
      rw [hat]
      refine w_app rfl (v_bin (v_bin (v_bin rfl (v_var rfl) (subD_i _ _)) (v_var rfl) (mulD_ok (.inr (mulB_of (by omega) (by omega))))) (v_var rfl) (modD_ok hp.pos)) (by rw [List.length_map]; exact Nat.lt_of_lt_of_le (by omega : y.length < 151) (by decide)) ⟨rfl, y ++ [nextL p P (c :: t) low iv y], .va (.int (y.length + low : Nat)), .va (.int (toldV P (ev y) (low + y.length) (c :: t) 1 % p)), ?_, ?_, app_rng hp.pos hy2, ?_, ?_⟩
      · rw [List.length_append, List.length_singleton]; omega
      · rw [List.length_append, List.length_singleton]; omega
      · rw [← hy3, List.length_append, List.length_singleton, show k - y.length = (k - (y.length + 1)) + 1 by omega]; rfl
      · unfold vs
        rw [List.map_append]
        unfold nextL
        rw [show (0 - toldV P (ev y) (low + y.length) (c :: t) 1 % p) * iv = 0 - toldV P (ev y) (low + y.length) (c :: t) 1 % p * iv by grind]
        rfl
end
end K80
end
section
set_option maxHeartbeats 4000000
/-! E21: rows sorted. -/
namespace K80
open PySem PySem.Spec PyProof.Rows L2 Sh LA
abbrev pD (q : Nat × List Int) : D := .tup [.int (q.1 : Nat), .lst (vs q.2)]
theorem alike_vs : ∀ {a b : List Int}, PySem.W.alikeAll (pyL (vs a)) (pyL (vs b)) = true
  | [], _ => by rw [show pyL (vs []) = [] from rfl]; rw [PySem.W.alikeAll]
  | x :: a, [] => by
    show PySem.W.alikeAll (PyData.int x :: pyL (vs a)) [] = true
    rw [PySem.W.alikeAll]
  | x :: a, y :: b => by
    show PySem.W.alikeAll (PyData.int x :: pyL (vs a)) (PyData.int y :: pyL (vs b)) = true
    rw [PySem.W.alikeAll, PySem.W.alike, alike_vs]; rfl
theorem pD_nice (q : Nat × List Int) : Nice 2 (pD q) := nice_tup fun d hd => by
  rcases List.mem_cons.mp hd with e | h
  · subst e; exact nice_int
  · rw [List.mem_singleton.mp h]; exact nice_lst nice_vs
theorem le_pD {a b : Nat × List Int} (h : a.1 = b.1 → a = b) : PySem.W.dataLe false D.py (pD a) (pD b) = decide (a.1 ≤ b.1) := by
  obtain ⟨ra, ha⟩ : ∃ r, PySem.W.keyToks (pD a).py = .inl 1 :: .inl (a.1 : Int) :: r := ⟨_, by rw [D.py, pyL, PySem.W.keyToks, PySem.W.keyToksAll, D.py, PySem.W.keyToks]; rfl⟩
  obtain ⟨rb, hb⟩ : ∃ r, PySem.W.keyToks (pD b).py = .inl 1 :: .inl (b.1 : Int) :: r := ⟨_, by rw [D.py, pyL, PySem.W.keyToks, PySem.W.keyToksAll, D.py, PySem.W.keyToks]; rfl⟩
  rw [PySem.W.dataLe_eq]
  show (!PySem.W.dataLt (pD b).py (pD a).py) = _
  by_cases e : a.1 = b.1
  · have h := h e
    subst h
    unfold PySem.W.dataLt
    rw [PyProof.Rows.lex_irrefl, decide_eq_true (Nat.le_refl _)]; rfl
  · unfold PySem.W.dataLt
    rw [ha, hb, PyProof.Rows.lex_self, PyProof.Rows.lex_cons]
    show (!(decide ((b.1 : Int) < (a.1 : Int)) || (!decide ((a.1 : Int) < (b.1 : Int)) && _))) = _
    by_cases h2 : a.1 ≤ b.1
    · rw [decide_eq_false (by omega : ¬ ((b.1 : Int) < (a.1 : Int))), decide_eq_true (by omega : (a.1 : Int) < (b.1 : Int)), decide_eq_true h2]; rfl
    · rw [decide_eq_true (by omega : (b.1 : Int) < (a.1 : Int)), decide_eq_false h2]; rfl
theorem sort_ok {left : Pr} : sortOk (left.map pD) = true := by
  unfold sortOk
  simp only [Bool.and_eq_true]
  refine ⟨⟨⟨?_, ?_⟩, ?_⟩, ?_⟩
  · refine (NiceL.of (n := 2) fun d hd => ?_).nod
    obtain ⟨q, _, e⟩ := List.mem_map.mp hd
    subst e; exact pD_nice q
  · refine List.all_eq_true.mpr fun d hd => List.all_eq_true.mpr fun d2 hd2 => ?_
    obtain ⟨q, _, e⟩ := List.mem_map.mp hd
    obtain ⟨q2, _, e2⟩ := List.mem_map.mp hd2
    subst e e2
    show PySem.W.alike (PyData.tuple [.int q.1, .list (pyL (vs q.2))]) (PyData.tuple [.int q2.1, .list (pyL (vs q2.2))]) = true
    rw [PySem.W.alike, PySem.W.alikeAll, PySem.W.alike, PySem.W.alikeAll, PySem.W.alike, alike_vs, PySem.W.alikeAll]; rfl
  · refine List.all_eq_true.mpr fun d hd => ?_
    obtain ⟨q, _, e⟩ := List.mem_map.mp hd
    subst e; rfl
  · refine List.all_eq_true.mpr fun d hd => ?_
    obtain ⟨q, _, e⟩ := List.mem_map.mp hd
    subst e
    exact decide_eq_true (Nat.le_trans (pD_nice q).dep (by decide))
theorem nd_eq : ∀ {left : Pr}, (left.map (·.1)).Nodup → ∀ a ∈ left, ∀ b ∈ left, a.1 = b.1 → a = b
  | [], _, a, ha, _, _, _ => nomatch ha
  | q :: l, h, a, ha, b, hb, e => by
    rw [List.map_cons, List.nodup_cons] at h
    rcases List.mem_cons.mp ha with e1 | h1
    · rcases List.mem_cons.mp hb with e2 | h2
      · rw [e1, e2]
      · exact absurd (List.mem_map.mpr ⟨b, h2, by rw [← e, e1]⟩) h.1
    · rcases List.mem_cons.mp hb with e2 | h2
      · exact absurd (List.mem_map.mpr ⟨a, h1, by rw [e, e2]⟩) h.1
      · exact nd_eq h.2 a h1 b h2 e
theorem sort_left {left : Pr} (hnd : (left.map (·.1)).Nodup) : ∃ left' : Pr, sortF [.lst (left.map pD)] = some (.lst (left'.map pD)) ∧ left'.Perm left ∧ left'.Pairwise fun a b => a.1 < b.1 := by
  have hp : (left.mergeSort fun a b => decide (a.1 ≤ b.1)).Perm left := List.mergeSort_perm _ _
  refine ⟨left.mergeSort fun a b => decide (a.1 ≤ b.1), ?_, hp, ?_⟩
  · refine (if_pos sort_ok).trans ?_
    unfold sortL
    rw [List.map_mergeSort (s := PySem.W.dataLe false D.py) fun a ha b hb => (le_pD (nd_eq hnd a ha b hb)).symm]
  · have h1 := List.pairwise_mergeSort (le := fun (a b : Nat × List Int) => decide (a.1 ≤ b.1)) (fun a b c h1 h2 => decide_eq_true (Nat.le_trans (of_decide_eq_true h1) (of_decide_eq_true h2))) (fun a b => by
      rcases Nat.le_total a.1 b.1 with h | h
      · rw [decide_eq_true h]; rfl
      · rw [decide_eq_true h, Bool.or_true]) left
    have h2 : ((left.mergeSort fun a b => decide (a.1 ≤ b.1)).map (·.1)).Nodup := (hp.map _).nodup_iff.mpr hnd
    generalize left.mergeSort (fun a b => decide (a.1 ≤ b.1)) = L at h1 h2
    clear hp hnd
    induction L with
    | nil => exact .nil
    | cons q L ih =>
      rw [List.pairwise_cons] at h1 ⊢
      rw [List.map_cons, List.nodup_cons] at h2
      refine ⟨fun r hr => ?_, ih h1.2 h2.2⟩
      have := of_decide_eq_true (h1.1 r hr)
      have : q.1 ≠ r.1 := fun e => h2.1 (List.mem_map.mpr ⟨r, hr, e.symm⟩)
      omega
end K80
end
section
set_option maxHeartbeats 4000000
/-! E22: the law's shortened rows. -/
namespace K80
open PySem PySem.Spec PyProof.Rows L2 Sh LA
section
variable {p : Int} {P m n low : Nat} {rows : List (List Int)} {δ : Di}
abbrev sr (rows : List (List Int)) (p : Int) (left : Pr) (x3 x4 x5 x6 x7 x8 x9 : Sl) : Ev := [.va (.lst (qD rows)), .va (.int p), .va (.lst (left.map pD)), x3, x4, x5, x6, x7, x8, x9, .em, .em, .em, .em]
theorem step_pD {left : Pr} {l : Nat} {v : List Int} {G : List Int → List Int} : (left.map (fun q => (q.1, G q.2)) ++ [(l, v)]).map pD = (left.map fun q => pD (q.1, G q.2)) ++ [pD (l, v)] := by
  rw [List.map_append, List.map_map]; rfl
theorem y_shortened (hp : P3 p) (hm : m ≤ 100) (hA : ∀ r ∈ rows, Row p m r) (hn : rows.length ≤ 100) (hnew : ∀ done r rest, rows = done ++ r :: rest → ∀ left, Inv p m done left → nzs m (redL p left r) ≠ []) : ∃ L : Pr, f__law_shortened [.lst (qD rows), .int p] δ = .ok (.tup (L.map fun q => .tup (vs q.2))) δ ∧ Inv p m rows L ∧ L.Pairwise fun a b => a.1 < b.1 := by
  have hlo := hp.lo
  have hhi := hp.hi
  suffices main : ∃ d, f__law_shortened [.lst (qD rows), .int p] δ = .ok d δ ∧ ∃ L : Pr, d = .tup (L.map fun q => .tup (vs q.2)) ∧ Inv p m rows L ∧ L.Pairwise fun a b => a.1 < b.1 by
    obtain ⟨d, h1, L, h2, h3, h4⟩ := main
    subst h2
    exact ⟨L, h1, h3, h4⟩
  refine w_ex (w_seq (w_let (v_arg v_nil rfl) rfl ?_))
  refine w_seq (w_for (fun ds ρ δ2 => δ = δ2 ∧ ∃ done rest left x3 x4 x5 x6 x7 x8 x9, ds = qD rest ∧ rows = done ++ rest ∧ Inv p m done left ∧ (left.Pairwise fun a b => a.1 < b.1) ∧ ρ = sr rows p left x3 x4 x5 x6 x7 x8 x9) (i_seq (v_var rfl) rfl) ⟨rfl, [], rows, [], .em, .em, .em, .em, .em, .em, .em, rfl, rfl, Inv.nil, .nil, rfl⟩ ?_ ?_)
  · rintro d ds ρ δ2 ⟨e0, done, rest, left, x3, x4, x5, x6, x7, x8, x9, e1, e2, I, hs, rfl⟩
    subst e0
    cases rest with
    | nil => cases e1
    | cons row rest =>
      cases e1
      have hrow : Row p m row := hA row (by rw [e2]; exact List.mem_append_right _ List.mem_cons_self)
      refine ⟨_, g_nm (lt' rfl), w_seq (w_let (v_arg (v_cons (v_var rfl) v_nil) rfl) rfl ?_)⟩
      refine w_seq (w_fold (l := left) (st := row) pD (fun r ρ => Row p m r ∧ ∃ x5 x6, ρ = sr rows p left (.va (.lst (vs row))) (.va (.lst (vs r))) x5 x6 x7 x8 x9) (fun r q => subR p r (r.getD q.1 0) q.2) (i_seq (v_var rfl) rfl) ⟨hrow, _, _, rfl⟩ ?_ ?_)
      · rintro q hq r ρ ⟨hr, x5, x6, rfl⟩
        have hq1 := I.row q hq
        have hc := hr.at hq1.2
        refine ⟨_, g_tp2 (lt' rfl) (lt' rfl), w_let (v_comp (δ2 := δ) (i_zip (v_var rfl) (v_var rfl) rfl rfl) (c_zip (fun one other => (one - r.getD q.1 0 * other) % p) (lt' rfl) (lt' rfl) fun x hx y hy => ?_) (len_vs (subR_len (p := p) hr.len) (by omega))) rfl ⟨rfl, subR_row hp.pos hr hq1.1, _, _, rfl⟩⟩
        exact v_bin (v_bin (v_var rfl) (v_bin (v_bin (v_var rfl) (v_var rfl) (vs_at (by rw [hr.len]; exact hq1.2))) (v_var rfl) (mulD_ok (mulR' hp hc.1 hc.2))) rfl) (v_var rfl) (modD_ok hp.pos)
      · rintro ρ ⟨hr, x5, x6, rfl⟩
        rw [red_fold] at hr ⊢
        have hne := hnew done row rest e2 left I
        have hs2 := I.step hp.one (fun a => inv_ok hp) hrow
        generalize hrr : redL p left row = r at hr hne ⊢
        cases hz : nzs m r with
        | nil => exact absurd hz hne
        | cons l t =>
          obtain ⟨h1, h2, h3⟩ := nzs_cons hz
          have ha := hr.at h2
          have h0 : 0 < r.getD l 0 := by
            have : r.getD l 0 ≠ 0 := h1
            have := ha.1
            show 0 < ev r l
            omega
          have hi := inv_rng hp h0 ha.2
          have e5 := step_cons (p := p) (left := left) (row := row) (by rw [hrr]; exact hz)
          rw [hrr] at e5
          have hmr := mulR_row (c := inv p (r.getD l 0)) hp.pos hr.len
          have hl2 := Inv.len I
          have hz' : nzs r.length r = l :: t := by rw [hr.len]; exact hz
          refine w_seq (w_let (v_bin (x_enum (v_var rfl) rfl (by rw [hr.len]; omega) (lt' rfl) (lt' rfl) (by decide) fun k a => t_of (v_bin (v_var rfl) rfl (neD_b _ _))) rfl (by rw [hz']; exact idx0)) rfl ?_)
          refine w_seq (w_let (v_inv (i := 10) hp h0 ha.2 (v_var rfl) (lt' rfl) fun w hw hw2 => t_of (v_bin (v_bin (v_bin (v_var rfl) (v_bin (v_var rfl) (v_var rfl) (vs_at (by rw [hr.len]; exact h2))) (mulD_ok (.inl (mulB_of (by omega) (by omega))))) (v_var rfl) (modD_ok hp.pos)) rfl (eqD_int _ _))) rfl ?_)
          refine w_seq (w_let (v_comp (δ2 := δ) (i_seq (v_var rfl) rfl) (c_map (fun one => one * inv p (r.getD l 0) % p) (lt' rfl) fun x hx => v_bin (v_bin (v_var rfl) (v_var rfl) (mulD_ok (.inr (mulB_of (by omega) (by omega))))) (v_var rfl) (modD_ok hp.pos)) (len_vs (mulR_len (p := p) hr.len) (by omega))) rfl ?_)
          have hmrl : (r.map fun one => one * inv p (r.getD l 0) % p) = mulR p r (inv p (r.getD l 0)) := rfl
          rw [hmrl]
          generalize hmv : mulR p r (inv p (r.getD l 0)) = mr at hmr e5
          refine w_seq (w_own (n_lst v_nil (Nat.zero_le _)) rfl ?_)
          refine w_seq (w_foldN (l := left) (st := ([] : List D)) pD (fun k xs ρ => xs.length + k ≤ m ∧ ∃ x6 x9, ρ = sr rows p left (.va (.lst (vs row))) (.va (.lst (vs mr))) (.va (.int l)) x6 (.va (.int (inv p (r.getD l 0)))) (.ow xs) x9) (fun xs q => xs ++ [pD (q.1, subR p q.2 (q.2.getD l 0) mr)]) (i_seq (v_var rfl) rfl) ⟨by rw [List.length_nil]; omega, _, _, rfl⟩ ?_ ?_)
          · rintro q hq k xs ρ ⟨hl, x6, x9, rfl⟩
            have hq1 := (I.row q hq).1
            have hc := hq1.at h2
            refine ⟨_, g_tp2 (lt' rfl) (lt' rfl), w_app rfl (v_arg (v_cons (v_var rfl) (v_cons (v_comp (δ2 := δ) (i_zip (v_var rfl) (v_var rfl) rfl rfl) (c_zip (fun one other => (one - q.2.getD l 0 * other) % p) (lt' rfl) (lt' rfl) fun x hx y hy => ?_) (len_vs (subR_len (p := p) hq1.len) (by omega))) v_nil)) rfl) (Nat.lt_of_lt_of_le (by omega : xs.length < 101) (by decide)) ⟨rfl, by rw [List.length_append, List.length_singleton]; omega, _, _, rfl⟩⟩
            exact v_bin (v_bin (v_var rfl) (v_bin (v_bin (v_var rfl) (v_var rfl) (vs_at (by rw [hq1.len]; exact h2))) (v_var rfl) (mulD_ok (mulR' hp hc.1 hc.2))) rfl) (v_var rfl) (modD_ok hp.pos)
          · rintro ρ ⟨_, x6, x9, rfl⟩
            rw [foldl_app, List.nil_append]
            have hst := step_pD (left := left) (l := l) (v := mr) (G := fun v => subR p v (v.getD l 0) mr)
            have hnd : ((stepL p (inv p) m left row).map (·.1)).Nodup := by
              have := hs2.own.nd
              unfold evP at this
              rw [List.map_map] at this
              exact this
            obtain ⟨left', hsort, hperm, hpw⟩ := sort_left hnd
            rw [e5, hst] at hsort
            have hadd : addD (.lst (left.map fun q => pD (q.1, subR p q.2 (q.2.getD l 0) mr))) (.lst [pD (l, mr)]) = some (.lst ((left.map fun q => pD (q.1, subR p q.2 (q.2.getD l 0) mr)) ++ [pD (l, mr)])) := if_pos (by rw [List.length_map]; exact lim_of (by show left.length + 1 ≤ _; omega))
            refine w_fz rfl (w_let (v_thawN rfl (v_arg (v_cons (v_bin (v_var rfl) (v_arg (v_cons (v_arg (v_cons (v_var rfl) (v_cons (v_var rfl) v_nil)) rfl) v_nil) rfl) hadd) v_nil) hsort)) rfl ⟨rfl, done ++ [row], rest, left', _, _, _, _, _, _, _, rfl, by rw [e2, List.append_assoc]; rfl, hs2.perm hperm, hpw, rfl⟩)
  · rintro ρ δ2 ⟨e0, done, rest, left, x3, x4, x5, x6, x7, x8, x9, e1, e2, I, hs, rfl⟩
    subst e0
    cases rest with
    | cons r rest => cases e1
    | nil =>
      rw [List.append_nil] at e2
      subst e2
      have hl2 := Inv.len I
      refine w_ret (v_arg (v_cons (v_comp (δ2 := δ) (i_seq (v_var rfl) rfl) (c_all pD (fun q => .tup (vs q.2)) fun q hq => ⟨_, g_tp2 (lt' rfl) (lt' rfl), rfl, v_arg (v_cons (v_var rfl) v_nil) rfl⟩) (by rw [List.length_map]; exact lim_of (by omega))) v_nil) rfl) ⟨rfl, left, rfl, I, hs⟩
end
end K80
end
section
set_option maxHeartbeats 4000000
/-! E23: the law's kernel. -/
namespace K80
open PySem PySem.Spec PyProof.Rows L2 Sh LA
section
variable {p : Int} {P m n low : Nat} {A : List (List Int)} {δ : Di}
theorem vf_rows (hp : P3 p) {L : Pr} (I : Inv p m A L) : (∀ r ∈ (freesL m L).map (vfL p m L), Row p m r) ∧ ∀ done r rest, (freesL m L).map (vfL p m L) = done ++ r :: rest → ∀ left, Inv p m done left → nzs m (redL p left r) ≠ [] := by
  refine ⟨fun r hr => ?_, fun done r rest e left J => ?_⟩
  · obtain ⟨f, hf, e⟩ := List.mem_map.mp hr
    subst e; exact vf_row hp.one I hf
  · obtain ⟨l1, l2, h1, h2, h3⟩ := List.map_eq_append_iff.mp e
    cases l2 with
    | nil => cases h3
    | cons f l2 =>
      rw [List.map_cons] at h3
      cases h3
      subst h2
      have hs := frees_sorted (m := m) (left := L)
      rw [h1, List.pairwise_append] at hs
      exact vf_new hp.one I (by rw [h1]; exact List.mem_append_right _ List.mem_cons_self) (fun g hg => ⟨by rw [h1]; exact List.mem_append_left _ hg, by have := hs.2.2 g hg f List.mem_cons_self; omega⟩) J
abbrev kl (A : List (List Int)) (M p : Int) (left : Pr) (x5 x6 x7 x8 x9 x10 x11 x12 : Sl) : Ev := [.va (.lst (qD A)), .va (.int M), .va (.int p), .va (.lst (rD left)), .va (.lst (lD left)), x5, x6, x7, x8, x9, x10, x11, x12, .em, .em, .em, .em]
theorem y_kernel {M : Int} (hM : M = m) (hp : P3 p) (hA : ∀ r ∈ A, Row p m r) (hm : m ≤ 100) : ∃ L : Pr, f__law_kernel [.lst (qD A), .int M, .int p] δ = .ok (.tup (L.map fun q => .tup (vs q.2))) δ ∧ Inv p m ((freesL m (elimL p (inv p) m A)).map (vfL p m (elimL p (inv p) m A))) L ∧ L.Pairwise fun a b => a.1 < b.1 := by
  have hlo := hp.lo
  have hhi := hp.hi
  suffices main : ∃ d, f__law_kernel [.lst (qD A), .int M, .int p] δ = .ok d δ ∧ ∃ L : Pr, d = .tup (L.map fun q => .tup (vs q.2)) ∧ Inv p m ((freesL m (elimL p (inv p) m A)).map (vfL p m (elimL p (inv p) m A))) L ∧ L.Pairwise fun a b => a.1 < b.1 by
    obtain ⟨d, h1, L, h2, h3, h4⟩ := main
    subst h2
    exact ⟨L, h1, h3, h4⟩
  refine w_ex (w_seq (w_asg (v_arg (v_cons (v_arg v_nil rfl) (v_cons (v_arg v_nil rfl) v_nil)) rfl) (g_tp2 (lt' rfl) (lt' rfl)) ?_))
  refine w_seq (w_fold (l := A) (st := ([] : Pr)) (fun r => .lst (vs r)) (fun left ρ => (∃ done, Inv p m done left) ∧ ∃ x5 x6 x7 x8 x9 x10, ρ = kl A M p left x5 x6 x7 x8 x9 x10 .em .em) (stepL p (inv p) m) (i_seq (v_var rfl) rfl) ⟨⟨[], Inv.nil⟩, _, _, _, _, _, _, rfl⟩ ?_ ?_)
  · rintro row hrow left ρ ⟨⟨done, I⟩, x5, x6, x7, x8, x9, x10, rfl⟩
    refine ⟨_, g_nm (lt' rfl), w_seq (w_let (v_arg (v_cons (v_var rfl) v_nil) rfl) rfl ?_)⟩
    refine w_seq (w_fold (l := left) (st := row) (fun q => .tup [.int (q.1 : Nat), .lst (vs q.2)]) (fun r ρ => Row p m r ∧ ∃ x7 x8, ρ = kl A M p left (.va (.lst (vs row))) (.va (.lst (vs r))) x7 x8 x9 x10 .em .em) (fun r q => subR p r (r.getD q.1 0) q.2) (i_zip (v_var rfl) (v_var rfl) rfl rfl |>.trans (by rw [zip_self])) ⟨hA row hrow, _, _, rfl⟩ ?_ ?_)
    · rintro q hq r ρ ⟨hr, x7, x8, rfl⟩
      have hq1 := I.row q hq
      have hc := hr.at hq1.2
      refine ⟨_, g_tp2 (lt' rfl) (lt' rfl), w_let (v_thawN rfl (v_comp (δ2 := δ) (i_zip (v_var rfl) (v_var rfl) rfl rfl) (c_zip (fun one other => (one - r.getD q.1 0 * other) % p) (lt' rfl) (lt' rfl) fun x hx y hy => ?_) (len_vs (subR_len (p := p) hr.len) (by omega)))) rfl ⟨rfl, subR_row hp.pos hr hq1.1, _, _, rfl⟩⟩
      exact v_bin (v_bin (v_var rfl) (v_bin (v_bin (v_var rfl) (v_var rfl) (vs_at (by rw [hr.len]; exact hq1.2))) (v_var rfl) (mulD_ok (mulR' hp hc.1 hc.2))) rfl) (v_var rfl) (modD_ok hp.pos)
    · rintro ρ ⟨hr, x7, x8, rfl⟩
      rw [red_fold] at hr ⊢
      generalize hrr : redL p left row = r at hr ⊢
      have hs := I.step hp.one (fun a => inv_ok hp) (hA row hrow)
      have hen : eThaw 6 (eComp [13, 14] (iEnum (eVar 6)) (gTp [gNm 13, gNm 14]) (tOf (eBin neD (eVar 14) (eC (.int 0)))) (eVar 13)) (kl A M p left (.va (.lst (vs row))) (.va (.lst (vs r))) x7 x8 x9 x10 .em .em) δ = .ok (.lst ((nzs m r).map fun (k : Nat) => D.int k)) δ := by
        have := x_enum (δ := δ) (ρ := kl A M p left (.va (.lst (vs row))) (.va (.lst (vs r))) x7 x8 x9 x10 .em .em) (i := 13) (j := 14) (c := r) (d := .lst (vs r)) (ws := [13, 14]) (t := tOf (eBin neD (eVar 14) (eC (.int 0)))) (f := eVar 6) (v_var rfl) rfl (by rw [hr.len]; omega) (lt' rfl) (lt' rfl) (by decide) fun k a => t_of (v_bin (v_var rfl) rfl (neD_b _ _))
        rw [hr.len] at this
        exact v_thawN rfl this
      refine w_seq (w_let hen rfl ?_)
      refine w_if (t_of (v_bin (v_var rfl) (v_arg v_nil rfl) (ne_nil (l := nzs m r)))) (fun hk => ?_) fun hk => ?_
      · cases hn : nzs m r with
        | nil => rw [hn] at hk; cases hk
        | cons l t =>
          obtain ⟨h1, h2, h3⟩ := nzs_cons hn
          have ha := hr.at h2
          have h0 : 0 < r.getD l 0 := by
            have : r.getD l 0 ≠ 0 := h1
            have := ha.1
            show 0 < ev r l
            omega
          have hi := inv_rng hp h0 ha.2
          have e2 := step_cons (p := p) (left := left) (row := row) (by rw [hrr]; exact hn)
          rw [hrr] at e2
          have hmr := mulR_row (c := inv p (r.getD l 0)) hp.pos hr.len
          have hl2 := Inv.len I
          refine w_seq (w_let (v_thawN rfl (v_inv (i := 14) hp h0 ha.2 (v_var rfl) (lt' rfl) fun w hw hw2 => t_of (v_bin (v_bin (v_bin (v_var rfl) (v_bin (v_var rfl) (v_bin (v_var rfl) rfl idx0) (vs_at (by rw [hr.len]; exact h2))) (mulD_ok (.inl (mulB_of (by omega) (by omega))))) (v_var rfl) (modD_ok hp.pos)) rfl (eqD_int _ _)))) rfl ?_)
          refine w_seq (w_let (v_thawN rfl (v_comp (δ2 := δ) (i_seq (v_var rfl) rfl) (c_map (fun one => one * inv p (r.getD l 0) % p) (lt' rfl) fun x hx => v_bin (v_bin (v_var rfl) (v_var rfl) (mulD_ok (.inr (mulB_of (by omega) (by omega))))) (v_var rfl) (modD_ok hp.pos)) (len_vs (mulR_len (p := p) hr.len) (by omega)))) rfl ?_)
          have hmrl : (r.map fun one => one * inv p (r.getD l 0) % p) = mulR p r (inv p (r.getD l 0)) := rfl
          rw [hmrl]
          generalize hmv : mulR p r (inv p (r.getD l 0)) = mr at hmr e2
          refine w_seq (w_let (v_bin (v_var rfl) rfl idx0) rfl ?_)
          have hadd : addD (.lst (left.map fun q => D.lst (vs (subR p q.2 (q.2.getD l 0) mr)))) (.lst [.lst (vs mr)]) = some (.lst ((left.map fun q => D.lst (vs (subR p q.2 (q.2.getD l 0) mr))) ++ [.lst (vs mr)])) := if_pos (by rw [List.length_map]; exact lim_of (by show left.length + 1 ≤ _; omega))
          have hadd2 : addD (.lst (lD left)) (.lst [.int (l : Nat)]) = some (.lst (lD left ++ [.int (l : Nat)])) := if_pos (by rw [List.length_map]; exact lim_of (by show left.length + 1 ≤ _; omega))
          refine w_seq (w_let (v_thawN rfl (v_bin (v_comp (δ2 := δ) (i_seq (v_var rfl) rfl) (c_all (fun (q : Nat × List Int) => D.lst (vs q.2)) (fun q => .lst (vs (subR p q.2 (q.2.getD l 0) mr))) fun q hq => ⟨_, g_nm (lt' rfl), rfl, ?_⟩) (by rw [List.length_map]; exact lim_of (by omega))) (v_arg (v_cons (v_var rfl) v_nil) rfl) hadd)) rfl ?_)
          · have hq1 := (I.row q hq).1
            have hc := hq1.at h2
            refine v_comp (i_zip (v_var rfl) (v_var rfl) rfl rfl) (c_zip (fun one other => (one - q.2.getD l 0 * other) % p) (lt' rfl) (lt' rfl) fun x hx y hy => ?_) (len_vs (subR_len (p := p) hq1.len) (by omega))
            exact v_bin (v_bin (v_var rfl) (v_bin (v_bin (v_var rfl) (v_var rfl) (vs_at (by rw [hq1.len]; exact h2))) (v_var rfl) (mulD_ok (mulR' hp hc.1 hc.2))) rfl) (v_var rfl) (modD_ok hp.pos)
          · refine w_let (v_bin (v_var rfl) (v_arg (v_cons (v_var rfl) v_nil) rfl) hadd2) rfl ⟨rfl, ⟨_, hs⟩, ?_⟩
            rw [e2]
            unfold kl
            rw [lD_app (G := fun v => subR p v (v.getD l 0) mr), rD_app (G := fun v => subR p v (v.getD l 0) mr)]
            exact ⟨_, _, _, _, _, _, rfl⟩
      · cases hn : nzs m r with
        | cons l t => rw [hn] at hk; cases hk
        | nil =>
          have e2 := step_nil (p := p) (left := left) (row := row) (by rw [hrr]; exact hn)
          refine w_nil ⟨rfl, ⟨_, hs⟩, ?_⟩
          rw [e2]
          exact ⟨_, _, _, _, _, _, rfl⟩
  · rintro ρ ⟨_, x5, x6, x7, x8, x9, x10, rfl⟩
    have I : Inv p m A (elimL p (inv p) m A) := by
      have := elim_inv (inv := inv p) hp.one (fun a => inv_ok hp) A [] [] Inv.nil hA
      exact this
    rw [show A.foldl (stepL p (inv p) m) [] = elimL p (inv p) m A from rfl]
    generalize elimL p (inv p) m A = left at I ⊢
    have hfl : (freesL m left).length ≤ m := Nat.le_trans (List.length_filter_le _ _) (by rw [List.length_range]; exact Nat.le_refl _)
    obtain ⟨hvA, hvN⟩ := vf_rows hp I
    refine w_seq (w_own (n_lst v_nil (Nat.zero_le _)) rfl ?_)
    have hcomp : eComp [13] (Sh.iRng1 (eVar 1)) (gNm 13) (tOf (eBin (inD true) (eVar 13) (eVar 4))) (eVar 13) (kl A M p left x5 x6 x7 x8 x9 x10 (.ow []) .em) δ = .ok (.lst ((freesL m left).map fun (k : Nat) => D.int k)) δ :=
      v_comp (i_rngM (v_var rfl) hM (by omega)) (c_range (fun f => !(leadsL left).contains f) (lt' rfl) (fun k hk => t_of (v_bin (v_var rfl) (v_var rfl) in_leads)) fun k hk => v_var rfl) (by rw [List.length_map]; exact lim_of (Nat.le_trans hfl (by omega)))
    refine w_seq (w_foldN (l := freesL m left) (st := ([] : List D)) (fun (f : Nat) => .int f) (fun k xs ρ => xs.length + k ≤ m ∧ ∃ x6 x7 x8 x12, ρ = kl A M p left x5 x6 x7 x8 x9 x10 (.ow xs) x12) (fun xs f => xs ++ [.lst (vs (vfL p m left f))]) (i_seq hcomp rfl) ⟨by rw [List.length_nil]; omega, _, _, _, _, rfl⟩ ?_ ?_)
    · rintro f hf n xs ρ ⟨hl, x6, x7, x8, x12, rfl⟩
      have hfm : f < m := (mem_frees.mp hf).1
      refine ⟨_, g_nm (lt' rfl), ?_⟩
      refine w_seq (w_own (n_zeros (v_var rfl) hM (by omega)) rfl (w_seq (w_setI (k := f) rfl rfl (v_var rfl) (by rw [List.length_map, List.length_replicate]; exact hfm) ?_)))
      refine w_seq (w_fold (l := left) (st := (List.replicate m (0 : Int)).set f 1) (fun q => .tup [.int (q.1 : Nat), .lst (vs q.2)]) (fun t ρ => t.length = m ∧ ∃ x7 x8, ρ = kl A M p left x5 (.ow (vs t)) x7 x8 x9 x10 (.ow xs) (.va (.int f))) (fun t q => t.set q.1 ((0 - q.2.getD f 0) % p)) (i_zip (v_var rfl) (v_var rfl) rfl rfl |>.trans (by rw [zip_self])) ⟨by simp, x7, x8, by rw [set_vs]; rfl⟩ ?_ ?_)
      · rintro q hq t ρ ⟨ht, x7, x8, rfl⟩
        have hq1 := I.row q hq
        refine ⟨_, g_tp2 (lt' rfl) (lt' rfl), w_setI (k := q.1) (v_bin (v_bin rfl (v_bin (v_var rfl) (v_var rfl) (vs_at (by rw [hq1.1.len]; exact hfm))) rfl) (v_var rfl) (modD_ok hp.pos)) rfl (v_var rfl) (by rw [List.length_map, ht]; exact hq1.2) ⟨rfl, by rw [List.length_set]; exact ht, .va (.int (q.1 : Nat)), .va (.lst (vs q.2)), ?_⟩⟩
        rw [set_vs]; rfl
      · rintro ρ ⟨ht, x7, x8, rfl⟩
        rw [set_fold]
        refine w_fz rfl (w_app rfl (v_thawN rfl (v_var rfl)) (Nat.lt_of_lt_of_le (by omega : xs.length < 101) (by decide)) ⟨rfl, by rw [List.length_append, List.length_singleton]; omega, _, _, _, _, rfl⟩)
    · rintro ρ ⟨_, x6, x7, x8, x12, rfl⟩
      rw [foldl_app, List.nil_append]
      obtain ⟨L, hsh, J, hpw⟩ := y_shortened (δ := δ) hp hm hvA (by rw [List.length_map]; omega) hvN
      have hq : (freesL m left).map (fun f => D.lst (vs (vfL p m left f))) = qD ((freesL m left).map (vfL p m left)) := by
        unfold qD; rw [List.map_map]; rfl
      rw [hq]
      exact w_fz rfl (w_ret (v_thawN rfl (v_call (v_cons (v_var rfl) (v_cons (v_var rfl) v_nil)) rfl hsh)) ⟨rfl, L, rfl, J, hpw⟩)
end
end K80
end
section
set_option maxHeartbeats 4000000
/-! E24: the two roads to the letters meet; dice. -/
namespace K80
open PySem PySem.Spec PyProof.Rows L2 Sh LA
section
variable {p : Int} {P m n low : Nat} {t told : List (List Int)} {c : List Int} {δ : Di} {x : List Int} {dl : D} {l : List Nat}
/-- the letters that stand, and how the law and the program tell them -/
theorem both_letters (T : Told p P c t low m l) : ∃ L : Pr, f_first_letters [.int p, .tup (tD (c :: t))] δ = .ok (.tup (L.map fun q => .tup (vs q.2))) δ ∧ f__law_kernel [.lst (qD (rowsA P p m low (c :: t))), .int m, .int p] δ = .ok (.tup (L.map fun q => .tup (vs q.2))) δ ∧ ∀ q ∈ L, Row p m q.2 ∧ KA p m (rowsA P p m low (c :: t)) (ev q.2) := by
  have hp := T.p3
  have hm9 := T.bd.1
  have hA : ∀ r ∈ rowsA P p m low (c :: t), Row p m r := rowsA_row hp
  obtain ⟨L, h1, J, hs⟩ := y_kernel (M := m) (δ := δ) rfl hp hA (by omega)
  have I2 : Inv p m (rowsA P p m low (c :: t)) (elimL p (inv p) m (rowsA P p m low (c :: t))) := elim_inv (inv := inv p) hp.one (fun a => inv_ok hp) _ [] [] Inv.nil hA
  have I1 : Inv p m ((rowsA P p m low (c :: t)).map List.reverse) (elimL p (inv p) m ((rowsA P p m low (c :: t)).map List.reverse)) := elim_inv (inv := inv p) hp.one (fun a => inv_ok hp) _ [] [] Inv.nil fun r hr => by
    obtain ⟨s, hs, e⟩ := List.mem_map.mp hr
    subst e; exact rev_row (hA s hs)
  have hr := roads hp.one hA I1 I2 J hs
  refine ⟨L, ?_, h1, fun q hq => ⟨(J.row q hq).1, ?_⟩⟩
  · rw [x_first_letters T, hr]
  · refine J.to (KA p m (rowsA P p m low (c :: t))) sp_KA ⟨_, KA.zero⟩ (fun r hr => ?_) q hq
    obtain ⟨f, hf, e⟩ := List.mem_map.mp hr
    subst e; exact vf_mem hp.one I2 hf
theorem ka_iff (hp : P3 p) (hx : Row p m x) : KA p m (rowsA P p m low told) (ev x) ↔ ∀ n, n < low + m → p ∣ toldV P (ev x) n told 1 := by
  have key : ∀ n, p ∣ (S m fun k => ev (lineL P p m told n) k * ev x k) - toldV P (ev x) n told 1 := fun n => by
    have h := toldV_sum (P := P) (told := told) (n := n) (s := 1) (x := ev x) (m := m)
    rw [ev_cut hx.len] at h
    rw [h]
    refine S_congr fun k hk => ?_
    rw [lineL_at hk]
    have hm2 := Int.mul_ediv_add_emod (toldV P (unit k) n told 1) p
    generalize toldV P (unit k) n told 1 = v at hm2 ⊢
    generalize v % p = w at hm2 ⊢
    exact ⟨-(v / p) * ev x k, by grind⟩
  constructor
  · intro h n hn
    have h1 := h (lineL P p m told n) (List.mem_map.mpr ⟨n, List.mem_range.mpr hn, rfl⟩)
    have h2 := Int.dvd_sub h1 (key n)
    rw [show (S m fun k => ev (lineL P p m told n) k * ev x k) - ((S m fun k => ev (lineL P p m told n) k * ev x k) - toldV P (ev x) n told 1) = toldV P (ev x) n told 1 by omega] at h2
    exact h2
  · intro h r hr
    obtain ⟨n, hn, e⟩ := List.mem_map.mp hr
    subst e
    have h2 := Int.dvd_add (key n) (h n (List.mem_range.mp hn))
    rw [Int.sub_add_cancel] at h2
    exact h2
end
end K80
end
section
set_option maxHeartbeats 4000000
/-! E25: letters that stand; ninety of them. -/
namespace K80
open PySem PySem.Spec PyProof.Rows L2 Sh LA
section
variable {p : Int} {P m n low : Nat} {t told : List (List Int)} {c : List Int} {δ : Di} {x : List Int} {dl : D} {l : List Nat}
theorem bad_iff {N : Nat} : badL P p told x N = [] ↔ ∀ n, n < N → p ∣ toldV P (ev x) n told 1 := by
  unfold badL
  rw [List.filter_eq_nil_iff]
  constructor
  · intro h n hn
    have h1 := h n (List.mem_range.mpr hn)
    refine Int.dvd_of_emod_eq_zero ?_
    by_cases e : toldV P (ev x) n told 1 % p = 0
    · exact e
    · exact absurd (bne_iff_ne.mpr e) h1
  · intro h n hn h2
    have h1 := Int.emod_eq_zero_of_dvd (h n (List.mem_range.mp hn))
    rw [h1] at h2
    exact absurd rfl (bne_iff_ne.mp h2)
theorem good_of (hx : Row p m x) (hb : badL P p (c :: t) x (low + m) = []) : Good p P c t low x := fun n hn => by
  rw [hx.len] at hn
  exact bad_iff.mp hb n hn
theorem ask_good (T : Told p P c t low m l) (hx : Row p m x) (hb : badL P p (c :: t) x (low + m) = []) {k : Nat} : Good p P c t low (askL P p c t low m k x) := by
  obtain ⟨h1, h2, h3, h4⟩ := lead_rng T.p3 T.cc.1 T.hlow
  unfold askL
  exact contL_good T.bd.2.2.2 h4 (inv_ok T.p3 h2 h3) (by rw [hx.len]; exact T.bd.2.2.1) (good_of hx hb)
theorem ask_len (hx : Row p m x) {k : Nat} (hk : m ≤ k) : (askL P p c t low m k x).length = k := by
  unfold askL
  rw [contL_len, hx.len]; omega
theorem ninety (T : Told p P c t low m l) (hx : Row p m x) (hb : badL P p (c :: t) x (low + m) = []) : leftL P p (c :: t) (askL P p c t low m 90 x) 60 = List.replicate 60 0 := by
  have hm9 := T.bd.1
  have G := ask_good T hx hb (k := 90)
  have hz : Row p 60 (List.replicate 60 (0 : Int)) := ⟨List.length_replicate, fun x hx => by rw [(List.mem_replicate.mp hx).2]; have := T.p3.lo; omega⟩
  refine row_eq (leftL_row T.p3) hz fun k hk => ?_
  rw [leftL_at hk, show ev (List.replicate 60 0) k = 0 by
      show (List.replicate 60 (0 : Int)).getD k 0 = 0
      rw [List.getD_eq_getElem?_getD, List.getElem?_replicate_of_lt hk]; rfl, Int.emod_eq_zero_of_dvd (G k (by rw [ask_len hx (by omega)]; omega))]
  exact ⟨0, by omega⟩
/-- a sum of rows that stand stands -/
theorem sum_stands (hp : P3 p) {A : List (List Int)} {a b : List Int} {r : Int} (ha : Row p m a) (hb : Row p m b) (ka : KA p m A (ev a)) (kb : KA p m A (ev b)) : Row p m (List.zipWith (fun u v => (u + r * v) % p) a b) ∧ KA p m A (ev (List.zipWith (fun u v => (u + r * v) % p) a b)) := by
  have hrow : Row p m (List.zipWith (fun u v => (u + r * v) % p) a b) := {
    len := by rw [List.length_zipWith, ha.len, hb.len]; omega
    rng := fun z hz => by
      rw [← zipF] at hz
      obtain ⟨q, _, e⟩ := List.mem_map.mp hz
      subst e
      exact ⟨Int.emod_nonneg _ (by have := hp.lo; omega), Int.emod_lt_of_pos _ hp.pos⟩ }
  refine ⟨hrow, sp_KA.cg _ _ (sp_KA.add r ka kb) fun k hk => ?_⟩
  have e : ev (List.zipWith (fun u v => (u + r * v) % p) a b) k = (ev a k + r * ev b k) % p := by
    have h1 : k < a.length := by rw [ha.len]; exact hk
    have h2 : k < b.length := by rw [hb.len]; exact hk
    show (List.zipWith (fun u v => (u + r * v) % p) a b).getD k 0 = (a.getD k 0 + r * b.getD k 0) % p
    rw [List.getD_eq_getElem?_getD, List.getD_eq_getElem?_getD, List.getD_eq_getElem?_getD, List.getElem?_zipWith, List.getElem?_eq_getElem h1, List.getElem?_eq_getElem h2]
    rfl
  rw [e]
  have hm2 := Int.mul_ediv_add_emod (ev a k + r * ev b k) p
  generalize (ev a k + r * ev b k) % p = v at hm2 ⊢
  exact ⟨(ev a k + r * ev b k) / p, by grind⟩
end
end K80
end
section
set_option maxHeartbeats 4000000
/-! E26: the dice. -/
namespace K80
open PySem PySem.Spec PyProof.Rows L2 Sh LA
section
variable {ρ : Ev} {δ δ1 δ2 : Di} {p : Int} {N : Ev → Di → Prop} {R : D → Di → Prop}
theorem v_d0 {f : EF} (h : f ρ δ = .ok .dice δ) : eDice f (eC (.int 0)) ρ δ = .ok (.int δ.1) δ := by unfold eDice; rw [h]; rfl
theorem v_d1 {f : EF} (h : f ρ δ = .ok .dice δ) : eDice f (eC (.int 1)) ρ δ = .ok (.int δ.2.1) δ := by unfold eDice; rw [h]; rfl
theorem v_d2 {f : EF} (h : f ρ δ = .ok .dice δ) : eDice f (eC (.int 2)) ρ δ = .ok (.int δ.2.2) δ := by unfold eDice; rw [h]; rfl
theorem s_dice {i : Nat} {fi fv : EF} {k v : Int} {δ3 : Di} (h : fv ρ δ = .ok (.int v) δ1) (hi : ρ[i]? = some (.va .dice)) (h2 : fi ρ δ1 = .ok (.int k) δ2) (h3 : diSet δ2 k v = some δ3) : sDice i fi fv ρ δ = .ok .nx ρ δ3 := by
  unfold sDice sE
  rw [h]
  dsimp only
  rw [hi]
  dsimp only
  rw [h2]
  dsimp only
  rw [h3]
theorem mulB_64 {a : Int} (h : 0 ≤ a) (h2 : a < 2305843009213693951) : mulB a := by unfold mulB; omega
theorem y_roll {K : Int} (h0 : 0 < K) (h1 : K < 1000000) : ∃ v δ', f__law_roll [.dice, .int K] δ = .ok (.int v) δ' ∧ 0 ≤ v ∧ v < K := by
  suffices main : ∃ d δ', f__law_roll [.dice, .int K] δ = .ok d δ' ∧ ∃ v, d = .int v ∧ 0 ≤ v ∧ v < K by
    obtain ⟨d, δ', h1, v, h2, h3⟩ := main
    subst h2
    exact ⟨v, δ', h1, h3⟩
  refine w_runE (w_seq (w_if (t_of (v_bin (v_d0 (v_var rfl)) rfl (gtD_i _ _))) (fun hk => ?_) fun hk => w_nil ?_))
  · refine w_seq (w_let (v_bin (v_d0 (v_var rfl)) (v_var rfl) (modD_ok h0)) rfl ?_)
    refine w_seq (w_is (s_dice (v_bin (v_d0 (v_var rfl)) (v_var rfl) (fdivD_ok h0 (by omega))) rfl rfl rfl) ?_)
    exact w_ret (v_arg (v_cons (v_var rfl) v_nil) rfl) ⟨_, rfl, Int.emod_nonneg _ (by omega), Int.emod_lt_of_pos _ h0⟩
  · refine w_seq (w_is (s_dice (v_bin (v_d2 (v_var rfl)) rfl (addD_i _ _)) rfl rfl rfl) ?_)
    generalize (δ.1, δ.2.1, δ.2.2 + 1) = δ'
    have hA : ∀ a : Int, 0 ≤ a % 2305843009213693951 ∧ a % 2305843009213693951 < 2305843009213693951 := fun a => ⟨Int.emod_nonneg _ (by omega), Int.emod_lt_of_pos _ (by omega)⟩
    refine w_seq (w_let (v_bin (v_bin (v_d1 (v_var rfl)) (v_bin rfl (v_d2 (v_var rfl)) (mulD_ok (.inl (mulB_64 (by omega) (by omega))))) (addD_i _ _)) rfl (modD_ok (by omega))) rfl ?_)
    have h3 := hA (δ'.2.1 + 86028157 * δ'.2.2)
    generalize (δ'.2.1 + 86028157 * δ'.2.2) % 2305843009213693951 = w at h3 ⊢
    refine w_seq (w_let (v_bin (v_bin (v_bin (v_bin (v_bin (v_var rfl) (v_var rfl) (mulD_ok (.inl (mulB_64 h3.1 h3.2)))) (v_bin rfl (v_d2 (v_var rfl)) (mulD_ok (.inl (mulB_64 (by omega) (by omega))))) (addD_i _ _)) rfl (modD_ok (by omega))) rfl (mulD_ok (.inr (mulB_64 (by omega) (by omega))))) (v_var rfl) (addD_i _ _)) rfl ?_)
    exact w_ret (v_bin (v_arg (v_cons (v_bin (v_var rfl) rfl (fdivD_ok (by omega) (by omega))) v_nil) rfl) (v_var rfl) (modD_ok h0)) ⟨_, rfl, Int.emod_nonneg _ (by omega), Int.emod_lt_of_pos _ h0⟩
end
end K80
end
section
set_option maxHeartbeats 4000000
/-! E27: what is drawn. -/
namespace K80
open PySem PySem.Spec PyProof.Rows L2 Sh LA
section
variable {δ : Di} {p : Int}
theorem y_pick : ∃ p δ', f__law_pick [.dice, .lst [.int 2, .int 2, .int 3, .int 5]] δ = .ok (.int p) δ' ∧ P3 p := by
  obtain ⟨v, δ', h1, h2, h3⟩ := y_roll (δ := δ) (K := 4) (by omega) (by omega)
  have go : ∀ p, idxD (.lst [.int 2, .int 2, .int 3, .int 5]) (.int v) = some (.int p) → f__law_pick [.dice, .lst [.int 2, .int 2, .int 3, .int 5]] δ = .ok (.int p) δ' := fun p hp =>
    w_run (w_ret (v_bin (v_var rfl) (v_call (v_cons (v_var rfl) (v_cons (v_arg (v_cons (v_var rfl) v_nil) rfl) v_nil)) rfl h1) hp) ⟨rfl, rfl⟩)
  rcases (by omega : v = 0 ∨ v = 1 ∨ v = 2 ∨ v = 3) with e | e | e | e <;> subst e
  · exact ⟨2, δ', go 2 rfl, .inl rfl⟩
  · exact ⟨2, δ', go 2 rfl, .inl rfl⟩
  · exact ⟨3, δ', go 3 rfl, .inr (.inl rfl)⟩
  · exact ⟨5, δ', go 5 rfl, .inr (.inr rfl)⟩
end
end K80
end
section
set_option maxHeartbeats 4000000
/-! E28: a polynomial trimmed. -/
namespace K80
open PySem PySem.Spec PyProof.Rows L2 Sh LA
section
variable {δ : Di} {p : Int}
theorem t_and_f {t u : TF} {ρ : Ev} (h : t ρ δ = .ok false δ) : Sh.tAnd t u ρ δ = .ok false δ := by unfold Sh.tAnd; rw [h]; rfl
theorem last_atL {xs : List D} {d : D} {k : Nat} (hk : xs.length = k + 1) (h : xs[k]? = some d) : idxD (.lst xs) (.int (-1)) = some d := last_at hk h
theorem cut_last {xs : List D} {k : Nat} (hk : xs.length = k + 1) : Sh.cutD xs none (some (-1)) = xs.take k := by
  have h : HT.sIx xs.length xs.length (some (-1)) = k := by
    show (if (-1 : Int) < 0 then ((-1 : Int) + (xs.length : Int)).toNat else min (-1 : Int).toNat xs.length) = k
    rw [if_pos (by omega), hk]
    omega
  unfold Sh.cutD
  rw [h, HT.sIx_none, List.drop_zero, Nat.sub_zero]
theorem y_poly {a : List Int} (hp : P3 p) (ha : a.length ≤ 150) : ∃ d, f__law_se_poly [.lst (vs a), .int p] δ = .ok (.tup (vs d)) δ ∧ (∀ x ∈ d, 0 ≤ x ∧ x < p) ∧ d.length ≤ a.length ∧ (d ≠ [] → d.getD (d.length - 1) 0 ≠ 0) := by
  suffices main : ∃ e, f__law_se_poly [.lst (vs a), .int p] δ = .ok e δ ∧ ∃ d, e = .tup (vs d) ∧ (∀ x ∈ d, 0 ≤ x ∧ x < p) ∧ d.length ≤ a.length ∧ (d ≠ [] → d.getD (d.length - 1) 0 ≠ 0) by
    obtain ⟨e, h1, d, h2, h3⟩ := main
    subst h2
    exact ⟨d, h1, h3⟩
  refine w_ex (w_seq (w_let (v_comp (δ2 := δ) (i_seq (v_var rfl) rfl) (c_map (fun x => x % p) (lt' rfl) fun x hx => v_bin (v_var rfl) (v_var rfl) (modD_ok hp.pos)) (len_vs (n := 150) (by rw [List.length_map]; exact ha) (by omega))) rfl ?_))
  refine w_seq (w_wh (fun f ρ δ2 => δ = δ2 ∧ ∃ d, d.length < f ∧ d.length ≤ a.length ∧ (∀ x ∈ d, 0 ≤ x ∧ x < p) ∧ ρ = [.va (.lst (vs a)), .va (.int p), .va (.lst (vs d)), .em]) ⟨rfl, a.map fun x => x % p, by rw [List.length_map]; omega, by rw [List.length_map]; omega, fun x hx => ?_, rfl⟩ ?_)
  · obtain ⟨y, _, e⟩ := List.mem_map.mp hx
    subst e
    exact ⟨Int.emod_nonneg _ (by have := hp.lo; omega), Int.emod_lt_of_pos _ hp.pos⟩
  · rintro f ρ δ2 ⟨e0, d, hf, hd, hd2, rfl⟩
    subst e0
    cases f with
    | zero => omega
    | succ f =>
      cases hc : d with
      | nil =>
        refine ⟨f, false, rfl, t_and_f (t_of (v_bin (v_var rfl) (v_arg v_nil rfl) (neD_nil (n := 0) nice_vs (by decide)))), fun _ => ?_, fun h => nomatch h⟩
        exact w_ret (v_arg (v_cons (v_var rfl) v_nil) rfl) ⟨rfl, [], rfl, (fun _ h => nomatch h), Nat.zero_le _, fun h => absurd rfl h⟩
      | cons u r =>
        have hlen : d.length = (d.length - 1) + 1 := by rw [hc]; simp
        have hne : (vs d).isEmpty = false := by rw [hc]; rfl
        rw [← hc]
        have hlast : (vs d)[d.length - 1]? = some (.int (d.getD (d.length - 1) 0)) := by
          rw [List.getElem?_map, List.getElem?_eq_getElem (by omega), List.getD_eq_getElem?_getD, List.getElem?_eq_getElem (by omega)]; rfl
        refine ⟨f, _, rfl, t_and (k := true) (t_of (v_bin (v_var rfl) (v_arg v_nil rfl) ((neD_nil (n := 0) nice_vs (by decide)).trans (by rw [hne]; rfl)))) (t_of (v_bin (v_bin (v_var rfl) (v_un rfl rfl) (last_atL (k := d.length - 1) (by rw [List.length_map]; exact hlen) hlast)) rfl (eqD_int _ _))), fun h => ?_, fun h => ?_⟩
        · have h := of_decide_eq_false (show decide _ = false from h)
          exact w_ret (v_arg (v_cons (v_var rfl) v_nil) rfl) ⟨rfl, d, rfl, hd2, hd, fun _ => h⟩
        · have hsl : eSl (eVar 2) oNone (oSome (eUn negD (eC (.int 1)))) [.va (.lst (vs a)), .va (.int p), .va (.lst (vs d)), .em] δ = .ok (.lst (vs (d.take (d.length - 1)))) δ := by
            have e1 : Sh.cutD (vs d) none (some (-1)) = vs (d.take (d.length - 1)) := by
              rw [cut_last (k := d.length - 1) (by rw [List.length_map]; exact hlen), take_vs]
            rw [← e1]; rfl
          refine w_let hsl rfl ⟨rfl, d.take (d.length - 1), by rw [List.length_take]; omega, by rw [List.length_take]; omega, fun x hx => hd2 x (List.mem_of_mem_take hx), rfl⟩
end
end K80
end
section
set_option maxHeartbeats 4000000
/-! E29: a polynomial drawn. -/
namespace K80
open PySem PySem.Spec PyProof.Rows L2 Sh LA
section
variable {δ : Di} {p : Int}
theorem c_draw {ρ : Ev} {e : EF} {g : GF} (h : ∀ (d : D) δ, ∃ ρ1 v δ', g d ρ = some ρ1 ∧ e ρ1 δ = .ok (.int v) δ') : ∀ {ds : List D} {δ : Di}, ∃ l δ', compL g Sh.tYes e ρ ds δ = .ok (vs l) δ' ∧ l.length = ds.length
  | [], δ => ⟨[], δ, rfl, rfl⟩
  | d :: ds, δ => by
    obtain ⟨ρ1, v, δ1, h1, h2⟩ := h d δ
    obtain ⟨l, δ2, h3, h4⟩ := c_draw h (ds := ds) (δ := δ1)
    refine ⟨v :: l, δ2, ?_, by rw [List.length_cons, List.length_cons, h4]⟩
    unfold compL
    rw [h1]
    show (Sh.tYes ρ1 δ).bind _ = _
    show (e ρ1 δ).bind _ = _
    rw [h2]
    show (compL g Sh.tYes e ρ ds δ1).bind _ = _
    rw [h3]; rfl
theorem y_drawn (hp : P3 p) : ∃ d δ', f__law_se_drawn [.dice, .int p, .int 4] δ = .ok (.tup (vs d)) δ' ∧ (∀ x ∈ d, 0 ≤ x ∧ x < p) ∧ d.length ≤ 4 ∧ (d ≠ [] → d.getD (d.length - 1) 0 ≠ 0) := by
  have hlo := hp.lo
  have hhi := hp.hi
  obtain ⟨v, δ1, h1, h2, h3⟩ := y_roll (δ := δ) (K := 5) (by omega) (by omega)
  obtain ⟨n, hn⟩ : ∃ n : Nat, v = n := ⟨v.toNat, by omega⟩
  obtain ⟨l, δ2, h4, h5⟩ := c_draw (ρ := [.va .dice, .va (.int p), .va (.int 4), .em]) (g := gNm 3) (e := eCall 2 f__law_roll (aCons (eVar 0) (aCons (eVar 1) aNil))) (fun d δ => by
    obtain ⟨w, δ', g1, _, _⟩ := y_roll (δ := δ) (K := p) hp.pos (by omega)
    exact ⟨_, w, δ', g_nm (lt' rfl), v_call (v_cons (v_var rfl) (v_cons (v_var rfl) v_nil)) rfl g1⟩) (ds := rngL 0 n) (δ := δ1)
  have hl : l.length ≤ 4 := by
    rw [h5, rng_eq, List.length_map, List.length_range]; omega
  obtain ⟨d, g1, g2, g3, g4⟩ := y_poly (δ := δ2) (a := l) hp (by omega)
  exact ⟨d, δ2, w_run (w_ret (v_call (v_cons (v_comp (i_rngM (v_call (v_cons (v_var rfl) (v_cons (v_bin (v_var rfl) rfl rfl) v_nil)) rfl h1) hn (by omega)) h4 (len_vs (n := 4) hl (by omega))) (v_cons (v_var rfl) v_nil)) rfl g1) ⟨rfl, rfl⟩), g2, by omega, g4⟩
end
end K80
end
section
set_option maxHeartbeats 4000000
/-! E30: the drawn equation. -/
namespace K80
open PySem PySem.Spec PyProof.Rows L2 Sh LA
def PolyD (p : Int) (k : Nat) (d : List Int) : Prop := (∀ x ∈ d, 0 ≤ x ∧ x < p) ∧ d.length ≤ k ∧ (d ≠ [] → d.getD (d.length - 1) 0 ≠ 0)
section
variable {δ : Di} {p : Int}
theorem c_drawP {ρ : Ev} {e : EF} {g : GF} {Q : List Int → Prop} (h : ∀ (d : D) δ, ∃ ρ1 v δ', g d ρ = some ρ1 ∧ e ρ1 δ = .ok (.tup (vs v)) δ' ∧ Q v) : ∀ {ds : List D} {δ : Di}, ∃ l δ', compL g Sh.tYes e ρ ds δ = .ok (tD l) δ' ∧ l.length = ds.length ∧ ∀ v ∈ l, Q v
  | [], δ => ⟨[], δ, rfl, rfl, fun _ h => nomatch h⟩
  | d :: ds, δ => by
    obtain ⟨ρ1, v, δ1, h1, h2, hq⟩ := h d δ
    obtain ⟨l, δ2, h3, h4, h5⟩ := c_drawP h (ds := ds) (δ := δ1)
    refine ⟨v :: l, δ2, ?_, by rw [List.length_cons, List.length_cons, h4], fun w hw => ?_⟩
    · unfold compL
      rw [h1]
      show (Sh.tYes ρ1 δ).bind _ = _
      show (e ρ1 δ).bind _ = _
      rw [h2]
      show (compL g Sh.tYes e ρ ds δ1).bind _ = _
      rw [h3]; rfl
    · rcases List.mem_cons.mp hw with e | h
      · rw [e]; exact hq
      · exact h5 w h
/-- k noughts, then one that is not, then a polynomial -/
theorem first_poly {k : Nat} {a : Int} {d : List Int} (hp : P3 p) (hk : k ≤ 4) (h0 : 0 < a) (h1 : a < p) (hd : PolyD p 4 d) : PolyD p 9 (List.replicate k 0 ++ a :: d) ∧ ∃ l, nzs (List.replicate k 0 ++ a :: d).length (List.replicate k 0 ++ a :: d) = k :: l := by
  have hlo := hp.lo
  have hlen : (List.replicate k (0 : Int) ++ a :: d).length = k + (d.length + 1) := by simp
  refine ⟨⟨fun x hx => ?_, by have := hd.2.1; omega, fun _ => ?_⟩, ?_⟩
  · rcases List.mem_append.mp hx with h | h
    · rw [(List.mem_replicate.mp h).2]; omega
    · rcases List.mem_cons.mp h with h | h
      · rw [h]; omega
      · exact hd.1 x h
  · rw [hlen, List.getD_eq_getElem?_getD, List.getElem?_append_right (by rw [List.length_replicate]; omega), List.length_replicate, show k + (d.length + 1) - 1 - k = d.length by omega]
    cases hc : d with
    | nil => show a ≠ 0; omega
    | cons u r =>
      have := hd.2.2 (by rw [hc]; exact List.cons_ne_nil _ _)
      rw [hc] at this
      rw [List.getD_eq_getElem?_getD] at this
      simpa using this
  · unfold nzs
    refine filt_first (by omega) (fun n hn => ?_) ?_
    · rw [List.getD_eq_getElem?_getD, List.getElem?_append_left (by rw [List.length_replicate]; exact hn), List.getElem?_replicate_of_lt hn]; rfl
    · rw [List.getD_eq_getElem?_getD, List.getElem?_append_right (by simp), List.length_replicate, Nat.sub_self]
      show (a != 0) = true
      exact bne_iff_ne.mpr (by omega)
end
end K80
end
section
set_option maxHeartbeats 4000000
/-! E31: the drawn equation, its ends. -/
namespace K80
open PySem PySem.Spec PyProof.Rows L2 Sh LA
section
variable {δ : Di} {p : Int} {P : Nat}
/-- what is drawn is a told equation -/
theorem told_of {k : Nat} {a : Int} {d : List Int} {t : List (List Int)} (hp : P3 p) (hP : p = P) (hk : k ≤ 4) (h0 : 0 < a) (h1 : a < p) (hd : PolyD p 4 d) (ht : ∀ v ∈ t, PolyD p 4 v) (ht1 : 1 ≤ t.length) (ht3 : t.length ≤ 3) : ∃ m l, Told p P (List.replicate k 0 ++ a :: d) t k m l := by
  obtain ⟨h2, l, h3⟩ := first_poly hp hk h0 h1 hd
  have hm : ∃ m : Nat, (k : Int) / (p - 1) + 1 = m := by
    have : 0 ≤ (k : Int) / (p - 1) := Int.ediv_nonneg (by omega) (by have := hp.lo; omega)
    exact ⟨((k : Int) / (p - 1) + 1).toNat, by omega⟩
  obtain ⟨m, hm⟩ := hm
  refine ⟨m, l, hp, hP, by rw [List.length_cons]; omega, by rw [List.length_cons]; omega, fun v hv => ?_, h3, hm⟩
  rcases List.mem_cons.mp hv with e | h
  · rw [e]; exact h2
  · have := ht v h
    exact ⟨this.1, Nat.le_trans this.2.1 (by omega), this.2.2⟩
end
end K80
end
section
set_option maxHeartbeats 4000000
/-! E32: the drawn equation, walked. -/
namespace K80
open PySem PySem.Spec PyProof.Rows L2 Sh LA
section
variable {δ δ1 δ2 : Di} {p : Int} {P : Nat} {ρ : Ev}
theorem addT {a b : List D} (h : a.length + b.length ≤ 1000000) : addD (.tup a) (.tup b) = some (.tup (a ++ b)) := if_pos (lim_of h)
theorem repT {K : Int} {k : Nat} (hK : K = k) (h : k ≤ 1000) : repD (.tup [.int 0]) (.int K) = some (.tup (vs (List.replicate k 0))) := by
  subst hK
  have h1 : -9223372036854775808 ≤ (k : Int) ∧ (k : Int) ≤ 1000 ∧ [D.int 0].length ≤ 1000 := ⟨by omega, by omega, by decide⟩
  refine (if_pos h1).trans ?_
  rw [Int.toNat_natCast, flat_one]
  unfold vs
  rw [List.map_replicate]
theorem sum_vs : ∀ {l : List Int}, intsOf (vs l) = some l
  | [] => rfl
  | a :: l => by
    show (intsOf (vs l)).map (a :: ·) = _
    rw [sum_vs]; rfl
theorem sumV {l : List Int} : sumF [.lst (vs l)] = some (.int l.sum) := by
  show (intsOf (vs l)).map _ = _
  rw [sum_vs]; rfl
/-- all but the first -/
theorem cut1 {xs : List D} : Sh.cutD xs (some 1) none = xs.drop 1 := by
  unfold Sh.cutD
  rw [HT.sIx_none]
  have h : HT.sIx xs.length 0 (some 1) = min 1 xs.length := HT.sIx_nat _ _ 1
  rw [h]
  cases xs with
  | nil => rfl
  | cons x xs =>
    rw [List.length_cons, Nat.min_eq_left (by omega)]
    show xs.take (xs.length + 1 - 1) = xs
    rw [Nat.add_sub_cancel, List.take_length]
theorem v_tail {f : EF} {x : D} {xs : List D} (h : f ρ δ = .ok (.lst (x :: xs)) δ1) : eSl f (oSome (eC (.int 1))) oNone ρ δ = .ok (.lst xs) δ1 := by
  unfold eSl
  rw [h]
  show Out.ok (D.lst (Sh.cutD (x :: xs) (some 1) none)) δ1 = _
  rw [cut1]; rfl
/-- the first letters of those that are not nought -/
theorem c_heads {e : EF} {t : TF} {ρ : Ev} (hi : 7 < ρ.length) (ht : ∀ c : List Int, t (ρ.set 7 (.va (.tup (vs c)))) δ = .ok (!(vs c).isEmpty) δ) (he : ∀ a (c : List Int), e (ρ.set 7 (.va (.tup (vs (a :: c))))) δ = .ok (.int a) δ) : ∀ {l : List (List Int)}, ∃ r, compL (gNm 7) t e ρ (tD l) δ = .ok (vs r) δ ∧ r.length ≤ l.length
  | [] => ⟨[], rfl, Nat.le_refl _⟩
  | c :: l => by
    obtain ⟨r, h1, h2⟩ := c_heads hi ht he (l := l)
    cases c with
    | nil =>
      refine ⟨r, ?_, by rw [List.length_cons]; omega⟩
      show compL (gNm 7) t e ρ (.tup (vs []) :: tD l) δ = _
      unfold compL
      rw [g_nm hi]
      dsimp only
      rw [ht []]
      exact h1
    | cons a c =>
      refine ⟨a :: r, ?_, by rw [List.length_cons, List.length_cons]; omega⟩
      show compL (gNm 7) t e ρ (.tup (vs (a :: c)) :: tD l) δ = _
      unfold compL
      rw [g_nm hi]
      dsimp only
      rw [ht (a :: c)]
      show (e (ρ.set 7 (.va (.tup (vs (a :: c))))) δ).bind _ = _
      rw [he a c]
      show (compL (gNm 7) t e ρ (tD l) δ).bind _ = _
      rw [h1]; rfl
theorem roll_ok {i : Nat} {f : EF} {K : Int} (h0 : 0 < K) (h1 : K < 1000000) (hd : ρ[i]? = some (.va .dice)) (hf : f ρ δ = .ok (.int K) δ) : ∃ v δ', eCall 2 f__law_roll (aCons (eVar i) (aCons f aNil)) ρ δ = .ok (.int v) δ' ∧ 0 ≤ v ∧ v < K := by
  obtain ⟨v, δ', h2, h3⟩ := y_roll (δ := δ) h0 h1
  exact ⟨v, δ', v_call (v_cons (v_var hd) (v_cons hf v_nil)) rfl h2, h3⟩
theorem y_equation (hp : P3 p) (hP : p = P) : ∃ c t low m l δ', f__law_equation [.dice, .int p] δ = .ok (.tup (tD (c :: t))) δ' ∧ Told p P c t low m l := by
  have hlo := hp.lo
  have hhi := hp.hi
  suffices main : ∃ d δ', f__law_equation [.dice, .int p] δ = .ok d δ' ∧ ∃ c t low m l, d = .tup (tD (c :: t)) ∧ Told p P c t low m l by
    obtain ⟨d, δ', h1, c, t, low, m, l, h2, h3⟩ := main
    subst h2
    exact ⟨c, t, low, m, l, δ', h1, h3⟩
  refine w_runE ?_
  -- told
  obtain ⟨v, δ1, h1, v0, v1⟩ := roll_ok (ρ := startE 8 [.dice, .int p]) (i := 0) (f := eC (.int 3)) (δ := δ) (K := 3) (by omega) (by omega) rfl rfl
  obtain ⟨n, hn⟩ : ∃ n : Nat, 2 + v = n := ⟨(2 + v).toNat, by omega⟩
  obtain ⟨tl, δ2, h4, h5, h6⟩ := c_drawP (Q := PolyD p 4) (ρ := wipeE (startE 8 [.dice, .int p]) [6]) (g := gNm 6) (e := eCall 3 f__law_se_drawn (aCons (eVar 0) (aCons (eVar 1) (aCons (eC (.int 4)) aNil)))) (fun d δ => by
    obtain ⟨w, δ', g1, g2, g3, g4⟩ := y_drawn (δ := δ) hp
    exact ⟨_, w, δ', g_nm (lt' rfl), v_call (v_cons (v_var rfl) (v_cons (v_var rfl) (v_cons rfl v_nil))) rfl g1, g2, g3, g4⟩) (ds := rngL 0 n) (δ := δ1)
  have h5 : tl.length = n := by rw [h5, rng_eq, List.length_map, List.length_range]
  refine w_seq (w_let (v_comp (i_rngM (v_bin rfl h1 (addD_i _ _)) hn (by omega)) h4 (by rw [List.length_map]; exact lim_of (by omega))) rfl ?_)
  cases tl with
  | nil => rw [List.length_nil] at h5; omega
  | cons d t =>
  rw [List.length_cons] at h5
  have hd : PolyD p 4 d := h6 d List.mem_cons_self
  have ht : ∀ v ∈ t, PolyD p 4 v := fun v hv => h6 v (List.mem_cons_of_mem _ hv)
  -- noughts
  have hno : ∀ ρ : Ev, ρ[0]? = some (.va .dice) → ∃ (k : Nat) (δ' : Di), eIf (tOf (eBin eqD (eCall 2 f__law_roll (aCons (eVar 0) (aCons (eC (.int 2)) aNil))) (eC (.int 0)))) (eCall 2 f__law_roll (aCons (eVar 0) (aCons (eC (.int 5)) aNil))) (eC (.int 0)) ρ δ2 = .ok (.int k) δ' ∧ k ≤ 4 := fun ρ hr => by
    obtain ⟨w, δ3, g1, _, _⟩ := roll_ok (ρ := ρ) (i := 0) (f := eC (.int 2)) (δ := δ2) (K := 2) (by omega) (by omega) hr rfl
    by_cases h : w = 0
    · obtain ⟨u, δ4, g2, u0, u1⟩ := roll_ok (ρ := ρ) (i := 0) (f := eC (.int 5)) (δ := δ3) (K := 5) (by omega) (by omega) hr rfl
      refine ⟨u.toNat, δ4, ?_, by omega⟩
      rw [Int.toNat_of_nonneg u0]
      exact v_if_t (t_of (v_bin g1 rfl ((eqD_int _ _).trans (by rw [decide_eq_true h])))) g2
    · exact ⟨0, δ3, v_if_f (t_of (v_bin g1 rfl ((eqD_int _ _).trans (by rw [decide_eq_false h])))) rfl, by omega⟩
  obtain ⟨k, δ3, g1, hk⟩ := hno [.va .dice, .va (.int p), .va (.lst (tD (d :: t))), .em, .em, .em, .em, .em] rfl
  refine w_seq (w_let g1 rfl ?_)
  -- first
  have hfi : ∀ ρ : Ev, ρ[0]? = some (.va .dice) → ρ[1]? = some (.va (.int p)) → ∃ (a : Int) (δ' : Di), eBin addD (eC (.int 1)) (eCall 2 f__law_roll (aCons (eVar 0) (aCons (eBin subD (eVar 1) (eC (.int 1))) aNil))) ρ δ3 = .ok (.int a) δ' ∧ 0 < a ∧ a < p := fun ρ hr hr1 => by
    obtain ⟨w, δ4, g1, w0, w1⟩ := roll_ok (ρ := ρ) (i := 0) (f := eBin subD (eVar 1) (eC (.int 1))) (δ := δ3) (K := p - 1) (by omega) (by omega) hr (v_bin (v_var hr1) rfl (subD_i _ _))
    exact ⟨1 + w, δ4, v_bin rfl g1 (addD_i _ _), by omega, by omega⟩
  obtain ⟨a, δ4, g2, a0, a1⟩ := hfi [.va .dice, .va (.int p), .va (.lst (tD (d :: t))), .va (.int k), .em, .em, .em, .em] rfl rfl
  have e0 : vs (List.replicate k 0) ++ [D.int a] = vs (List.replicate k 0 ++ [a]) := by unfold vs; rw [List.map_append]; rfl
  have e1 : vs (List.replicate k 0 ++ [a]) ++ vs d = vs (List.replicate k 0 ++ a :: d) := by unfold vs; rw [← List.map_append, List.append_assoc]; rfl
  have hd4 := hd.2.1
  refine w_seq (w_let (v_bin (v_bin (v_bin (v_arg (v_cons rfl v_nil) rfl) (v_var rfl) (repT rfl (by omega))) (v_arg (v_cons g2 v_nil) rfl) ((addT (by simp; omega)).trans (by rw [e0]))) (v_bin (v_var rfl) rfl idx0) ((addT (by simp; omega)).trans (by rw [e1]))) rfl ?_)
  -- the other way
  obtain ⟨w, δ5, g3, _, _⟩ := roll_ok (ρ := [.va .dice, .va (.int p), .va (.lst (tD (d :: t))), .va (.int k), .va (.tup (vs (List.replicate k 0 ++ a :: d))), .em, .em, .em]) (i := 0) (f := eC (.int 3)) (δ := δ4) (K := 3) (by omega) (by omega) rfl rfl
  refine w_seq (w_mono (N1 := fun ρ δ => δ = δ5 ∧ ∃ c x5, ρ = [.va .dice, .va (.int p), .va (.lst (tD (d :: t))), .va (.int k), .va (.tup (vs c)), x5, .em, .em] ∧ ∃ low m l, Told p P c t low m l) (w_if (k := decide (w = 0)) (t_of (v_bin g3 rfl (eqD_int _ _))) (fun hw => ?_) fun hw => w_nil ⟨rfl, _, _, rfl, ?_⟩) ?_)
  · have hcomp : ∃ r : List Int, eComp [7] (Sh.iSeq (eSl (eVar 2) (oSome (eC (.int 1))) oNone)) (gNm 7) (tOf (eBin neD (eVar 7) (eArg tupF aNil))) (eBin idxD (eVar 7) (eC (.int 0))) [.va .dice, .va (.int p), .va (.lst (tD (d :: t))), .va (.int k), .va (.tup (vs (List.replicate k 0 ++ a :: d))), .em, .em, .em] δ5 = .ok (.lst (vs r)) δ5 := by
      obtain ⟨r, h1, h2⟩ := c_heads (δ := δ5) (ρ := wipeE [.va .dice, .va (.int p), .va (.lst (tD (d :: t))), .va (.int k), .va (.tup (vs (List.replicate k 0 ++ a :: d))), .em, .em, .em] [7]) (e := eBin idxD (eVar 7) (eC (.int 0))) (t := tOf (eBin neD (eVar 7) (eArg tupF aNil))) (lt' rfl) (fun c => t_of (v_bin (v_var rfl) (v_arg v_nil rfl) (neD_nilT (n := 0) nice_vs (by decide)))) (fun a c => v_bin (v_var rfl) rfl idx0T) (l := t)
      exact ⟨r, v_comp (i_seq (v_tail (v_var rfl)) rfl) h1 (by rw [List.length_map]; exact lim_of (by omega))⟩
    obtain ⟨r, hr⟩ := hcomp
    refine w_seq (w_let (v_bin (v_arg (v_cons hr v_nil) sumV) (v_var rfl) (modD_ok hp.pos)) rfl ?_)
    have hs0 : 0 ≤ r.sum % p := Int.emod_nonneg _ (by omega)
    have hs1 : r.sum % p < p := Int.emod_lt_of_pos _ hp.pos
    generalize r.sum % p = s at hs0 hs1
    by_cases h : s = 0
    · obtain ⟨m, l, T⟩ := told_of hp hP hk a0 a1 hd ht (by omega) (by omega)
      refine w_let (v_if_f (t_of (v_bin (v_var rfl) rfl ((neD_int _ _).trans (by rw [decide_eq_true h]; rfl)))) (v_var rfl)) rfl ⟨rfl, _, _, rfl, _, m, l, T⟩
    · obtain ⟨m, l, T⟩ := told_of (k := 0) (a := (p - s) % p) hp hP (by omega) (by rw [Int.emod_eq_of_lt (by omega) (by omega)]; omega) (Int.emod_lt_of_pos _ hp.pos) hd ht (by omega) (by omega)
      refine w_let (v_if_t (t_of (v_bin (v_var rfl) rfl ((neD_int _ _).trans (by rw [decide_eq_false h]; rfl)))) (v_bin (v_arg (v_cons (v_bin (v_bin (v_var rfl) (v_var rfl) (subD_i _ _)) (v_var rfl) (modD_ok hp.pos)) v_nil) rfl) (v_bin (v_var rfl) rfl idx0) (addT (by simp; omega)))) rfl ⟨rfl, List.replicate 0 0 ++ (p - s) % p :: d, _, rfl, _, m, l, T⟩
  · obtain ⟨m, l, T⟩ := told_of hp hP hk a0 a1 hd ht (by omega) (by omega)
    exact ⟨_, m, l, T⟩
  · rintro ρ δ6 ⟨rfl, c, x5, rfl, low, m, l, T⟩
    exact w_ret (v_bin (v_arg (v_cons (v_var rfl) v_nil) rfl) (v_arg (v_cons (v_tail (v_var rfl)) v_nil) rfl) (addT (by simp; omega))) ⟨c, t, low, m, l, rfl, T⟩
end
end K80
end
section
set_option maxHeartbeats 4000000
/-! E33: pieces of the law's own answer. -/
namespace K80
open PySem PySem.Spec PyProof.Rows L2 Sh LA
section
variable {δ δ1 δ2 : Di} {p : Int} {P m low : Nat} {ρ : Ev} {told : List (List Int)} {x : List Int}
theorem nice_str {n : Nat} {s : Str} (hs : PyData.strOk s = true) : Nice n (.str s) := ⟨rfl, by rw [D.py, PyData.canLay0]; exact hs, by rw [D.py, PyData.depth]; omega, by rw [D.py, PyData.eqv]; exact beq_self_eq_true s⟩
theorem c_filt {α : Type} {g : GF} {t : TF} {e : EF} (e1 F : α → D) (Q : α → Bool) : ∀ {l : List α}, (∀ a ∈ l, ∃ ρ1, g (e1 a) ρ = some ρ1 ∧ t ρ1 δ = .ok (Q a) δ ∧ (Q a = true → e ρ1 δ = .ok (F a) δ)) → compL g t e ρ (l.map e1) δ = .ok ((l.filter Q).map F) δ
  | [], _ => rfl
  | a :: l, h => by
    obtain ⟨ρ1, h1, h2, h3⟩ := h a List.mem_cons_self
    have ih := c_filt e1 F Q (l := l) fun d hd => h d (List.mem_cons_of_mem _ hd)
    rw [List.map_cons]
    unfold compL
    rw [h1]
    show (t ρ1 δ).bind _ = _
    rw [h2]
    cases q : Q a with
    | true =>
      show (e ρ1 δ).bind _ = _
      rw [h3 q]
      show (compL g t e ρ (l.map e1) δ).bind _ = _
      rw [ih, List.filter_cons_of_pos q]
      rfl
    | false =>
      show compL g t e ρ (l.map e1) δ = _
      rw [ih, List.filter_cons_of_neg (by rw [q]; exact Bool.false_ne_true)]
theorem enum_rng (g : Nat → D) : ∀ {N j : Nat}, enumL j ((List.range' j N).map g) = (List.range' j N).map fun n => .tup [.int (n : Nat), g n]
  | 0, _ => rfl
  | N + 1, j => by
    rw [List.range'_succ, List.map_cons, List.map_cons]
    show .tup [.int (j : Nat), g j] :: enumL (j + 1) _ = _
    rw [enum_rng g]
theorem sum_dot : ∀ {a b : List Int}, a.length = b.length → (List.zipWith (fun u v => u * v) a b).sum = S a.length fun k => ev a k * ev b k
  | a, b, h => by
    have main : ∀ (n : Nat) (a b : List Int), a.length = n → b.length = n → (List.zipWith (fun u v => u * v) a b).sum = S n fun k => ev a k * ev b k := by
      intro n
      induction n with
      | zero => intro a b ha hb; rw [List.length_eq_zero_iff.mp ha]; rfl
      | succ n ih =>
        intro a b ha hb
        have ha' : a ≠ [] := fun e => by rw [e] at ha; cases ha
        have hb' : b ≠ [] := fun e => by rw [e] at hb; cases hb
        have ea := List.dropLast_concat_getLast ha'
        have eb := List.dropLast_concat_getLast hb'
        have la : a.dropLast.length = n := by rw [List.length_dropLast, ha]; rfl
        have lb : b.dropLast.length = n := by rw [List.length_dropLast, hb]; rfl
        generalize a.dropLast = a1 at ea la
        generalize b.dropLast = b1 at eb lb
        generalize a.getLast ha' = u at ea
        generalize b.getLast hb' = v at eb
        rw [← ea, ← eb, List.zipWith_append (by omega), List.sum_append, ih a1 b1 la lb]
        show _ + (u * v + 0) = S n _ + _
        have e1 : ev (a1 ++ [u]) n = u := by
          show (a1 ++ [u]).getD n 0 = u
          rw [List.getD_eq_getElem?_getD, List.getElem?_append_right (by omega), la, Nat.sub_self]; rfl
        have e2 : ev (b1 ++ [v]) n = v := by
          show (b1 ++ [v]).getD n 0 = v
          rw [List.getD_eq_getElem?_getD, List.getElem?_append_right (by omega), lb, Nat.sub_self]; rfl
        show _ = S n (fun k => ev (a1 ++ [u]) k * ev (b1 ++ [v]) k) + ev (a1 ++ [u]) n * ev (b1 ++ [v]) n
        rw [e1, e2, Int.add_zero]
        congr 1
        refine S_eq fun k hk => ?_
        have g1 : ev (a1 ++ [u]) k = ev a1 k := by
          show (a1 ++ [u]).getD k 0 = a1.getD k 0
          rw [List.getD_eq_getElem?_getD, List.getElem?_append_left (by omega), List.getD_eq_getElem?_getD]
        have g2 : ev (b1 ++ [v]) k = ev b1 k := by
          show (b1 ++ [v]).getD k 0 = b1.getD k 0
          rw [List.getD_eq_getElem?_getD, List.getElem?_append_left (by omega), List.getD_eq_getElem?_getD]
        rw [g1, g2]
    exact main _ a b rfl h.symm
theorem dot_mod (hp : P3 p) (hx : Row p m x) {n : Nat} : (List.zipWith (fun u v => u * v) (lineL P p m told n) x).sum % p = toldV P (ev x) n told 1 % p := by
  rw [sum_dot (by rw [(lineL_row hp).len, hx.len]), (lineL_row hp).len]
  have h := toldV_sum (P := P) (told := told) (n := n) (s := 1) (x := ev x) (m := m)
  rw [ev_cut hx.len] at h
  rw [h]
  refine Int.emod_emod_of_dvd _ (Int.dvd_refl p) |>.symm.trans ?_
  rw [Int.emod_emod_of_dvd _ (Int.dvd_refl p)]
  refine Int.emod_eq_emod_iff_emod_sub_eq_zero.mpr (Int.emod_eq_zero_of_dvd (S_congr fun k hk => ?_))
  rw [lineL_at hk]
  have hm2 := Int.mul_ediv_add_emod (toldV P (unit k) n told 1) p
  generalize toldV P (unit k) n told 1 = v at hm2 ⊢
  generalize v % p = w at hm2 ⊢
  exact ⟨-(v / p) * ev x k, by grind⟩
theorem c_drawR {Q : Int → Prop} {e : EF} {g : GF} (h : ∀ (d : D) δ, ∃ ρ1 v δ', g d ρ = some ρ1 ∧ e ρ1 δ = .ok (.int v) δ' ∧ Q v) : ∀ {ds : List D} {δ : Di}, ∃ l δ', compL g Sh.tYes e ρ ds δ = .ok (vs l) δ' ∧ l.length = ds.length ∧ ∀ v ∈ l, Q v
  | [], δ => ⟨[], δ, rfl, rfl, fun _ h => nomatch h⟩
  | d :: ds, δ => by
    obtain ⟨ρ1, v, δ1, h1, h2, hq⟩ := h d δ
    obtain ⟨l, δ2, h3, h4, h5⟩ := c_drawR h (ds := ds) (δ := δ1)
    refine ⟨v :: l, δ2, ?_, by rw [List.length_cons, List.length_cons, h4], fun w hw => ?_⟩
    · unfold compL
      rw [h1]
      show (Sh.tYes ρ1 δ).bind _ = _
      show (e ρ1 δ).bind _ = _
      rw [h2]
      show (compL g Sh.tYes e ρ ds δ1).bind _ = _
      rw [h3]; rfl
    · rcases List.mem_cons.mp hw with e | h
      · rw [e]; exact hq
      · exact h5 w h
theorem w_tryR {x fld : Str} {i : Nat} {b : SF} {hF : D → EF} {N : Ev → Di → Prop} {R : D → Di → Prop} (h : Wp (b ρ δ) N R) : Wp (Sh.sTryR x fld i b hF ρ δ) N R := by
  unfold Sh.sTryR
  cases h with
  | nx ρ1 δ1 h h2 => rw [h]; exact .nx _ _ rfl h2
  | rt d ρ1 δ1 h h2 => rw [h]; exact .rt _ _ _ rfl h2
theorem w_tryE {x fld : Str} {i : Nat} {b : SF} {hF : D → EF} {N : Ev → Di → Prop} {R : D → Di → Prop} {ρ1 : Ev} {a d : D} (h : b ρ δ = .er ⟨x, fld, a⟩ ρ1 δ1) (hi : i < ρ1.length) (h2 : hF a (ρ1.set i .em) δ1 = .ok d δ2) (h3 : R d δ2) : Wp (Sh.sTryR x fld i b hF ρ δ) N R := by
  unfold Sh.sTryR
  rw [h]
  dsimp only
  rw [if_pos ⟨rfl, rfl, hi⟩, h2]
  exact .rt _ _ _ rfl h3
end
end K80
end
section
set_option maxHeartbeats 4000000
/-! E34: the law's own answer. -/
namespace K80
open PySem PySem.Spec PyProof.Rows L2 Sh LA
section
variable {δ δ1 δ2 : Di} {p : Int} {P m low : Nat} {ρ : Ev} {c : List Int} {t : List (List Int)} {x : List Int} {l : List Nat}
theorem tup_rows {L : Pr} : Nice 2 (.tup (L.map fun q => .tup (vs q.2))) := nice_tup fun d hd => by
  obtain ⟨q, _, e⟩ := List.mem_map.mp hd
  subst e; exact nice_tup nice_vs
theorem bad_comp (T : Told p P c t low m l) (hx : Row p m x) {f : EF} (h1 : f ρ δ = .ok (.lst (qD (rowsA P p m low (c :: t)))) δ) (h2 : ∀ n u, eVar 9 ((((wipeE ρ [13, 14]).set 13 (.va (.int (n : Nat)))).set 14 (.va u))) δ = .ok (.tup (vs x)) δ) (h3 : ∀ n u, eVar 1 ((((wipeE ρ [13, 14]).set 13 (.va (.int (n : Nat)))).set 14 (.va u))) δ = .ok (.int p) δ) (hl : ρ.length = 18) :
    eComp [13, 14] (Sh.iEnum f) (gTp [gNm 13, gNm 14]) (tOf (eBin neD (eBin modD (eArg sumF (aCons (eComp [16, 17] (Sh.iZip (eVar 14) (eVar 9)) (gTp [gNm 16, gNm 17]) Sh.tYes (eBin mulD (eVar 16) (eVar 17))) aNil)) (eVar 1)) (eC (.int 0)))) (eVar 13) ρ δ = .ok (.lst ((badL P p (c :: t) x (low + m)).map fun (k : Nat) => D.int k)) δ := by
  have hp := T.p3
  have hhi := hp.hi
  have hm9 := T.bd.1
  have hl9 := T.low9
  have hw : (wipeE ρ [13, 14]).length = 18 := by rw [wipeE_len]; exact hl
  have e1 : enumL 0 (qD (rowsA P p m low (c :: t))) = (List.range (low + m)).map fun n => .tup [.int (n : Nat), .lst (vs (lineL P p m (c :: t) n))] := by
    have := enum_rng (fun n => .lst (vs (lineL P p m (c :: t) n))) (N := low + m) (j := 0)
    rw [← List.range_eq_range'] at this
    rw [← this]
    unfold qD rowsA
    rw [List.map_map]; rfl
  refine v_comp (i_enum h1 rfl) (by
    rw [e1]
    refine c_filt _ (fun (k : Nat) => D.int k) (fun n => toldV P (ev x) n (c :: t) 1 % p != 0) fun n hn => ⟨_, g_tp2 (by omega) (by omega), t_of ?_, fun _ => v_var ?_⟩
    · have hz : ∀ q : Ev, q.length = 18 → eVar 14 q δ = .ok (.lst (vs (lineL P p m (c :: t) n))) δ → eVar 9 q δ = .ok (.tup (vs x)) δ → eVar 1 q δ = .ok (.int p) δ → eBin neD (eBin modD (eArg sumF (aCons (eComp [16, 17] (Sh.iZip (eVar 14) (eVar 9)) (gTp [gNm 16, gNm 17]) Sh.tYes (eBin mulD (eVar 16) (eVar 17))) aNil)) (eVar 1)) (eC (.int 0)) q δ = .ok (.bl (toldV P (ev x) n (c :: t) 1 % p != 0)) δ := fun q hq g14 g9 g1 => by
        have hqw : (wipeE q [16, 17]).length = 18 := by rw [wipeE_len]; exact hq
        refine v_bin (v_bin (v_arg (v_cons (v_comp (δ2 := δ) (i_zip g14 g9 rfl rfl) (c_zip (fun u v => u * v) (by omega) (by omega) fun u hu v hv => v_bin (v_var (by rw [List.getElem?_set_ne (by decide)]; exact List.getElem?_set_self (by omega))) (v_var (List.getElem?_set_self (by rw [List.length_set]; omega))) (mulD_ok (mulR' hp ((lineL_row hp).rng u hu).1 ((lineL_row hp).rng u hu).2))) (len_vs (n := 100) (by rw [List.length_zipWith, hx.len]; omega) (by omega))) v_nil) sumV) g1 (modD_ok hp.pos)) rfl ((neD_b _ _).trans ?_)
        rw [dot_mod hp hx]
      exact hz _ (by rw [List.length_set, List.length_set]; exact hw) (v_var (List.getElem?_set_self (by rw [List.length_set]; omega))) (h2 n _) (h3 n _)
    · rw [List.getElem?_set_ne (by decide)]; exact List.getElem?_set_self (by omega)) ?_
  rw [List.length_map]
  exact lim_of (Nat.le_trans (List.length_filter_le _ _) (by rw [List.length_range]; omega))
theorem bad_nil (T : Told p P c t low m l) (hx : Row p m x) (hk : KA p m (rowsA P p m low (c :: t)) (ev x)) : badL P p (c :: t) x (low + m) = [] := bad_iff.mpr ((ka_iff T.p3 hx).mp hk)
theorem w_tryA {x fld : Str} {i : Nat} {g : GF} {f : EF} {s : SF} {hF : D → EF} {N : Ev → Di → Prop} {R : D → Di → Prop} {a d : D} (h : f ρ δ = .er ⟨x, fld, a⟩ δ1) (hi : i < ρ.length) (h2 : hF a (ρ.set i .em) δ1 = .ok d δ2) (h3 : R d δ2) : Wp (Sh.sTryR x fld i (sSeq (sAsg g f) s) hF ρ δ) N R := w_tryE (ρ1 := ρ) (by unfold sSeq sAsg sE; rw [h]) hi h2 h3
theorem y_right : ∃ δ', f__law_right [.dice] δ = .ok (.bl true) δ' := by
  suffices main : ∃ d δ', f__law_right [.dice] δ = .ok d δ' ∧ d = .bl true by
    obtain ⟨d, δ', h1, h2⟩ := main
    subst h2
    exact ⟨δ', h1⟩
  obtain ⟨p, δ1, h1, hp⟩ := y_pick (δ := δ)
  have hlo := hp.lo
  have hhi := hp.hi
  obtain ⟨P, hP⟩ : ∃ P : Nat, p = P := ⟨p.toNat, by omega⟩
  obtain ⟨c, t, low, m, l, δ2, h2, T⟩ := y_equation (δ := δ1) hp hP
  obtain ⟨L, g1, g2, g3⟩ := both_letters (δ := δ2) T
  have hm9 := T.bd.1
  have hl9 := T.low9
  refine w_runE ?_
  refine w_seq (w_let (v_call (v_cons (v_var rfl) (v_cons (v_arg (v_cons rfl (v_cons rfl (v_cons rfl (v_cons rfl v_nil)))) rfl) v_nil)) rfl h1) rfl ?_)
  refine w_seq (w_let (v_call (v_cons (v_var rfl) (v_cons (v_var rfl) v_nil)) rfl h2) rfl ?_)
  refine w_seq (w_let (d := .int m) (v_bin (v_bin (v_call (v_cons (v_bin (v_var rfl) rfl idx0T) v_nil) rfl (y_low rfl T.hlow (by have := T.cc.2; omega))) (v_bin (v_var rfl) rfl (subD_i _ _)) (fdivD_ok (by omega) (by omega))) rfl ((addD_i _ _).trans (by rw [T.hm]))) rfl ?_)
  refine w_seq (w_let (v_call (v_cons (v_var rfl) (v_cons (v_var rfl) (v_cons (v_var rfl) v_nil))) rfl (y_lines T rfl)) rfl ?_)
  refine w_seq (w_let (v_call (v_cons (v_var rfl) (v_cons (v_var rfl) (v_cons (v_var rfl) v_nil))) rfl g2) rfl ?_)
  refine w_seq (w_if (k := false) (t_or (k := false) (l := false) (t_of (v_bin (v_call (v_cons (v_var rfl) (v_cons (v_var rfl) v_nil)) rfl (x_first_many T)) (v_var rfl) ((neD_int _ _).trans (by rw [decide_eq_true rfl]; rfl)))) (t_of (v_bin (v_call (v_cons (v_var rfl) (v_cons (v_var rfl) v_nil)) rfl g1) (v_var rfl) (neD_same tup_rows (by decide))))) (fun h => nomatch h) fun _ => w_nil ?_)
  refine w_seq (w_let (v_bin (v_arg (v_cons rfl v_nil) rfl) (v_var rfl) (repT rfl (by omega))) rfl ?_)
  have hz : Row p m (List.replicate m 0) := ⟨List.length_replicate, fun x hx => by rw [(List.mem_replicate.mp hx).2]; omega⟩
  have hzk : KA p m (rowsA P p m low (c :: t)) (ev (List.replicate m 0)) := sp_KA.zero KA.zero fun k hk => by
    rw [show ev (List.replicate m 0) k = 0 by
      show (List.replicate m (0 : Int)).getD k 0 = 0
      rw [List.getD_eq_getElem?_getD, List.getElem?_replicate_of_lt hk]; rfl]
    exact Int.dvd_zero p
  refine w_seq (w_for (fun ds ρ δ => ∃ (L2 : Pr) (x : List Int) (x7 x8 : Sl), ds = L2.map (fun q => .tup (vs q.2)) ∧ (∀ q ∈ L2, q ∈ L) ∧ Row p m x ∧ KA p m (rowsA P p m low (c :: t)) (ev x) ∧ ρ = [.va .dice, .va (.int p), .va (.tup (tD (c :: t))), .va (.int m), .va (.lst (qD (rowsA P p m low (c :: t)))), .va (.tup (L.map fun q => .tup (vs q.2))), .va (.tup (vs x)), x7, x8, .em, .em, .em, .em, .em, .em, .em, .em, .em]) (i_seq (v_var rfl) rfl) ⟨L, _, _, _, rfl, fun _ h => h, hz, hzk, rfl⟩ ?_ ?_)
  · rintro d ds ρ δ3 ⟨L2, x, x7, x8, e1, hL, hx, hk, rfl⟩
    cases L2 with
    | nil => cases e1
    | cons q L2 =>
      cases e1
      obtain ⟨r1, r2⟩ := g3 q (hL q List.mem_cons_self)
      obtain ⟨v, δ4, s1, s2, s3⟩ := roll_ok (ρ := [.va .dice, .va (.int p), .va (.tup (tD (c :: t))), .va (.int m), .va (.lst (qD (rowsA P p m low (c :: t)))), .va (.tup (L.map fun q => .tup (vs q.2))), .va (.tup (vs x)), .va (.tup (vs q.2)), x8, .em, .em, .em, .em, .em, .em, .em, .em, .em]) (i := 0) (f := eVar 1) (δ := δ3) (K := p) (by omega) (by omega) rfl (v_var rfl)
      obtain ⟨k1, k2⟩ := sum_stands (r := v) hp hx r1 hk r2
      refine ⟨_, g_nm (lt' rfl), w_seq (w_let s1 rfl (w_let (v_arg (v_cons (v_comp (δ2 := δ4) (i_zip (v_var rfl) (v_var rfl) rfl rfl) (c_zip (fun u w => (u + v * w) % p) (lt' rfl) (lt' rfl) fun u hu w hw => v_bin (v_bin (v_var rfl) (v_bin (v_var rfl) (v_var rfl) (mulD_ok (mulR' hp s2 s3))) (addD_i _ _)) (v_var rfl) (modD_ok hp.pos)) (len_vs (n := 100) (by rw [k1.len]; omega) (by omega))) v_nil) rfl) rfl ⟨L2, _, _, _, rfl, fun q hq => hL q (List.mem_cons_of_mem _ hq), k1, k2, rfl⟩))⟩
  · rintro ρ δ3 ⟨L2, x, x7, x8, e1, hL, hx, hk, rfl⟩
    have hb := bad_nil T hx hk
    refine w_seq (w_if (k := false) (t_of (v_bin (v_call (v_cons (v_var rfl) (v_cons (v_var rfl) (v_cons (v_var rfl) (v_cons rfl v_nil)))) rfl (x_solution T hx (K := 40) (k := 40) rfl (by omega) (by omega) hb)) (v_call (v_cons (v_var rfl) (v_cons (v_var rfl) (v_cons rfl (v_cons (v_var rfl) v_nil)))) rfl (y_continued T hx (K := 40) (k := 40) rfl (by omega) (by omega))) (neD_same (n := 1) (nice_tup nice_vs) (by decide)))) (fun h => nomatch h) fun _ => w_nil ?_)
    have hl60 := y_left (δ := δ3) (p := p) (P := P) (told := c :: t) (Z := 60) (size := 60) (x := askL P p c t low m 90 x) (dl := .lst (vs (askL P p c t low m 90 x))) hp hP rfl (by omega) (.inl rfl) (by rw [ask_len hx (by omega)]; omega) T.len4 fun d hd => (T.rng d hd).1
    rw [ninety T hx hb] at hl60
    refine w_seq (w_if (k := false) (t_of (v_bin (v_call (v_cons (v_var rfl) (v_cons (v_arg (v_cons (v_call (v_cons (v_var rfl) (v_cons (v_var rfl) (v_cons (v_var rfl) (v_cons rfl v_nil)))) rfl (x_solution T hx (K := 90) (k := 90) rfl (by omega) (by omega) hb)) v_nil) rfl) (v_cons rfl (v_cons (v_var rfl) v_nil)))) rfl hl60) (v_new (n_zeros (k := 60) rfl rfl (by omega))) (neD_same (n := 1) (nice_lst nice_vs) (by decide)))) (fun h => nomatch h) fun _ => w_nil ?_)
    -- other letters
    obtain ⟨y, δ4, s1, s2, s3⟩ := c_drawR (Q := fun v => 0 ≤ v ∧ v < p) (ρ := wipeE [.va .dice, .va (.int p), .va (.tup (tD (c :: t))), .va (.int m), .va (.lst (qD (rowsA P p m low (c :: t)))), .va (.tup (L.map fun q => .tup (vs q.2))), .va (.tup (vs x)), x7, x8, .em, .em, .em, .em, .em, .em, .em, .em, .em] [15]) (g := gNm 15) (e := eCall 2 f__law_roll (aCons (eVar 0) (aCons (eVar 1) aNil))) (fun d δ => by
      obtain ⟨w, δ', g1, g2, g3⟩ := y_roll (δ := δ) (K := p) (by omega) (by omega)
      exact ⟨_, w, δ', g_nm (lt' rfl), v_call (v_cons (v_var rfl) (v_cons (v_var rfl) v_nil)) rfl g1, g2, g3⟩) (ds := rngL 0 m) (δ := δ3)
    have s2 : y.length = m := by rw [s2, rng_eq, List.length_map, List.length_range]
    have hy : Row p m y := ⟨s2, s3⟩
    refine w_seq (w_let (v_arg (v_cons (v_comp (i_rngM (v_var rfl) rfl (by omega)) s1 (len_vs (n := 100) (by omega) (by omega))) v_nil) rfl) rfl ?_)
    refine w_seq (w_let (bad_comp T hy (v_var rfl) (fun n u => v_var rfl) (fun n u => v_var rfl) rfl) rfl ?_)
    cases hbad : badL P p (c :: t) y (low + m) with
    | nil =>
      refine w_tryR (w_seq (w_let (v_call (v_cons (v_var rfl) (v_cons (v_var rfl) (v_cons (v_var rfl) (v_cons rfl v_nil)))) rfl (x_solution T hy (K := 9) (k := 9) rfl (by omega) (by omega) hbad)) rfl ?_))
      refine w_ret (v_and_t (v_bin (v_var rfl) (v_arg v_nil rfl) (eqD_same (n := 1) nice_nil (by decide))) (v_bin (v_var rfl) (v_call (v_cons (v_var rfl) (v_cons (v_var rfl) (v_cons rfl (v_cons (v_var rfl) v_nil)))) rfl (y_continued T hy (K := 9) (k := 9) rfl (by omega) (by omega))) (eqD_same (n := 1) (nice_tup nice_vs) (by decide)))) rfl
    | cons n r =>
      have hne : neD (.lst ((n :: r).map fun (k : Nat) => D.int k)) (.lst []) = some (.bl true) := ne_nil
      refine w_tryA (d := .bl true) (δ2 := δ4) (er_call (v_cons (v_var rfl) (v_cons (v_var rfl) (v_cons (v_var rfl) (v_cons rfl v_nil)))) rfl (x_refused T hy (K := 9) (by omega) (by omega) hbad)) (lt' rfl) ?_ rfl
      · refine v_and_t (v_bin (v_var rfl) (v_arg v_nil rfl) hne) (v_bin rfl (v_arg (v_cons rfl (v_cons (v_bin (v_var rfl) rfl idx0) v_nil)) rfl) (eqD_same (n := 1) (nice_tup fun d hd => ?_) (by decide)))
        rcases List.mem_cons.mp hd with e | hd
        · subst e; exact nice_str (by decide +kernel)
        · rw [List.mem_singleton.mp hd]; exact nice_int
theorem okB (a : Addr) (δ : Di) : ∃ (d : Sl) (δ' : Di), f_lawB (rhoL a .em) δ = .ok .nx (rhoL a d) δ' := by
  have main : Wp (f_lawB (rhoL a .em) δ) (fun ρ δ' => ∃ d, ρ = rhoL a d) (fun _ _ => False) := by
    refine w_for (fun ds ρ δ => ∃ d, ρ = rhoL a d) (i_rng1 (n := 3) rfl (by omega)) ⟨_, rfl⟩ ?_ ?_
    · rintro d ds ρ δ ⟨x, rfl⟩
      obtain ⟨δ', h⟩ := y_right (δ := δ)
      exact ⟨_, g_nm (lt' rfl), w_if (k := false) (t_not (k := true) (t_of (v_call (v_cons (v_var rfl) v_nil) rfl h))) (fun h => nomatch h) fun _ => w_nil ⟨_, rfl⟩⟩
    · rintro ρ δ ⟨d, rfl⟩; exact ⟨d, rfl⟩
  cases main with
  | nx ρ δ h h2 =>
    obtain ⟨d, e⟩ := h2
    subst e
    exact ⟨d, δ, h⟩
  | rt d ρ δ h h2 => exact h2.elim
end
end K80
end
section
set_option maxHeartbeats 4000000
namespace K80
open PySem PySem.Spec PyProof.Rows L2 Sh
theorem okR (a : Addr) (δ : Di) : ∃ (δ' : Di), f_lawR (rhoL a .em) δ = .ok (.rt (.bl true)) (rhoL a .em) δ' := ⟨δ, by kernel_rfl⟩
end K80
end
theorem PySem.Challenge.cw_digitwords_k80_whole_beginnings_that_equ_holds : PySem.Challenge.rw_digitwords_k80_whole_beginnings_that_equ.Holds := by
  exact K80.done K80.okB K80.okR
