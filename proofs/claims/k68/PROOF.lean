import PyProof.Rows.All
import Wide.All
import OpenK.AllK
import Wide.FinOn
import HandS.ForMost
import HandS.Style
import HandS.IsInst
import HandS.TupAny
import HandS.Wide
import KE.SortUse
import KE.DataEq
import KE.DataCmp
import KE.DataMinMax
import KE.GoesMore
import KE.GoesEnum
import HandS.Conv
import PySem.Challenge.RW_tworeadings_k68_rules_and_ways
set_option Elab.async false
set_option linter.all false
set_option maxRecDepth 100000
set_option autoImplicit false
namespace T2
open PySem L2

/-! ### data trees and what represents them -/
abbrev D := PyData
/-- the box of the law's draws, as a datum of its own -/
def boxD : D := .dict [(.none, .none)]
/-- a dict whose keys are ints and texts; one whose keys are tuples of such -/
abbrev dKD (kvs : List (D × D)) : D := .dict ((.bool false, .none) :: kvs)
abbrev dTD (kvs : List (D × D)) : D := .dict ((.bool true, .none) :: kvs)
abbrev sD (w : List Nat) : D := .str ⟨w.toArray⟩
def keyD : Key → D
  | .inl i => .int i
  | .inr x => .str x

mutual
inductive Rep (S : Addr → Prop) (bx : Option Addr) (H : Hp) : D → V → Prop
  | non : Rep S bx H .none .non
  | bl (b : Bool) : Rep S bx H (.bool b) (.bl b)
  | int (i : Int) : Rep S bx H (.int i) (.int i)
  | str (x : Str) : x.length ≤ sizeLine → Rep S bx H (.str x) (.str x)
  | tup {a : Addr} {xs : List V} {ds : List D} : H a = some (.tup xs) → RepAll S bx H ds xs → ds.length ≤ sizeLine → Rep S bx H (.tuple ds) (.ref a)
  | lst {a : Addr} {xs : List V} {ds : List D} : S a → H a = some (.lst xs) → RepAll S bx H ds xs → ds.length ≤ sizeLine → Rep S bx H (.list ds) (.ref a)
  | dK {a : Addr} {ks : List (Key × V)} {kvs : List (D × D)} : S a → H a = some (.dK ks) → RepK S bx H kvs ks → Rep S bx H (dKD kvs) (.ref a)
  | dT {a : Addr} {ks : List (List Key × V)} {kvs : List (D × D)} : S a → H a = some (.dT ks) → RepT S bx H kvs ks → Rep S bx H (dTD kvs) (.ref a)
  | box {b : Addr} : bx = some b → Rep S bx H boxD (.ref b)
inductive RepAll (S : Addr → Prop) (bx : Option Addr) (H : Hp) : List D → List V → Prop
  | nil : RepAll S bx H [] []
  | cons {d : D} {v : V} {ds : List D} {vs : List V} : Rep S bx H d v → RepAll S bx H ds vs → RepAll S bx H (d :: ds) (v :: vs)
inductive RepK (S : Addr → Prop) (bx : Option Addr) (H : Hp) : List (D × D) → List (Key × V) → Prop
  | nil : RepK S bx H [] []
  | cons {k : Key} {d : D} {v : V} {ds : List (D × D)} {vs : List (Key × V)} : Rep S bx H d v → RepK S bx H ds vs → RepK S bx H ((keyD k, d) :: ds) ((k, v) :: vs)
inductive RepT (S : Addr → Prop) (bx : Option Addr) (H : Hp) : List (D × D) → List (List Key × V) → Prop
  | nil : RepT S bx H [] []
  | cons {k : List Key} {d : D} {v : V} {ds : List (D × D)} {vs : List (List Key × V)} : Rep S bx H d v → RepT S bx H ds vs → RepT S bx H ((.tuple (k.map keyD), d) :: ds) ((k, v) :: vs)
end

/-- what stands at the addresses of S stands on; tuples always do -/
structure Kp (S : Addr → Prop) (H H' : Hp) : Prop where
  keep : ∀ a o, S a → H a = some o → H' a = some o
  tup : ∀ a xs, H a = some (.tup xs) → H' a = some (.tup xs)
theorem Kp.refl (S : Addr → Prop) (H : Hp) : Kp S H H := ⟨fun _ _ _ h => h, fun _ _ h => h⟩
theorem Kp.trans {S : Addr → Prop} {H H1 H2 : Hp} (a : Kp S H H1) (b : Kp S H1 H2) : Kp S H H2 :=
  ⟨fun x o s h => b.keep x o s (a.keep x o s h), fun x o h => b.tup x o (a.tup x o h)⟩
theorem Kp.sub {S S' : Addr → Prop} {H H' : Hp} (a : Kp S H H') (h : ∀ x, S' x → S x) : Kp S' H H' := ⟨fun x o s e => a.keep x o (h x s) e, a.tup⟩
theorem Kp.of {S : Addr → Prop} {H H' : Hp} (h : Same H H') : Kp S H H' := ⟨fun a o _ e => h a o e, fun a xs e => h a _ e⟩

mutual
theorem Rep.mono {S S' : Addr → Prop} {bx : Option Addr} {H H' : Hp} (hs : ∀ a, S a → S' a) (k : Kp S H H') : ∀ {d : D} {v : V}, Rep S bx H d v → Rep S' bx H' d v
  | _, _, .non => .non
  | _, _, .bl b => .bl b
  | _, _, .int i => .int i
  | _, _, .str x h => .str x h
  | _, _, .tup h1 h2 h3 => .tup (k.tup _ _ h1) (RepAll.mono hs k h2) h3
  | _, _, .lst h0 h1 h2 h3 => .lst (hs _ h0) (k.keep _ _ h0 h1) (RepAll.mono hs k h2) h3
  | _, _, .dK h0 h1 h2 => .dK (hs _ h0) (k.keep _ _ h0 h1) (RepK.mono hs k h2)
  | _, _, .dT h0 h1 h2 => .dT (hs _ h0) (k.keep _ _ h0 h1) (RepT.mono hs k h2)
  | _, _, .box h => .box h
theorem RepAll.mono {S S' : Addr → Prop} {bx : Option Addr} {H H' : Hp} (hs : ∀ a, S a → S' a) (k : Kp S H H') : ∀ {d : List D} {v : List V}, RepAll S bx H d v → RepAll S' bx H' d v
  | _, _, .nil => .nil
  | _, _, .cons h1 h2 => .cons (Rep.mono hs k h1) (RepAll.mono hs k h2)
theorem RepK.mono {S S' : Addr → Prop} {bx : Option Addr} {H H' : Hp} (hs : ∀ a, S a → S' a) (k : Kp S H H') : ∀ {d : List (D × D)} {v : List (Key × V)}, RepK S bx H d v → RepK S' bx H' d v
  | _, _, .nil => .nil
  | _, _, .cons h1 h2 => .cons (Rep.mono hs k h1) (RepK.mono hs k h2)
theorem RepT.mono {S S' : Addr → Prop} {bx : Option Addr} {H H' : Hp} (hs : ∀ a, S a → S' a) (k : Kp S H H') : ∀ {d : List (D × D)} {v : List (List Key × V)}, RepT S bx H d v → RepT S' bx H' d v
  | _, _, .nil => .nil
  | _, _, .cons h1 h2 => .cons (Rep.mono hs k h1) (RepT.mono hs k h2)
end
theorem Rep.kp {S : Addr → Prop} {bx : Option Addr} {H H' : Hp} {d : D} {v : V} (r : Rep S bx H d v) (k : Kp S H H') : Rep S bx H' d v := r.mono (fun _ h => h) k
theorem RepAll.kp {S : Addr → Prop} {bx : Option Addr} {H H' : Hp} {d : List D} {v : List V} (r : RepAll S bx H d v) (k : Kp S H H') : RepAll S bx H' d v := r.mono (fun _ h => h) k

/-- no list, no dict within -/
def flat : D → Bool
  | .none | .bool _ | .int _ | .str _ => true
  | .tuple ds => flatAll ds
  | .list _ => false
  | .dict kvs => match kvs with
    | [(.none, .none)] => true
    | _ => false
where flatAll : List D → Bool
  | [] => true
  | d :: ds => flat d && flatAll ds
mutual
theorem Rep.flat {S S' : Addr → Prop} {bx : Option Addr} {H : Hp} : ∀ {d : D} {v : V}, flat d = true → Rep S bx H d v → Rep S' bx H d v
  | _, _, _, .non => .non
  | _, _, _, .bl b => .bl b
  | _, _, _, .int i => .int i
  | _, _, _, .str x h => .str x h
  | _, _, f, .tup h1 h2 h3 => .tup h1 (RepAll.flat (by unfold T2.flat at f; exact f) h2) h3
  | _, _, f, .lst h0 h1 h2 h3 => by unfold T2.flat at f; cases f
  | _, _, f, .dK h0 h1 h2 => by simp [T2.flat] at f
  | _, _, f, .dT h0 h1 h2 => by simp [T2.flat] at f
  | _, _, _, .box h => .box h
theorem RepAll.flat {S S' : Addr → Prop} {bx : Option Addr} {H : Hp} : ∀ {d : List D} {v : List V}, T2.flat.flatAll d = true → RepAll S bx H d v → RepAll S' bx H d v
  | _, _, _, .nil => .nil
  | _, _, f, .cons h1 h2 => by
    unfold T2.flat.flatAll at f
    rw [Bool.and_eq_true] at f
    exact .cons (Rep.flat f.1 h1) (RepAll.flat f.2 h2)
end
theorem RepAll.len {S : Addr → Prop} {bx : Option Addr} {H : Hp} : ∀ {d : List D} {v : List V}, RepAll S bx H d v → d.length = v.length
  | _, _, .nil => rfl
  | _, _, .cons _ h => by rw [List.length_cons, List.length_cons, RepAll.len h]
theorem RepAll.get {S : Addr → Prop} {bx : Option Addr} {H : Hp} : ∀ {ds : List D} {vs : List V} {i : Nat} {d : D}, RepAll S bx H ds vs → ds[i]? = some d → ∃ v, vs[i]? = some v ∧ Rep S bx H d v
  | _, _, _, _, .nil, h => by simp at h
  | _, _, 0, _, .cons a _, h => by simp at h; subst h; exact ⟨_, rfl, a⟩
  | _, _, i + 1, _, .cons _ b, h => by
    obtain ⟨v, e, r⟩ := RepAll.get (i := i) b (by simpa using h)
    exact ⟨v, by simpa using e, r⟩
theorem RepAll.append {S : Addr → Prop} {bx : Option Addr} {H : Hp} : ∀ {ds es : List D} {vs ws : List V}, RepAll S bx H ds vs → RepAll S bx H es ws → RepAll S bx H (ds ++ es) (vs ++ ws)
  | _, _, _, _, .nil, h => h
  | _, _, _, _, .cons a b, h => .cons a (RepAll.append b h)
theorem RepAll.take {S : Addr → Prop} {bx : Option Addr} {H : Hp} : ∀ {ds : List D} {vs : List V} (n : Nat), RepAll S bx H ds vs → RepAll S bx H (ds.take n) (vs.take n)
  | _, _, 0, _ => by simp; exact .nil
  | _, _, _ + 1, .nil => .nil
  | _, _, n + 1, .cons a b => .cons a (RepAll.take n b)
theorem RepAll.drop {S : Addr → Prop} {bx : Option Addr} {H : Hp} : ∀ {ds : List D} {vs : List V} (n : Nat), RepAll S bx H ds vs → RepAll S bx H (ds.drop n) (vs.drop n)
  | _, _, 0, h => by simpa using h
  | _, _, _ + 1, .nil => .nil
  | _, _, n + 1, .cons _ b => by simpa using RepAll.drop n b
theorem RepAll.set {S : Addr → Prop} {bx : Option Addr} {H : Hp} {d : D} {v : V} (r : Rep S bx H d v) : ∀ {ds : List D} {vs : List V} (n : Nat), RepAll S bx H ds vs → RepAll S bx H (ds.set n d) (vs.set n v)
  | _, _, _, .nil => .nil
  | _, _, 0, .cons _ b => .cons r b
  | _, _, n + 1, .cons a b => .cons a (RepAll.set r n b)
theorem RepAll.reverse {S : Addr → Prop} {bx : Option Addr} {H : Hp} : ∀ {ds : List D} {vs : List V}, RepAll S bx H ds vs → RepAll S bx H ds.reverse vs.reverse
  | _, _, .nil => .nil
  | _, _, .cons a b => by
    rw [List.reverse_cons, List.reverse_cons]
    exact RepAll.append (RepAll.reverse b) (.cons a .nil)

/-! ### the library's own reading -/
mutual
theorem Rep.reads {X : Cx} {pins : List (Addr × Obj)} {σ : St} {H : Hp} {s : Shared} {S : Addr → Prop} {bx : Option Addr} (I : Inv X pins σ H s) : ∀ {d : D} {v : V} {u : Value}, Rep S bx H d v → RelV v u → d.plain = true → ∃ as, Reads s.heap u d as
  | _, _, _, .non, r, _ => by cases r; exact ⟨_, .none⟩
  | _, _, _, .bl b, r, _ => by cases r; exact ⟨_, .bool b⟩
  | _, _, _, .int i, r, _ => by obtain ⟨t, rfl⟩ := r; exact ⟨_, .int i t⟩
  | _, _, _, .str x h, r, _ => by obtain ⟨t, rfl⟩ := r; exact ⟨_, .str x t⟩
  | _, _, _, .tup h1 h2 h3, r, p => by
    cases r
    obtain ⟨its, rv, ⟨o, ho, hc, n, hd⟩, hz⟩ := I.tuple (SqT.of h1)
    obtain ⟨as, ra⟩ := RepAll.reads I h2 rv (by simpa [PyData.plain] using p)
    exact ⟨_, .tuple ho hc hd (by simpa using ra)⟩
  | _, _, _, .lst h0 h1 h2 h3, r, p => by
    cases r
    obtain ⟨its, rv, ⟨o, n, ho, hc, _, hd⟩, hz⟩ := I.list (SqL.of h1)
    obtain ⟨as, ra⟩ := RepAll.reads I h2 rv (by simpa [PyData.plain] using p)
    exact ⟨_, .list ho hc hd (by simpa using ra)⟩
  | _, _, _, .dK _ _ _, _, p => by simp [PyData.plain] at p
  | _, _, _, .dT _ _ _, _, p => by simp [PyData.plain] at p
  | _, _, _, .box _, _, p => by simp [boxD, PyData.plain] at p
theorem RepAll.reads {X : Cx} {pins : List (Addr × Obj)} {σ : St} {H : Hp} {s : Shared} {S : Addr → Prop} {bx : Option Addr} (I : Inv X pins σ H s) : ∀ {d : List D} {v : List V} {u : List Value}, RepAll S bx H d v → Vals v u → PyData.plainAll d = true → ∃ as, ReadsAll s.heap u d as
  | _, _, _, .nil, r, _ => by cases r; exact ⟨_, .nil⟩
  | _, _, _, .cons h1 h2, r, p => by
    cases r with
    | cons r1 r2 =>
      rw [PyData.plainAll, Bool.and_eq_true] at p
      obtain ⟨as, ra⟩ := Rep.reads I h1 r1 p.1
      obtain ⟨bs, rb⟩ := RepAll.reads I h2 r2 p.2
      exact ⟨_, .cons ra rb⟩
end

/-! ### the world of a body -/
/-- how many numbers stand in the box -/
def boxN : Nat := 2
def BoxAt (b c : Addr) (H : Hp) : Prop := b ≠ c ∧ ∃ zs ns : List Int, H b = some (.lst (.ref c :: zs.map V.int)) ∧ H c = some (.lst (ns.map V.int)) ∧ (∀ z ∈ zs, 0 ≤ z) ∧ zs.length = boxN ∧ ns.length ≤ 1000
structure Wd where
  S : Addr → Prop
  bc : Option (Addr × Addr)
  fz : Addr → Option HO
  nS : ∀ b c, bc = some (b, c) → ¬ S b ∧ ¬ S c
  fs : ∀ a, ¬ S a → (∀ b c, bc = some (b, c) → a ≠ b ∧ a ≠ c) → ∃ o, fz a = some o
def Wd.bx (W : Wd) : Option Addr := W.bc.map (·.1)
structure Wd.ok (W : Wd) (H : Hp) : Prop where
  fz : ∀ a, ¬ W.S a → (∀ b c, W.bc = some (b, c) → a ≠ b ∧ a ≠ c) → H a = W.fz a
  box : ∀ b c, W.bc = some (b, c) → BoxAt b c H
abbrev Wd.Rep (W : Wd) : Hp → D → V → Prop := fun H d v => T2.Rep W.S W.bx H d v
structure Ext (W : Wd) (H H' : Hp) : Prop where
  kp : Kp W.S H H'
  ok : W.ok H'
theorem Ext.trans {W : Wd} {H H1 H2 : Hp} (a : Ext W H H1) (b : Ext W H1 H2) : Ext W H H2 := ⟨a.kp.trans b.kp, b.ok⟩
theorem Ext.refl {W : Wd} {H : Hp} (h : W.ok H) : Ext W H H := ⟨.refl _ _, h⟩
/-- a hidden address is tracked -/
theorem Wd.ok.there {W : Wd} {H : Hp} (h : W.ok H) {a : Addr} (n : ¬ W.S a) : ∃ o, H a = some o := by
  by_cases hb : ∃ b c, W.bc = some (b, c) ∧ (a = b ∨ a = c)
  · obtain ⟨b, c, e, z⟩ := hb
    obtain ⟨_, zs, ns, h1, h2, _⟩ := h.box b c e
    rcases z with rfl | rfl
    · exact ⟨_, h1⟩
    · exact ⟨_, h2⟩
  · have k : ∀ b c, W.bc = some (b, c) → a ≠ b ∧ a ≠ c := fun b c e => ⟨fun z => hb ⟨b, c, e, .inl z⟩, fun z => hb ⟨b, c, e, .inr z⟩⟩
    obtain ⟨o, e⟩ := W.fs a n k
    exact ⟨o, (h.fz a n k).trans e⟩
theorem Wd.ok.fresh {W : Wd} {H : Hp} (h : W.ok H) {a : Addr} (e : H a = none) : W.S a := by
  by_cases n : W.S a
  · exact n
  · obtain ⟨o, q⟩ := h.there n
    rw [e] at q; cases q
theorem Wd.ok.grow {W : Wd} {H H' : Hp} (h : W.ok H) (g : Same H H') : W.ok H' := by
  refine ⟨fun a n k => ?_, fun b c e => ?_⟩
  · obtain ⟨o, q⟩ := h.there n
    rw [g _ _ q, ← q]
    exact h.fz a n k
  · obtain ⟨ne, zs, ns, h1, h2, r⟩ := h.box b c e
    exact ⟨ne, zs, ns, g _ _ h1, g _ _ h2, r⟩
theorem Ext.grow {W : Wd} {H H' : Hp} (h : W.ok H) (g : Same H H') : Ext W H H' := ⟨.of g, h.grow g⟩
theorem same_new {H : Hp} {p : Addr} {o : HO} (h : H p = none) : Same H (upd H p o) := fun a u e => by rw [upd_ne (ne_of_none e h)]; exact e
/-- fresh behind an extension: fresh ahead of it -/
theorem Ext.back {W : Wd} {H H' : Hp} (x : Ext W H H') {a : Addr} (h : H' a = none) : H a = none := by
  have s := x.ok.fresh h
  cases e : H a with
  | none => rfl
  | some o => rw [x.kp.keep _ _ s e] at h; cases h
end T2
set_option Elab.async false
set_option linter.all false
set_option maxRecDepth 100000
set_option autoImplicit false
namespace T2
open PySem L2 PySem.Spec PyProof.Rows

abbrev EV := List (Option D)
abbrev FE := EV → (D → Prop) → Prop
abbrev FT := EV → (Bool → Prop) → Prop
abbrev FA := EV → (List D → Prop) → Prop
structure ERep (W : Wd) (σ : L2.St) (H : Hp) (env : EV) : Prop where
  len : env.length = σ.length
  at_ : ∀ (i : Nat) (d : D), env[i]? = some (some d) → ∃ v : V, σ[i]? = some (some v) ∧ W.Rep H d v
theorem ERep.ext {W : Wd} {σ : L2.St} {H H' : Hp} {env : EV} (r : ERep W σ H env) (x : Ext W H H') : ERep W σ H' env :=
  ⟨r.len, fun i d e => let ⟨v, a, b⟩ := r.at_ i d e; ⟨v, a, b.kp x.kp⟩⟩
def tE (f : FE) : TE := fun σ H Q => ∃ (W : Wd) (env : EV) (Q' : D → Prop), W.ok H ∧ ERep W σ H env ∧ f env Q' ∧ ∀ v H' d, Ext W H H' → W.Rep H' d v → Q' d → Q v H'
def tT (f : FT) : TT := fun σ H Q => ∃ (W : Wd) (env : EV) (Q' : Bool → Prop), W.ok H ∧ ERep W σ H env ∧ f env Q' ∧ ∀ b H', Ext W H H' → Q' b → Q b H'
def tA (f : FA) : TA := fun σ H Q => ∃ (W : Wd) (env : EV) (Q' : List D → Prop), W.ok H ∧ ERep W σ H env ∧ f env Q' ∧ ∀ vs H' ds, Ext W H H' → RepAll W.S W.bx H' ds vs → Q' ds → Q vs H'
abbrev QE (X : Cx) (e : Expr) (f : FE) : Prop := PE X e (tE f)
abbrev QT (X : Cx) (e : Expr) (f : FT) : Prop := PT X e (tT f)
abbrev QW (X : Cx) (e : Expr) (f : FT) : Prop := PW X e (tT f)
abbrev QA (X : Cx) (es : List Expr) (f : FA) : Prop := PA X es (tA f)
theorem PE.imp {X : Cx} {e : Expr} {t t' : TE} (h : PE X e t) (k : ∀ σ H Q, t' σ H Q → t σ H Q) : PE X e t' := ⟨fun pins s σ H Q I q => h.run pins s σ H Q I (k σ H Q q)⟩
theorem PT.imp {X : Cx} {e : Expr} {t t' : TT} (h : PT X e t) (k : ∀ σ H Q, t' σ H Q → t σ H Q) : PT X e t' := ⟨fun pins s σ H Q I q => h.run pins s σ H Q I (k σ H Q q)⟩
theorem PW.imp {X : Cx} {e : Expr} {t t' : TT} (h : PW X e t) (k : ∀ σ H Q, t' σ H Q → t σ H Q) : PW X e t' := ⟨fun wh pins s σ H Q I q => h.run wh pins s σ H Q I (k σ H Q q)⟩
theorem PA.imp {X : Cx} {e : List Expr} {t t' : TA} (h : PA X e t) (k : ∀ σ H Q, t' σ H Q → t σ H Q) : PA X e t' := ⟨fun pos pins s σ H Q I q => h.run pos pins s σ H Q I (k σ H Q q)⟩
theorem PS.imp {X : Cx} {e : Stmt} {t t' : TS} (h : PS X e t) (k : ∀ D σ H, t' D σ H → t D σ H) : PS X e t' := ⟨fun pins s σ H D I q => h.run pins s σ H D I (k D σ H q)⟩
theorem PSs.imp {X : Cx} {e : List Stmt} {t t' : TS} (h : PSs X e t) (k : ∀ D σ H, t' D σ H → t D σ H) : PSs X e t' := ⟨fun pins s σ H D I q => h.run pins s σ H D I (k D σ H q)⟩

/-! ### names, constants -/
def fVar (i : Nat) : FE := fun env Q => match env[i]? with
  | some (some d) => Q d
  | _ => False
def fC (d : D) : FE := fun _ Q => Q d
section
variable {X : Cx} {a b c : Expr} {fa fb fc : FE} {pos : Pos}
theorem q_pe {e : Expr} {i : Nat} (h : PE X e (tVar i)) : QE X e (fVar i) := PE.imp h fun σ H Q ⟨W, env, Q', ok, er, h, k⟩ => by
  unfold fVar at h
  split at h
  · rename_i d e
    obtain ⟨v, e1, r⟩ := er.at_ _ _ e
    exact ⟨v, e1, k v H d (.refl ok) r h⟩
  · exact h.elim
theorem qv (i : Nat) {x : Str} {pos : Pos} (hN : X.N[i]? = some x := by rfl) (hv : Vis X.env.scope x := by first | exact Or.inl rfl | exact Or.inr (Or.inl rfl) | exact Or.inr (Or.inr rfl)) (hd : (x == ("__debug__" : Str)) = false := by decide)
    (hcd : (x == ("__classdict__" : Str)) = false := by decide) : QE X (.Name x pos) (fVar i) := q_pe (pe_var hN hv hd hcd)
theorem q_c {e : Expr} {v : V} {d : D} (h : PE X e (tC v)) (r : ∀ S bx H, Rep S bx H d v) : QE X e (fC d) := PE.imp h fun σ H Q ⟨W, env, Q', ok, er, h, k⟩ => k v H d (.refl ok) (r _ _ _) h
theorem q_int {i j pos} : QE X (.Constant (.int i) j pos) (fC (.int i)) := q_c pe_int fun _ _ _ => .int i
theorem q_bl {b j pos} : QE X (.Constant (.bool b) j pos) (fC (.bool b)) := q_c pe_bl fun _ _ _ => .bl b
theorem q_non {j pos} : QE X (.Constant .none j pos) (fC .none) := q_c pe_non fun _ _ _ => .non
theorem q_str {x j pos} (h : x.length ≤ 10000 := by decide +kernel) : QE X (.Constant (.str x) j pos) (fC (.str x)) := q_c pe_str fun _ _ _ => .str x (Nat.le_trans h (by decide))
/-- a module's constant -/
theorem q_gint {x : Str} {i : Int} {t : Tok} {pos : Pos} (hm : X.mg x = some (.int i t)) (hg : Gl X x := by rfl) (hd : (x == ("__debug__" : Str)) = false := by decide) : QE X (.Name x pos) (fC (.int i)) :=
  q_c (pe_glob (v := .int i) hg hm ⟨t, rfl⟩ hd) fun _ _ _ => .int i
theorem q_gstr {x : Str} {y : Str} {t : Tok} {pos : Pos} (hm : X.mg x = some (.str y t)) (hl : y.length ≤ 10000 := by decide +kernel) (hg : Gl X x := by rfl) (hd : (x == ("__debug__" : Str)) = false := by decide) : QE X (.Name x pos) (fC (.str y)) :=
  q_c (pe_glob (v := .str y) hg hm ⟨t, rfl⟩ hd) fun _ _ _ => .str y (Nat.le_trans hl (by decide))

/-! ### operators -/
abbrev O2 := D → D → (D → Prop) → Prop
def rO (g : O2) : R2 := fun x y H Q => ∃ (S : Addr → Prop) (bx : Option Addr) (d e : D) (Q' : D → Prop), (∀ a, H a = none → S a) ∧ Rep S bx H d x ∧ Rep S bx H e y ∧ g d e Q' ∧ ∀ v H' z, Same H H' → Rep S bx H' z v → Q' z → Q v H'
def fBin (g : O2) (fa fb : FE) : FE := fun env Q => fa env fun x => fb env fun y => g x y Q
theorem bin_imp {g : O2} : ∀ σ H Q, tE (fBin g fa fb) σ H Q → tOp (rO g) (tE fa) (tE fb) σ H Q := fun σ H Q ⟨W, env, Q', ok, er, h, k⟩ =>
  ⟨W, env, _, ok, er, h, fun v H1 d x1 r1 q1 => ⟨W, env, _, x1.ok, er.ext x1, q1, fun w H2 e x2 r2 q2 =>
    ⟨W.S, W.bx, d, e, _, fun a n => x2.ok.fresh n, r1.kp x2.kp, r2, q2, fun z H3 zd g r3 q3 => k _ _ _ ((x1.trans x2).trans (.grow x2.ok g)) r3 q3⟩⟩⟩
theorem q_bin {op : Operator} {g : O2} (ho : OpR X (binaryOp op) (rO g)) (ha : QE X a fa) (hb : QE X b fb) : QE X (.BinOp a op b pos) (fBin g fa fb) := PE.imp (pe_op ho ha hb) bin_imp
theorem q_cmp {op : CmpOp} {g : O2} (ho : OpR X (compareOp op) (rO g)) (ha : QE X a fa) (hb : QE X b fb) (hm : behindInMarks op b = false := by first | exact nomark _ | rfl) : QE X (.Compare a [op] [b] pos) (fBin g fa fb) := PE.imp (pe_cmpR ho ha hb hm) bin_imp
theorem q_ix {g : O2} (ho : IxR X (rO g)) (ha : QE X a fa) (hb : QE X b fb) (hs : PlainIx b := by exact fun _ _ => rfl) : QE X (.Subscript a b pos) (fBin g fa fb) := PE.imp (pe_ix ho ha hb hs) bin_imp

theorem rep_new_tup {S : Addr → Prop} {bx : Option Addr} {H : Hp} {p : Addr} {ds : List D} {xs : List V} (hp : H p = none) (r : RepAll S bx H ds xs) (hl : ds.length ≤ sizeLine) : Rep S bx (upd H p (.tup xs)) (.tuple ds) (.ref p) :=
  .tup upd_same (r.kp (.of (same_new hp))) hl
theorem rep_new_lst {S : Addr → Prop} {bx : Option Addr} {H : Hp} {p : Addr} {ds : List D} {xs : List V} (hS : S p) (hp : H p = none) (r : RepAll S bx H ds xs) (hl : ds.length ≤ sizeLine) : Rep S bx (upd H p (.lst xs)) (.list ds) (.ref p) :=
  .lst hS upd_same (r.kp (.of (same_new hp))) hl
theorem lim {n : Nat} (h : n ≤ 16000000) : n ≤ sizeLine := Nat.le_trans h (by decide)

def oAdd : O2
  | .int i, .int j, Q => Q (.int (i + j))
  | .str x, .str y, Q => x.cps.toList.length + y.cps.toList.length ≤ 16000000 ∧ Q (sD (x.cps.toList ++ y.cps.toList))
  | .tuple xs, .tuple ys, Q => xs.length + ys.length ≤ 16000000 ∧ Q (.tuple (xs ++ ys))
  | .list xs, .list ys, Q => xs.length + ys.length ≤ 16000000 ∧ Q (.list (xs ++ ys))
  | _, _, _ => False
theorem str_app (x y : Str) : x ++ y = ⟨(x.cps.toList ++ y.cps.toList).toArray⟩ := by
  show Str.append x y = _
  unfold Str.append
  congr 1
  simp
theorem str_len (x : Str) : x.length = x.cps.toList.length := by
  show x.cps.size = _
  simp
theorem op_oAdd : OpR X (binaryOp .Add) (rO oAdd) := by
  intro pins s σ H x y v u Q I rx ry ⟨S, bx, d, e, Q', fr, rd, re, h, k⟩
  cases rd with
  | int i =>
    cases re with
    | int j => exact op_add pins s σ H _ _ v u Q I rx ry ⟨i, j, rfl, rfl, k _ _ _ (Same.refl _) (.int _) h⟩
    | _ => exact (show False from h).elim
  | str i hi =>
    cases re with
    | str j hj =>
      obtain ⟨hl, h⟩ := (show i.cps.toList.length + j.cps.toList.length ≤ 16000000 ∧ Q' (sD (i.cps.toList ++ j.cps.toList)) from h)
      have e := str_app i j
      exact op_add_str pins s σ H _ _ v u Q I rx ry ⟨i, j, rfl, rfl, lim (by rw [str_len, str_len]; exact hl), k _ _ (.str (i ++ j)) (Same.refl _) (.str _ (lim (by rw [e, str_len]; simpa using hl))) (by rw [e]; exact h)⟩
    | _ => exact (show False from h).elim
  | @tup a xs ds h1 h2 h3 =>
    cases re with
    | @tup b ys es g1 g2 g3 =>
      obtain ⟨hl, h⟩ := (show ds.length + es.length ≤ 16000000 ∧ Q' (.tuple (ds ++ es)) from h)
      refine op_catA pins s σ H _ _ v u Q I rx ry ⟨a, b, xs, ys, rfl, rfl, .of h1, .of g1, lim (by rw [← h2.len, ← g2.len]; exact hl), fun z => ?_, fun _ z => ?_, fun _ _ p hp => ?_⟩
      · subst z
        cases h2
        exact k _ _ _ (Same.refl _) (.tup g1 g2 g3) (by simpa using h)
      · subst z
        cases g2
        exact k _ _ _ (Same.refl _) (.tup h1 h2 h3) (by simpa using h)
      · exact k _ _ _ (same_new hp) (rep_new_tup hp (h2.append g2) (lim (by simpa using hl))) h
    | _ => exact (show False from h).elim
  | @lst a xs ds h0 h1 h2 h3 =>
    cases re with
    | @lst b ys es g0 g1 g2 g3 =>
      obtain ⟨hl, h⟩ := (show ds.length + es.length ≤ 16000000 ∧ Q' (.list (ds ++ es)) from h)
      refine op_cat pins s σ H _ _ v u Q I rx ry ⟨a, b, xs, ys, rfl, rfl, h1, g1, lim (by rw [← h2.len, ← g2.len]; exact hl), fun p hp => ?_⟩
      exact k _ _ _ (same_new hp) (rep_new_lst (fr _ hp) hp (h2.append g2) (lim (by simpa using hl))) h
    | _ => exact (show False from h).elim
  | _ => exact (show False from h).elim
def oSub : O2
  | .int i, .int j, Q => Q (.int (i - j))
  | _, _, _ => False
theorem op_oSub : OpR X (binaryOp .Sub) (rO oSub) := by
  intro pins s σ H x y v u Q I rx ry ⟨S, bx, d, e, Q', fr, rd, re, h, k⟩
  cases rd with
  | int i =>
    cases re with
    | int j => exact op_sub pins s σ H _ _ v u Q I rx ry ⟨i, j, rfl, rfl, k _ _ _ (Same.refl _) (.int _) h⟩
    | _ => exact (show False from h).elim
  | _ => exact (show False from h).elim
/-- one factor below 2 ^ 64 -/
def oMul : O2
  | .int i, .int j, Q => ((-18446744073709551616 < i ∧ i < 18446744073709551616) ∨ (-18446744073709551616 < j ∧ j < 18446744073709551616)) ∧ Q (.int (i * j))
  | .str x, .int j, Q => x.cps.toList.length * j.toNat ≤ 16000000 ∧ -9000000000000000000 < j ∧ j < 9000000000000000000 ∧ Q (sD (List.replicate j.toNat x.cps.toList).flatten)
  | .list xs, .int j, Q => xs.length * j.toNat ≤ 16000000 ∧ -9000000000000000000 < j ∧ j < 9000000000000000000 ∧ Q (.list (List.replicate j.toNat xs).flatten)
  | _, _, _ => False
def oFdiv : O2
  | .int i, .int j, Q => (0 < j ∧ j < 1073741824) ∧ Q (.int (i / j))
  | _, _, _ => False
theorem op_oFdiv : OpR X (binaryOp .FloorDiv) (rO oFdiv) := by
  intro pins s σ H x y v u Q I rx ry ⟨S, bx, d, e, Q', fr, rd, re, h, k⟩
  cases rd with
  | int i =>
    cases re with
    | int j =>
      obtain ⟨hc, h⟩ := (show (0 < j ∧ j < 1073741824) ∧ Q' (.int (i / j)) from h)
      exact op_fdiv pins s σ H _ _ v u Q I rx ry ⟨i, j, rfl, rfl, hc, k _ _ _ (Same.refl _) (.int _) h⟩
    | _ => exact (show False from h).elim
  | _ => exact (show False from h).elim
def oMod : O2
  | .int i, .int j, Q => 0 < j ∧ Q (.int (i % j))
  | _, _, _ => False
theorem op_oMod : OpR X (binaryOp .Mod) (rO oMod) := by
  intro pins s σ H x y v u Q I rx ry ⟨S, bx, d, e, Q', fr, rd, re, h, k⟩
  cases rd with
  | int i =>
    cases re with
    | int j =>
      obtain ⟨hc, h⟩ := (show 0 < j ∧ Q' (.int (i % j)) from h)
      exact op_mod pins s σ H _ _ v u Q I rx ry ⟨i, j, rfl, rfl, hc, k _ _ _ (Same.refl _) (.int _) h⟩
    | _ => exact (show False from h).elim
  | _ => exact (show False from h).elim

/-! ### comparisons -/
def oEq : O2 := fun d e Q => (d.plain = true ∧ e.plain = true ∧ min d.depth e.depth ≤ 60) ∧ Q (.bool (PyData.eqv d e))
def oNe : O2 := fun d e Q => (d.plain = true ∧ e.plain = true ∧ min d.depth e.depth ≤ 60) ∧ Q (.bool (!PyData.eqv d e))
theorem op_oEq (hu : X.A.units + 64 < cLine) : OpR X (compareOp .Eq) (rO oEq) := by
  intro pins s σ H x y v u Q I rx ry ⟨S, bx, d, e, Q', fr, rd, re, ⟨⟨h1, h2, h3⟩, h⟩, k⟩
  obtain ⟨as, ra⟩ := rd.reads I rx h1
  obtain ⟨bs, rb⟩ := re.reads I ry h2
  exact SeqAt.eq_plain ra rb h1 h2 (by omega) ⟨.bl _, H, I, rfl, k _ _ _ (Same.refl _) (.bl _) h⟩
theorem op_oNe (hu : X.A.units + 64 < cLine) : OpR X (compareOp .NotEq) (rO oNe) := by
  intro pins s σ H x y v u Q I rx ry ⟨S, bx, d, e, Q', fr, rd, re, ⟨⟨h1, h2, h3⟩, h⟩, k⟩
  obtain ⟨as, ra⟩ := rd.reads I rx h1
  obtain ⟨bs, rb⟩ := re.reads I ry h2
  exact SeqAt.ne_plain ra rb h1 h2 (by omega) ⟨.bl _, H, I, rfl, k _ _ _ (Same.refl _) (.bl _) h⟩
theorem plain_alike : ∀ d e : D, PySem.W.alike d e = true → d.plain = true → e.plain = true → True := fun _ _ _ _ _ => trivial
def cOk (d e : D) : Prop := d.plain = true ∧ e.plain = true ∧ PySem.W.alike d e = true ∧ d ≠ .none ∧ min d.depth e.depth ≤ 60
def oLt : O2 := fun d e Q => match d, e with
  | .int i, .int j => Q (.bool (decide (i < j)))
  | .str x, .str y => Q (.bool (decide (x.cps.toList < y.cps.toList)))
  | d, e => cOk d e ∧ Q (.bool (PySem.W.dataLt d e))
def oLe : O2 := fun d e Q => match d, e with
  | .int i, .int j => Q (.bool (decide (i ≤ j)))
  | .str x, .str y => Q (.bool (!decide (y.cps.toList < x.cps.toList)))
  | d, e => cOk d e ∧ Q (.bool (!PySem.W.dataLt e d))
def oGt : O2 := fun d e Q => oLt e d Q
def oGe : O2 := fun d e Q => oLe e d Q
end
end T2
set_option Elab.async false
set_option linter.all false
set_option maxRecDepth 100000
set_option autoImplicit false
namespace T2
open PySem L2 PySem.Spec PyProof.Rows

section
variable {X : Cx} {a b c : Expr} {fa fb fc : FE} {pos : Pos}

/-! ### order -/
theorem lt_gen (hu : X.A.units + 64 < cLine) {pins : List (Addr × Obj)} {s : Shared} {σ : L2.St} {H : Hp} {x y : V} {v u : Value} {Q : VK} {S : Addr → Prop} {bx : Option Addr} {d e : D} (I : Inv X pins σ H s) (rx : RelV x v) (ry : RelV y u)
    (rd : Rep S bx H d x) (re : Rep S bx H e y) (h : cOk d e) (q : Q (.bl (PySem.W.dataLt d e)) H) : wpAny (model X.prog X.w) X.A (compareOp .Lt v u) (EP X pins σ Q) X.xe s := by
  obtain ⟨h1, h2, h3, h4, h5⟩ := h
  obtain ⟨as, ra⟩ := rd.reads I rx h1
  obtain ⟨bs, rb⟩ := re.reads I ry h2
  exact PySem.W.lt_data ra rb h3 h4 (by omega) ⟨.bl _, H, I, rfl, q⟩
theorem gt_gen (hu : X.A.units + 64 < cLine) {pins : List (Addr × Obj)} {s : Shared} {σ : L2.St} {H : Hp} {x y : V} {v u : Value} {Q : VK} {S : Addr → Prop} {bx : Option Addr} {d e : D} (I : Inv X pins σ H s) (rx : RelV x v) (ry : RelV y u)
    (rd : Rep S bx H d x) (re : Rep S bx H e y) (h : cOk e d) (q : Q (.bl (PySem.W.dataLt e d)) H) : wpAny (model X.prog X.w) X.A (compareOp .Gt v u) (EP X pins σ Q) X.xe s := by
  obtain ⟨h1, h2, h3, h4, h5⟩ := h
  rw [PySem.W.alike_comm] at h3
  obtain ⟨as, ra⟩ := rd.reads I rx h2
  obtain ⟨bs, rb⟩ := re.reads I ry h1
  exact PySem.W.gt_data ra rb h3 (PySem.W.ne_none_both (by rw [PySem.W.alike_comm]; exact h3) h4) (by rw [Nat.min_comm] at h5; omega) ⟨.bl _, H, I, rfl, q⟩
theorem le_gen (hu : X.A.units + 64 < cLine) {pins : List (Addr × Obj)} {s : Shared} {σ : L2.St} {H : Hp} {x y : V} {v u : Value} {Q : VK} {S : Addr → Prop} {bx : Option Addr} {d e : D} (I : Inv X pins σ H s) (rx : RelV x v) (ry : RelV y u)
    (rd : Rep S bx H d x) (re : Rep S bx H e y) (h : cOk d e) (q : Q (.bl (!PySem.W.dataLt e d)) H) : wpAny (model X.prog X.w) X.A (compareOp .LtE v u) (EP X pins σ Q) X.xe s := by
  obtain ⟨h1, h2, h3, h4, h5⟩ := h
  obtain ⟨as, ra⟩ := rd.reads I rx h1
  obtain ⟨bs, rb⟩ := re.reads I ry h2
  exact PySem.W.le_data ra rb h3 h4 (by omega) ⟨.bl _, H, I, rfl, q⟩
theorem ge_gen (hu : X.A.units + 64 < cLine) {pins : List (Addr × Obj)} {s : Shared} {σ : L2.St} {H : Hp} {x y : V} {v u : Value} {Q : VK} {S : Addr → Prop} {bx : Option Addr} {d e : D} (I : Inv X pins σ H s) (rx : RelV x v) (ry : RelV y u)
    (rd : Rep S bx H d x) (re : Rep S bx H e y) (h : cOk e d) (q : Q (.bl (!PySem.W.dataLt d e)) H) : wpAny (model X.prog X.w) X.A (compareOp .GtE v u) (EP X pins σ Q) X.xe s := by
  obtain ⟨h1, h2, h3, h4, h5⟩ := h
  rw [PySem.W.alike_comm] at h3
  obtain ⟨as, ra⟩ := rd.reads I rx h2
  obtain ⟨bs, rb⟩ := re.reads I ry h1
  exact PySem.W.ge_data ra rb h3 (PySem.W.ne_none_both (by rw [PySem.W.alike_comm]; exact h3) h4) (by rw [Nat.min_comm] at h5; omega) ⟨.bl _, H, I, rfl, q⟩
theorem op_oLt (hu : X.A.units + 64 < cLine) : OpR X (compareOp .Lt) (rO oLt) := by
  intro pins s σ H x y v u Q I rx ry ⟨S, bx, d, e, Q', fr, rd, re, h, k⟩
  unfold oLt at h
  split at h
  · cases rd; cases re
    exact op_lt pins s σ H _ _ v u Q I rx ry ⟨_, _, rfl, rfl, k _ _ _ (Same.refl _) (.bl _) h⟩
  · cases rd; cases re
    exact op_lt_str pins s σ H _ _ v u Q I rx ry ⟨_, _, rfl, rfl, k _ _ _ (Same.refl _) (.bl _) h⟩
  · exact lt_gen hu I rx ry rd re h.1 (k _ _ _ (Same.refl _) (.bl _) h.2)
theorem op_oGt (hu : X.A.units + 64 < cLine) : OpR X (compareOp .Gt) (rO oGt) := by
  intro pins s σ H x y v u Q I rx ry ⟨S, bx, d, e, Q', fr, rd, re, h, k⟩
  unfold oGt oLt at h
  split at h
  · cases rd; cases re
    exact op_gt pins s σ H _ _ v u Q I rx ry ⟨_, _, rfl, rfl, k _ _ _ (Same.refl _) (.bl _) h⟩
  · cases rd; cases re
    exact op_gt_str pins s σ H _ _ v u Q I rx ry ⟨_, _, rfl, rfl, k _ _ _ (Same.refl _) (.bl _) h⟩
  · exact gt_gen hu I rx ry rd re h.1 (k _ _ _ (Same.refl _) (.bl _) h.2)
theorem op_oLe (hu : X.A.units + 64 < cLine) : OpR X (compareOp .LtE) (rO oLe) := by
  intro pins s σ H x y v u Q I rx ry ⟨S, bx, d, e, Q', fr, rd, re, h, k⟩
  unfold oLe at h
  split at h
  · cases rd; cases re
    exact op_le pins s σ H _ _ v u Q I rx ry ⟨_, _, rfl, rfl, k _ _ _ (Same.refl _) (.bl _) h⟩
  · cases rd; cases re
    exact op_le_str pins s σ H _ _ v u Q I rx ry ⟨_, _, rfl, rfl, k _ _ _ (Same.refl _) (.bl _) h⟩
  · exact le_gen hu I rx ry rd re h.1 (k _ _ _ (Same.refl _) (.bl _) h.2)
theorem op_oGe (hu : X.A.units + 64 < cLine) : OpR X (compareOp .GtE) (rO oGe) := by
  intro pins s σ H x y v u Q I rx ry ⟨S, bx, d, e, Q', fr, rd, re, h, k⟩
  unfold oGe oLe at h
  split at h
  · cases rd; cases re
    exact op_ge pins s σ H _ _ v u Q I rx ry ⟨_, _, rfl, rfl, k _ _ _ (Same.refl _) (.bl _) h⟩
  · cases rd; cases re
    exact op_ge_str pins s σ H _ _ v u Q I rx ry ⟨_, _, rfl, rfl, k _ _ _ (Same.refl _) (.bl _) h⟩
  · exact ge_gen hu I rx ry rd re h.1 (k _ _ _ (Same.refl _) (.bl _) h.2)

/-! ### is -/
def isNone : D → Bool
  | .none => true
  | _ => false
def oIs : O2 := fun d e Q => match e with
  | .none => Q (.bool (isNone d))
  | .bool b => ∃ a, d = .bool a ∧ Q (.bool (decide (a = b)))
  | _ => False
def oIsnt : O2 := fun d e Q => match e with
  | .none => Q (.bool (!isNone d))
  | .bool b => ∃ a, d = .bool a ∧ Q (.bool (!decide (a = b)))
  | _ => False
theorem isNone_iff {S : Addr → Prop} {bx : Option Addr} {H : Hp} {d : D} {x : V} (r : Rep S bx H d x) : isNone d = decide (x = .non) := by
  cases r <;> simp [isNone, boxD]
theorem op_oIs : OpR X (compareOp .Is) (rO oIs) := by
  intro pins s σ H x y v u Q I rx ry ⟨S, bx, d, e, Q', fr, rd, re, h, k⟩
  unfold oIs at h
  split at h
  · cases re
    exact op_isN pins s σ H _ _ v u Q I rx ry ⟨rfl, k _ _ _ (Same.refl _) (by rw [isNone_iff rd]; exact .bl _) h⟩
  · obtain ⟨b, rfl, h⟩ := h
    cases rd; cases re
    exact op_isBl pins s σ H _ _ v u Q I rx ry ⟨_, _, rfl, rfl, k _ _ _ (Same.refl _) (.bl _) h⟩
  · exact h.elim
theorem op_oIsnt : OpR X (compareOp .IsNot) (rO oIsnt) := by
  intro pins s σ H x y v u Q I rx ry ⟨S, bx, d, e, Q', fr, rd, re, h, k⟩
  unfold oIsnt at h
  split at h
  · cases re
    exact op_notN pins s σ H _ _ v u Q I rx ry ⟨rfl, k _ _ _ (Same.refl _) (by rw [isNone_iff rd]; exact .bl _) h⟩
  · obtain ⟨b, rfl, h⟩ := h
    cases rd; cases re
    exact op_notBl pins s σ H _ _ v u Q I rx ry ⟨_, _, rfl, rfl, k _ _ _ (Same.refl _) (.bl _) h⟩
  · exact h.elim

/-! ### in -/
/-- y stands in x -/
def isSub (y x : List Nat) : Bool := (List.range (x.length + 1)).any fun i => (x.drop i).take y.length == y
theorem sub_iff (x y : Str) : (!(Builtin.Str.occurrences x y 0 x.length 1).isEmpty) = isSub y.cps.toList x.cps.toList := by
  rw [Bool.eq_iff_iff, StrLaws.found_iff]
  unfold isSub
  rw [List.any_eq_true]
  constructor
  · rintro ⟨i, h1, h2⟩
    rw [StrLaws.subAt_eq] at h2
    refine ⟨i, List.mem_range.mpr ?_, ?_⟩
    · rw [str_len] at h1; rw [str_len] at h1; omega
    · rw [str_len] at h2; exact h2
  · rintro ⟨i, h1, h2⟩
    have e : (x.cps.toList.drop i).take y.cps.toList.length = y.cps.toList := by simpa using h2
    refine ⟨i, ?_, by rw [StrLaws.subAt_eq, str_len]; exact h2⟩
    have l := congrArg List.length e
    rw [List.length_take, List.length_drop] at l
    have := List.mem_range.mp h1
    rw [str_len, str_len]; omega
def inOk (xs : List D) (d : D) : Prop := PyData.plainAll xs = true ∧ d.plain = true ∧ min (PyData.depthAll xs) d.depth ≤ 60
def oIn : O2 := fun d e Q => match e with
  | .str y => ∃ x : Str, d = .str x ∧ Q (.bool (isSub x.cps.toList y.cps.toList))
  | .list xs => inOk xs d ∧ Q (.bool (xs.any fun y => PyData.eqv y d))
  | .tuple xs => inOk xs d ∧ Q (.bool (xs.any fun y => PyData.eqv y d))
  | _ => False
def oNotIn : O2 := fun d e Q => match e with
  | .str y => ∃ x : Str, d = .str x ∧ Q (.bool (!isSub x.cps.toList y.cps.toList))
  | .list xs => inOk xs d ∧ Q (.bool (!xs.any fun y => PyData.eqv y d))
  | .tuple xs => inOk xs d ∧ Q (.bool (!xs.any fun y => PyData.eqv y d))
  | _ => False
theorem op_oIn (hu : X.A.units + 64 < cLine) : OpR X (compareOp .In) (rO oIn) := by
  intro pins s σ H x y v u Q I rx ry ⟨S, bx, d, e, Q', fr, rd, re, h, k⟩
  unfold oIn at h
  split at h
  · obtain ⟨z, rfl, h⟩ := h
    cases rd; cases re
    exact op_in_str pins s σ H _ _ v u Q I rx ry ⟨_, _, rfl, rfl, k _ _ _ (Same.refl _) (by rw [sub_iff]; exact .bl _) h⟩
  · obtain ⟨⟨h1, h2, h3⟩, h⟩ := h
    obtain ⟨as, ra⟩ := rd.reads I rx h2
    obtain ⟨bs, rb⟩ := re.reads I ry (by simpa [PyData.plain] using h1)
    exact SeqAt.in_list_data rb ra h1 h2 (by omega) ⟨.bl _, H, I, rfl, k _ _ _ (Same.refl _) (.bl _) h⟩
  · obtain ⟨⟨h1, h2, h3⟩, h⟩ := h
    obtain ⟨as, ra⟩ := rd.reads I rx h2
    obtain ⟨bs, rb⟩ := re.reads I ry (by simpa [PyData.plain] using h1)
    exact SeqAt.in_tuple_data rb ra h1 h2 (by omega) ⟨.bl _, H, I, rfl, k _ _ _ (Same.refl _) (.bl _) h⟩
  · exact h.elim
theorem op_oNotIn (hu : X.A.units + 64 < cLine) : OpR X (compareOp .NotIn) (rO oNotIn) := by
  intro pins s σ H x y v u Q I rx ry ⟨S, bx, d, e, Q', fr, rd, re, h, k⟩
  unfold oNotIn at h
  split at h
  · obtain ⟨z, rfl, h⟩ := h
    cases rd; cases re
    exact op_notin_str pins s σ H _ _ v u Q I rx ry ⟨_, _, rfl, rfl, k _ _ _ (Same.refl _) (by rw [sub_iff]; exact .bl _) h⟩
  · obtain ⟨⟨h1, h2, h3⟩, h⟩ := h
    obtain ⟨as, ra⟩ := rd.reads I rx h2
    obtain ⟨bs, rb⟩ := re.reads I ry (by simpa [PyData.plain] using h1)
    exact SeqAt.notIn_list_data rb ra h1 h2 (by omega) ⟨.bl _, H, I, rfl, k _ _ _ (Same.refl _) (.bl _) h⟩
  · obtain ⟨⟨h1, h2, h3⟩, h⟩ := h
    obtain ⟨as, ra⟩ := rd.reads I rx h2
    obtain ⟨bs, rb⟩ := re.reads I ry (by simpa [PyData.plain] using h1)
    exact SeqAt.notIn_tuple_data rb ra h1 h2 (by omega) ⟨.bl _, H, I, rfl, k _ _ _ (Same.refl _) (.bl _) h⟩
  · exact h.elim

/-! ### * -/
theorem mul_flat (x : Str) (n : Int) : Txt.mul x n = ⟨(List.replicate n.toNat x.cps.toList).flatten.toArray⟩ := by
  unfold Txt.mul
  by_cases h1 : n < 1
  · rw [if_pos h1]
    have : n.toNat = 0 := by omega
    rw [this]; rfl
  · rw [if_neg h1]
    by_cases h2 : (n == 1 || x.length == 0) = true
    · rw [if_pos h2]
      rw [Bool.or_eq_true, beq_iff_eq, beq_iff_eq] at h2
      rcases h2 with rfl | h2
      · simp
      · have hx : x.cps.toList = [] := List.eq_nil_of_length_eq_zero (by rw [← str_len]; exact h2)
        rw [hx]
        have : (List.replicate n.toNat ([] : List Nat)).flatten = [] := by simp
        rw [this]
        cases x with
        | mk c => simp at hx; simp [hx]
    · rw [if_neg h2]
      congr 1
      have : ∀ (m : Nat) (acc : Array Nat), (List.replicate m x.cps).foldl (· ++ ·) acc = acc ++ (List.replicate m x.cps.toList).flatten.toArray := by
        intro m
        induction m with
        | zero => intro acc; simp
        | succ m ih =>
          intro acc
          rw [List.replicate_succ, List.foldl_cons, ih, List.replicate_succ, List.flatten_cons]
          apply Array.ext'
          simp [List.append_assoc]
      rw [this]; simp
theorem op_oMul : OpR X (binaryOp .Mult) (rO oMul) := by
  intro pins s σ H x y v u Q I rx ry ⟨S, bx, d, e, Q', fr, rd, re, h, k⟩
  cases rd with
  | int i =>
    cases re with
    | int j =>
      obtain ⟨hc, h⟩ := (show ((-18446744073709551616 < i ∧ i < 18446744073709551616) ∨ (-18446744073709551616 < j ∧ j < 18446744073709551616)) ∧ Q' (.int (i * j)) from h)
      exact op_mul pins s σ H _ _ v u Q I rx ry ⟨i, j, rfl, rfl, (by unfold CMul; exact hc), k _ _ _ (Same.refl _) (.int _) h⟩
    | _ => exact (show False from h).elim
  | str i hi =>
    cases re with
    | int j =>
      obtain ⟨hl, hj', hj, h⟩ := (show i.cps.toList.length * j.toNat ≤ 16000000 ∧ -9000000000000000000 < j ∧ j < 9000000000000000000 ∧ Q' (sD (List.replicate j.toNat i.cps.toList).flatten) from h)
      obtain ⟨t, rfl⟩ := rx
      obtain ⟨t', rfl⟩ := ry
      by_cases h1 : j < 1
      · have hz : j.toNat = 0 := by omega
        rw [hz] at h
        exact P.mul_str_none h1 (by omega) ⟨.str Str.empty, H, I.tok _, ⟨_, rfl⟩, k _ _ _ (Same.refl _) (.str _ (by decide)) h⟩
      · have hL : sizeLine = 16777216 := sizeLine_eq
        refine SB.mul ⟨?_, fun _ _ => ?_, fun _ _ => ?_⟩ fun t' k' => ⟨.str (Txt.mul i j), H, I.tok _, ⟨_, rfl⟩, k _ _ _ (Same.refl _) (.str _ ?_) ?_⟩
        · simp; omega
        · rw [str_len]
          have h3 : (i.cps.toList.length : Int) * j ≤ 16000000 := by
            have : ((i.cps.toList.length * j.toNat : Nat) : Int) ≤ 16000000 := Int.ofNat_le.mpr hl
            rw [Int.natCast_mul, Int.toNat_of_nonneg (by omega)] at this
            exact this
          have h4 : (i.cps.toList.length : Int) ≤ (2 ^ 63 - 1) / j := by
            rw [Int.le_ediv_iff_mul_le (by omega)]
            omega
          omega
        · unfold Builtin.Str.tooLong
          rw [str_len]
          simp only [decide_eq_false_iff_not]
          omega
        · rw [mul_flat, str_len]
          simp only [List.toList_toArray, List.length_flatten, List.map_replicate, List.sum_replicate_nat]
          rw [Nat.mul_comm]
          exact lim hl
        · rw [mul_flat]; exact h
    | _ => exact (show False from h).elim
  | @lst a xs ds h0 h1 h2 h3 =>
    cases re with
    | int j =>
      obtain ⟨hl, hj, hj', h⟩ := (show ds.length * j.toNat ≤ 16000000 ∧ -9000000000000000000 < j ∧ j < 9000000000000000000 ∧ Q' (.list (List.replicate j.toNat ds).flatten) from h)
      refine op_rep pins s σ H _ _ v u Q I rx ry ⟨a, j, xs, rfl, rfl, h1, by omega, by omega, lim (by rw [← h2.len]; exact hl), fun p hp => ?_⟩
      refine k _ _ _ (same_new hp) (rep_new_lst (fr _ hp) hp ?_ (lim ?_)) h
      · generalize j.toNat = m
        induction m with
        | zero => exact .nil
        | succ m ih => rw [List.replicate_succ, List.replicate_succ, List.flatten_cons, List.flatten_cons]; exact h2.append ih
      · simp only [List.length_flatten, List.map_replicate, List.sum_replicate_nat]
        rw [Nat.mul_comm]; exact hl
    | _ => exact (show False from h).elim
  | _ => exact (show False from h).elim
end
end T2
set_option Elab.async false
set_option linter.all false
set_option maxRecDepth 100000
set_option autoImplicit false
namespace T2
open PySem L2 PySem.Spec PyProof.Rows

section
variable {X : Cx} {a b c e : Expr} {fa fb fc fe : FE} {t u : FT} {pos : Pos}

/-! ### tests, and, or, not, if -/
def asB : D → (Bool → Prop) → Prop
  | .bool c, Q => Q c
  | _, _ => False
theorem asB_of {S : Addr → Prop} {bx : Option Addr} {H : Hp} {d : D} {v : V} {Q : Bool → Prop} (r : Rep S bx H d v) (h : asB d Q) : ∃ c, v = .bl c ∧ Q c := by
  cases r with
  | bl b => exact ⟨b, rfl, h⟩
  | _ => exact (show False from h).elim
def fTB (fe : FE) : FT := fun env Q => fe env fun x => asB x Q
theorem tb_imp : ∀ σ H Q, tT (fTB fe) σ H Q → tTest (tE fe) σ H Q := fun σ H Q ⟨W, env, Q', ok, er, h, k⟩ =>
  ⟨W, env, _, ok, er, h, fun v H1 d x1 r1 q1 => by
    obtain ⟨c, rfl, q⟩ := asB_of r1 q1
    exact ⟨c, rfl, k _ _ x1 q⟩⟩
def truD : D → Bool
  | .none => false
  | .bool b => b
  | .int i => decide (i ≠ 0)
  | .str x => !x.cps.toList.isEmpty
  | .list xs => !xs.isEmpty
  | .tuple xs => !xs.isEmpty
  | .dict xs => !xs.isEmpty
def isDict : D → Bool
  | .dict _ => true
  | _ => false
def fTru (fe : FE) : FT := fun env Q => fe env fun x => isDict x = false ∧ Q (truD x)
theorem tru_of {K : PySem.W.Frag} {S : Addr → Prop} {bx : Option Addr} {H : Hp} {d : D} {v : V} (r : Rep S bx H d v) (h : isDict d = false) : TruV K v H (truD d) := by
  cases r with
  | non => exact rfl
  | bl b => exact rfl
  | int i =>
    show decide (i ≠ 0) = (i != 0)
    by_cases h : i = 0 <;> simp [h]
  | str x hx =>
    refine ⟨hx, ?_⟩
    show (!x.cps.toList.isEmpty) = _
    rw [str_len]
    cases x.cps.toList with
    | nil => rfl
    | cons a l =>
      symm
      simp only [List.isEmpty_cons, Bool.not_false, List.length_cons, bne_iff_ne, ne_eq]
      omega
  | tup h1 h2 h3 =>
    refine .inr (.inl ⟨_, .of h1, ?_⟩)
    cases h2 <;> rfl
  | lst h0 h1 h2 h3 =>
    refine .inl ⟨_, .of h1, ?_⟩
    cases h2 <;> rfl
  | _ => cases h
theorem q_truth (he : QE X e fe) (hx : ∀ whole, isTrue e X.env whole = (do let v ← whole; standAt e.pos; holding [v] (truthy v)) := by intro _; rfl) : QT X e (fTru fe) :=
  PT.imp (pt_truth he hx) fun σ H Q ⟨W, env, Q', ok, er, h, k⟩ => ⟨W, env, _, ok, er, h, fun v H1 d x1 r1 q1 => ⟨truD d, tru_of r1 q1.1, k _ _ x1 q1.2⟩⟩
theorem q_tval (he : QE X e fe) (hx : ∀ whole, isTrue e X.env whole = (do let v ← whole; standAt e.pos; holding [v] (truthy v)) := by intro _; rfl) : QT X e (fTB fe) := PT.imp (pt_val he hx) tb_imp
theorem q_tcmp {op : CmpOp} {g : O2} (ho : OpR X (compareOp op) (rO g)) (ha : QE X a fa) (hb : QE X b fb) (hm : behindInMarks op b = false := by first | exact nomark _ | rfl) : QT X (.Compare a [op] [b] pos) (fTB (fBin g fa fb)) :=
  PT.imp (pt_cmpR ho ha hb hm) fun σ H Q ⟨W, env, Q', ok, er, h, k⟩ => bin_imp σ H _ ⟨W, env, fun x => asB x Q', ok, er, h, fun v H1 d x1 r1 q1 => by
    obtain ⟨c, rfl, q⟩ := asB_of r1 q1
    exact ⟨c, rfl, k _ _ x1 q⟩⟩
def fChain (g g' : O2) (fa fb fc : FE) : FE := fun env Q => fa env fun x => fb env fun y => g x y fun z => asB z fun k => if k = true then fc env fun w => g' y w Q else Q (.bool false)
theorem chain_imp {g g' : O2} : ∀ σ H Q, tE (fChain g g' fa fb fc) σ H Q → tChain (rO g) (rO g') (tE fa) (tE fb) (tE fc) σ H Q := fun σ H Q ⟨W, env, Q', ok, er, h, k⟩ =>
  ⟨W, env, _, ok, er, h, fun v H1 d x1 r1 q1 => ⟨W, env, _, x1.ok, er.ext x1, q1, fun w H2 e x2 r2 q2 =>
    ⟨W.S, W.bx, d, e, _, fun a n => x2.ok.fresh n, r1.kp x2.kp, r2, q2, fun z H3 zd gr r3 q3 => by
      obtain ⟨c, rfl, q⟩ := asB_of r3 q3
      have x3 : Ext W H H3 := (x1.trans x2).trans (.grow x2.ok gr)
      refine ⟨c, rfl, ?_⟩
      cases c with
      | true => exact ⟨W, env, _, x3.ok, er.ext x3, q, fun v4 H4 d4 x4 r4 q4 => ⟨W.S, W.bx, e, d4, _, fun a n => x4.ok.fresh n, (r2.kp (Kp.of gr)).kp x4.kp, r4, q4, fun z5 H5 d5 g5 r5 q5 => k _ _ _ ((x3.trans x4).trans (.grow x4.ok g5)) r5 q5⟩⟩
      | false => exact k _ _ _ x3 (.bl _) q⟩⟩⟩
theorem q_chain {op op' : CmpOp} {g g' : O2} (ho : OpR X (compareOp op) (rO g)) (ho' : OpR X (compareOp op') (rO g')) (ha : QE X a fa) (hb : QE X b fb) (hc : QE X c fc)
    (hm : lastMarks [op, op'] [b, c] = false := by with_unfolding_all rfl) : QE X (.Compare a [op, op'] [b, c] pos) (fChain g g' fa fb fc) := PE.imp (pe_chain ho ho' ha hb hc hm) chain_imp
theorem q_tchain {op op' : CmpOp} {g g' : O2} (ho : OpR X (compareOp op) (rO g)) (ho' : OpR X (compareOp op') (rO g')) (ha : QE X a fa) (hb : QE X b fb) (hc : QE X c fc)
    (hm : lastMarks [op, op'] [b, c] = false := by with_unfolding_all rfl) : QT X (.Compare a [op, op'] [b, c] pos) (fTB (fChain g g' fa fb fc)) :=
  PT.imp (pt_chain ho ho' ha hb hc hm) fun σ H Q ⟨W, env, Q', ok, er, h, k⟩ => chain_imp σ H _ ⟨W, env, fun x => asB x Q', ok, er, h, fun v H1 d x1 r1 q1 => by
    obtain ⟨c, rfl, q⟩ := asB_of r1 q1
    exact ⟨c, rfl, k _ _ x1 q⟩⟩
def fAndT (t u : FT) : FT := fun env Q => t env fun c => if c = true then u env Q else Q false
def fOrT (t u : FT) : FT := fun env Q => t env fun c => if c = true then Q true else u env Q
def fNotT (t : FT) : FT := fun env Q => t env fun c => Q (!c)
theorem q_and1 (ha : QT X a t) : QW X (.BoolOp .And [a] pos) t := pw_and1 ha
theorem q_or1 (ha : QT X a t) : QW X (.BoolOp .Or [a] pos) t := pw_or1 ha
theorem q_tand {rest : List Expr} (ha : QT X a t) (hb : QW X (.BoolOp .And (b :: rest) pos) u) : QW X (.BoolOp .And (a :: b :: rest) pos) (fAndT t u) :=
  PW.imp (pw_and ha hb) fun σ H Q ⟨W, env, Q', ok, er, h, k⟩ => ⟨W, env, _, ok, er, h, fun c H1 x1 q1 => by
    cases c with
    | true => exact ⟨W, env, Q', x1.ok, er.ext x1, q1, fun b H2 x2 q2 => k _ _ (x1.trans x2) q2⟩
    | false => exact k _ _ x1 q1⟩
theorem q_tor {rest : List Expr} (ha : QT X a t) (hb : QW X (.BoolOp .Or (b :: rest) pos) u) : QW X (.BoolOp .Or (a :: b :: rest) pos) (fOrT t u) :=
  PW.imp (pw_or ha hb) fun σ H Q ⟨W, env, Q', ok, er, h, k⟩ => ⟨W, env, _, ok, er, h, fun c H1 x1 q1 => by
    cases c with
    | false => exact ⟨W, env, Q', x1.ok, er.ext x1, q1, fun b H2 x2 q2 => k _ _ (x1.trans x2) q2⟩
    | true => exact k _ _ x1 q1⟩
theorem q_w (h : QW X e t) : QT X e t := PW.pt h
theorem q_tnot (ha : QT X a t) : QT X (.UnaryOp .Not a pos) (fNotT t) :=
  PT.imp (pt_not ha) fun σ H Q ⟨W, env, Q', ok, er, h, k⟩ => ⟨W, env, _, ok, er, h, fun c H1 x1 q1 => k _ _ x1 q1⟩
/-- as values: all but the last are bools -/
def fAnd (fa fb : FE) : FE := fun env Q => fa env fun x => asB x fun c => if c = true then fb env Q else Q (.bool false)
def fOr (fa fb : FE) : FE := fun env Q => fa env fun x => asB x fun c => if c = true then Q (.bool true) else fb env Q
def fNot (fa : FE) : FE := fun env Q => fa env fun x => asB x fun c => Q (.bool (!c))
theorem q_one {op} (h : QE X a fa) : QE X (.BoolOp op [a] pos) fa := pe_one h
theorem q_and {rest : List Expr} (ha : QE X a fa) (hb : QE X (.BoolOp .And (b :: rest) pos) fb) : QE X (.BoolOp .And (a :: b :: rest) pos) (fAnd fa fb) :=
  PE.imp (pe_and ha hb) fun σ H Q ⟨W, env, Q', ok, er, h, k⟩ => ⟨W, env, _, ok, er, h, fun v H1 d x1 r1 q1 => by
    obtain ⟨c, rfl, q⟩ := asB_of r1 q1
    refine ⟨c, rfl, ?_⟩
    cases c with
    | true => exact ⟨W, env, Q', x1.ok, er.ext x1, q, fun v H2 d x2 r2 q2 => k _ _ _ (x1.trans x2) r2 q2⟩
    | false => exact k _ _ _ x1 (.bl _) q⟩
theorem q_or {rest : List Expr} (ha : QE X a fa) (hb : QE X (.BoolOp .Or (b :: rest) pos) fb) : QE X (.BoolOp .Or (a :: b :: rest) pos) (fOr fa fb) :=
  PE.imp (pe_or ha hb) fun σ H Q ⟨W, env, Q', ok, er, h, k⟩ => ⟨W, env, _, ok, er, h, fun v H1 d x1 r1 q1 => by
    obtain ⟨c, rfl, q⟩ := asB_of r1 q1
    refine ⟨c, rfl, ?_⟩
    cases c with
    | false => exact ⟨W, env, Q', x1.ok, er.ext x1, q, fun v H2 d x2 r2 q2 => k _ _ _ (x1.trans x2) r2 q2⟩
    | true => exact k _ _ _ x1 (.bl _) q⟩
theorem q_not (ha : QE X a fa) : QE X (.UnaryOp .Not a pos) (fNot fa) :=
  PE.imp (pe_not ha) fun σ H Q ⟨W, env, Q', ok, er, h, k⟩ => ⟨W, env, _, ok, er, h, fun v H1 d x1 r1 q1 => by
    obtain ⟨c, rfl, q⟩ := asB_of r1 q1
    exact ⟨c, rfl, k _ _ _ x1 (.bl _) q⟩⟩
def fIf (t : FT) (fa fb : FE) : FE := fun env Q => t env fun c => if c = true then fa env Q else fb env Q
theorem q_if (hc : QT X c t) (ha : QE X a fa) (hb : QE X b fb) : QE X (.IfExp c a b pos) (fIf t fa fb) :=
  PE.imp (pe_ifExp hc ha hb) fun σ H Q ⟨W, env, Q', ok, er, h, k⟩ => ⟨W, env, _, ok, er, h, fun c H1 x1 q1 => by
    cases c with
    | true => exact ⟨W, env, Q', x1.ok, er.ext x1, q1, fun v H2 d x2 r2 q2 => k _ _ _ (x1.trans x2) r2 q2⟩
    | false => exact ⟨W, env, Q', x1.ok, er.ext x1, q1, fun v H2 d x2 r2 q2 => k _ _ _ (x1.trans x2) r2 q2⟩⟩
def fNeg (fa : FE) : FE := fun env Q => fa env fun x => match x with
  | .int i => Q (.int (-i))
  | _ => False
theorem q_neg (ha : QE X a fa) : QE X (.UnaryOp .USub a pos) (fNeg fa) :=
  PE.imp (pe_un un_neg ha) fun σ H Q ⟨W, env, Q', ok, er, h, k⟩ => ⟨W, env, _, ok, er, h, fun v H1 d x1 r1 q1 => by
    cases r1 with
    | int i => exact ⟨i, rfl, k _ _ _ x1 (.int _) q1⟩
    | _ => exact (show False from q1).elim⟩

/-! ### arguments, displays -/
def fNil : FA := fun _ Q => Q []
def fCons (fa : FE) (r : FA) : FA := fun env Q => fa env fun x => r env fun xs => Q (x :: xs)
theorem qa_nil : QA X [] fNil := PA.imp pa_nil fun σ H Q ⟨W, env, Q', ok, er, h, k⟩ => k _ _ _ (.refl ok) .nil h
theorem qa_cons {es : List Expr} {r : FA} (ha : QE X e fe) (hr : QA X es r) (hs : starEach (e :: es) X.env = (false, eval e X.env) :: starEach es X.env := by rfl) : QA X (e :: es) (fCons fe r) :=
  PA.imp (pa_cons ha hr hs) fun σ H Q ⟨W, env, Q', ok, er, h, k⟩ => ⟨W, env, _, ok, er, h, fun v H1 d x1 r1 q1 => ⟨W, env, _, x1.ok, er.ext x1, q1, fun vs H2 ds x2 r2 q2 => k _ _ _ (x1.trans x2) (.cons (r1.kp x2.kp) r2) q2⟩⟩
def fTup (r : FA) : FE := fun env Q => r env fun xs => xs.length ≤ 1000 ∧ Q (.tuple xs)
def fLst (r : FA) : FE := fun env Q => r env fun xs => xs.length ≤ 1000 ∧ Q (.list xs)
theorem lim1 {n : Nat} (h : n ≤ 1000) : n ≤ sizeLine := Nat.le_trans h (by decide)
theorem q_tup {es : List Expr} {r : FA} {x1} (h : QA X es r) : QE X (.Tuple es x1 pos) (fTup r) :=
  PE.imp (pe_tup h) fun σ H Q ⟨W, env, Q', ok, er, h, k⟩ => ⟨W, env, _, ok, er, h, fun vs H1 ds x1 r1 q1 => ⟨lim1 (by rw [← r1.len]; exact q1.1), fun p hp => k _ _ _ (x1.trans (.grow x1.ok (same_new hp))) (rep_new_tup hp r1 (lim1 q1.1)) q1.2⟩⟩
theorem q_lst {es : List Expr} {r : FA} (h : QA X es r) : QE X (.List es pos) (fLst r) :=
  PE.imp (pe_lst h) fun σ H Q ⟨W, env, Q', ok, er, h, k⟩ => ⟨W, env, _, ok, er, h, fun vs H1 ds x1 r1 q1 => ⟨lim1 (by rw [← r1.len]; exact q1.1), fun p hp => k _ _ _ (x1.trans (.grow x1.ok (same_new hp))) (rep_new_lst (x1.ok.fresh hp) hp r1 (lim1 q1.1)) q1.2⟩⟩

/-! ### subscripts, slices -/
def oIx : O2 := fun d e Q => match d, e with
  | .list xs, .int i => ∃ y, atI xs i = some y ∧ Q y
  | .tuple xs, .int i => ∃ y, atI xs i = some y ∧ Q y
  | .str x, .int i => ∃ y, atI x.cps.toList i = some y ∧ Q (sD [y])
  | _, _ => False
theorem atI_rep {S : Addr → Prop} {bx : Option Addr} {H : Hp} {ds : List D} {xs : List V} {i : Int} {y : D} (r : RepAll S bx H ds xs) (h : atI ds i = some y) : ∃ v, atI xs i = some v ∧ Rep S bx H y v := by
  unfold atI at h ⊢
  rw [r.len] at h
  cases q : ixN xs.length i with
  | none => rw [q] at h; cases h
  | some j =>
    rw [q] at h
    obtain ⟨v, e, rv⟩ := r.get (i := j) h
    exact ⟨v, e, rv⟩
theorem ix_oIx : IxR X (rO oIx) := by
  intro value slice pins s σ H x y v u Q I rx ry ⟨S, bx, d, e, Q', fr, rd, re, h, k⟩ hs
  unfold oIx at h
  split at h
  · obtain ⟨z, h1, h2⟩ := h
    cases rd with
    | lst g0 g1 g2 g3 =>
      cases re
      obtain ⟨w, e1, rw'⟩ := atI_rep g2 h1
      exact ix_list value slice pins s σ H _ _ v u Q I rx ry ⟨_, _, _, _, rfl, rfl, .of g1, e1, k _ _ _ (Same.refl _) rw' h2⟩ hs
  · obtain ⟨z, h1, h2⟩ := h
    cases rd with
    | tup g1 g2 g3 =>
      cases re
      obtain ⟨w, e1, rw'⟩ := atI_rep g2 h1
      exact ix_tup value slice pins s σ H _ _ v u Q I rx ry ⟨_, _, _, _, rfl, rfl, .of g1, e1, k _ _ _ (Same.refl _) rw' h2⟩ hs
  · obtain ⟨z, h1, h2⟩ := h
    cases rd with
    | str _ g =>
      cases re
      exact ix_str value slice pins s σ H _ _ v u Q I rx ry ⟨_, _, _, rfl, rfl, g, h1, k _ _ _ (Same.refl _) (.str _ (by show 1 ≤ sizeLine; decide)) h2⟩ hs
  · exact h.elim
/-- the items from lo up to hi -/
def cut {α : Type} (xs : List α) (lo hi : Option Int) : List α := (xs.drop (HT.sIx xs.length 0 lo)).take (HT.sIx xs.length xs.length hi - HT.sIx xs.length 0 lo)
theorem cut_len {α : Type} (xs : List α) (lo hi : Option Int) : (cut xs lo hi).length ≤ xs.length := by
  unfold cut
  rw [List.length_take, List.length_drop]
  omega
def oSl : D → Option Int → Option Int → (D → Prop) → Prop
  | .list xs, l, h, Q => Q (.list (cut xs l h))
  | .tuple xs, l, h, Q => Q (.tuple (cut xs l h))
  | .str x, l, h, Q => Q (sD (cut x.cps.toList l h))
  | _, _, _, _ => False
def rSl : V → Option Int → Option Int → Hp → VK → Prop := fun x l h H Q => ∃ (S : Addr → Prop) (bx : Option Addr) (d : D) (Q' : D → Prop), (∀ a, H a = none → S a) ∧ Rep S bx H d x ∧ oSl d l h Q' ∧ ∀ v H' z, Same H H' → Rep S bx H' z v → Q' z → Q v H'
theorem rep_cut {S : Addr → Prop} {bx : Option Addr} {H : Hp} {ds : List D} {xs : List V} (lo hi : Option Int) (r : RepAll S bx H ds xs) : RepAll S bx H (cut ds lo hi) (cutV xs lo hi) := by
  unfold cut cutV
  rw [r.len]
  exact (r.drop _).take _
theorem cutS_cut (x : Str) (lo hi : Option Int) : cutS x lo hi = ⟨(cut x.cps.toList lo hi).toArray⟩ := by
  unfold cutS cut
  rw [str_len]
theorem cut_whole {α : Type} {xs : List α} {lo hi : Option Int} (h : HT.sIx xs.length 0 lo = 0 ∧ HT.sIx xs.length xs.length hi = xs.length) : cut xs lo hi = xs := by
  unfold cut
  rw [h.1, h.2]
  simp
theorem sl_oSl : SlR X rSl := by
  intro pins s σ H x v vl vu lo hi sl Q I rx hs pl pu ⟨S, bx, d, Q', fr, rd, h, k⟩
  unfold oSl at h
  split at h
  · cases rd with
    | lst g0 g1 g2 g3 =>
      exact sl_list pins s σ H _ v vl vu lo hi sl Q I rx hs pl pu ⟨_, _, rfl, .of g1, fun p hp => k _ _ _ (same_new hp) (rep_new_lst (fr _ hp) hp (rep_cut lo hi g2) (Nat.le_trans (cut_len _ _ _) g3)) h⟩
  · cases rd with
    | tup g1 g2 g3 =>
      refine sl_tupA pins s σ H _ v vl vu lo hi sl Q I rx hs pl pu ⟨_, _, rfl, .of g1, fun z => ?_, fun _ p hp => k _ _ _ (same_new hp) (rep_new_tup hp (rep_cut lo hi g2) (Nat.le_trans (cut_len _ _ _) g3)) h⟩
      rw [← g2.len] at z
      rw [cut_whole z] at h
      exact k _ _ _ (Same.refl _) (.tup g1 g2 g3) h
  · cases rd with
    | str _ g =>
      refine sl_str pins s σ H _ v vl vu lo hi sl Q I rx hs pl pu ⟨_, rfl, g, k _ _ _ (Same.refl _) (.str _ ?_) (by rw [cutS_cut]; exact h)⟩
      rw [cutS_cut, str_len]
      rw [str_len] at g
      exact Nat.le_trans (by rw [List.toList_toArray]; exact cut_len _ _ _) g
  · exact h.elim
abbrev FO := EV → (Option Int → Prop) → Prop
def tO (f : FO) : TO := fun σ H Q => ∃ (W : Wd) (env : EV) (Q' : Option Int → Prop), W.ok H ∧ ERep W σ H env ∧ f env Q' ∧ ∀ o H', Ext W H H' → Q' o → Q o H'
abbrev QO (X : Cx) (e : Option Expr) (f : FO) : Prop := PO X e (tO f)
theorem PO.imp {X : Cx} {e : Option Expr} {t t' : TO} (h : PO X e t) (k : ∀ σ H Q, t' σ H Q → t σ H Q) : PO X e t' := ⟨fun pins s σ H Q I q => h.run pins s σ H Q I (k σ H Q q)⟩
def fNo : FO := fun _ Q => Q none
def fPart (fa : FE) : FO := fun env Q => fa env fun x => match x with
  | .int i => Q (some i)
  | _ => False
theorem qo_none : QO X none fNo := PO.imp po_none fun σ H Q ⟨W, env, Q', ok, er, h, k⟩ => k _ _ (.refl ok) h
theorem qo_some (ha : QE X a fa) : QO X (some a) (fPart fa) := PO.imp (po_some ha) fun σ H Q ⟨W, env, Q', ok, er, h, k⟩ => ⟨W, env, _, ok, er, h, fun v H1 d x1 r1 q1 => by
  cases r1 with
  | int i => exact ⟨i, rfl, k _ _ x1 q1⟩
  | _ => exact (show False from q1).elim⟩
def fSl (fa : FE) (l h : FO) : FE := fun env Q => fa env fun x => l env fun lo => h env fun hi => oSl x lo hi Q
theorem q_sl {lo hi : Option Expr} {l h : FO} {p2 : Pos} (ha : QE X a fa) (hl : QO X lo l) (hh : QO X hi h) : QE X (.Subscript a (.Slice lo hi none p2) pos) (fSl fa l h) :=
  PE.imp (pe_slice sl_oSl ha hl hh) fun σ H Q ⟨W, env, Q', ok, er, h, k⟩ => ⟨W, env, _, ok, er, h, fun v H1 d x1 r1 q1 => ⟨W, env, _, x1.ok, er.ext x1, q1, fun lo H2 x2 q2 => ⟨W, env, _, x2.ok, (er.ext x1).ext x2, q2, fun hi H3 x3 q3 =>
    ⟨W.S, W.bx, d, _, fun a n => x3.ok.fresh n, (r1.kp x2.kp).kp x3.kp, q3, fun z H4 zd g r4 q4 => k _ _ _ (((x1.trans x2).trans x3).trans (.grow x3.ok g)) r4 q4⟩⟩⟩⟩
end
end T2
set_option Elab.async false
set_option linter.all false
set_option maxRecDepth 100000
set_option autoImplicit false
namespace T2
open PySem L2 PySem.Spec PyProof.Rows

section
variable {X : Cx} {a b c e : Expr} {fa fb fc fe : FE} {t u : FT} {pos p : Pos} {es : List Expr} {r : FA}

/-! ### calls of built-ins -/
abbrev OC := List D → (D → Prop) → Prop
def rC (g : OC) : List V → Hp → VK → Prop := fun vs H Q => ∃ (S : Addr → Prop) (bx : Option Addr) (ds : List D) (Q' : D → Prop), (∀ a, H a = none → S a) ∧ RepAll S bx H ds vs ∧ g ds Q' ∧ ∀ v H' z, Same H H' → Rep S bx H' z v → Q' z → Q v H'
def fCall (g : OC) (r : FA) : FE := fun env Q => r env fun ds => g ds Q
theorem call_imp {g : OC} : ∀ σ H Q, tE (fCall g r) σ H Q → tCB (rC g) (tA r) σ H Q := fun σ H Q ⟨W, env, Q', ok, er, h, k⟩ =>
  ⟨W, env, _, ok, er, h, fun vs H1 ds x1 r1 q1 => ⟨W.S, W.bx, ds, _, fun a n => x1.ok.fresh n, r1, q1, fun v H2 z g rz qz => k _ _ _ (x1.trans (.grow x1.ok g)) rz qz⟩⟩
theorem q_callB {x : Str} {id : String} {g : OC} (hc : CallR X (.builtin id) (rC g)) (hv : bootBuiltins x = some (.builtin id)) (hm : X.mg x = none) (ha : QA X (e :: es) r) (hg : Gl X x := by rfl) (hn : x ≠ "__name__" := by decide) (hdb : (x == ("__debug__" : Str)) = false := by decide)
    (he : starEach (e :: es) X.env = (false, eval e X.env) :: starEach es X.env := by rfl) (hpl : (backTo pos (starEach es X.env)).any (·.1) = false := by rfl) : QE X (.Call (.Name x p) (e :: es) [] pos) (fCall g r) :=
  PE.imp (pe_callB hc hg hm hv ha hn hdb he hpl) call_imp
theorem q_callT {x : Str} {T : String} {g : OC} (hc : CallR X (.type T) (rC g)) (hv : bootBuiltins x = some (.type T)) (hm : X.mg x = none) (ha : QA X (e :: es) r) (hg : Gl X x := by rfl) (hn : x ≠ "__name__" := by decide) (hdb : (x == ("__debug__" : Str)) = false := by decide)
    (he : starEach (e :: es) X.env = (false, eval e X.env) :: starEach es X.env := by rfl) (hpl : (backTo pos (starEach es X.env)).any (·.1) = false := by rfl) : QE X (.Call (.Name x p) (e :: es) [] pos) (fCall g r) :=
  PE.imp (pe_callTy hc hg hm hv ha hn hdb he hpl) call_imp

theorem rep1 {S : Addr → Prop} {bx : Option Addr} {H : Hp} {d : D} {vs : List V} (r : RepAll S bx H [d] vs) : ∃ v, vs = [v] ∧ Rep S bx H d v := by
  cases r with
  | cons a b => cases b; exact ⟨_, rfl, a⟩
theorem rep2 {S : Addr → Prop} {bx : Option Addr} {H : Hp} {d e : D} {vs : List V} (r : RepAll S bx H [d, e] vs) : ∃ v w, vs = [v, w] ∧ Rep S bx H d v ∧ Rep S bx H e w := by
  cases r with
  | cons a b =>
    obtain ⟨w, rfl, r2⟩ := rep1 b
    exact ⟨_, _, rfl, a, r2⟩

def oLen : OC := fun ds Q => match ds with
  | [.str x] => Q (.int x.cps.toList.length)
  | [.list xs] => Q (.int xs.length)
  | [.tuple xs] => Q (.int xs.length)
  | _ => False
theorem c_oLen : CallR X (.builtin "len") (rC oLen) := by
  intro pins s σ H vs us Q I rv ⟨S, bx, ds, Q', fr, rd, h, k⟩
  unfold oLen at h
  split at h
  · obtain ⟨v, rfl, r⟩ := rep1 rd
    cases r with
    | str _ g => exact call_len pins s σ H _ us Q I rv ⟨_, _, rfl, ⟨g, rfl⟩, k _ _ _ (Same.refl _) (by rw [str_len]; exact .int _) h⟩
  · obtain ⟨v, rfl, r⟩ := rep1 rd
    cases r with
    | lst g0 g1 g2 g3 => exact call_len pins s σ H _ us Q I rv ⟨_, _, rfl, .inl ⟨_, .of g1, rfl⟩, k _ _ _ (Same.refl _) (by rw [← g2.len]; exact .int _) h⟩
  · obtain ⟨v, rfl, r⟩ := rep1 rd
    cases r with
    | tup g1 g2 g3 => exact call_len pins s σ H _ us Q I rv ⟨_, _, rfl, .inr ⟨_, .of g1, rfl⟩, k _ _ _ (Same.refl _) (by rw [← g2.len]; exact .int _) h⟩
  · exact h.elim
theorem q_len (hm : X.mg "len" = none) (ha : QA X (e :: es) r) (hg : Gl X "len" := by rfl) (he : starEach (e :: es) X.env = (false, eval e X.env) :: starEach es X.env := by rfl) (hpl : (backTo pos (starEach es X.env)).any (·.1) = false := by rfl) : QE X (.Call (.Name "len" p) (e :: es) [] pos) (fCall oLen r) :=
  q_callB c_oLen boot_len hm ha hg (by decide) (by decide) he hpl

def oTuple : OC := fun ds Q => match ds with
  | [.list xs] => Q (.tuple xs)
  | [.tuple xs] => Q (.tuple xs)
  | _ => False
theorem c_oTuple : CallR X (.type "tuple") (rC oTuple) := by
  intro pins s σ H vs us Q I rv ⟨S, bx, ds, Q', fr, rd, h, k⟩
  unfold oTuple at h
  split at h
  · obtain ⟨v, rfl, r⟩ := rep1 rd
    cases r with
    | lst g0 g1 g2 g3 => exact call_tuple_of pins s σ H _ us Q I rv ⟨_, _, rfl, .inl ⟨.of g1, fun p hp => k _ _ _ (same_new hp) (rep_new_tup hp g2 g3) h⟩⟩
  · obtain ⟨v, rfl, r⟩ := rep1 rd
    cases r with
    | tup g1 g2 g3 => exact call_tuple_of pins s σ H _ us Q I rv ⟨_, _, rfl, .inr ⟨.of g1, k _ _ _ (Same.refl _) (.tup g1 g2 g3) h⟩⟩
  · exact h.elim
theorem q_tuple (hm : X.mg "tuple" = none) (ha : QA X (e :: es) r) (hg : Gl X "tuple" := by rfl) (he : starEach (e :: es) X.env = (false, eval e X.env) :: starEach es X.env := by rfl) (hpl : (backTo pos (starEach es X.env)).any (·.1) = false := by rfl) : QE X (.Call (.Name "tuple" p) (e :: es) [] pos) (fCall oTuple r) :=
  q_callT c_oTuple PyProof.Rows.boot_tuple hm ha hg (by decide) (by decide) he hpl

/-- the bools of a list of data -/
theorem rep_bools {S : Addr → Prop} {bx : Option Addr} {H : Hp} : ∀ {bs : List Bool} {vs : List V}, RepAll S bx H (bs.map .bool) vs → vs = bs.map V.bl
  | [], _, h => by cases h; rfl
  | b :: bs, _, h => by
    cases h with
    | cons a r => cases a; rw [rep_bools r]; rfl
theorem rep_ints {S : Addr → Prop} {bx : Option Addr} {H : Hp} : ∀ {bs : List Int} {vs : List V}, RepAll S bx H (bs.map .int) vs → vs = bs.map V.int
  | [], _, h => by cases h; rfl
  | b :: bs, _, h => by
    cases h with
    | cons a r => cases a; rw [rep_ints r]; rfl
theorem rep_strs {S : Addr → Prop} {bx : Option Addr} {H : Hp} : ∀ {bs : List (List Nat)} {vs : List V}, RepAll S bx H (bs.map sD) vs → vs = (bs.map fun w => (⟨w.toArray⟩ : Str)).map V.str
  | [], _, h => by cases h; rfl
  | b :: bs, _, h => by
    cases h with
    | cons a r => cases a; rw [rep_strs r]; rfl
def oAll : OC := fun ds Q => match ds with
  | [.list xs] => ∃ bs : List Bool, xs = bs.map .bool ∧ Q (.bool (bs.all id))
  | _ => False
def oAny : OC := fun ds Q => match ds with
  | [.list xs] => ∃ bs : List Bool, xs = bs.map .bool ∧ Q (.bool (bs.any id))
  | _ => False
theorem c_oAll (hc : X.calm = true) : CallR X (.builtin "all") (rC oAll) := by
  intro pins s σ H vs us Q I rv ⟨S, bx, ds, Q', fr, rd, h, k⟩
  unfold oAll at h
  split at h
  · obtain ⟨v, rfl, r⟩ := rep1 rd
    obtain ⟨bs, rfl, h⟩ := h
    cases r with
    | lst g0 g1 g2 g3 => exact cr_all hc pins s σ H _ us Q I rv ⟨_, bs, rfl, .of (by rw [g1, rep_bools g2]), k _ _ _ (Same.refl _) (.bl _) h⟩
  · exact h.elim
theorem c_oAny (hc : X.calm = true) : CallR X (.builtin "any") (rC oAny) := by
  intro pins s σ H vs us Q I rv ⟨S, bx, ds, Q', fr, rd, h, k⟩
  unfold oAny at h
  split at h
  · obtain ⟨v, rfl, r⟩ := rep1 rd
    obtain ⟨bs, rfl, h⟩ := h
    cases r with
    | lst g0 g1 g2 g3 => exact cr_any hc pins s σ H _ us Q I rv ⟨_, bs, rfl, .of (by rw [g1, rep_bools g2]), k _ _ _ (Same.refl _) (.bl _) h⟩
  · exact h.elim
theorem q_all (hm : X.mg "all" = none) (ha : QA X (e :: es) r) (hc : X.calm = true := by rfl) (hg : Gl X "all" := by rfl) (he : starEach (e :: es) X.env = (false, eval e X.env) :: starEach es X.env := by rfl) (hpl : (backTo pos (starEach es X.env)).any (·.1) = false := by rfl) : QE X (.Call (.Name "all" p) (e :: es) [] pos) (fCall oAll r) :=
  q_callB (c_oAll hc) boot_all hm ha hg (by decide) (by decide) he hpl
theorem q_any (hm : X.mg "any" = none) (ha : QA X (e :: es) r) (hc : X.calm = true := by rfl) (hg : Gl X "any" := by rfl) (he : starEach (e :: es) X.env = (false, eval e X.env) :: starEach es X.env := by rfl) (hpl : (backTo pos (starEach es X.env)).any (·.1) = false := by rfl) : QE X (.Call (.Name "any" p) (e :: es) [] pos) (fCall oAny r) :=
  q_callB (c_oAny hc) boot_any hm ha hg (by decide) (by decide) he hpl

/-! ### isinstance -/
inductive Ty | tuple | list | str | int | bool
def Ty.name : Ty → String
  | .tuple => "tuple"
  | .list => "list"
  | .str => "str"
  | .int => "int"
  | .bool => "bool"
def isT : Ty → D → Bool
  | .tuple, .tuple _ => true
  | .list, .list _ => true
  | .str, .str _ => true
  | .int, .int _ => true
  | .int, .bool _ => true
  | .bool, .bool _ => true
  | _, _ => false
def tyName : D → String
  | .none => "NoneType"
  | .bool _ => "bool"
  | .int _ => "int"
  | .str _ => "str"
  | .list _ => "list"
  | .tuple _ => "tuple"
  | .dict _ => "dict"
theorem kit_tab (T : Ty) (d : D) (h : isDict d = false) : kitB (tyName d) T.name = some (isT T d) := by
  cases d <;> first
    | (cases h; done)
    | (cases T <;> (dsimp only [tyName, isT, Ty.name]; decide +kernel))
theorem boot_ty (T : Ty) : bootBuiltins (Str.ofString T.name) = some (.type T.name) := by cases T <;> decide +kernel
theorem tyx_of {K : PySem.W.Frag} {S : Addr → Prop} {bx : Option Addr} {H : Hp} {d : D} {v : V} (r : Rep S bx H d v) (h : isDict d = false) : TyX K H v (.type (tyName d)) := by
  cases r with
  | non => exact .base .non
  | bl b => exact .base (.bl b)
  | int i => exact .base (.int i)
  | str x _ => exact .base (.str x)
  | tup h1 _ _ => exact .base (.tup h1)
  | lst _ h1 _ _ => exact .base (.lst h1)
  | _ => cases h
def fIsi (T : Ty) (fa : FE) : FE := fun env Q => fa env fun d => isDict d = false ∧ Q (.bool (isT T d))
theorem q_isi (Ts : Ty) {T : Str} {px : Pos} (hm : X.mg "isinstance" = none) (hT : X.mg T = none) (ha : QE X a fa) (hb : T = Str.ofString Ts.name := by rfl) (hg : Gl X "isinstance" := by rfl) (hgT : Gl X T := by rfl) (hnT : T ≠ "__name__" := by decide) (hdT : (T == ("__debug__" : Str)) = false := by decide)
    (he : starEach [a, .Name T px] X.env = (false, eval a X.env) :: starEach [.Name T px] X.env := by rfl) (he2 : starEach [.Name T px] X.env = (false, eval (.Name T px) X.env) :: starEach [] X.env := by rfl) (hpl : (backTo pos (starEach [.Name T px] X.env)).any (·.1) = false := by rfl) :
    QE X (.Call (.Name "isinstance" p) [a, .Name T px] [] pos) (fIsi Ts fa) := by
  have hT' : PE X (.Name T px) (tC (.ty Ts.name)) := pe_bltn hgT hT (by rw [hb]; exact boot_ty Ts) rfl hnT hdT
  refine PE.imp (pe_callB call_isi hg hm boot_isinstance (pa_cons ha (pa_cons hT' pa_nil he2) he) (by decide) (by decide) he hpl) fun σ H Q ⟨W, env, Q', ok, er, h, k⟩ => ?_
  exact ⟨W, env, _, ok, er, h, fun v H1 d x1 r1 q1 => ⟨v, .ty Ts.name, _, _, _, rfl, .ty Ts.name, tyx_of r1 q1.1, kit_ty (kit_tab Ts d q1.1), k _ _ _ x1 (.bl _) q1.2⟩⟩

/-! ### sorted -/
def allOk (ds : List D) : Prop := (∀ d ∈ ds, d.plain = true ∧ d.depth ≤ 60) ∧ PySem.W.AllAlike ds ∧ PySem.W.Sortable ds
noncomputable def sortD (ds : List D) : List D := ds.mergeSort (PySem.W.dataLe false id)
def oSorted : OC := fun ds Q => match ds with
  | [.list xs] => allOk xs ∧ Q (.list (sortD xs))
  | _ => False
theorem each_of {pins : List (Addr × Obj)} {σ : L2.St} {H : Hp} {s : Shared} {S : Addr → Prop} {bx : Option Addr} (I : Inv X pins σ H s) : ∀ {ds : List D} {xs : List V} {its : List Value}, RepAll S bx H ds xs → Vals xs its → (∀ d ∈ ds, d.plain = true) →
    PySem.W.EachIs (fun v d => ∃ x, RelV x v ∧ Rep S bx H d x) its ds ∧ PySem.W.EachIs (fun v d => ∃ as, Reads s.heap v (id d) as) its ds
  | _, _, _, .nil, h, _ => by cases h; exact ⟨.nil, .nil⟩
  | _, _, _, .cons a b, h, p => by
    cases h with
    | cons r1 r2 =>
      obtain ⟨e1, e2⟩ := each_of I b r2 fun d hd => p d (List.mem_cons_of_mem _ hd)
      exact ⟨.cons ⟨_, r1, a⟩ e1, .cons (a.reads I r1 (p _ List.mem_cons_self)) e2⟩
theorem each_back {H : Hp} {S : Addr → Prop} {bx : Option Addr} : ∀ {its : List Value} {ds : List D}, PySem.W.EachIs (fun v d => ∃ x, RelV x v ∧ Rep S bx H d x) its ds → ∃ xs, Vals xs its ∧ RepAll S bx H ds xs
  | _, _, .nil => ⟨[], .nil, .nil⟩
  | _, _, .cons ⟨x, r, a⟩ e => by
    obtain ⟨xs, h1, h2⟩ := each_back e
    exact ⟨x :: xs, .cons r h1, .cons a h2⟩
theorem c_oSorted (hu : X.A.units + 64 < cLine) : CallR X (.builtin "sorted") (rC oSorted) := by
  intro pins s σ H vs us Q I rv ⟨S, bx, ds, Q', fr, rd, h, k⟩
  unfold oSorted at h
  split at h
  · rename_i xs
    obtain ⟨v, rfl, r⟩ := rep1 rd
    obtain ⟨⟨h1, h2, h3⟩, h⟩ := h
    cases r with
    | @lst a ws _ g0 g1 g2 g3 =>
      obtain ⟨u, rfl, ru⟩ := vals1 rv
      cases ru
      obtain ⟨its, rw', hl, hz⟩ := I.list (.of g1)
      obtain ⟨e1, e2⟩ := each_of I g2 rw' fun d hd => (h1 d hd).1
      refine PySem.W.sorted_data (enc := id) hl.isList e1 e2 (by simpa using h2) (by simpa using h3) g3 (fun d hd => by have := (h1 d hd).2; show X.A.units + 2 + d.depth < cLine; omega) fun out ol eo => ?_
      obtain ⟨ys, v1, v2⟩ := each_back eo
      obtain ⟨ep, he'⟩ := PyProof.Rows.sortedAll_at s.heap its out.toArray
      have hl2 : ys.length ≤ sizeLine := by rw [v1.length, ol]; exact g3
      have hp : H (s.heap.objs.size + 1) = none := I.hok.fresh (Nat.le_succ _)
      refine ⟨.ref _, upd H (s.heap.objs.size + 1) (.lst ys), I.laid (t' := s.toks) (fun _ _ => PyProof.Rows.sortedAll_old) (Nat.le_succ _) ⟨hl2, out, ep, v1, he'⟩, rfl, ?_⟩
      exact k _ _ _ (same_new hp) (rep_new_lst (fr _ hp) hp v2 (by rw [v2.len]; exact hl2)) h
  · exact h.elim
theorem q_sorted (hu : X.A.units + 64 < cLine) (hm : X.mg "sorted" = none) (ha : QA X (e :: es) r) (hg : Gl X "sorted" := by rfl) (he : starEach (e :: es) X.env = (false, eval e X.env) :: starEach es X.env := by rfl) (hpl : (backTo pos (starEach es X.env)).any (·.1) = false := by rfl) : QE X (.Call (.Name "sorted" p) (e :: es) [] pos) (fCall oSorted r) :=
  q_callB (c_oSorted hu) boot_sorted hm ha hg (by decide) (by decide) he hpl
end
end T2
set_option Elab.async false
set_option linter.all false
set_option maxRecDepth 100000
set_option autoImplicit false
namespace T2
open PySem L2 PySem.Spec PyProof.Rows

/-! ### what is walked -/
mutual
theorem Rep.re {S S' : Addr → Prop} {bx : Option Addr} {H : Hp} (hO : ∀ a o, S a → H a = some o → S' a) : ∀ {d : D} {v : V}, Rep S bx H d v → Rep S' bx H d v
  | _, _, .non => .non
  | _, _, .bl b => .bl b
  | _, _, .int i => .int i
  | _, _, .str x h => .str x h
  | _, _, .tup h1 h2 h3 => .tup h1 (RepAll.re hO h2) h3
  | _, _, .lst h0 h1 h2 h3 => .lst (hO _ _ h0 h1) h1 (RepAll.re hO h2) h3
  | _, _, .dK h0 h1 h2 => .dK (hO _ _ h0 h1) h1 (RepK.re hO h2)
  | _, _, .dT h0 h1 h2 => .dT (hO _ _ h0 h1) h1 (RepT.re hO h2)
  | _, _, .box h => .box h
theorem RepAll.re {S S' : Addr → Prop} {bx : Option Addr} {H : Hp} (hO : ∀ a o, S a → H a = some o → S' a) : ∀ {d : List D} {v : List V}, RepAll S bx H d v → RepAll S' bx H d v
  | _, _, .nil => .nil
  | _, _, .cons h1 h2 => .cons (Rep.re hO h1) (RepAll.re hO h2)
theorem RepK.re {S S' : Addr → Prop} {bx : Option Addr} {H : Hp} (hO : ∀ a o, S a → H a = some o → S' a) : ∀ {d : List (D × D)} {v : List (Key × V)}, RepK S bx H d v → RepK S' bx H d v
  | _, _, .nil => .nil
  | _, _, .cons h1 h2 => .cons (Rep.re hO h1) (RepK.re hO h2)
theorem RepT.re {S S' : Addr → Prop} {bx : Option Addr} {H : Hp} (hO : ∀ a o, S a → H a = some o → S' a) : ∀ {d : List (D × D)} {v : List (List Key × V)}, RepT S bx H d v → RepT S' bx H d v
  | _, _, .nil => .nil
  | _, _, .cons h1 h2 => .cons (Rep.re hO h1) (RepT.re hO h2)
end
/-- J yields what ds tells, as long as what stands in S' stands on -/
def Walks (S : Addr → Prop) (bx : Option Addr) (J : It) (H1 : Hp) (ds : List D) : Prop :=
  ∀ (S' : Addr → Prop) (H : Hp), (∀ a o, S a → H1 a = some o → S' a) → Kp S' H1 H → (∀ (i : Nat) (d : D), ds[i]? = some d → J.go i H ∧ ∀ x H', J.yld i H x H' → Same H H' ∧ Rep S' bx H' d x) ∧ J.stop ds.length H
abbrev FI := EV → (List D → Prop) → Prop
def tI (f : FI) : TI := fun σ H R => ∃ (W : Wd) (env : EV) (Q' : List D → Prop), W.ok H ∧ ERep W σ H env ∧ f env Q' ∧ ∀ J H' ds, Ext W H H' → Walks W.S W.bx J H' ds → ds.length ≤ sizeLine → Q' ds → R J H'
abbrev QI (X : Cx) (tg iter : Expr) (f : FI) : Prop := PI X tg iter (tI f)
theorem PI.imp {X : Cx} {tg e : Expr} {t t' : TI} (h : PI X tg e t) (k : ∀ σ H Q, t' σ H Q → t σ H Q) : PI X tg e t' := ⟨fun pins s σ H Q I q => h.run pins s σ H Q I (k σ H Q q)⟩
section
variable {X : Cx} {tg a b e : Expr} {fa fb fe : FE} {r : FA} {pos p : Pos}
def natsD (lo : Int) (n : Nat) : List D := (List.range n).map fun k : Nat => PyData.int (lo + (k : Int))
theorem walks_range {S : Addr → Prop} {bx : Option Addr} {H : Hp} (lo : Int) (n : Nat) : Walks S bx (Itr lo n) H (natsD lo n) := fun S' H1 _ _ => by
  refine ⟨fun i d e => ?_, by show n ≤ _; simp [natsD]⟩
  have hi : i < n := by
    have := (List.getElem?_eq_some_iff.mp e).1
    simpa [natsD] using this
  refine ⟨hi, fun x H' y => ?_⟩
  obtain ⟨rfl, rfl⟩ := y
  have e' : d = .int (lo + (i : Int)) := by
    unfold natsD at e
    rw [List.getElem?_map, List.getElem?_range hi] at e
    exact (Option.some.inj e).symm
  subst e'
  exact ⟨Same.refl _, .int _⟩
theorem natsD_len (lo : Int) (n : Nat) : (natsD lo n).length = n := by simp [natsD]
def asI : D → (Int → Prop) → Prop
  | .int i, Q => Q i
  | _, _ => False
theorem asI_of {S : Addr → Prop} {bx : Option Addr} {H : Hp} {d : D} {v : V} {Q : Int → Prop} (r : Rep S bx H d v) (h : asI d Q) : ∃ c, v = .int c ∧ Q c := by
  cases r with
  | int b => exact ⟨b, rfl, h⟩
  | _ => exact (show False from h).elim
def fRng1 (fa : FE) : FI := fun env Q => fa env fun x => asI x fun j => (-4000000000000000000 ≤ j ∧ j ≤ 16000000) ∧ Q (natsD 0 j.toNat)
def fRng2 (fa fb : FE) : FI := fun env Q => fa env fun x => fb env fun y => asI x fun i => asI y fun j => (j - i ≤ 16000000 ∧ -4000000000000000000 ≤ i ∧ i ≤ 4000000000000000000 ∧ -4000000000000000000 ≤ j ∧ j ≤ 4000000000000000000) ∧ Q (natsD i (j - i).toNat)
def one (P : D → Prop) : List D → Prop
  | [x] => P x
  | _ => False
def two (P : D → D → Prop) : List D → Prop
  | [x, y] => P x y
  | _ => False
theorem one_of {S : Addr → Prop} {bx : Option Addr} {H : Hp} {P : D → Prop} {ds : List D} {vs : List V} (r : RepAll S bx H ds vs) (h : one P ds) : ∃ d v, vs = [v] ∧ Rep S bx H d v ∧ P d := by
  cases r with
  | nil => exact h.elim
  | cons a b =>
    cases b with
    | nil => exact ⟨_, _, rfl, a, h⟩
    | cons _ _ => exact h.elim
theorem two_of {S : Addr → Prop} {bx : Option Addr} {H : Hp} {P : D → D → Prop} {ds : List D} {vs : List V} (r : RepAll S bx H ds vs) (h : two P ds) : ∃ d e v w, vs = [v, w] ∧ Rep S bx H d v ∧ Rep S bx H e w ∧ P d e := by
  cases r with
  | nil => exact h.elim
  | cons a b =>
    cases b with
    | nil => exact h.elim
    | cons a2 b =>
      cases b with
      | nil => exact ⟨_, _, _, _, rfl, a, a2, h⟩
      | cons _ _ => exact h.elim
theorem qi_range1 (hm : X.mg "range" = none) (ha : QE X a fa) (hg : Gl X "range" := by rfl) (hs : starEach [a] X.env = [(false, eval a X.env)] := by rfl) : QI X tg (.Call (.Name "range" p) [a] [] pos) (fRng1 fa) :=
  PI.imp (pi_range1 hg hm (qa_cons ha qa_nil hs) hs) fun σ H R ⟨W, env, Q', ok, er, h, k⟩ => ⟨W, env, one fun x => asI x fun j => (-4000000000000000000 ≤ j ∧ j ≤ 16000000) ∧ Q' (natsD 0 j.toNat), ok, er, h, fun vs H1 ds x1 r1 q1 => by
    obtain ⟨x, v, rfl, rv, q⟩ := one_of r1 q1
    obtain ⟨j, rfl, hj, q⟩ := asI_of rv q
    exact ⟨j, rfl, by omega, by omega, k _ _ _ x1 (walks_range 0 _) (by rw [natsD_len]; exact lim (by omega)) q⟩⟩
theorem qi_range2 (hm : X.mg "range" = none) (ha : QE X a fa) (hb : QE X b fb) (hg : Gl X "range" := by rfl) (hs : starEach [a, b] X.env = [(false, eval a X.env), (false, eval b X.env)] := by rfl) (hs2 : starEach [b] X.env = [(false, eval b X.env)] := by rfl) : QI X tg (.Call (.Name "range" p) [a, b] [] pos) (fRng2 fa fb) :=
  PI.imp (pi_range2 hg hm (qa_cons ha (qa_cons hb qa_nil hs2) (by rw [hs, hs2])) hs hs2) fun σ H R ⟨W, env, Q', ok, er, h, k⟩ =>
   ⟨W, env, two fun x y => asI x fun i => asI y fun j => (j - i ≤ 16000000 ∧ -4000000000000000000 ≤ i ∧ i ≤ 4000000000000000000 ∧ -4000000000000000000 ≤ j ∧ j ≤ 4000000000000000000) ∧ Q' (natsD i (j - i).toNat), ok, er, h, fun vs H1 ds x1 r1 q1 => by
    obtain ⟨x, y, v, w, rfl, rv, rw', q⟩ := two_of r1 q1
    obtain ⟨i, rfl, q⟩ := asI_of rv q
    obtain ⟨j, rfl, hj, q⟩ := asI_of rw' q
    exact ⟨i, j, rfl, ⟨by omega, by omega, by omega, by omega⟩, k _ _ _ x1 (walks_range _ _) (by rw [natsD_len]; exact lim (by omega)) q⟩⟩

/-! a list, a tuple, a text -/
theorem walks_list {K : PySem.W.Frag} {S : Addr → Prop} {bx : Option Addr} {H : Hp} {a : Addr} {xs : List V} {ds : List D} (hS : S a) (h : H a = some (.lst xs)) (r : RepAll S bx H ds xs) : Walks S bx (Itl K a) H ds := fun S' H1 hs kp => by
  have h1 := kp.keep _ _ (hs _ _ hS h) h
  have r := r.re hs
  refine ⟨fun i d e => ?_, ⟨xs, .of h1, by rw [r.len]; exact Nat.le_refl _⟩⟩
  obtain ⟨v, e1, r1⟩ := r.get e
  refine ⟨⟨xs, v, .of h1, e1⟩, fun x H' y => ?_⟩
  obtain ⟨rfl, y⟩ := y
  have := y xs (.of h1)
  rw [e1] at this
  cases this
  exact ⟨Same.refl _, r1.kp kp⟩
theorem walks_tup {K : PySem.W.Frag} {S : Addr → Prop} {bx : Option Addr} {H : Hp} {a : Addr} {xs : List V} {ds : List D} (h : H a = some (.tup xs)) (r : RepAll S bx H ds xs) : Walks S bx (Itt K a) H ds := fun S' H1 hs kp => by
  have h1 := kp.tup _ _ h
  have r := r.re hs
  refine ⟨fun i d e => ?_, ⟨xs, .of h1, by rw [r.len]; exact Nat.le_refl _⟩⟩
  obtain ⟨v, e1, r1⟩ := r.get e
  refine ⟨⟨xs, v, .of h1, e1⟩, fun x H' y => ?_⟩
  obtain ⟨rfl, y⟩ := y
  have := y xs (.of h1)
  rw [e1] at this
  cases this
  exact ⟨Same.refl _, r1.kp kp⟩
def signsD (w : List Nat) : List D := w.map fun c => sD [c]
theorem walks_str {S : Addr → Prop} {bx : Option Addr} {H : Hp} (z : Str) : Walks S bx (Its z) H (signsD z.cps.toList) := fun S' H1 _ kp => by
  refine ⟨fun i d e => ?_, by show z.cps.size ≤ _; simp [signsD]⟩
  unfold signsD at e
  rw [List.getElem?_map] at e
  cases q : z.cps.toList[i]? with
  | none => rw [q] at e; cases e
  | some c =>
    rw [q] at e
    cases e
    have q' : z.cps[i]? = some c := by rw [← Array.getElem?_toList]; exact q
    refine ⟨(Array.getElem?_eq_some_iff.mp q').1, fun x H' y => ?_⟩
    obtain ⟨rfl, c', e2, rfl⟩ := y
    rw [q'] at e2
    cases e2
    exact ⟨Same.refl _, .str _ (by show 1 ≤ sizeLine; decide)⟩
def iSeq (K : PySem.W.Frag) (te : TE) : TI := fun σ H R => te σ H fun x H1 =>
  (∃ a, x = .ref a ∧ (∃ xs, SqL K H1 a xs) ∧ R (Itl K a) H1) ∨ (∃ a, x = .ref a ∧ (∃ xs, SqT K H1 a xs) ∧ R (Itt K a) H1) ∨ (∃ z, x = .str z ∧ R (Its z) H1)
theorem pi_seq {l : Expr} {tl : TE} (hl : PE X l tl) : PI X tg l (iSeq X.K tl) := by
  refine ⟨fun pins s σ H R I h => ?_⟩
  refine thn (hl.run pins s σ H _ I h) fun v s1 ⟨x, H1, I1, r1, q1⟩ => ?_
  rcases q1 with ⟨a, e, ⟨xs, hq⟩, q⟩ | ⟨a, e, ⟨xs, hq⟩, q⟩ | ⟨z, e, q⟩
  · subst e
    cases r1
    obtain ⟨its, rv, p, hz⟩ := I1.list hq
    refine wpAny_pyIter_list p.isList ?_
    refine ⟨s1.heap.objs.size, [s1.heap.objs.size], _, _, H1, rfl, I1.kept (t' := s1.toks) fun b o e => Heap.get?_push_of_some _ e, turn_list a _, ⟨_, Heap.get?_push_size _ rfl, rfl, rfl⟩, fun b hb => ?_, q⟩
    have e : b = s1.heap.objs.size := by simpa using hb
    subst e
    exact I1.fpOk (Nat.le_refl _) (I1.hok.fresh (Nat.le_refl _))
  · subst e
    cases r1
    obtain ⟨its, rv, p, hz⟩ := I1.tuple hq
    refine wpAny_pyIter_tuple (show s1.heap.IsTuple a its.toArray from p) ?_
    refine ⟨s1.heap.objs.size, [s1.heap.objs.size], _, _, H1, rfl, I1.kept (t' := s1.toks) fun b o e => Heap.get?_push_of_some _ e, turn_tuple a _, ⟨_, Heap.get?_push_size _ rfl, rfl, rfl⟩, fun b hb => ?_, q⟩
    have e : b = s1.heap.objs.size := by simpa using hb
    subst e
    exact I1.fpOk (Nat.le_refl _) (I1.hok.fresh (Nat.le_refl _))
  · subst e
    obtain ⟨t, rfl⟩ := r1
    cases ha : z.cps.all (· < 128)
    · exact wpAny_pyIter_wide ha (pi_one (tk := s1.toks) I1 _ (turn_str _ z t "str_iterator" (.inr rfl)) ⟨_, Heap.get?_push_size _ rfl, rfl, rfl⟩ q)
    · exact wpAny_pyIter_ascii ha (pi_one (tk := s1.toks) I1 _ (turn_str _ z t "str_ascii_iterator" (.inl rfl)) ⟨_, Heap.get?_push_size _ rfl, rfl, rfl⟩ q)
def seqD : D → (List D → Prop) → Prop
  | .list xs, Q => Q xs
  | .tuple xs, Q => Q xs
  | .str x, Q => Q (signsD x.cps.toList)
  | _, _ => False
def fSeq (fa : FE) : FI := fun env Q => fa env fun x => seqD x Q
theorem qi_seq (ha : QE X a fa) : QI X tg a (fSeq fa) := PI.imp (pi_seq ha) fun σ H R ⟨W, env, Q', ok, er, h, k⟩ => ⟨W, env, _, ok, er, h, fun v H1 d x1 r1 q1 => by
  unfold seqD at q1
  split at q1
  · cases r1 with
    | lst g0 g1 g2 g3 => exact .inl ⟨_, rfl, ⟨_, .of g1⟩, k _ _ _ x1 (walks_list g0 g1 g2) g3 q1⟩
  · cases r1 with
    | tup g1 g2 g3 => exact .inr (.inl ⟨_, rfl, ⟨_, .of g1⟩, k _ _ _ x1 (walks_tup g1 g2) g3 q1⟩)
  · cases r1 with
    | str _ g => exact .inr (.inr ⟨_, rfl, k _ _ _ x1 (walks_str _) (by unfold signsD; rw [List.length_map, ← str_len]; exact g) q1⟩)
  · exact q1.elim⟩
end

/-! ### targets -/
inductive Pat where
  | name (i : Nat)
  | tup (ps : List Pat)
mutual
def bindP : Pat → D → Option (List (Nat × D))
  | .name i, d => some [(i, d)]
  | .tup ps, .tuple ds => bindPs ps ds
  | .tup _, _ => none
def bindPs : List Pat → List D → Option (List (Nat × D))
  | [], [] => some []
  | p :: ps, d :: ds => match bindP p d, bindPs ps ds with
    | some a, some b => some (a ++ b)
    | _, _ => none
  | _, _ => none
end
mutual
def slotsP : Pat → List Nat
  | .name i => [i]
  | .tup ps => slotsPs ps
def slotsPs : List Pat → List Nat
  | [] => []
  | p :: ps => slotsP p ++ slotsPs ps
end
mutual
def tPat (K : PySem.W.Frag) : Pat → TG
  | .name i => gName i
  | .tup ps => gTup K ps.length (tPats K ps)
def tPats (K : PySem.W.Frag) : List Pat → TGs
  | [] => gNil
  | p :: ps => gCons (tPat K p) (tPats K ps)
end
def setV (σ : L2.St) (vs : List (Nat × V)) : L2.St := vs.foldl (fun s p => s.set p.1 (some p.2)) σ
def setE (env : EV) (vs : List (Nat × D)) : EV := vs.foldl (fun s p => s.set p.1 (some p.2)) env
inductive AsgOk (S : Addr → Prop) (bx : Option Addr) (H : Hp) : List (Nat × D) → List (Nat × V) → Prop
  | nil : AsgOk S bx H [] []
  | cons {i : Nat} {d : D} {v : V} {ds : List (Nat × D)} {vs : List (Nat × V)} : Rep S bx H d v → AsgOk S bx H ds vs → AsgOk S bx H ((i, d) :: ds) ((i, v) :: vs)
theorem AsgOk.append {S : Addr → Prop} {bx : Option Addr} {H : Hp} : ∀ {ds es : List (Nat × D)} {vs ws : List (Nat × V)}, AsgOk S bx H ds vs → AsgOk S bx H es ws → AsgOk S bx H (ds ++ es) (vs ++ ws)
  | _, _, _, _, .nil, h => h
  | _, _, _, _, .cons a b, h => .cons a (AsgOk.append b h)
theorem setV_append (σ : L2.St) (a b : List (Nat × V)) : setV σ (a ++ b) = setV (setV σ a) b := by unfold setV; rw [List.foldl_append]
mutual
theorem pat_ok {K : PySem.W.Frag} {S : Addr → Prop} {bx : Option Addr} {H : Hp} : ∀ (p : Pat) {d : D} {v : V} {asg : List (Nat × D)} {σ : L2.St} {Q : L2.St → Hp → Prop}, Rep S bx H d v → bindP p d = some asg → (∀ vs, AsgOk S bx H asg vs → Q (setV σ vs) H) → tPat K p v σ H Q
  | .name i, d, v, asg, σ, Q, r, e, q => by
    unfold bindP at e
    cases e
    unfold tPat
    exact q [(i, v)] (.cons r .nil)
  | .tup ps, d, v, asg, σ, Q, r, e, q => by
    unfold tPat
    cases r with
    | tup h1 h2 h3 =>
      unfold bindP at e
      exact ⟨_, _, rfl, .of h1, pats_len ps h2 e, pats_ok ps h2 e q⟩
    | _ => unfold bindP at e; cases e
theorem pats_len {S : Addr → Prop} {bx : Option Addr} {H : Hp} : ∀ (ps : List Pat) {ds : List D} {vs : List V} {asg : List (Nat × D)}, RepAll S bx H ds vs → bindPs ps ds = some asg → vs.length = ps.length
  | [], ds, vs, asg, r, e => by
    cases r with
    | nil => rfl
    | cons a b => unfold bindPs at e; cases e
  | p :: ps, ds, vs, asg, r, e => by
    cases r with
    | nil => unfold bindPs at e; cases e
    | cons a b =>
      unfold bindPs at e
      split at e
      · rename_i a1 b1 e1 e2
        rw [List.length_cons, List.length_cons, pats_len ps b e2]
      · cases e
theorem pats_ok {K : PySem.W.Frag} {S : Addr → Prop} {bx : Option Addr} {H : Hp} : ∀ (ps : List Pat) {ds : List D} {vs : List V} {asg : List (Nat × D)} {σ : L2.St} {Q : L2.St → Hp → Prop}, RepAll S bx H ds vs → bindPs ps ds = some asg → (∀ vs, AsgOk S bx H asg vs → Q (setV σ vs) H) → tPats K ps vs σ H Q
  | [], ds, vs, asg, σ, Q, r, e, q => by
    cases r with
    | nil =>
      unfold bindPs at e
      cases e
      unfold tPats
      exact ⟨rfl, q [] .nil⟩
    | cons a b => unfold bindPs at e; cases e
  | p :: ps, ds, vs, asg, σ, Q, r, e, q => by
    cases r with
    | nil => unfold bindPs at e; cases e
    | cons a b =>
      unfold bindPs at e
      split at e
      · rename_i a1 b1 e1 e2
        cases e
        unfold tPats
        refine ⟨_, _, rfl, pat_ok p a e1 fun us hu => ?_⟩
        refine pats_ok ps b e2 fun ws hw => ?_
        rw [← setV_append]
        exact q _ (hu.append hw)
      · cases e
end
theorem set_rep {W : Wd} {σ : L2.St} {H : Hp} {env : EV} {i : Nat} {d : D} {v : V} (r : ERep W σ H env) (h : W.Rep H d v) : ERep W (σ.set i (some v)) H (env.set i (some d)) := by
  refine ⟨by rw [List.length_set, List.length_set]; exact r.len, fun j e hj => ?_⟩
  by_cases hij : i = j
  · subst hij
    have hl : i < env.length := by
      have := (List.getElem?_eq_some_iff.mp hj).1
      simpa using this
    rw [List.getElem?_set_self hl] at hj
    cases hj
    exact ⟨v, by rw [List.getElem?_set_self (by rw [← r.len]; exact hl)], h⟩
  · rw [List.getElem?_set_ne hij] at hj
    obtain ⟨w, e1, r1⟩ := r.at_ j e hj
    exact ⟨w, by rw [List.getElem?_set_ne hij]; exact e1, r1⟩
theorem setE_rep {W : Wd} {H : Hp} : ∀ {asg : List (Nat × D)} {vs : List (Nat × V)} {σ : L2.St} {env : EV}, AsgOk W.S W.bx H asg vs → ERep W σ H env → ERep W (setV σ vs) H (setE env asg)
  | _, _, _, _, .nil, h => h
  | _, _, σ, env, .cons (i := i) (d := d) (v := v) a b, h => setE_rep (σ := σ.set i (some v)) (env := env.set i (some d)) b (set_rep h a)
def wipeE (env : EV) : List Nat → EV
  | [] => env
  | v :: vs => (wipeE env vs).set v none
theorem wipe_rep {W : Wd} {σ : L2.St} {H : Hp} {env : EV} (r : ERep W σ H env) : ∀ vs : List Nat, ERep W (wipe σ vs) H (wipeE env vs)
  | [] => r
  | v :: vs => by
    have q := wipe_rep r vs
    unfold wipe wipeE
    refine ⟨by rw [List.length_set, List.length_set]; exact q.len, fun j e hj => ?_⟩
    by_cases hij : v = j
    · subst hij
      have hl := (List.getElem?_eq_some_iff.mp hj).1
      rw [List.getElem?_set_self (by simpa using hl)] at hj
      cases hj
    · rw [List.getElem?_set_ne hij] at hj
      obtain ⟨w, e1, r1⟩ := q.at_ j e hj
      exact ⟨w, by rw [List.getElem?_set_ne hij]; exact e1, r1⟩
theorem wipe_set (σ : L2.St) (i : Nat) (x : Option V) : ∀ vs : List Nat, i ∈ vs → wipe (σ.set i x) vs = wipe σ vs
  | [], h => by cases h
  | v :: vs, h => by
    unfold wipe
    by_cases hv : i ∈ vs
    · rw [wipe_set σ i x vs hv]
    · have e : v = i := by
        rcases List.mem_cons.mp h with z | z
        · exact z.symm
        · exact absurd z hv
      subst e
      have : ∀ (us : List Nat), v ∉ us → wipe (σ.set v x) us = (wipe σ us).set v x := by
        intro us
        induction us with
        | nil => intro _; rfl
        | cons u us ih =>
          intro hn
          unfold wipe
          rw [ih fun z => hn (List.mem_cons_of_mem _ z)]
          exact List.set_comm _ _ fun z => hn (by rw [z]; exact List.mem_cons_self)
      rw [this vs hv, List.set_set]
theorem wipe_idem (σ : L2.St) (vs : List Nat) : wipe (wipe σ vs) vs = wipe σ vs := by
  have : ∀ us : List Nat, (∀ u ∈ us, u ∈ vs) → wipe (wipe σ us) vs = wipe σ vs := by
    intro us
    induction us with
    | nil => intro _; rfl
    | cons u us ih =>
      intro h
      show wipe ((wipe σ us).set u none) vs = _
      rw [wipe_set _ _ _ _ (h u List.mem_cons_self)]
      exact ih fun x hx => h x (List.mem_cons_of_mem _ hx)
  exact this vs fun _ h => h
theorem wipe_setV (vs : List Nat) : ∀ (ws : List (Nat × V)) (σ : L2.St), (∀ p ∈ ws, p.1 ∈ vs) → wipe (setV σ ws) vs = wipe σ vs
  | [], _, _ => rfl
  | p :: ws, σ, h => by
    show wipe (setV (σ.set p.1 (some p.2)) ws) vs = _
    rw [wipe_setV vs ws _ fun q hq => h q (List.mem_cons_of_mem _ hq)]
    exact wipe_set _ _ _ _ (h p List.mem_cons_self)
theorem AsgOk.slots {S : Addr → Prop} {bx : Option Addr} {H : Hp} : ∀ {asg : List (Nat × D)} {vs : List (Nat × V)}, AsgOk S bx H asg vs → vs.map (·.1) = asg.map (·.1)
  | _, _, .nil => rfl
  | _, _, .cons _ b => by rw [List.map_cons, List.map_cons, AsgOk.slots b]
mutual
theorem bind_slots : ∀ (p : Pat) {d : D} {asg : List (Nat × D)}, bindP p d = some asg → asg.map (·.1) = slotsP p
  | .name i, d, asg, e => by unfold bindP at e; cases e; rfl
  | .tup ps, d, asg, e => by
    unfold bindP at e
    cases d with
    | tuple ds => exact binds_slots ps e
    | _ => cases e
theorem binds_slots : ∀ (ps : List Pat) {ds : List D} {asg : List (Nat × D)}, bindPs ps ds = some asg → asg.map (·.1) = slotsPs ps
  | [], ds, asg, e => by
    cases ds with
    | nil => unfold bindPs at e; cases e; rfl
    | cons _ _ => unfold bindPs at e; cases e
  | p :: ps, ds, asg, e => by
    cases ds with
    | nil => unfold bindPs at e; cases e
    | cons d ds =>
      unfold bindPs at e
      split at e
      · rename_i a1 b1 e1 e2
        cases e
        rw [List.map_append, bind_slots p e1, binds_slots ps e2]; rfl
      · cases e
end
theorem kp_asg {S : Addr → Prop} {bx : Option Addr} {H H' : Hp} (k : Kp S H H') : ∀ {asg : List (Nat × D)} {vs : List (Nat × V)}, AsgOk S bx H asg vs → AsgOk S bx H' asg vs
  | _, _, .nil => .nil
  | _, _, .cons a b => .cons (a.kp k) (kp_asg k b)
end T2
set_option Elab.async false
set_option linter.all false
set_option maxRecDepth 100000
set_option autoImplicit false
namespace T2
open PySem L2 PySem.Spec PyProof.Rows

/-! ### hiding some addresses -/
open Classical in
noncomputable def Wd.less (W : Wd) (O : Addr → Prop) (H : Hp) (hO : ∀ a, O a → W.S a ∧ ∃ o, H a = some o) : Wd where
  S := fun a => W.S a ∧ ¬ O a
  bc := W.bc
  fz := fun a => if O a then H a else W.fz a
  nS := fun b c e => ⟨fun z => (W.nS b c e).1 z.1, fun z => (W.nS b c e).2 z.1⟩
  fs := fun a n k => by
    by_cases h : O a
    · simp only [h, if_true]; exact (hO a h).2
    · simp only [h, if_false]; exact W.fs a (fun z => n ⟨z, h⟩) k
section
open Classical
variable {W : Wd} {O : Addr → Prop} {H H' : Hp} {hO : ∀ a, O a → W.S a ∧ ∃ o, H a = some o}
theorem less_ok (h : W.ok H) : (W.less O H hO).ok H := by
  refine ⟨fun a n k => ?_, h.box⟩
  show H a = if O a then H a else W.fz a
  by_cases ho : O a
  · rw [if_pos ho]
  · rw [if_neg ho]; exact h.fz a (fun z => n ⟨z, ho⟩) k
theorem less_at (h : (W.less O H hO).ok H') {a : Addr} (ha : O a) : H' a = H a := by
  have hS := (hO a ha).1
  have q := h.fz a (fun z => z.2 ha) fun b c e => ⟨fun z => (W.nS b c e).1 (z ▸ hS), fun z => (W.nS b c e).2 (z ▸ hS)⟩
  have e : (W.less O H hO).fz a = if O a then H a else W.fz a := rfl
  rw [q, e, if_pos ha]
theorem less_back (h : (W.less O H hO).ok H') : W.ok H' := by
  refine ⟨fun a n k => ?_, h.box⟩
  have ho : ¬ O a := fun z => n (hO a z).1
  have q := h.fz a (fun z => n z.1) k
  have e : (W.less O H hO).fz a = if O a then H a else W.fz a := rfl
  rw [q, e, if_neg ho]
theorem less_ext (x : Ext (W.less O H hO) H H') : Ext W H H' := by
  refine ⟨⟨fun a o s e => ?_, x.kp.tup⟩, less_back x.ok⟩
  by_cases ho : O a
  · rw [less_at x.ok ho]; exact e
  · exact x.kp.keep a o ⟨s, ho⟩ e
end

/-! ### comprehensions -/
structure PTs' (X : Cx) (ifs : List Expr) (t : FT) : Prop where
  p : PTs X ifs (tT t)
theorem PTs.imp {X : Cx} {e : List Expr} {t t' : TT} (h : PTs X e t) (k : ∀ σ H Q, t' σ H Q → t σ H Q) : PTs X e t' := ⟨fun pins s σ H Q I q => h.run pins s σ H Q I (k σ H Q q)⟩
def fYes : FT := fun _ Q => Q true
theorem qts_nil {X : Cx} : PTs X [] (tT fYes) := PTs.imp pts_nil fun σ H Q ⟨W, env, Q', ok, er, h, k⟩ => k _ _ (.refl ok) h
theorem qts_one {X : Cx} {c : Expr} {t : FT} (h : QT X c t) : PTs X [c] (tT t) := pts_one h
def qComp (p : Pat) (c : FT) (e : FE) (env : EV) : List D → List D → (List D → Prop) → Prop
  | [], acc, Q => Q acc
  | d :: ds, acc, Q => ∃ asg, bindP p d = some asg ∧ c (setE env asg) fun b => if b = true then e (setE env asg) fun y => qComp p c e env ds (acc ++ [y]) Q else qComp p c e env ds acc Q
def fLc (fi : FI) (p : Pat) (vs : List Nat) (c : FT) (e : FE) : FE := fun env Q => fi env fun ds => qComp p c e (wipeE env vs) ds [] fun ys => Q (.list ys)
theorem lc_imp {K : PySem.W.Frag} {fi : FI} {p : Pat} {vs : List Nat} {c : FT} {e : FE} (hv : ∀ i ∈ slotsP p, i ∈ vs) : ∀ σ H Q, tE (fLc fi p vs c e) σ H Q → tLc (tI fi) (tPat K p) (tT c) (tE e) vs σ H Q := by
  rintro σ H Q ⟨W, env, Q', ok, er, h, k⟩
  refine ⟨W, env, _, ok, er, h, fun J H1 ds x1 wk hl q => ?_⟩
  intro Dd hD
  have hSD : W.S Dd := x1.ok.fresh hD
  let S' : Addr → Prop := fun a => W.S a ∧ ¬ a = Dd
  have hS' : ∀ a o, W.S a → H1 a = some o → S' a := fun a o s e => ⟨s, fun z => by rw [z, hD] at e; cases e⟩
  let P : Nat → Hp → Prop := fun i Hc => ∃ (acc : List D) (accV : List V), i ≤ ds.length ∧ acc.length ≤ i ∧ Hc Dd = some (.lst accV) ∧ RepAll S' W.bx Hc acc accV ∧ W.ok Hc ∧ Kp S' H1 Hc ∧ qComp p c e (wipeE env vs) (ds.drop i) acc fun ys => Q' (.list ys)
  have er1 : ERep W σ H1 env := er.ext x1
  refine ⟨fun i m Hc => m = ds.length - i ∧ P i Hc, ⟨ds.length, by simp, ?_⟩, ?_⟩
  · exact ⟨[], [], Nat.zero_le _, Nat.le_refl _, upd_same, .nil, x1.ok.grow (same_new hD), .of (same_new hD), by simpa using q⟩
  · rintro i m Hc ⟨rfl, acc, accV, hi, hai, hDc, hacc, okc, kc, qc⟩
    obtain ⟨w1, w2⟩ := wk S' Hc hS' kc
    by_cases hlt : i < ds.length
    · refine .inr ?_
      have hg : ds[i]? = some ds[i] := List.getElem?_eq_getElem hlt
      obtain ⟨go, yl⟩ := w1 i _ hg
      refine ⟨go, P (i + 1), fun H' p' => ⟨ds.length - (i + 1), by omega, rfl, p'⟩, fun x H' y => ?_⟩
      obtain ⟨gr, rx⟩ := yl x H' y
      rw [List.drop_eq_getElem_cons hlt] at qc
      obtain ⟨asg, ea, qc⟩ := qc
      have okn : W.ok H' := okc.grow gr
      have hDn : H' Dd = some (.lst accV) := gr _ _ hDc
      let O : Addr → Prop := fun a => a = Dd
      have hO : ∀ a, O a → W.S a ∧ ∃ o, H' a = some o := fun a z => by
        have z' : a = Dd := z
        subst z'
        exact ⟨hSD, _, hDn⟩
      refine pat_ok p rx ea fun ws hw => ⟨?_, ?_⟩
      · rw [wipe_setV vs ws _ fun q hq => ?_, wipe_idem]
        have e1 := hw.slots
        have e2 := bind_slots p ea
        refine hv _ ?_
        rw [← e2, ← e1]
        exact List.mem_map.mpr ⟨q, hq, rfl⟩
      · -- the block, in the world without D
        have kn : Kp S' H1 H' := kc.trans (.of gr)
        have er2 : ERep (W.less O H' hO) (wipe σ vs) H' (wipeE env vs) := wipe_rep ⟨er1.len, fun j d hj => by
          obtain ⟨v, e1, r1⟩ := er1.at_ j d hj
          exact ⟨v, e1, (r1.re hS').kp kn⟩⟩ vs
        have er3 : ERep (W.less O H' hO) (setV (wipe σ vs) ws) H' (setE (wipeE env vs) asg) := setE_rep hw er2
        refine ⟨W.less O H' hO, _, _, less_ok okn, er3, qc, fun b H3 x3 q3 => ?_⟩
        have D3 : H3 Dd = some (.lst accV) := (less_at x3.ok rfl).trans hDn
        have k3 : Kp S' H1 H3 := kn.trans x3.kp
        have acc3 : RepAll S' W.bx H3 acc accV := (hacc.kp (.of gr)).kp x3.kp
        cases b with
        | true =>
          refine ⟨W.less O H' hO, _, _, x3.ok, er3.ext x3, q3, fun y H4 dy x4 r4 q4 => ?_⟩
          have D4 : H4 Dd = some (.lst accV) := (less_at x4.ok rfl).trans hDn
          have k4 : Kp S' H1 H4 := k3.trans x4.kp
          have la : accV.length < sizeLine := by rw [← hacc.len]; omega
          have acc4 : RepAll S' W.bx H4 acc accV := acc3.kp x4.kp
          have lnew : ∀ a o, ¬ a = Dd → H4 a = some o → (upd H4 Dd (.lst (accV ++ [y]))) a = some o := fun a o z e => by rw [upd_ne z]; exact e
          have kup : Kp S' H4 (upd H4 Dd (.lst (accV ++ [y]))) := ⟨fun a o s e => lnew a o s.2 e, fun a xs e => lnew a _ (fun z => by rw [z, D4] at e; cases e) e⟩
          refine ⟨accV, D4, la, acc ++ [dy], accV ++ [y], hlt, by rw [List.length_append]; show acc.length + 1 ≤ _; omega, upd_same, (acc4.kp kup).append (.cons (r4.kp kup) .nil), ?_, k4.trans kup, q4⟩
          have ok4 := less_back x4.ok
          refine ⟨fun a n k => ?_, fun b c e => ?_⟩
          · have : a ≠ Dd := fun z => n (by rw [z]; exact hSD)
            rw [upd_ne this]
            exact ok4.fz a n k
          · obtain ⟨ne, zs, ns, h1, h2, r⟩ := ok4.box b c e
            have hb : b ≠ Dd := fun z => (W.nS b c e).1 (by rw [z]; exact hSD)
            have hc : c ≠ Dd := fun z => (W.nS b c e).2 (by rw [z]; exact hSD)
            exact ⟨ne, zs, ns, by rw [upd_ne hb]; exact h1, by rw [upd_ne hc]; exact h2, r⟩
        | false =>
          exact ⟨acc, accV, hlt, by omega, D3, acc3, less_back x3.ok, k3, q3⟩
    · have e : i = ds.length := by omega
      subst e
      refine .inl ⟨w2, ?_⟩
      rw [List.drop_length] at qc
      refine k _ _ _ ⟨x1.kp.trans ⟨fun a o s e => kc.keep a o (hS' a o s e) e, kc.tup⟩, okc⟩ (.lst hSD hDc (hacc.mono (fun _ z => z.1) (.refl _ _)) (Nat.le_trans hai hl)) qc
section
variable {X : Cx}
theorem q_lc {elt tg iter : Expr} {ifs : List Expr} {scope : Scope} {own : List (Str × Nat)} {pos : Pos} {fi : FI} {c : FT} {e : FE} (p : Pat) (hi : QI X tg iter fi)
    (hg : ∀ (s : Shared) (H : Hp) (C : Addr) (cl : List (Str × Addr)) (fp : List Addr), PG (X.blk s H scope (compEnvC scope cl C X.env) fp) tg (tPat X.K p)) (ht : ∀ (s : Shared) (H : Hp) (C : Addr) (cl : List (Str × Addr)) (fp : List Addr), PTs (X.blk s H scope (compEnvC scope cl C X.env) fp) ifs (tT c))
    (he : ∀ (s : Shared) (H : Hp) (C : Addr) (cl : List (Str × Addr)) (fp : List Addr), QE (X.blk s H scope (compEnvC scope cl C X.env) fp) elt e)
    (hN : X.N.Nodup) (ok : blkC X.N X.env.scope scope own = true) (hv : (slotsP p).all (fun i => (own.map (·.2)).contains i) = true := by rfl) (hc : X.calm = true := by rfl) (hs : ∀ x, foldedSetIterable iter X.env x = pure x := by intro _; rfl) :
    QE X (.ListComp elt [⟨tg, iter, ifs, 0⟩] scope pos) (fLc fi p (own.map (·.2)) c e) :=
  PE.imp (pe_lc hc hN hi (blkOk_by ok) hg ht he hs) (lc_imp fun i hi => by
    have q := List.all_eq_true.mp hv i hi
    simpa using q)
end
end T2
set_option Elab.async false
set_option linter.all false
set_option maxRecDepth 100000
set_option autoImplicit false
namespace T2
open PySem L2 PySem.Spec PyProof.Rows

/-! ### the state of a body: slots that hold data, slots that own a list or a dict -/
inductive Sl where
  | fr (d : D)
  | ow (d : D)
abbrev SE := List (Option Sl)
def Sl.dat : Sl → D
  | .fr d => d
  | .ow d => d
def Sl.frz : Sl → Option D
  | .fr d => some d
  | .ow _ => none
/-- all that is seen; what may be kept -/
def vN (env : SE) : EV := env.map (Option.map Sl.dat)
def vF (env : SE) : EV := env.map fun x => x.bind Sl.frz
inductive Own (S : Addr → Prop) (bx : Option Addr) (H : Hp) : D → Addr → Prop
  | lst {a : Addr} {xs : List V} {ds : List D} : H a = some (.lst xs) → RepAll S bx H ds xs → ds.length ≤ sizeLine → Own S bx H (.list ds) a
  | dK {a : Addr} {ks : List (Key × V)} {kvs : List (D × D)} : H a = some (.dK ks) → RepK S bx H kvs ks → Own S bx H (dKD kvs) a
  | dT {a : Addr} {ks : List (List Key × V)} {kvs : List (D × D)} : H a = some (.dT ks) → RepT S bx H kvs ks → Own S bx H (dTD kvs) a
theorem Own.there {S : Addr → Prop} {bx : Option Addr} {H : Hp} {d : D} {a : Addr} (o : Own S bx H d a) : ∃ u, H a = some u := by
  cases o with
  | lst h _ _ => exact ⟨_, h⟩
  | dK h _ => exact ⟨_, h⟩
  | dT h _ => exact ⟨_, h⟩
theorem Own.mono {S S' : Addr → Prop} {bx : Option Addr} {H H' : Hp} {d : D} {a : Addr} (o : Own S bx H d a) (hs : ∀ a, S a → S' a) (k : Kp S H H') (e : H' a = H a) : Own S' bx H' d a := by
  cases o with
  | lst h r l => exact .lst (e.trans h) (r.mono hs k) l
  | dK h r => exact .dK (e.trans h) (r.mono hs k)
  | dT h r => exact .dT (e.trans h) (r.mono hs k)
theorem Own.re {S S' : Addr → Prop} {bx : Option Addr} {H : Hp} {d : D} {a : Addr} (o : Own S bx H d a) (hs : ∀ a u, S a → H a = some u → S' a) : Own S' bx H d a := by
  cases o with
  | lst h r l => exact .lst h (r.re hs) l
  | dK h r => exact .dK h (r.re hs)
  | dT h r => exact .dT h (r.re hs)
theorem Own.rep {S : Addr → Prop} {bx : Option Addr} {H : Hp} {d : D} {a : Addr} (o : Own S bx H d a) (s : S a) : Rep S bx H d (.ref a) := by
  cases o with
  | lst h r l => exact .lst s h r l
  | dK h r => exact .dK s h r
  | dT h r => exact .dT s h r
def OwnA (σ : L2.St) (env : SE) : Addr → Prop := fun a => ∃ (i : Nat) (d : D), env[i]? = some (some (.ow d)) ∧ σ[i]? = some (some (.ref a))
structure SRep (W : Wd) (σ : L2.St) (H : Hp) (env : SE) : Prop where
  len : env.length = σ.length
  ok : W.ok H
  fr : ∀ (i : Nat) (d : D), env[i]? = some (some (.fr d)) → ∃ v : V, σ[i]? = some (some v) ∧ Rep (fun a => W.S a ∧ ¬ OwnA σ env a) W.bx H d v
  ow : ∀ (i : Nat) (d : D), env[i]? = some (some (.ow d)) → ∃ a : Addr, σ[i]? = some (some (V.ref a)) ∧ W.S a ∧ Own (fun a => W.S a ∧ ¬ OwnA σ env a) W.bx H d a
  inj : ∀ (i j : Nat) (d e : D) (a : Addr), env[i]? = some (some (.ow d)) → env[j]? = some (some (.ow e)) → σ[i]? = some (some (V.ref a)) → σ[j]? = some (some (V.ref a)) → i = j
section
variable {W : Wd} {σ : L2.St} {H H' : Hp} {env : SE}
theorem SRep.own (r : SRep W σ H env) {a : Addr} (h : OwnA σ env a) : W.S a ∧ ∃ o, H a = some o := by
  obtain ⟨i, d, e1, e2⟩ := h
  obtain ⟨b, e3, s, o⟩ := r.ow i d e1
  rw [e2] at e3
  cases e3
  exact ⟨s, o.there⟩
theorem SRep.erN (r : SRep W σ H env) : ERep W σ H (vN env) := by
  refine ⟨by unfold vN; rw [List.length_map]; exact r.len, fun i d e => ?_⟩
  unfold vN at e
  rw [List.getElem?_map] at e
  cases q : env[i]? with
  | none => rw [q] at e; cases e
  | some x =>
    rw [q] at e
    cases x with
    | none => cases e
    | some s =>
      cases s with
      | fr d' =>
        cases e
        obtain ⟨v, e1, r1⟩ := r.fr i _ q
        exact ⟨v, e1, r1.mono (fun _ z => z.1) (.refl _ _)⟩
      | ow d' =>
        cases e
        obtain ⟨a, e1, s, o⟩ := r.ow i _ q
        exact ⟨.ref a, e1, (o.mono (fun _ z => z.1) (.refl _ _) rfl).rep s⟩
theorem SRep.erF (r : SRep W σ H env) (hO : ∀ a, OwnA σ env a → W.S a ∧ ∃ o, H a = some o) : ERep (W.less (OwnA σ env) H hO) σ H (vF env) := by
  refine ⟨by unfold vF; rw [List.length_map]; exact r.len, fun i d e => ?_⟩
  unfold vF at e
  rw [List.getElem?_map] at e
  cases q : env[i]? with
  | none => rw [q] at e; cases e
  | some x =>
    rw [q] at e
    cases x with
    | none => cases e
    | some s =>
      cases s with
      | fr d' => cases e; exact r.fr i _ q
      | ow d' => cases e
/-- nothing that stands has changed -/
theorem SRep.ext (r : SRep W σ H env) (x : Ext W H H') : SRep W σ H' env := by
  have k : Kp (fun a => W.S a ∧ ¬ OwnA σ env a) H H' := x.kp.sub fun _ z => z.1
  refine ⟨r.len, x.ok, fun i d e => ?_, fun i d e => ?_, r.inj⟩
  · obtain ⟨v, e1, r1⟩ := r.fr i d e
    exact ⟨v, e1, r1.kp k⟩
  · obtain ⟨a, e1, s, o⟩ := r.ow i d e
    obtain ⟨u, hu⟩ := o.there
    exact ⟨a, e1, s, o.mono (fun _ z => z) k (by rw [hu]; exact x.kp.keep _ _ s hu)⟩
end
/-- what a piece of code may have done -/
structure Stp (W : Wd) (σ : L2.St) (H : Hp) (env : SE) (σ' : L2.St) (H' : Hp) (env' : SE) : Prop where
  kp : Kp (fun a => W.S a ∧ ¬ OwnA σ env a) H H'
  own : ∀ a, OwnA σ' env' a → OwnA σ env a ∨ H a = none
theorem Stp.trans {W : Wd} {σ σ1 σ2 : L2.St} {H H1 H2 : Hp} {env env1 env2 : SE} (a : Stp W σ H env σ1 H1 env1) (b : Stp W σ1 H1 env1 σ2 H2 env2) (ok : W.ok H1) : Stp W σ H env σ2 H2 env2 := by
  refine ⟨⟨fun x o s e => ?_, fun x xs e => b.kp.tup x xs (a.kp.tup x xs e)⟩, fun x h => ?_⟩
  · refine b.kp.keep x o ⟨s.1, fun z => ?_⟩ (a.kp.keep x o s e)
    rcases a.own x z with q | q
    · exact s.2 q
    · rw [q] at e; cases e
  · rcases b.own x h with q | q
    · exact a.own x q
    · by_cases ho : OwnA σ env x
      · exact .inl ho
      · refine .inr ?_
        cases e : H x with
        | none => rfl
        | some o =>
          rw [a.kp.keep x o ⟨ok.fresh q, ho⟩ e] at q
          cases q
theorem Stp.of_ext {W : Wd} {σ : L2.St} {H H' : Hp} {env : SE} (x : Ext W H H') : Stp W σ H env σ H' env := ⟨x.kp.sub fun _ z => z.1, fun _ h => .inl h⟩
theorem Stp.refl {W : Wd} {σ : L2.St} {H : Hp} {env : SE} : Stp W σ H env σ H env := ⟨.refl _ _, fun _ h => .inl h⟩

structure DE where
  nx : SE → Prop
  rt : D → Prop
  bk : SE → Prop := fun _ => False
  ct : SE → Prop := fun _ => False
abbrev FS := DE → SE → Prop
structure Adapt (W : Wd) (σ : L2.St) (H : Hp) (env : SE) (D' : DE) (E : Ends) : Prop where
  nx : ∀ σ' H' env', Stp W σ H env σ' H' env' → SRep W σ' H' env' → D'.nx env' → E.nx σ' H'
  bk : ∀ σ' H' env', Stp W σ H env σ' H' env' → SRep W σ' H' env' → D'.bk env' → E.bk σ' H'
  ct : ∀ σ' H' env', Stp W σ H env σ' H' env' → SRep W σ' H' env' → D'.ct env' → E.ct σ' H'
  rt : ∀ v H' d, Kp (fun a => W.S a ∧ ¬ OwnA σ env a) H H' → W.ok H' → W.Rep H' d v → D'.rt d → E.rt v H'
def tS (F : FS) : TS := fun E σ H => ∃ (W : Wd) (env : SE) (D' : DE), SRep W σ H env ∧ F D' env ∧ Adapt W σ H env D' E
abbrev QS (X : Cx) (st : Stmt) (F : FS) : Prop := PS X st (tS F)
abbrev QSs (X : Cx) (st : List Stmt) (F : FS) : Prop := PSs X st (tS F)
theorem Adapt.step {W : Wd} {σ σ1 : L2.St} {H H1 : Hp} {env env1 : SE} {D' : DE} {E : Ends} (a : Adapt W σ H env D' E) (st : Stp W σ H env σ1 H1 env1) (ok : W.ok H1) : Adapt W σ1 H1 env1 D' E :=
  ⟨fun σ' H' env' s => a.nx σ' H' env' (st.trans s ok), fun σ' H' env' s => a.bk σ' H' env' (st.trans s ok), fun σ' H' env' s => a.ct σ' H' env' (st.trans s ok), fun v H' d k => a.rt v H' d ⟨fun x o s e => k.keep x o ⟨s.1, fun z => by
    rcases st.own x z with q | q
    · exact s.2 q
    · rw [q] at e; cases e⟩ (st.kp.keep x o s e), fun x xs e => k.tup x xs (st.kp.tup x xs e)⟩⟩
section
variable {X : Cx} {st : Stmt} {rest : List Stmt} {F G : FS} {e : Expr} {fe : FE} {pos : Pos}

/-! ### blocks -/
def sNext : FS := fun D env => D.nx env
def sSeq (F G : FS) : FS := fun D env => F { D with nx := G D } env
theorem qss_nil : QSs X [] sNext := PSs.imp pss_nil fun E σ H ⟨W, env, D', sr, h, a⟩ => a.nx _ _ _ .refl sr h
theorem qss_one (h : QS X st F) : QSs X [st] F := pss_one h
theorem qss_cons (h1 : QS X st F) (h2 : QSs X rest G) : QSs X (st :: rest) (sSeq F G) := PSs.imp (pss_cons h1 h2) fun E σ H ⟨W, env, D', sr, h, a⟩ =>
  ⟨W, env, { D' with nx := G D' }, sr, h, fun σ1 H1 env1 s sr1 q => ⟨W, env1, D', sr1, q, a.step s sr1.ok⟩, a.bk, a.ct, a.rt⟩
theorem qs_pass : QS X (.Pass pos) sNext := PS.imp ps_pass fun E σ H ⟨W, env, D', sr, h, a⟩ => a.nx _ _ _ .refl sr h
def sBreak : FS := fun D env => D.bk env
def sCont : FS := fun D env => D.ct env
theorem qs_break : QS X (.Break pos) sBreak := PS.imp ps_break fun E σ H ⟨W, env, D', sr, h, a⟩ => a.bk _ _ _ .refl sr h
theorem qs_continue : QS X (.Continue pos) sCont := PS.imp ps_continue fun E σ H ⟨W, env, D', sr, h, a⟩ => a.ct _ _ _ .refl sr h
def sNever : FS := fun _ _ => False
theorem qs_never : QS X st sNever := PS.imp ps_never fun E σ H ⟨W, env, D', sr, h, a⟩ => h.elim
theorem qss_never : QSs X rest sNever := PSs.imp pss_never fun E σ H ⟨W, env, D', sr, h, a⟩ => h.elim
def sRet (fe : FE) : FS := fun D env => fe (vN env) fun d => D.rt d
theorem qs_ret (he : QE X e fe) : QS X (.Return (some e) pos) (sRet fe) := PS.imp (ps_ret he) fun E σ H ⟨W, env, D', sr, h, a⟩ =>
  ⟨W, vN env, _, sr.ok, sr.erN, h, fun v H' d x r q => a.rt v H' d (x.kp.sub fun _ z => z.1) x.ok r q⟩
def sRetN : FS := fun D _ => D.rt .none
theorem qs_retN : QS X (.Return none pos) sRetN := PS.imp ps_retN fun E σ H ⟨W, env, D', sr, h, a⟩ => a.rt _ _ _ (.refl _ _) sr.ok .non h
def sIf (c : FT) (F G : FS) : FS := fun D env => c (vN env) fun b => if b = true then F D env else G D env
theorem qs_if {c : Expr} {t : FT} {b1 b2 : List Stmt} (hc : QT X c t) (ha : QSs X b1 F) (hb : QSs X b2 G) : QS X (.If c b1 b2 pos) (sIf t F G) := PS.imp (ps_if hc ha hb) fun E σ H ⟨W, env, D', sr, h, a⟩ =>
  ⟨W, vN env, _, sr.ok, sr.erN, h, fun b H1 x q => by
    cases b with
    | true => exact ⟨W, env, D', sr.ext x, q, a.step (.of_ext x) x.ok⟩
    | false => exact ⟨W, env, D', sr.ext x, q, a.step (.of_ext x) x.ok⟩⟩
def sExpr (fe : FE) : FS := fun D env => fe (vN env) fun _ => D.nx env
theorem qs_expr (he : QE X e fe) (hs : swapsWith e none pos.line X.env = pure false := by rfl) : QS X (.Expr e pos) (sExpr fe) := PS.imp (ps_expr he hs) fun E σ H ⟨W, env, D', sr, h, a⟩ =>
  ⟨W, vN env, _, sr.ok, sr.erN, h, fun v H' d x r q => a.nx _ _ _ (.of_ext x) (sr.ext x) q⟩

/-! ### stores into slots -/
theorem own_set_fr {σ : L2.St} {env : SE} {i : Nat} {x : Option V} {d : D} {a : Addr} (h : OwnA (σ.set i x) (env.set i (some (.fr d))) a) : OwnA σ env a := by
  obtain ⟨j, d', e1, e2⟩ := h
  by_cases hij : i = j
  · subst hij
    have hl := (List.getElem?_eq_some_iff.mp e1).1
    rw [List.getElem?_set_self (by simpa using hl)] at e1
    cases e1
  · rw [List.getElem?_set_ne hij] at e1 e2
    exact ⟨j, d', e1, e2⟩
theorem SRep.setfr {W : Wd} {σ : L2.St} {H : Hp} {env : SE} {i : Nat} {d : D} {v : V} (r : SRep W σ H env) (h : Rep (fun a => W.S a ∧ ¬ OwnA σ env a) W.bx H d v) : SRep W (σ.set i (some v)) H (env.set i (some (.fr d))) := by
  have hs : ∀ a, (W.S a ∧ ¬ OwnA σ env a) → (W.S a ∧ ¬ OwnA (σ.set i (some v)) (env.set i (some (.fr d))) a) := fun a z => ⟨z.1, fun q => z.2 (own_set_fr q)⟩
  refine ⟨by rw [List.length_set, List.length_set]; exact r.len, r.ok, fun j d' e => ?_, fun j d' e => ?_, fun j k d1 d2 a e1 e2 e3 e4 => ?_⟩
  · by_cases hij : i = j
    · subst hij
      have hl : i < env.length := by
        have := (List.getElem?_eq_some_iff.mp e).1
        simpa using this
      rw [List.getElem?_set_self hl] at e
      cases e
      exact ⟨v, by rw [List.getElem?_set_self (by rw [← r.len]; exact hl)], h.mono hs (.refl _ _)⟩
    · rw [List.getElem?_set_ne hij] at e
      obtain ⟨w, e1, r1⟩ := r.fr j d' e
      exact ⟨w, by rw [List.getElem?_set_ne hij]; exact e1, r1.mono hs (.refl _ _)⟩
  · by_cases hij : i = j
    · subst hij
      have hl : i < env.length := by
        have := (List.getElem?_eq_some_iff.mp e).1
        simpa using this
      rw [List.getElem?_set_self hl] at e
      cases e
    · rw [List.getElem?_set_ne hij] at e
      obtain ⟨a, e1, s, o⟩ := r.ow j d' e
      exact ⟨a, by rw [List.getElem?_set_ne hij]; exact e1, s, o.mono hs (.refl _ _) rfl⟩
  · have ne : ∀ {m : Nat} {dm : D}, (env.set i (some (.fr d)))[m]? = some (some (.ow dm)) → i ≠ m := fun {m dm} em z => by
      subst z
      have hl := (List.getElem?_eq_some_iff.mp em).1
      rw [List.getElem?_set_self (by simpa using hl)] at em
      cases em
    have n1 := ne e1
    have n2 := ne e2
    rw [List.getElem?_set_ne n1] at e1 e3
    rw [List.getElem?_set_ne n2] at e2 e4
    exact r.inj j k d1 d2 a e1 e2 e3 e4
/-- name = e, e without owned names -/
def sSetF (i : Nat) (fe : FE) : FS := fun D env => fe (vF env) fun d => D.nx (env.set i (some (.fr d)))
def sSetN (i : Nat) (fe : FE) : FS := fun D env => fe (vN env) fun d => flat d = true ∧ D.nx (env.set i (some (.fr d)))
theorem setF_imp {i : Nat} : ∀ E σ H, tS (sSetF i fe) E σ H → tAsg (tE fe) (gName i) E σ H := fun E σ H ⟨W, env, D', sr, h, a⟩ =>
  ⟨W.less (OwnA σ env) H (fun _ z => sr.own z), vF env, _, less_ok sr.ok, sr.erF _, h, fun v H1 d x r q => by
    have x' := less_ext x
    have sr1 := sr.ext x'
    exact a.nx _ _ _ ⟨x'.kp.sub fun _ z => z.1, fun b z => .inl (own_set_fr z)⟩ (sr1.setfr r) q⟩
theorem setN_imp {i : Nat} : ∀ E σ H, tS (sSetN i fe) E σ H → tAsg (tE fe) (gName i) E σ H := fun E σ H ⟨W, env, D', sr, h, a⟩ =>
  ⟨W, vN env, _, sr.ok, sr.erN, h, fun v H1 d x r q => by
    have sr1 := sr.ext x
    exact a.nx _ _ _ ⟨x.kp.sub fun _ z => z.1, fun b z => .inl (own_set_fr z)⟩ (sr1.setfr (r.flat q.1)) q.2⟩
theorem qs_setF {i : Nat} {x : Str} {pos' : Pos} (he : QE X e fe) (hN : X.N.Nodup) (hi : X.N[i]? = some x := by rfl) (hx : Loc X.env.scope x := by first | exact Or.inl rfl | exact Or.inr rfl) (hs : swapsWith e (some (.Name x pos')) pos.line X.env = pure false := by rfl)
    (hf : X.fn x = true ∨ X.env.scope.names.lookup x = some .local := by first | exact .inl rfl | exact .inr rfl) : QS X (.Assign [.Name x pos'] e pos) (sSetF i fe) := PS.imp (ps_set hN hi hx he hs hf) setF_imp
theorem qs_setN {i : Nat} {x : Str} {pos' : Pos} (he : QE X e fe) (hN : X.N.Nodup) (hi : X.N[i]? = some x := by rfl) (hx : Loc X.env.scope x := by first | exact Or.inl rfl | exact Or.inr rfl) (hs : swapsWith e (some (.Name x pos')) pos.line X.env = pure false := by rfl)
    (hf : X.fn x = true ∨ X.env.scope.names.lookup x = some .local := by first | exact .inl rfl | exact .inr rfl) : QS X (.Assign [.Name x pos'] e pos) (sSetN i fe) := PS.imp (ps_set hN hi hx he hs hf) setN_imp
end
end T2
set_option Elab.async false
set_option linter.all false
set_option maxRecDepth 100000
set_option autoImplicit false
namespace T2
open PySem L2 PySem.Spec PyProof.Rows

/-! ### for -/
theorem AsgOk.mono' {S S' : Addr → Prop} {bx : Option Addr} {H : Hp} (h : ∀ x, S x → S' x) : ∀ {asg : List (Nat × D)} {vs : List (Nat × V)}, AsgOk S bx H asg vs → AsgOk S' bx H asg vs
  | _, _, .nil => .nil
  | _, _, .cons r b => .cons (r.mono h (.refl _ _)) (AsgOk.mono' h b)
def setS (env : SE) (asg : List (Nat × D)) : SE := asg.foldl (fun s p => s.set p.1 (some (.fr p.2))) env
def qFor (p : Pat) (F : FS) : List D → DE → SE → Prop
  | [], D', env => D'.nx env
  | d :: ds, D', env => ∃ asg, bindP p d = some asg ∧ F { D' with nx := qFor p F ds D', ct := qFor p F ds D', bk := D'.nx } (setS env asg)
def sFor (fi : FI) (p : Pat) (F : FS) : FS := fun D' env => fi (vF env) fun ds => qFor p F ds D' env
theorem setS_rep {W : Wd} {H : Hp} : ∀ {asg : List (Nat × D)} {vs : List (Nat × V)} {σ : L2.St} {env : SE}, AsgOk (fun a => W.S a ∧ ¬ OwnA σ env a) W.bx H asg vs → SRep W σ H env →
    SRep W (setV σ vs) H (setS env asg) ∧ ∀ a, OwnA (setV σ vs) (setS env asg) a → OwnA σ env a
  | _, _, _, _, .nil, h => ⟨h, fun _ z => z⟩
  | _, _, σ, env, .cons (i := i) (d := d) (v := v) a b, h => by
    have b' := b.mono' (S' := fun a => W.S a ∧ ¬ OwnA (σ.set i (some v)) (env.set i (some (.fr d))) a) fun x z => ⟨z.1, fun q => z.2 (own_set_fr q)⟩
    obtain ⟨r1, r2⟩ := setS_rep (σ := σ.set i (some v)) (env := env.set i (some (.fr d))) b' (h.setfr a)
    exact ⟨r1, fun x z => own_set_fr (r2 x z)⟩
theorem for_imp {K : PySem.W.Frag} {fi : FI} {p : Pat} {F : FS} : ∀ E σ H, tS (sFor fi p F) E σ H → tFor (tI fi) (tPat K p) (tS F) E σ H := by
  rintro E σ H ⟨W, env, D', sr, h, ad⟩
  refine ⟨W.less (OwnA σ env) H (fun _ z => sr.own z), vF env, _, less_ok sr.ok, sr.erF _, h, fun J H1 ds x1 wk hl q => ?_⟩
  have x1' := less_ext x1
  have sr1 := sr.ext x1'
  let P : Nat → L2.St → Hp → Prop := fun i σc Hc => ∃ envc, i ≤ ds.length ∧ SRep W σc Hc envc ∧ Stp W σ H1 env σc Hc envc ∧ qFor p F (ds.drop i) D' envc
  refine ⟨fun i m σc Hc => m = ds.length - i ∧ P i σc Hc, ⟨ds.length, by simp, env, Nat.zero_le _, sr1, .refl, by simpa using q⟩, ?_⟩
  rintro i m σc Hc ⟨rfl, envc, hi, src, stc, qc⟩
  have hs : ∀ a o, (W.S a ∧ ¬ OwnA σ env a) → H1 a = some o → (W.S a ∧ ¬ OwnA σ env a ∧ ¬ OwnA σc envc a) := fun a o s e => ⟨s.1, s.2, fun z => by
    rcases stc.own a z with q | q
    · exact s.2 q
    · rw [q] at e; cases e⟩
  obtain ⟨w1, w2⟩ := wk (fun a => W.S a ∧ ¬ OwnA σ env a ∧ ¬ OwnA σc envc a) Hc hs (stc.kp.sub fun _ z => ⟨z.1, z.2.1⟩)
  have ad1 : Adapt W σ H1 env D' E := ad.step (.of_ext x1') x1'.ok
  by_cases hlt : i < ds.length
  · refine .inr ?_
    have hg : ds[i]? = some ds[i] := List.getElem?_eq_getElem hlt
    obtain ⟨go, yl⟩ := w1 i _ hg
    refine ⟨go, P (i + 1), fun σ' H' p' => ⟨ds.length - (i + 1), by omega, rfl, p'⟩, fun x H' y => ?_⟩
    obtain ⟨gr, rx⟩ := yl x H' y
    rw [List.drop_eq_getElem_cons hlt] at qc
    obtain ⟨asg, ea, qc⟩ := qc
    have xn : Ext W Hc H' := .grow src.ok gr
    have srn := src.ext xn
    refine pat_ok p rx ea fun ws hw => ?_
    have hw' : AsgOk (fun a => W.S a ∧ ¬ OwnA σc envc a) W.bx H' asg ws := hw.mono' fun _ z => ⟨z.1, z.2.2⟩
    obtain ⟨sr2, own2⟩ := setS_rep hw' srn
    have st2 : Stp W σ H1 env (setV σc ws) H' (setS envc asg) := stc.trans ⟨xn.kp.sub fun _ z => z.1, fun a z => .inl (own2 a z)⟩ src.ok
    refine ⟨W, setS envc asg, _, sr2, qc, ?_⟩
    have ad2 := ad1.step st2 sr2.ok
    refine ⟨fun σ' H2 env' s sr' q => ⟨env', hlt, sr', st2.trans s sr2.ok, q⟩, fun σ' H2 env' s sr' q => ad2.nx σ' H2 env' s sr' q, fun σ' H2 env' s sr' q => ⟨env', hlt, sr', st2.trans s sr2.ok, q⟩, ad2.rt⟩
  · have e : i = ds.length := by omega
    subst e
    rw [List.drop_length] at qc
    exact .inl ⟨w2, ad1.nx _ _ _ stc src qc⟩
section
variable {X : Cx} {st : Stmt} {F G : FS} {e : Expr} {fe : FE} {pos : Pos}
theorem qs_for {tg iter : Expr} {body : List Stmt} {fi : FI} (p : Pat) (hi : QI X tg iter fi) (hg : PG X tg (tPat X.K p)) (hb : QSs X body F) (hp : PassesOwn (model X.prog X.w) X.A X.env X.xe := by exact PassesOwn.never) (hc : X.calm = true := by rfl)
    (hs : ∀ x, foldedSetIterable iter X.env x = pure x := by intro _; rfl) : QS X (.For tg iter body [] pos) (sFor fi p F) := PS.imp (ps_for hp hc hi hg hb hs) for_imp

/-! ### while -/
def sWhile (c : FT) (F : FS) : FS := fun D' env => ∃ (P : SE → Prop) (μ : SE → Nat), P env ∧ ∀ env, P env → c (vN env) fun b => if b = true then F { D' with nx := fun e => P e ∧ μ e < μ env, ct := fun e => P e ∧ μ e < μ env, bk := D'.nx } env else D'.nx env
theorem while_imp {c : FT} : ∀ E σ H, tS (sWhile c F) E σ H → tWhile (tT c) (tS F) E σ H := by
  rintro E σ H ⟨W, env, D', sr, ⟨P, μ, h0, turn⟩, ad⟩
  refine ⟨fun m σc Hc => ∃ envc, m = μ envc ∧ SRep W σc Hc envc ∧ Stp W σ H env σc Hc envc ∧ P envc, ⟨_, env, rfl, sr, .refl, h0⟩, ?_⟩
  rintro m σc Hc ⟨envc, rfl, src, stc, pc⟩
  refine ⟨W, vN envc, _, src.ok, src.erN, turn envc pc, fun b H1 x q => ?_⟩
  have sr1 := src.ext x
  have st1 : Stp W σ H env σc H1 envc := stc.trans (.of_ext x) src.ok
  cases b with
  | true =>
    refine ⟨fun σ' H' => ∃ env', SRep W σ' H' env' ∧ Stp W σ H env σ' H' env' ∧ P env' ∧ μ env' < μ envc, fun σ' H' ⟨env', a, b, c, d⟩ => ⟨_, d, env', rfl, a, b, c⟩, ?_⟩
    refine ⟨W, envc, _, sr1, q, ?_⟩
    have ad1 := ad.step st1 sr1.ok
    exact ⟨fun σ' H' env' s sr' q => ⟨env', sr', st1.trans s sr1.ok, q.1, q.2⟩, fun σ' H' env' s sr' q => ad1.nx σ' H' env' s sr' q, fun σ' H' env' s sr' q => ⟨env', sr', st1.trans s sr1.ok, q.1, q.2⟩, ad1.rt⟩
  | false => exact ad.nx _ _ _ st1 sr1 q
theorem qs_while {c : Expr} {body : List Stmt} {t : FT} (hc : QT X c t) (hb : QSs X body F) (hp : PassesOwn (model X.prog X.w) X.A X.env X.xe := by exact PassesOwn.never) : QS X (.While c body [] pos) (sWhile t F) := PS.imp (ps_while hp hc hb) while_imp

/-! ### a, b = e -/
def sUnpF (p : Pat) (fe : FE) : FS := fun D' env => fe (vF env) fun d => ∃ asg, bindP p d = some asg ∧ D'.nx (setS env asg)
def sUnpN (p : Pat) (fe : FE) : FS := fun D' env => fe (vN env) fun d => flat d = true ∧ ∃ asg, bindP p d = some asg ∧ D'.nx (setS env asg)
theorem qs_unpF {tg : Expr} (p : Pat) (he : QE X e fe) (hg : PG X tg (tPat X.K p)) (hs : swapsWithSole [tg] e pos.line X.env = pure false := by rfl) (hw : swappedStores [tg] e X.env = pure none := by rfl)
    (h1 : (assignEach [tg] X.env).map (·.2) = [assign tg X.env] := by rfl) : QS X (.Assign [tg] e pos) (sUnpF p fe) := PS.imp (ps_asg he hg hs hw h1) fun E σ H ⟨W, env, D', sr, h, a⟩ =>
  ⟨W.less (OwnA σ env) H (fun _ z => sr.own z), vF env, _, less_ok sr.ok, sr.erF _, h, fun v H1 d x r q => by
    have x' := less_ext x
    obtain ⟨asg, ea, q⟩ := q
    refine pat_ok p r ea fun ws hw => ?_
    obtain ⟨sr2, own2⟩ := setS_rep hw (sr.ext x')
    exact a.nx _ _ _ ⟨x'.kp.sub fun _ z => z.1, fun b z => .inl (own2 b z)⟩ sr2 q⟩
theorem qs_unpN {tg : Expr} (p : Pat) (he : QE X e fe) (hg : PG X tg (tPat X.K p)) (hs : swapsWithSole [tg] e pos.line X.env = pure false := by rfl) (hw : swappedStores [tg] e X.env = pure none := by rfl)
    (h1 : (assignEach [tg] X.env).map (·.2) = [assign tg X.env] := by rfl) : QS X (.Assign [tg] e pos) (sUnpN p fe) := PS.imp (ps_asg he hg hs hw h1) fun E σ H ⟨W, env, D', sr, h, a⟩ =>
  ⟨W, vN env, _, sr.ok, sr.erN, h, fun v H1 d x r q => by
    obtain ⟨f, asg, ea, q⟩ := q
    refine pat_ok p (r.flat (S' := fun a => W.S a ∧ ¬ OwnA σ env a) f) ea fun ws hw => ?_
    obtain ⟨sr2, own2⟩ := setS_rep hw (sr.ext x)
    exact a.nx _ _ _ ⟨x.kp.sub fun _ z => z.1, fun b z => .inl (own2 b z)⟩ sr2 q⟩
/-- a, b = x, y: two plain locals, stored from the right -/
def sPar (i j : Nat) (fa fb : FE) : FS := fun D' env => fa (vN env) fun d => fb (vN env) fun d' => flat d = true ∧ flat d' = true ∧ D'.nx ((env.set i (some (.fr d))).set j (some (.fr d')))
theorem qs_par {i j : Nat} {x y : Str} {a b : Expr} {fa fb : FE} {px py pt : Pos} {kt k2 pt2} (ha : QE X a fa) (hb : QE X b fb) (hN : X.N.Nodup) (hc : X.calm = true := by rfl) (hi : X.N[i]? = some x := by rfl) (hj : X.N[j]? = some y := by rfl) (hij : i ≠ j := by decide)
    (hx : X.env.scope.names.lookup x = some .local := by rfl) (hy : X.env.scope.names.lookup y = some .local := by rfl) (hst : starEach [a, b] X.env = (false, eval a X.env) :: starEach [b] X.env := by rfl) (hst2 : starEach [b] X.env = (false, eval b X.env) :: starEach [] X.env := by rfl)
    (hw : swappedStores [.Tuple [.Name x px, .Name y py] kt pt] (.Tuple [a, b] k2 pt2) X.env = pure (some [x, y]) := by rfl)
    (hs : swapsWithSole [.Tuple [.Name x px, .Name y py] kt pt] (.Tuple [a, b] k2 pt2) pos.line X.env = pure false := by rfl) :
    QS X (.Assign [.Tuple [.Name x px, .Name y py] kt pt] (.Tuple [a, b] k2 pt2) pos) (sPar i j fa fb) :=
  PS.imp (ps_par hc hN hi hj hij hx hy (pa_cons ha (pa_cons hb pa_nil hst2) hst) hw hs) fun E σ H ⟨W, env, D', sr, h, ad⟩ =>
    ⟨W, vN env, _, sr.ok, sr.erN, h, fun v H1 d x1 r1 q1 => ⟨W, vN env, _, x1.ok, sr.erN.ext x1, q1, fun w H2 d' x2 r2 q2 => ⟨v, w, rfl, by
      have x3 := x1.trans x2
      have s1 := (sr.ext x3).setfr (i := i) ((r1.kp x2.kp).flat (S' := fun a => W.S a ∧ ¬ OwnA σ env a) q2.1)
      have s2 := s1.setfr (i := j) (r2.flat (S' := fun a => W.S a ∧ ¬ OwnA (σ.set i (some v)) (env.set i (some (.fr d))) a) q2.2.1)
      exact ad.nx _ _ _ ⟨x3.kp.sub fun _ z => z.1, fun b z => .inl (own_set_fr (own_set_fr z))⟩ s2 q2.2.2⟩⟩⟩

/-! ### defs -/
abbrev QSp := List D → (D → Prop) → Prop
def SpOf (sp : QSp) : Sp := fun vs H Q _ => ∃ (W : Wd) (ds : List D) (Q' : D → Prop), W.ok H ∧ RepAll W.S W.bx H ds vs ∧ sp ds Q' ∧ ∀ v H' d, Ext W H H' → W.Rep H' d v → Q' d → Q v H'
/-- a def of the text as it stands behind the top -/
def DefAt (K : PySem.W.Frag) (mg : Str → Option Value) (name : Str) (st : Stmt) (ps : List Str) : Prop := ∃ (f : Addr) (fd : FuncData), Fun K name name st f fd ∧ mg name = some (.ref f) ∧ Binds K fd ps []
/-- .. and what it keeps -/
def Callee (P : Program) (w : World) (K : PySem.W.Frag) (mg : Str → Option Value) (base : Heap) (name : Str) (k : Nat) (ps : List Str) (sp : QSp) : Prop :=
  ∃ (f : Addr) (fd : FuncData), FnOk P w K mg base CX0 k f fd ps (SpOf sp) ∧ mg name = some (.ref f) ∧ PySem.W.keepIn K (.ref f) = true ∧ Binds K fd ps []
def startS (n : Nat) (ds : List D) : SE := ds.map (fun d => some (.fr d)) ++ List.replicate (n - ds.length) none
theorem sRep_start {W : Wd} {H : Hp} {N : List Str} {ds : List D} {vs : List V} (ok : W.ok H) (r : RepAll W.S W.bx H ds vs) : SRep W (L2.start N vs) H (startS N.length ds) := by
  have noOw : ∀ (i : Nat) (d : D), (startS N.length ds)[i]? ≠ some (some (.ow d)) := fun i d e => by
    unfold startS at e
    by_cases h : i < (ds.map fun d => some (Sl.fr d)).length
    · rw [List.getElem?_append_left h, List.getElem?_map] at e
      cases q : ds[i]? with
      | none => rw [q] at e; cases e
      | some x => rw [q] at e; cases e
    · rw [List.getElem?_append_right (by omega), List.getElem?_replicate] at e
      split at e <;> cases e
  refine ⟨?_, ok, fun i d e => ?_, fun i d e => (noOw i d e).elim, fun i j d e a h => (noOw i d h).elim⟩
  · unfold startS L2.start
    rw [List.length_append, List.length_append, List.length_map, List.length_map, List.length_replicate, List.length_replicate, r.len]
  · unfold startS at e
    by_cases h : i < (ds.map fun d => some (Sl.fr d)).length
    · rw [List.getElem?_append_left h, List.getElem?_map] at e
      cases q : ds[i]? with
      | none => rw [q] at e; cases e
      | some x =>
        rw [q] at e
        cases e
        obtain ⟨v, e1, r1⟩ := r.get q
        refine ⟨v, ?_, r1.mono (fun a z => ⟨z, fun ⟨j, d', h1, _⟩ => noOw j d' h1⟩) (.refl _ _)⟩
        unfold L2.start
        rw [List.getElem?_append_left (by rw [List.length_map]; exact (List.getElem?_eq_some_iff.mp e1).1), List.getElem?_map, e1]
        rfl
    · rw [List.getElem?_append_right (by omega), List.getElem?_replicate] at e
      split at e <;> cases e
def fCallF (sp : QSp) (r : FA) : FE := fun env Q => r env fun ds => sp ds Q
theorem q_call {x : Str} {j k : Nat} {ps : List Str} {sp : QSp} {es : List Expr} {r : FA} {p : Pos} (C : Callee X.prog X.w X.K X.mg X.base x j ps sp) (hr : Room k X.A) (ha : QA X (e :: es) r) (hjk : j ≤ k := by decide) (hg : Gl X x := by rfl) (hdb : (x == ("__debug__" : Str)) = false := by decide)
    (he : starEach (e :: es) X.env = (false, eval e X.env) :: starEach es X.env := by rfl) (hpl : (backTo pos (starEach es X.env)).any (·.1) = false := by rfl) : QE X (.Call (.Name x p) (e :: es) [] pos) (fCallF sp r) := by
  obtain ⟨f, fd, G, hm, hk, hb⟩ := C
  refine PE.imp (pe_call G (hr.mono hjk) hg hm hk hb .nil pass0 ha hdb he hpl) fun σ H Q ⟨W, env, Q', ok, er, h, k⟩ => ?_
  exact ⟨W, env, _, ok, er, h, fun vs H1 ds x1 r1 q1 => by
    show SpOf sp (vs ++ []) H1 Q _
    rw [List.append_nil]
    exact ⟨W, ds, Q', x1.ok, r1, q1, fun v H' d x2 r2 q2 => k v H' d (x1.trans x2) r2 q2⟩⟩
theorem q_call0 {x : Str} {j k : Nat} {ps : List Str} {sp : QSp} {p : Pos} (C : Callee X.prog X.w X.K X.mg X.base x j ps sp) (hr : Room k X.A) (hjk : j ≤ k := by decide) (hg : Gl X x := by rfl) (hdb : (x == ("__debug__" : Str)) = false := by decide) : QE X (.Call (.Name x p) [] [] pos) (fCallF sp fNil) := by
  obtain ⟨f, fd, G, hm, hk, hb⟩ := C
  refine PE.imp (pe_call0 G (hr.mono hjk) hg hm hk hb .nil pass0 hdb) fun σ H Q ⟨W, env, Q', ok, er, h, k⟩ => ?_
  exact ⟨W, [], Q', ok, .nil, h, fun v H' d x2 r2 q2 => k v H' d x2 r2 q2⟩
end
section
variable {P : Program} {w : World} {K : PySem.W.Frag} {mg : Str → Option Value} {base : Heap}
theorem def_ok {name : Str} {st : Stmt} {ps N : List Str} {k : Nat} {sp : QSp} {FB : FS} (A : DefAt K mg name st ps) (S : FnScope N ps (defScope st)) (hl : ∀ ds Q, sp ds Q → ds.length = ps.length)
    (body : ∀ (f : Addr) (cdv : Value) (A : Around) (outer : List Env) (s : Shared) (H : Hp) (E : XK), Room k (A.deeper (envOfC name (defScope st) s.heap.objs.size f cdv)) → QSs (cxOf CX0 P w K mg base N name (defScope st) f cdv A outer s H E).nox (defBody st) FB)
    (h : ∀ ds Q, sp ds Q → FB { nx := fun _ => Q .none, rt := Q } (startS N.length ds)) : Callee P w K mg base name (k + 1) ps sp := by
  obtain ⟨f, fd, F, hm, hb⟩ := A
  refine ⟨f, fd, F.ok S (fun vs H Q E ⟨W, ds, Q', ok, r, q, _⟩ => ?_) (fun cdv A outer s H vs Q E hr ⟨W, ds, Q', ok, r, q, kk⟩ => ?_), hm, F.kp, hb⟩
  · rw [← r.len]; exact hl ds Q' q
  · have no : ∀ a, ¬ OwnA (L2.start N vs) (startS N.length ds) a := fun a z => by
      obtain ⟨i, d, e1, e2⟩ := z
      have sr : SRep W (L2.start N vs) H (startS N.length ds) := sRep_start ok r
      unfold startS at e1
      by_cases h : i < (ds.map fun d => some (Sl.fr d)).length
      · rw [List.getElem?_append_left h, List.getElem?_map] at e1
        cases q : ds[i]? with
        | none => rw [q] at e1; cases e1
        | some x => rw [q] at e1; cases e1
      · rw [List.getElem?_append_right (by omega), List.getElem?_replicate] at e1
        split at e1 <;> cases e1
    refine ⟨_, body f cdv A outer s H E hr, W, _, { nx := fun _ => Q' .none, rt := Q' }, sRep_start ok r, h ds Q' q, fun σ' H' env' s sr' q => ?_, fun _ _ _ _ _ z => z.elim, fun _ _ _ _ _ z => z.elim, fun v H' d kp ok' r' q => ?_⟩
    · exact kk .non H' .none ⟨s.kp.sub fun a z => ⟨z, no a⟩, sr'.ok⟩ .non q
    · exact kk v H' d ⟨kp.sub fun a z => ⟨z, no a⟩, ok'⟩ r' q
/-- a weaker promise -/
theorem Callee.imp {name : Str} {k : Nat} {ps : List Str} {sp sp' : QSp} (C : Callee P w K mg base name k ps sp) (h : ∀ ds Q, sp' ds Q → sp ds Q) : Callee P w K mg base name k ps sp' := by
  obtain ⟨f, fd, G, r⟩ := C
  exact ⟨f, fd, G.imp fun vs H Q E ⟨W, ds, Q', a, b, c, d⟩ => ⟨W, ds, Q', a, b, h _ _ c, d⟩, r⟩
end
end T2
set_option Elab.async false
set_option linter.all false
set_option maxRecDepth 100000
set_option autoImplicit false
namespace T2
open PySem L2 PySem.Spec PyProof.Rows

/-- true: without owned names; false: with them, the value then flat -/
def vw : Bool → SE → EV
  | true, env => vF env
  | false, env => vN env
def okM : Bool → D → Prop
  | true, _ => True
  | false, d => flat d = true
theorem tE_mode (m : Bool) {W : Wd} {σ : L2.St} {H : Hp} {env : SE} {fe : FE} {Q' : D → Prop} {Q : VK} (sr : SRep W σ H env) (h : fe (vw m env) fun d => okM m d ∧ Q' d)
    (k : ∀ v H1 d, Ext W H H1 → Rep (fun a => W.S a ∧ ¬ OwnA σ env a) W.bx H1 d v → Q' d → Q v H1) : tE fe σ H Q := by
  cases m with
  | true => exact ⟨W.less (OwnA σ env) H (fun _ z => sr.own z), vF env, _, less_ok sr.ok, sr.erF _, h, fun v H1 d x r q => k v H1 d (less_ext x) r q.2⟩
  | false => exact ⟨W, vN env, _, sr.ok, sr.erN, h, fun v H1 d x r q => k v H1 d x (r.flat q.1) q.2⟩
theorem own_kp {W : Wd} {σ : L2.St} {H : Hp} {env : SE} {a : Addr} {o o' : HO} (oa : OwnA σ env a) (hH : H a = some o) (hnt : ∀ xs, o ≠ .tup xs) : Kp (fun b => W.S b ∧ ¬ OwnA σ env b) H (L2.upd H a o') :=
  ⟨fun b u s e => by
    have hb : b ≠ a := fun z => by subst z; exact s.2 oa
    rw [upd_ne hb]; exact e, fun b xs e => by
    have hb : b ≠ a := fun z => by subst z; rw [hH] at e; exact hnt xs (Option.some.inj e)
    rw [upd_ne hb]; exact e⟩
/-- the state behind a change of what slot i owns -/
theorem SRep.change {W : Wd} {σ : L2.St} {H : Hp} {env : SE} {i : Nat} {d d' : D} {a : Addr} {o o' : HO} (r : SRep W σ H env) (hi : env[i]? = some (some (.ow d))) (ha : σ[i]? = some (some (V.ref a))) (hH : H a = some o) (hnt : ∀ xs, o ≠ .tup xs)
    (new : Own (fun b => W.S b ∧ ¬ OwnA σ env b) W.bx (upd H a o') d' a) : SRep W σ (upd H a o') (env.set i (some (.ow d'))) ∧ Stp W σ H env σ (upd H a o') (env.set i (some (.ow d'))) := by
  have hil : i < env.length := (List.getElem?_eq_some_iff.mp hi).1
  have oa : OwnA σ env a := ⟨i, d, hi, ha⟩
  have hS := (r.own oa).1
  have iff1 : ∀ b, OwnA σ (env.set i (some (.ow d'))) b → OwnA σ env b := fun b ⟨j, e, e1, e2⟩ => by
    by_cases hij : i = j
    · subst hij
      exact ⟨i, d, hi, e2⟩
    · rw [List.getElem?_set_ne hij] at e1
      exact ⟨j, e, e1, e2⟩
  have kp : Kp (fun b => W.S b ∧ ¬ OwnA σ env b) H (L2.upd H a o') := own_kp oa hH hnt
  have ok' : W.ok (upd H a o') := by
    refine ⟨fun b n k => ?_, fun b c e => ?_⟩
    · have hb : b ≠ a := fun z => by subst z; exact n hS
      rw [upd_ne hb]; exact r.ok.fz b n k
    · obtain ⟨ne, zs, ns, h1, h2, q⟩ := r.ok.box b c e
      have hb : b ≠ a := fun z => by subst z; exact (W.nS _ _ e).1 hS
      have hc : c ≠ a := fun z => by subst z; exact (W.nS _ _ e).2 hS
      exact ⟨ne, zs, ns, by rw [upd_ne hb]; exact h1, by rw [upd_ne hc]; exact h2, q⟩
  have sub : ∀ b, (W.S b ∧ ¬ OwnA σ env b) → (W.S b ∧ ¬ OwnA σ (env.set i (some (.ow d'))) b) := fun b z => ⟨z.1, fun q => z.2 (iff1 b q)⟩
  refine ⟨⟨by rw [List.length_set]; exact r.len, ok', fun j e he => ?_, fun j e he => ?_, fun j k d1 d2 b e1 e2 e3 e4 => ?_⟩, kp, fun b z => .inl (iff1 b z)⟩
  · by_cases hij : i = j
    · subst hij
      rw [List.getElem?_set_self hil] at he
      cases he
    · rw [List.getElem?_set_ne hij] at he
      obtain ⟨v, e1, r1⟩ := r.fr j e he
      exact ⟨v, e1, r1.mono sub kp⟩
  · by_cases hij : i = j
    · subst hij
      rw [List.getElem?_set_self hil] at he
      cases he
      exact ⟨a, ha, hS, new.mono sub (.refl _ _) rfl⟩
    · rw [List.getElem?_set_ne hij] at he
      obtain ⟨b, e1, s, o1⟩ := r.ow j e he
      have hb : b ≠ a := fun z => hij (r.inj i j d e a hi he ha (by rw [← z]; exact e1))
      exact ⟨b, e1, s, o1.mono sub kp (by rw [upd_ne hb])⟩
  · have f : ∀ {m : Nat} {dm : D}, (env.set i (some (.ow d')))[m]? = some (some (.ow dm)) → ∃ dm', env[m]? = some (some (.ow dm')) := fun {m dm} em => by
      by_cases hij : i = m
      · subst hij; exact ⟨d, hi⟩
      · rw [List.getElem?_set_ne hij] at em; exact ⟨dm, em⟩
    obtain ⟨_, f1⟩ := f e1
    obtain ⟨_, f2⟩ := f e2
    exact r.inj j k _ _ b f1 f2 e3 e4
/-- slot i takes a new object -/
theorem SRep.setow {W : Wd} {σ : L2.St} {H H1 : Hp} {env : SE} {i : Nat} {d : D} {p : Addr} (r0 : SRep W σ H env) (x : Ext W H H1) (hp : H p = none) (hi : i < σ.length) (new : Own (fun a => (W.S a ∧ ¬ OwnA σ env a) ∧ a ≠ p) W.bx H1 d p) :
    SRep W (σ.set i (some (.ref p))) H1 (env.set i (some (.ow d))) ∧ Stp W σ H env (σ.set i (some (.ref p))) H1 (env.set i (some (.ow d))) := by
  have r := r0.ext x
  obtain ⟨u, hu⟩ := new.there
  have hS : W.S p := r0.ok.fresh hp
  have npo : ¬ OwnA σ env p := fun z => by
    obtain ⟨_, o, e⟩ := r0.own z
    rw [hp] at e; cases e
  have hl : i < env.length := by rw [r.len]; exact hi
  have iff1 : ∀ b, OwnA (σ.set i (some (.ref p))) (env.set i (some (.ow d))) b → b = p ∨ OwnA σ env b := fun b ⟨j, e, e1, e2⟩ => by
    by_cases hij : i = j
    · subst hij
      rw [List.getElem?_set_self hi] at e2
      cases e2
      exact .inl rfl
    · rw [List.getElem?_set_ne hij] at e1 e2
      exact .inr ⟨j, e, e1, e2⟩
  have sub0 : ∀ b, ((W.S b ∧ ¬ OwnA σ env b) ∧ b ≠ p) → (W.S b ∧ ¬ OwnA (σ.set i (some (.ref p))) (env.set i (some (.ow d))) b) := fun b z => ⟨z.1.1, fun q => by
    rcases iff1 b q with q | q
    · exact z.2 q
    · exact z.1.2 q⟩
  have k : Kp (fun a => W.S a ∧ ¬ OwnA σ env a) H H1 := x.kp.sub fun _ z => z.1
  have kk : Kp (fun a => (W.S a ∧ ¬ OwnA σ env a) ∧ a ≠ p) H H1 := x.kp.sub fun _ z => z.1.1
  have tr : ∀ a u, (W.S a ∧ ¬ OwnA σ env a) → H a = some u → ((W.S a ∧ ¬ OwnA σ env a) ∧ a ≠ p) := fun a u s e => ⟨s, fun z => by rw [z, hp] at e; cases e⟩
  refine ⟨⟨by rw [List.length_set, List.length_set]; exact r.len, r.ok, fun j e he => ?_, fun j e he => ?_, fun j k d1 d2 b e1 e2 e3 e4 => ?_⟩, k, fun b z => ?_⟩
  · by_cases hij : i = j
    · subst hij
      rw [List.getElem?_set_self hl] at he
      cases he
    · rw [List.getElem?_set_ne hij] at he
      obtain ⟨v, e1, r1⟩ := r0.fr j e he
      exact ⟨v, by rw [List.getElem?_set_ne hij]; exact e1, ((r1.re tr).kp kk).mono sub0 (.refl _ _)⟩
  · by_cases hij : i = j
    · subst hij
      rw [List.getElem?_set_self hl] at he
      cases he
      exact ⟨p, by rw [List.getElem?_set_self hi], hS, new.mono sub0 (.refl _ _) rfl⟩
    · rw [List.getElem?_set_ne hij] at he
      obtain ⟨b, e1, s, o1⟩ := r0.ow j e he
      obtain ⟨ub, hb⟩ := o1.there
      refine ⟨b, by rw [List.getElem?_set_ne hij]; exact e1, s, ((o1.re tr).mono (fun _ z => z) kk (by rw [hb]; exact x.kp.keep _ _ s hb)).mono sub0 (.refl _ _) rfl⟩
  · have f : ∀ {m : Nat} {dm : D}, i ≠ m → (env.set i (some (.ow d)))[m]? = some (some (.ow dm)) → env[m]? = some (some (.ow dm)) := fun {m dm} h em => by
      rw [List.getElem?_set_ne h] at em; exact em
    have g : ∀ {m : Nat} {c : Addr}, i ≠ m → (σ.set i (some (.ref p)))[m]? = some (some (V.ref c)) → σ[m]? = some (some (V.ref c)) := fun {m c} h em => by
      rw [List.getElem?_set_ne h] at em; exact em
    by_cases h1 : i = j
    · by_cases h2 : i = k
      · rw [← h1, ← h2]
      · subst h1
        rw [List.getElem?_set_self hi] at e3
        cases e3
        exact absurd ⟨k, d2, f h2 e2, g h2 e4⟩ npo
    · by_cases h2 : i = k
      · subst h2
        rw [List.getElem?_set_self hi] at e4
        cases e4
        exact absurd ⟨j, d1, f h1 e1, g h1 e3⟩ npo
      · exact r.inj j k d1 d2 b (f h1 e1) (f h2 e2) (g h1 e3) (g h2 e4)
  · rcases iff1 b z with q | q
    · exact .inr (by rw [q]; exact hp)
    · exact .inl q

/-! ### fresh lists and dicts -/
def tL (f : FE) : TE := fun σ H Q => ∃ (W : Wd) (env : EV) (Q' : D → Prop), W.ok H ∧ ERep W σ H env ∧ f env Q' ∧ ∀ p H' d, Ext W H H' → H p = none → Own (fun a => W.S a ∧ a ≠ p) W.bx H' d p → Q' d → Q (.ref p) H'
abbrev QL (X : Cx) (e : Expr) (f : FE) : Prop := PE X e (tL f)
theorem ql_qe {X : Cx} {e : Expr} {f : FE} (h : QL X e f) : QE X e f := PE.imp h fun σ H Q ⟨W, env, Q', ok, er, h, k⟩ => ⟨W, env, Q', ok, er, h, fun p H' d x hp o q => k _ _ _ x ((o.mono (fun _ z => z.1) (.refl _ _) rfl).rep (ok.fresh hp)) q⟩
section
variable {X : Cx} {pos : Pos}
theorem ql_lst {es : List Expr} {r : FA} (h : QA X es r) : QL X (.List es pos) (fLst r) :=
  PE.imp (pe_lst h) fun σ H Q ⟨W, env, Q', ok, er, h, k⟩ => ⟨W, env, _, ok, er, h, fun vs H1 ds x1 r1 q1 => ⟨lim1 (by rw [← r1.len]; exact q1.1), fun p hp => by
    refine k p _ _ (x1.trans (.grow x1.ok (same_new hp))) (x1.back hp) (.lst upd_same ((r1.re fun a u s e => (⟨s, fun z => by rw [z, hp] at e; cases e⟩ : W.S a ∧ a ≠ p)).kp (.of (same_new hp))) (lim1 q1.1)) q1.2⟩⟩
def fDictK : FE := fun _ Q => Q (dKD [])
def fDictT : FE := fun _ Q => Q (dTD [])
theorem ql_dictK : QL X (.Dict [] [] pos) fDictK := PE.imp pe_dnewK fun σ H Q ⟨W, env, Q', ok, er, h, k⟩ => fun p hp => k p _ _ (.grow ok (same_new hp)) hp (.dK upd_same .nil) h
theorem ql_dictT : QL X (.Dict [] [] pos) fDictT := PE.imp pe_dnewT fun σ H Q ⟨W, env, Q', ok, er, h, k⟩ => fun p hp => k p _ _ (.grow ok (same_new hp)) hp (.dT upd_same .nil) h
/-- name = a new list or dict, owned -/
def sOwn (i : Nat) (fe : FE) : FS := fun D' env => fe (vF env) fun d => D'.nx (env.set i (some (.ow d)))
theorem sOwn_imp {i : Nat} {fe : FE} {N : Nat} (hi : ∀ σ : L2.St, σ.length = N → i < σ.length) : ∀ E σ H, σ.length = N → tS (sOwn i fe) E σ H → tAsg (tL fe) (gName i) E σ H := fun E σ H hN ⟨W, env, D', sr, h, a⟩ =>
  ⟨W.less (OwnA σ env) H (fun _ z => sr.own z), vF env, _, less_ok sr.ok, sr.erF _, h, fun p H1 d x hp o q => by
    obtain ⟨s1, s2⟩ := sr.setow (less_ext x) hp (hi σ hN) o
    exact a.nx _ _ _ s2 s1 q⟩
theorem PS.impN {X : Cx} {e : Stmt} {t t' : TS} (h : PS X e t) (k : ∀ D σ H, σ.length = X.N.length → t' D σ H → t D σ H) : PS X e t' := ⟨fun pins s σ H D I q => h.run pins s σ H D I (k D σ H I.len q)⟩
theorem qs_own {i : Nat} {x : Str} {e : Expr} {fe : FE} {pos' : Pos} (he : QL X e fe) (hN : X.N.Nodup) (hi : X.N[i]? = some x := by rfl) (hx : Loc X.env.scope x := by first | exact Or.inl rfl | exact Or.inr rfl) (hs : swapsWith e (some (.Name x pos')) pos.line X.env = pure false := by rfl)
    (hf : X.fn x = true ∨ X.env.scope.names.lookup x = some .local := by first | exact .inl rfl | exact .inr rfl) : QS X (.Assign [.Name x pos'] e pos) (sOwn i fe) :=
  PS.impN (ps_set hN hi hx he hs hf) fun E σ H hl h => sOwn_imp (N := X.N.length) (fun σ e => by rw [e]; exact (List.getElem?_eq_some_iff.mp hi).1) E σ H hl h

/-! ### what an owned list suffers -/
def ownL (env : SE) (i : Nat) (k : List D → Prop) : Prop := match env[i]? with
  | some (some (.ow (.list ds))) => k ds
  | _ => False
theorem ownL_of {env : SE} {i : Nat} {k : List D → Prop} (h : ownL env i k) : ∃ ds, env[i]? = some (some (.ow (.list ds))) ∧ k ds := by
  unfold ownL at h
  split at h
  · exact ⟨_, by assumption, h⟩
  · exact h.elim
theorem SRep.ownL {W : Wd} {σ : L2.St} {H : Hp} {env : SE} {i : Nat} {ds : List D} (r : SRep W σ H env) (h : env[i]? = some (some (.ow (.list ds)))) :
    ∃ a xs, σ[i]? = some (some (V.ref a)) ∧ W.S a ∧ H a = some (.lst xs) ∧ RepAll (fun a => W.S a ∧ ¬ OwnA σ env a) W.bx H ds xs ∧ ds.length ≤ sizeLine := by
  obtain ⟨a, e1, s, o⟩ := r.ow i _ h
  cases o with
  | lst h1 h2 h3 => exact ⟨a, _, e1, s, h1, h2, h3⟩
def sApp (m : Bool) (i : Nat) (fe : FE) : FS := fun D' env => ownL env i fun ds => fe (vw m env) fun d => okM m d ∧ ds.length < 16000000 ∧ D'.nx (env.set i (some (.ow (.list (ds ++ [d])))))
theorem qs_app (m : Bool) {i : Nat} {x : Str} {e : Expr} {fe : FE} {px apos cpos : Pos} (hx : PE X (.Name x px) (tVar i)) (he : QE X e fe)
    (hbase : attributeBase (.Name x px) "append" X.env (eval (.Name x px) X.env) = eval (.Name x px) X.env := by rfl)
    (hfew : ((backTo cpos (starEach [e] X.env)).all (fun x => !x.1) && (backToKw cpos (keywordEach [] X.env)).all (fun x => x.1.isSome)
      && decide ([e].length + ([] : List Keyword).length + (if ([] : List Keyword).isEmpty then 0 else 1) < 30)) = true := by rfl)
    (hline : (apos.endLine == cpos.line) = true := by rfl) (hs : starEach [e] X.env = (false, eval e X.env) :: starEach [] X.env := by rfl) (hplain : (backTo cpos (starEach [] X.env)).any (·.1) = false := by rfl)
    (hsw : swapsWith (.Call (.Attribute (.Name x px) "append" apos) [e] [] cpos) none pos.line X.env = pure false := by rfl) :
    QS X (.Expr (.Call (.Attribute (.Name x px) "append" apos) [e] [] cpos) pos) (sApp m i fe) :=
  PS.imp (ps_expr (pe_bm PySem.F.plainAttrs_list PySem.F.slot_list_append PySem.F.type_list_append mt_append hx (pa_cons he pa_nil hs) hbase hfew hline hs hplain) hsw) fun E σ H ⟨W, env, D', sr, h, ad⟩ => by
    obtain ⟨ds, hi, h⟩ := ownL_of h
    obtain ⟨a, xs, e1, s, e2, r, hl⟩ := sr.ownL hi
    refine ⟨.ref a, e1, .inl ⟨rfl, xs, .of e2⟩, ?_⟩
    refine tE_mode m sr h fun v H1 d x1 rd q => ?_
    have e3 := x1.kp.keep _ _ s e2
    refine ⟨a, xs, v, rfl, rfl, e3, Nat.lt_of_lt_of_le (by rw [← r.len]; exact q.1) (by decide : 16000000 ≤ sizeLine), ?_⟩
    have oa : OwnA σ env a := ⟨i, _, hi, e1⟩
    have kp : Kp (fun b => W.S b ∧ ¬ OwnA σ env b) H1 (L2.upd H1 a (.lst (xs ++ [v]))) := own_kp oa e3 (fun _ z => nomatch z)
    have r1 := (r.kp (x1.kp.sub fun _ z => z.1)).append (.cons rd .nil)
    obtain ⟨s1, s2⟩ := (sr.ext x1).change hi e1 e3 (fun _ z => nomatch z) (.lst upd_same (r1.kp kp) (lim (by rw [List.length_append]; exact q.1)))
    exact ad.nx _ _ _ ((Stp.of_ext x1).trans s2 x1.ok) s1 q.2
end
end T2
set_option Elab.async false
set_option linter.all false
set_option maxRecDepth 100000
set_option autoImplicit false
namespace T2
open PySem L2 PySem.Spec PyProof.Rows
section
variable {X : Cx} {pos : Pos}
/-! ### targets, by patterns -/
theorem pp_name {i : Nat} {x : Str} (hN : X.N.Nodup) (hi : X.N[i]? = some x := by rfl) (hx : Loc X.env.scope x := by first | exact Or.inl rfl | exact Or.inr rfl) (hf : X.fn x = true ∨ X.env.scope.names.lookup x = some .local := by first | exact .inl rfl | exact .inr rfl) : PG X (.Name x pos) (tPat X.K (.name i)) := by
  have h := pg_name (pos := pos) hN hi hx hf
  unfold tPat
  exact h
theorem pps_nil : PGs X [] (tPats X.K []) := by
  unfold tPats
  exact pgs_nil
theorem pps_cons {e : Expr} {es : List Expr} {p : Pat} {ps : List Pat} (h1 : PG X e (tPat X.K p)) (h2 : PGs X es (tPats X.K ps))
    (hs : (assignEach (e :: es) X.env).map (·.2) = assign e X.env :: (assignEach es X.env).map (·.2) := by rfl) : PGs X (e :: es) (tPats X.K (p :: ps)) := by
  unfold tPats
  exact pgs_cons h1 h2 hs
theorem pp_tup {es : List Expr} {k : Nat} {ps : List Pat} (h : PGs X es (tPats X.K ps)) (hc : X.calm = true := by rfl)
    (hn : (assignEach es X.env).length = ps.length := by rfl) (hst : (assignEach es X.env).findIdx? (·.1) = none := by rfl) : PG X (.Tuple es k pos) (tPat X.K (.tup ps)) := by
  unfold tPat
  exact pg_tup hc h hn hst
end
/-- a body's term of rules, for every entry -/
def Body (P : Program) (w : World) (K : PySem.W.Frag) (mg : Str → Option Value) (base : Heap) (name : Str) (st : Stmt) (N : List Str) (k : Nat) (FB : FS) : Prop :=
  ∀ (f : Addr) (cdv : Value) (A : Around) (outer : List Env) (s : Shared) (H : Hp) (E : XK), Room k (A.deeper (envOfC name (defScope st) s.heap.objs.size f cdv)) → QSs (cxOf CX0 P w K mg base N name (defScope st) f cdv A outer s H E).nox (defBody st) FB
/-- what a body's reading is to show -/
def Pure (n : Nat) (sp : QSp) (FB : FS) : Prop := ∀ ds Q, sp ds Q → FB { nx := fun _ => Q .none, rt := Q } (startS n ds)
theorem def_by {P : Program} {w : World} {K : PySem.W.Frag} {mg : Str → Option Value} {base : Heap} {name : Str} {st : Stmt} {ps N : List Str} {k : Nat} {sp : QSp} {FB : FS} (A : DefAt K mg name st ps) (S : FnScope N ps (defScope st)) (hl : ∀ ds Q, sp ds Q → ds.length = ps.length)
    (b : Body P w K mg base name st N k FB) (h : Pure N.length sp FB) : Callee P w K mg base name (k + 1) ps sp := def_ok A S hl b h
end T2
set_option Elab.async false
set_option linter.all false
set_option maxRecDepth 100000
set_option autoImplicit false
namespace T2
open PySem L2 PySem.Spec PyProof.Rows

/-! ### enumerate of a list, a tuple, a text -/
set_option maxHeartbeats 1000000 in
theorem meets_enum {v : Value} {o : Obj} {H : Heap → Prop} (B : Begins v o H) :
    Meets (Builtin.«enumerate.__new__» ⟨[.type "enumerate", v], []⟩) (fun _ R s => H s.heap ∧
      R (.ok (.ret (.ref (s.heap.push o).objs.size))) { s with heap := (s.heap.push o).push { cls := .type "enumerate", data := .fields #[.none, .bool false, .ref s.heap.objs.size, rawInt 0, .none, .none] } }) :=
  .of_wp fun prog w A R s h => by
    obtain ⟨hp, g, d, tk, os⟩ := s
    obtain ⟨hH, h⟩ := h
    have hsub := sub_enumerate
    have q1 : ∀ {A' : Around} {E : Value → Shared → Prop} {Q : Value → Shared → Prop}, Q (.ref hp.objs.size) ⟨hp.push o, g, d, tk, os⟩ → wpAny (model prog w) A' (pyIter v) Q E ⟨hp, g, d, tk, os⟩ :=
      fun q => B.iter prog w _ _ ⟨hp, g, d, tk, os⟩ _ hH q
    wp_walk using q1
    refine wpAny_stack_any fun st => wpAny_pure ?_
    split
    · rename_i c _ _ _ _ _
      cases (c == Value.type "enumerate")
      · wp_walk using q1
        exact ⟨_, rfl, h⟩
      · wp_walk using q1
        exact ⟨_, rfl, h⟩
    · wp_walk using q1
      exact ⟨_, rfl, h⟩
section
variable {prog : Program} {w : World} {A : Around} {E : Value → Shared → Prop} {s : Shared}
theorem call_enum {v : Value} {o : Obj} {H : Heap → Prop} {Q : Value → Shared → Prop} (B : Begins v o H) (h1 : H s.heap)
    (h : ∀ h', IsEnum h' (s.heap.objs.size + 1) s.heap.objs.size 0 .none → h'.get? s.heap.objs.size = some o → (∀ b u, s.heap.get? b = some u → h'.get? b = some u) → Q (.ref (s.heap.objs.size + 1)) { s with heap := h' }) :
    wpAny (model prog w) A (call (.type "enumerate") [v]) Q E s := by
  refine callType_new F.called_enumerate (by decide) (F.typeCall_enumerate_1 _) (F.newCall_enumerate_1 _) (fun obj => F.args_object_init_2 obj _) F.entry_enumerate_new (meets_enum B) ⟨h1, ?_⟩
  have hz : (s.heap.push o).objs.size = s.heap.objs.size + 1 := Heap.size_push ..
  show _ ∧ _
  rw [hz]
  have he : IsEnum ((s.heap.push o).push { cls := .type "enumerate", data := .fields #[.none, .bool false, .ref s.heap.objs.size, rawInt 0, .none, .none] }) (s.heap.objs.size + 1) s.heap.objs.size 0 .none := by
    have q := Heap.get?_push_size (s.heap.push o) (o := { cls := .type "enumerate", data := .fields #[.none, .bool false, .ref s.heap.objs.size, rawInt 0, .none, .none] }) rfl
    rw [hz] at q; exact q
  exact ⟨⟨_, he, rfl⟩, h _ he (Heap.get?_push_of_some _ (Heap.get?_push_size _ B.free)) fun b u x => Heap.get?_push_of_some _ (Heap.get?_push_of_some _ x)⟩
end
/-- what an enumerate over a source yields: (i, the i-th item) -/
def Iten (n : Nat) (G : Hp → Prop) (Y : Nat → Hp → V → Prop) : It :=
  ⟨fun i H => i < n ∧ G H, fun i H v H' => ∃ T x, v = .ref T ∧ H T = none ∧ H' = upd H T (.tup [.int (i : Nat), x]) ∧ Y i H x, fun i H => i = n ∧ G H⟩
/-- a source as the machine draws from it -/
structure Src (P : Program) (w : World) (K : PySem.W.Frag) (it : Addr) (n : Nat) (G : Hp → Prop) (Y : Nat → Hp → V → Prop) (St : Nat → Heap → Prop) : Prop where
  obj : ∀ i h, St i h → ∃ o, h.get? it = some o ∧ ∀ v, o.data ≠ .cell v
  keep : ∀ i h h', St i h → (∀ o, h.get? it = some o → h'.get? it = some o) → St i h'
  draws : ∀ (X : Cx), X.prog = P → X.w = w → X.K = K → X.calm = true → ∀ (i : Nat) (pins : List (Addr × Obj)) (s : Shared) (σ : L2.St) (H : Hp), Inv X pins σ H s → FpOk X pins H it → G H → St i s.heap →
    ∃ (fp : List Addr) (m : Nat) (Pr : Nat → Value → Prop) (Sh : Nat → Heap → Prop), m = n ∧ Draws P w X.A.in1 it fp m Pr Sh ∧ Sh i s.heap ∧ (∀ j h, Sh j h → St j h) ∧
      (∀ v, Pr i v → ∃ x, RelV x v ∧ Y i H x) ∧ ∀ e, e ≠ it → (∀ o, s.heap.get? e = some o → o.cls = .type "enumerate") → e < s.heap.objs.size → e ∉ fp
theorem turn_en {P : Program} {w : World} {K : PySem.W.Frag} {elts : List Expr} {kk : Nat} {tpos : Pos} {e it : Addr} {n : Nat} {G : Hp → Prop} {Y : Nat → Hp → V → Prop} {St : Nat → Heap → Prop} (S : Src P w K it n G Y St) :
    Turn P w K (.Tuple elts kk tpos) (Iten n G Y) [e, it] e (fun i h => (∃ old, IsEnum h e it ((i : Nat) : Int) old) ∧ St i h ∧ e ≠ it) where
  mem := by simp
  obj := fun i h ⟨⟨old, he⟩, st, _⟩ b hb => by
    have q : b = e ∨ b = it := by simpa using hb
    rcases q with z | z
    · rw [z]; exact ⟨_, he, fun v q => nomatch q⟩
    · rw [z]; exact S.obj i h st
  keep := fun i h h' ⟨⟨old, he⟩, st, hne⟩ k => ⟨⟨old, k e (by simp) _ he⟩, S.keep i h h' st fun o q => k it (by simp) o q, hne⟩
  item := by
    intro X hP hw hK hc i pins s σ H E I hf st hg
    obtain ⟨⟨old, he⟩, hs, hne⟩ := st
    obtain ⟨hi, hG⟩ := hg
    obtain ⟨fp, m, Pr, Sh, rfl, Dr, sh, back, val, apart⟩ := S.draws X hP hw hK hc i pins s σ H I (hf it (by simp)) hG hs
    subst hP hw hK
    have hel : e < s.heap.objs.size := Heap.lt_size he
    have hil : it < s.heap.objs.size := by
      obtain ⟨o, q, _⟩ := S.obj i _ hs
      exact Heap.lt_size q
    have hef := apart e hne (fun o q => by
      have q2 := q.symm.trans he
      cases q2; rfl) hel
    refine wpAny_pyNext_enum_itemD Dr he sh hi hne hef fun x h' tk hP ho hs' hT hsz hk => ?_
    obtain ⟨xv, rx, yx⟩ := val x hP
    refine ⟨_, rfl, wpAny_letOwnedTupleGo_enum (s := { s with heap := h', toks := tk + 1 }) ho fun h2 he' sb => ?_⟩
    have hT2 : h2.get? s.heap.objs.size = some { cls := .type "tuple", data := .seq #[.int i tk, x] } := (sb.2 _ (Nat.ne_of_gt hel)).trans hT
    have new : ObjOk X.prog X.w (upd H s.heap.objs.size (.tup [.int (i : Nat), xv])) h2 s.heap.objs.size (.tup [.int (i : Nat), xv]) :=
      ⟨by show 2 ≤ sizeLine; decide, [.int i tk, x], .cons ⟨_, rfl⟩ (.cons rx .nil), ⟨_, hT2, rfl, _, rfl⟩⟩
    have I1 : Inv X pins σ (upd H s.heap.objs.size (.tup [.int (i : Nat), xv])) { s with heap := h2, toks := tk + 1 } :=
      I.turnedNew (ch := [e, it]) (fun b ob hb q => (sb.2 b (fun z => hb (by simp [z]))).trans (hk b ob (fun z => hb (by simp [z])) (fun z => hb (by simp [z])) q)) hf (Nat.le_refl _) new
    have e1 : ((i + 1 : Nat) : Int) = (i : Int) + 1 := by omega
    refine ⟨.ref s.heap.objs.size, _, I1, rfl, ⟨_, xv, rfl, I.hok.fresh (Nat.le_refl _), rfl, yx⟩, ⟨⟨x, by rw [e1]; exact he'⟩, S.keep _ _ _ (back _ _ hs') fun o q => (sb.2 it (Ne.symm hne)).trans q, hne⟩, fun b hb => ?_⟩
    have hb' : b < s.heap.objs.size := by
      have q : b = e ∨ b = it := by simpa using hb
      rcases q with z | z
      · rw [z]; exact hel
      · rw [z]; exact hil
    rw [upd_ne (Nat.ne_of_lt hb')]
    exact (hf b hb).1
  done := by
    intro X hP hw hK hc i pins s σ H E I hf st hg
    obtain ⟨⟨old, he⟩, hs, hne⟩ := st
    obtain ⟨rfl, hG⟩ := hg
    obtain ⟨fp, m, Pr, Sh, rfl, Dr, sh, back, val, apart⟩ := S.draws X hP hw hK hc i pins s σ H I (hf it (by simp)) hG hs
    subst hP hw hK
    obtain ⟨f0, f1, f2, f3, f4, f5⟩ := hf it (by simp)
    exact wpAny_pyNext_enum_endD Dr he sh fun h' eb => ⟨rfl, I.turned (t' := s.toks) (fun b o hb q => eb b o hb q) f0 f1 f3 f4 f5⟩
  self := fun A i s Q E st h => let ⟨⟨_, he⟩, _⟩ := st; wpAny_pyIter_enum he h
theorem vals_back : ∀ {xs : List V} {us : List Value} {i : Nat} {u : Value}, Vals xs us → us[i]? = some u → ∃ x, RelV x u ∧ xs[i]? = some x
  | _, _, _, _, .nil, e => by simp at e
  | _, _, 0, _, .cons r _, e => by simp at e; subst e; exact ⟨_, r, rfl⟩
  | _, _, i + 1, _, .cons _ t, e => by
    obtain ⟨x, h1, h2⟩ := vals_back (i := i) t (by simpa using e)
    exact ⟨x, h1, by simpa using h2⟩
theorem cls_ne {o : Obj} {a b : String} (h1 : o.cls = .type a) (h2 : o.cls = .type b) (n : a ≠ b) : False := by
  rw [h1] at h2
  injection h2 with e
  exact n e
section
variable {P : Program} {w : World} {K : PySem.W.Frag} {it a : Addr} {xs : List V}
theorem src_list : Src P w K it xs.length (fun H => SqL K H a xs) (fun i _ x => xs[i]? = some x) (fun i h => h.IsListIter it a i) where
  obj := fun i h st => by
    obtain ⟨o, ho, hc, hd⟩ := st
    exact ⟨o, ho, fun v z => by rw [hd] at z; cases z⟩
  keep := fun i h h' st k => st.at fun o q => k o q
  draws := by
    intro X hP hw hK hc i pins s σ H I hf hG st
    subst hP hw hK
    obtain ⟨its, rv, p, hz⟩ := I.list hG
    have pl := p.isList
    have hne : a ≠ it := fun z => by
      obtain ⟨o, ho, hc', _⟩ := st
      obtain ⟨ol, hol, hcl, _⟩ := pl
      rw [z, ho] at hol
      cases hol
      exact cls_ne hc' hcl (by decide)
    refine ⟨[it, a], its.toArray.size, (fun i v => its.toArray[i]? = some v), (fun i h => h.IsListIter it a i ∧ h.IsList a its.toArray), ?_, Draws.list (show X.A.in1.handled = none from I.ok.hd hc) it a hne its.toArray, ⟨st, pl⟩, fun j h z => z.1, fun v hv => ?_, fun e he ho hl => ?_⟩
    · rw [List.size_toArray]; exact rv.length.symm
    · exact vals_back rv (by simpa using hv)
    · intro q
      have q : e = it ∨ e = a := by simpa using q
      rcases q with q | q
      · exact he q
      · obtain ⟨ol, hol, hcl, _⟩ := pl
        exact cls_ne (ho ol (by rw [q]; exact hol)) hcl (by decide)
theorem src_tup : Src P w K it xs.length (fun H => SqT K H a xs) (fun i _ x => xs[i]? = some x) (fun i h => h.IsTupleIter it a i) where
  obj := fun i h st => by
    obtain ⟨o, ho, hc, hd⟩ := st
    exact ⟨o, ho, fun v z => by rw [hd] at z; cases z⟩
  keep := fun i h h' st k => st.at fun o q => k o q
  draws := by
    intro X hP hw hK hc i pins s σ H I hf hG st
    subst hP hw hK
    obtain ⟨its, rv, p, hz⟩ := I.tuple hG
    have pl : s.heap.IsTuple a its.toArray := p
    have hne : a ≠ it := fun z => by
      obtain ⟨o, ho, hc', _⟩ := st
      obtain ⟨ol, hol, hcl, _⟩ := pl
      rw [z, ho] at hol
      cases hol
      exact cls_ne hc' hcl (by decide)
    refine ⟨[it, a], its.toArray.size, (fun i v => its.toArray[i]? = some v), (fun i h => h.IsTupleIter it a i ∧ h.IsTuple a its.toArray), ?_, Draws.tuple (show X.A.in1.handled = none from I.ok.hd hc) it a hne its.toArray, ⟨st, pl⟩, fun j h z => z.1, fun v hv => ?_, fun e he ho hl => ?_⟩
    · rw [List.size_toArray]; exact rv.length.symm
    · exact vals_back rv (by simpa using hv)
    · intro q
      have q : e = it ∨ e = a := by simpa using q
      rcases q with q | q
      · exact he q
      · obtain ⟨ol, hol, hcl, _⟩ := pl
        exact cls_ne (ho ol (by rw [q]; exact hol)) hcl (by decide)
theorem src_str (x : Str) (t : Tok) : Src P w K it x.cps.size (fun _ => True) (fun i _ v => ∃ c, x.cps[i]? = some c ∧ v = .str ⟨#[c]⟩) (fun i h => h.IsStrIter it (strIterType x) x t i) where
  obj := fun i h st => by
    obtain ⟨o, ho, hc, hd⟩ := st
    exact ⟨o, ho, fun v z => by rw [hd] at z; cases z⟩
  keep := fun i h h' st k => by
    obtain ⟨o, ho, r⟩ := st
    exact ⟨o, k o ho, r⟩
  draws := by
    intro X hP hw hK hc i pins s σ H I hf hG st
    subst hP hw hK
    refine ⟨[it], x.cps.size, (fun i v => ∃ c u, x.cps[i]? = some c ∧ v = .str ⟨#[c]⟩ u), (fun i h => h.IsStrIter it (strIterType x) x t i), rfl, Draws.text (show X.A.in1.handled = none from I.ok.hd hc) it x t, st, fun j h z => z, fun v hv => ?_, fun e he ho hl => ?_⟩
    · obtain ⟨c, u, h1, rfl⟩ := hv
      exact ⟨.str ⟨#[c]⟩, ⟨u, rfl⟩, c, h1, rfl⟩
    · simpa using he
end

/-! ### the walk itself -/
def iEn (K : PySem.W.Frag) (ta : TA) : TI := fun σ H R => ta σ H fun vs H1 =>
  (∃ a xs, vs = [.ref a] ∧ SqL K H1 a xs ∧ R (Iten xs.length (fun H => SqL K H a xs) fun i _ x => xs[i]? = some x) H1) ∨ (∃ a xs, vs = [.ref a] ∧ SqT K H1 a xs ∧ R (Iten xs.length (fun H => SqT K H a xs) fun i _ x => xs[i]? = some x) H1) ∨
  ∃ z, vs = [.str z] ∧ R (Iten z.cps.size (fun _ => True) fun i _ v => ∃ c, z.cps[i]? = some c ∧ v = .str ⟨#[c]⟩) H1
section
variable {X : Cx} {e : Expr} {p pos tpos : Pos} {elts : List Expr} {kk : Nat}
theorem en_begin {pins : List (Addr × Obj)} {σ : L2.St} {H : Hp} {s : Shared} {R : It → Hp → Prop} {v : Value} {o : Obj} {Hb : Heap → Prop} {n : Nat} {G : Hp → Prop} {Y : Nat → Hp → V → Prop} {St : Nat → Heap → Prop} (I : Inv X pins σ H s) (B : Begins v o Hb) (hb : Hb s.heap)
    (S : Src X.prog X.w X.K s.heap.objs.size n G Y St) (st : ∀ h' : Heap, h'.get? s.heap.objs.size = some o → St 0 h') (q : R (Iten n G Y) H) :
    wpAny (model X.prog X.w) X.A (call (.type "enumerate") [v]) (fun v s1 => wpAny (model X.prog X.w) X.A (pyIter v) (PIE X pins σ (.Tuple elts kk tpos) R) X.xe s1) X.xe s := by
  refine call_enum B hb fun h' he hit hk => wpAny_pyIter_enum he ?_
  have I2 : Inv X pins σ H { s with heap := h' } := I.kept (t' := s.toks) hk
  refine ⟨s.heap.objs.size + 1, [s.heap.objs.size + 1, s.heap.objs.size], _, _, H, rfl, I2, turn_en (e := s.heap.objs.size + 1) S, ⟨⟨.none, he⟩, st h' hit, Nat.succ_ne_self _⟩, fun b hb => ?_, q⟩
  have e' : b = s.heap.objs.size + 1 ∨ b = s.heap.objs.size := by simpa using hb
  have hle : s.heap.objs.size ≤ b := by
    rcases e' with z | z <;> (rw [z]; omega)
  exact I.fpOk hle (I.hok.fresh hle)
theorem pi_en {ta : TA} (hg : Gl X "enumerate") (hm : X.mg "enumerate" = none) (ha : PA X [e] ta) (hs : starEach [e] X.env = [(false, eval e X.env)]) :
    PI X (.Tuple elts kk tpos) (.Call (.Name "enumerate" p) [e] [] pos) (iEn X.K ta) := by
  refine ⟨fun pins s σ H R I h => ?_⟩
  refine Call_ (ld_blt I hg hm boot_enumerate (PyProof.Rows.callWith_type1 (thn (ha.run pos pins s σ H _ I h) fun us s1 ⟨vs, H1, I1, r1, q1⟩ => ?_) hs rfl))
  rcases q1 with ⟨a, xs, ex, hq, q⟩ | ⟨a, xs, ex, hq, q⟩ | ⟨z, ex, q⟩
  · subst ex
    obtain ⟨u, rfl, ru⟩ := vals1 r1
    cases ru
    obtain ⟨its, rv, p', hz⟩ := I1.list hq
    exact en_begin I1 (begins_list a its.toArray) p'.isList src_list (fun h' ho => ⟨_, ho, rfl, rfl⟩) q
  · subst ex
    obtain ⟨u, rfl, ru⟩ := vals1 r1
    cases ru
    obtain ⟨its, rv, p', hz⟩ := I1.tuple hq
    exact en_begin I1 (begins_tuple a its.toArray) p' src_tup (fun h' ho => ⟨_, ho, rfl, rfl⟩) q
  · subst ex
    obtain ⟨u, rfl, t, rfl⟩ := vals1 r1
    exact en_begin I1 (begins_text z t) trivial (src_str z t) (fun h' ho => ⟨_, ho, rfl, rfl⟩) q
/-- (i, the i-th item) -/
def enumD (ds : List D) : List D := ds.mapIdx fun i d => .tuple [.int (i : Nat), d]
theorem walks_en {S : Addr → Prop} {bx : Option Addr} {H : Hp} {n : Nat} {G : Hp → Prop} {Y : Nat → Hp → V → Prop} {ds : List D} (hn : n = ds.length) (hG : ∀ (S' : Addr → Prop) (H' : Hp), (∀ a o, S a → H a = some o → S' a) → Kp S' H H' → G H')
    (hY : ∀ (S' : Addr → Prop) (H' : Hp), (∀ a o, S a → H a = some o → S' a) → Kp S' H H' → ∀ i d x, ds[i]? = some d → Y i H' x → Rep S' bx H' d x) : Walks S bx (Iten n G Y) H (enumD ds) := fun S' H' hs kp => by
  have hl : (enumD ds).length = ds.length := by simp [enumD]
  refine ⟨fun i d e => ?_, by rw [hl]; exact ⟨hn.symm, hG S' H' hs kp⟩⟩
  unfold enumD at e
  rw [List.getElem?_mapIdx] at e
  cases q : ds[i]? with
  | none => rw [q] at e; cases e
  | some d0 =>
    rw [q] at e
    cases e
    refine ⟨⟨by rw [hn]; exact (List.getElem?_eq_some_iff.mp q).1, hG S' H' hs kp⟩, fun v H2 y => ?_⟩
    obtain ⟨T, x, rfl, hT, rfl, yx⟩ := y
    exact ⟨same_new hT, rep_new_tup hT (.cons (.int _) (.cons (hY S' H' hs kp i d0 x q yx) .nil)) (by show 2 ≤ sizeLine; decide)⟩
def fEnum (fa : FE) : FI := fun env Q => fa env fun x => seqD x fun ds => Q (enumD ds)
theorem qi_enum {fa : FE} (hm : X.mg "enumerate" = none) (ha : QE X e fa) (hg : Gl X "enumerate" := by rfl) (hs : starEach [e] X.env = [(false, eval e X.env)] := by rfl) : QI X (.Tuple elts kk tpos) (.Call (.Name "enumerate" p) [e] [] pos) (fEnum fa) :=
  PI.imp (pi_en hg hm (qa_cons ha qa_nil hs) hs) fun σ H R ⟨W, env, Q', ok, er, h, k⟩ => ⟨W, env, one fun x => seqD x fun ds => Q' (enumD ds), ok, er, h, fun vs H1 ds x1 r1 q1 => by
    obtain ⟨d, v, rfl, rv, q⟩ := one_of r1 q1
    have hl : ∀ ds : List D, (enumD ds).length = ds.length := fun ds => by simp [enumD]
    unfold seqD at q
    split at q
    · cases rv with
      | lst g0 g1 g2 g3 =>
        refine .inl ⟨_, _, rfl, .of g1, k _ _ _ x1 (walks_en g2.len.symm (fun S' H' hs kp => .of (kp.keep _ _ (hs _ _ g0 g1) g1)) fun S' H' hs kp i d x e y => ?_) (by rw [hl]; exact g3) q⟩
        obtain ⟨v, e1, r⟩ := ((g2.re hs).kp kp).get e
        have y' : _ = some x := y
        rw [e1] at y'
        cases y'
        exact r
    · cases rv with
      | tup g1 g2 g3 =>
        refine .inr (.inl ⟨_, _, rfl, .of g1, k _ _ _ x1 (walks_en g2.len.symm (fun S' H' hs kp => .of (kp.tup _ _ g1)) fun S' H' hs kp i d x e y => ?_) (by rw [hl]; exact g3) q⟩)
        obtain ⟨v, e1, r⟩ := ((g2.re hs).kp kp).get e
        have y' : _ = some x := y
        rw [e1] at y'
        cases y'
        exact r
    · cases rv with
      | str z g =>
        refine .inr (.inr ⟨_, rfl, k _ _ _ x1 (walks_en (by simp [signsD]) (fun _ _ _ _ => trivial) fun S' H' hs kp i d x e y => ?_) (by rw [hl]; unfold signsD; rw [List.length_map, ← str_len]; exact g) q⟩)
        obtain ⟨c, e1, rfl⟩ := y
        unfold signsD at e
        rw [List.getElem?_map, Array.getElem?_toList, e1] at e
        cases e
        exact .str _ (by show 1 ≤ sizeLine; decide)
    · exact q.elim⟩
end
end T2
set_option Elab.async false
set_option linter.all false
set_option maxRecDepth 100000
set_option autoImplicit false
namespace T2
open PySem L2 PySem.Spec PyProof.Rows

/-! ### keys -/
def kOf : D → Option Key
  | .int i => some (.inl i)
  | .str x => some (.inr x)
  | _ => none
def ksOf : List D → Option (List Key)
  | [] => some []
  | d :: ds => match kOf d, ksOf ds with
    | some a, some b => some (a :: b)
    | _, _ => none
def tOf : D → Option (List Key)
  | .tuple ds => ksOf ds
  | _ => none
def keyFor : Bool → D → Bool
  | false, d => (kOf d).isSome
  | true, d => (tOf d).isSome
theorem kOf_eq {d : D} {k : Key} (h : kOf d = some k) : d = keyD k := by
  cases d <;> simp [kOf] at h <;> subst h <;> rfl
theorem ksOf_eq : ∀ {ds : List D} {k : List Key}, ksOf ds = some k → ds = k.map keyD
  | [], k, h => by simp [ksOf] at h; subst h; rfl
  | d :: ds, k, h => by
    unfold ksOf at h
    split at h
    · rename_i a b h1 h2
      cases h
      rw [kOf_eq h1, ksOf_eq h2]; rfl
    · cases h
theorem kOf_keyD (k : Key) : kOf (keyD k) = some k := by cases k <;> rfl
theorem ksOf_map : ∀ k : List Key, ksOf (k.map keyD) = some k
  | [] => rfl
  | a :: k => by
    show (match kOf (keyD a), ksOf (k.map keyD) with | some a, some b => some (a :: b) | _, _ => none) = _
    rw [kOf_keyD, ksOf_map k]
theorem eqv_key (a b : Key) : PyData.eqv (keyD a) (keyD b) = decide (a = b) := by
  cases a with
  | inl i =>
    cases b with
    | inl j =>
      show PyData.eqv (.int i) (.int j) = _
      rw [PyData.eqv]
      by_cases h : i = j <;> simp [h]
    | inr y => show PyData.eqv (.int i) (.str y) = _; simp [PyData.eqv]
  | inr x =>
    cases b with
    | inl j => show PyData.eqv (.str x) (.int j) = _; simp [PyData.eqv]
    | inr y =>
      show PyData.eqv (.str x) (.str y) = _
      rw [PyData.eqv]
      by_cases h : x = y <;> simp [h]
theorem eqv_keys : ∀ a b : List Key, PyData.eqvAll (a.map keyD) (b.map keyD) = decide (a = b)
  | [], [] => by simp [PyData.eqvAll]
  | [], _ :: _ => by simp [PyData.eqvAll]
  | _ :: _, [] => by simp [PyData.eqvAll]
  | x :: a, y :: b => by
    rw [List.map_cons, List.map_cons, PyData.eqvAll, eqv_key, eqv_keys a b]
    by_cases h1 : x = y <;> by_cases h2 : a = b <;> simp [h1, h2]
theorem eqv_tkey (a b : List Key) : PyData.eqv (.tuple (a.map keyD)) (.tuple (b.map keyD)) = decide (a = b) := by
  rw [PyData.eqv, eqv_keys]

/-! ### what a dict holds -/
def lookD (kvs : List (D × D)) (k : D) : Option D := (kvs.find? fun p => PyData.eqv p.1 k).map (·.2)
def putD (kvs : List (D × D)) (k v : D) : List (D × D) := if (kvs.any fun p => PyData.eqv p.1 k) = true then kvs.map (fun p => if PyData.eqv p.1 k = true then (p.1, v) else p) else kvs ++ [(k, v)]
def RepO (S : Addr → Prop) (bx : Option Addr) (H : Hp) : Option D → Option V → Prop
  | some d, some v => Rep S bx H d v
  | none, none => True
  | _, _ => False
section
variable {S : Addr → Prop} {bx : Option Addr} {H : Hp}
theorem RepK.look (k : Key) : ∀ {kvs : List (D × D)} {ks : List (Key × V)}, RepK S bx H kvs ks → RepO S bx H (lookD kvs (keyD k)) (valV ks k)
  | _, _, .nil => trivial
  | _, _, .cons (k := k') (d := d) (v := v) (ds := ds) (vs := vs) a b => by
    by_cases h : k' = k
    · rw [valV_pos (p := (k', v)) h]
      have : lookD ((keyD k', d) :: ds) (keyD k) = some d := by
        unfold lookD
        rw [List.find?_cons, eqv_key, decide_eq_true h]; rfl
      rw [this]; exact a
    · rw [valV_neg (p := (k', v)) h]
      have : lookD ((keyD k', d) :: ds) (keyD k) = lookD ds (keyD k) := by
        unfold lookD
        rw [List.find?_cons, eqv_key, decide_eq_false h]
      rw [this]; exact RepK.look k b
theorem RepT.look (k : List Key) : ∀ {kvs : List (D × D)} {ks : List (List Key × V)}, RepT S bx H kvs ks → RepO S bx H (lookD kvs (.tuple (k.map keyD))) (valV ks k)
  | _, _, .nil => trivial
  | _, _, .cons (k := k') (d := d) (v := v) (ds := ds) (vs := vs) a b => by
    by_cases h : k' = k
    · rw [valV_pos (p := (k', v)) h]
      have : lookD ((.tuple (k'.map keyD), d) :: ds) (.tuple (k.map keyD)) = some d := by
        unfold lookD
        rw [List.find?_cons, eqv_tkey, decide_eq_true h]; rfl
      rw [this]; exact a
    · rw [valV_neg (p := (k', v)) h]
      have : lookD ((.tuple (k'.map keyD), d) :: ds) (.tuple (k.map keyD)) = lookD ds (.tuple (k.map keyD)) := by
        unfold lookD
        rw [List.find?_cons, eqv_tkey, decide_eq_false h]
      rw [this]; exact RepT.look k b
theorem RepK.any (k : Key) : ∀ {kvs : List (D × D)} {ks : List (Key × V)}, RepK S bx H kvs ks → (kvs.any fun p => PyData.eqv p.1 (keyD k)) = (ks.any fun kv => decide (kv.1 = k))
  | _, _, .nil => rfl
  | _, _, .cons _ b => by rw [List.any_cons, List.any_cons, eqv_key, RepK.any k b]
theorem RepT.any (k : List Key) : ∀ {kvs : List (D × D)} {ks : List (List Key × V)}, RepT S bx H kvs ks → (kvs.any fun p => PyData.eqv p.1 (.tuple (k.map keyD))) = (ks.any fun kv => decide (kv.1 = k))
  | _, _, .nil => rfl
  | _, _, .cons _ b => by rw [List.any_cons, List.any_cons, eqv_tkey, RepT.any k b]
theorem RepK.snoc {k : Key} {d : D} {v : V} (r : Rep S bx H d v) : ∀ {kvs : List (D × D)} {ks : List (Key × V)}, RepK S bx H kvs ks → RepK S bx H (kvs ++ [(keyD k, d)]) (ks ++ [(k, v)])
  | _, _, .nil => .cons r .nil
  | _, _, .cons a b => .cons a (RepK.snoc r b)
theorem RepT.snoc {k : List Key} {d : D} {v : V} (r : Rep S bx H d v) : ∀ {kvs : List (D × D)} {ks : List (List Key × V)}, RepT S bx H kvs ks → RepT S bx H (kvs ++ [(.tuple (k.map keyD), d)]) (ks ++ [(k, v)])
  | _, _, .nil => .cons r .nil
  | _, _, .cons a b => .cons a (RepT.snoc r b)
theorem RepK.rep {k : Key} {d : D} {v : V} (r : Rep S bx H d v) : ∀ {kvs : List (D × D)} {ks : List (Key × V)}, RepK S bx H kvs ks → RepK S bx H (kvs.map (fun p => if PyData.eqv p.1 (keyD k) = true then (p.1, d) else p)) (ks.map (fun kv => if kv.1 = k then (kv.1, v) else kv))
  | _, _, .nil => .nil
  | _, _, .cons (k := k') a b => by
    rw [List.map_cons, List.map_cons]
    by_cases h : k' = k
    · have e : PyData.eqv (keyD k') (keyD k) = true := by rw [eqv_key]; exact decide_eq_true h
      simp only [e, if_true]
      rw [if_pos h]
      exact .cons r (RepK.rep r b)
    · have e : PyData.eqv (keyD k') (keyD k) = false := by rw [eqv_key]; exact decide_eq_false h
      simp only [e, if_false, Bool.false_eq_true]
      rw [if_neg h]
      exact .cons a (RepK.rep r b)
theorem RepT.rep {k : List Key} {d : D} {v : V} (r : Rep S bx H d v) : ∀ {kvs : List (D × D)} {ks : List (List Key × V)}, RepT S bx H kvs ks → RepT S bx H (kvs.map (fun p => if PyData.eqv p.1 (.tuple (k.map keyD)) = true then (p.1, d) else p)) (ks.map (fun kv => if kv.1 = k then (kv.1, v) else kv))
  | _, _, .nil => .nil
  | _, _, .cons (k := k') a b => by
    rw [List.map_cons, List.map_cons]
    by_cases h : k' = k
    · have e : PyData.eqv (.tuple (k'.map keyD)) (.tuple (k.map keyD)) = true := by rw [eqv_tkey]; exact decide_eq_true h
      simp only [e, if_true]
      rw [if_pos h]
      exact .cons r (RepT.rep r b)
    · have e : PyData.eqv (.tuple (k'.map keyD)) (.tuple (k.map keyD)) = false := by rw [eqv_tkey]; exact decide_eq_false h
      simp only [e, if_false, Bool.false_eq_true]
      rw [if_neg h]
      exact .cons a (RepT.rep r b)
theorem RepK.put {k : Key} {d : D} {v : V} {kvs : List (D × D)} {ks : List (Key × V)} (r : Rep S bx H d v) (h : RepK S bx H kvs ks) : RepK S bx H (putD kvs (keyD k) d) (putK ks k v) := by
  unfold putD putK
  rw [h.any k]
  split
  · exact h.rep r
  · exact h.snoc r
theorem RepT.put {k : List Key} {d : D} {v : V} {kvs : List (D × D)} {ks : List (List Key × V)} (r : Rep S bx H d v) (h : RepT S bx H kvs ks) : RepT S bx H (putD kvs (.tuple (k.map keyD)) d) (putK ks k v) := by
  unfold putD putK
  rw [h.any k]
  split
  · exact h.rep r
  · exact h.snoc r
theorem RepK.len : ∀ {kvs : List (D × D)} {ks : List (Key × V)}, RepK S bx H kvs ks → kvs.length = ks.length
  | _, _, .nil => rfl
  | _, _, .cons _ b => by rw [List.length_cons, List.length_cons, RepK.len b]
theorem RepT.len : ∀ {kvs : List (D × D)} {ks : List (List Key × V)}, RepT S bx H kvs ks → kvs.length = ks.length
  | _, _, .nil => rfl
  | _, _, .cons _ b => by rw [List.length_cons, List.length_cons, RepT.len b]
end
/-- a datum that is a dict: of which kind, with which pairs -/
def dicD : D → Option (Bool × List (D × D))
  | .dict ((.bool b, .none) :: kvs) => some (b, kvs)
  | _ => none
theorem rep_key {S : Addr → Prop} {bx : Option Addr} {H : Hp} {d : D} {v : V} (r : Rep S bx H d v) : (∀ k, kOf d = some k → v = kV k) ∧ (∀ k, tOf d = some k → ∃ b, v = .ref b ∧ H b = some (.tup (k.map kV))) := by
  have flatK : ∀ {ds : List D} {xs : List V} {k : List Key}, RepAll S bx H ds xs → ksOf ds = some k → xs = k.map kV := by
    intro ds
    induction ds with
    | nil => intro xs k r e; cases r; simp [ksOf] at e; subst e; rfl
    | cons d ds ih =>
      intro xs k r e
      cases r with
      | cons a b =>
        unfold ksOf at e
        split at e
        · rename_i a1 b1 h1 h2
          cases e
          rw [ih b h2]
          cases a <;> simp [kOf, boxD] at h1 <;> subst h1 <;> rfl
        · cases e
  constructor
  · intro k e
    cases r <;> simp [kOf, boxD] at e <;> subst e <;> rfl
  · intro k e
    cases r with
    | tup h1 h2 h3 => exact ⟨_, rfl, by rw [h1, flatK h2 e]⟩
    | _ => simp [tOf, boxD] at e
/-- a dict looked up -/
theorem dget_of {S : Addr → Prop} {bx : Option Addr} {H : Hp} {d k : D} {v y : V} {b : Bool} {kvs : List (D × D)} (r : Rep S bx H d v) (rk : Rep S bx H k y) (e : dicD d = some (b, kvs)) (hk : keyFor b k = true) :
    ∃ a o, v = .ref a ∧ DGet H a y o ∧ RepO S bx H (lookD kvs k) o := by
  cases r with
  | @dK a ks kvs' h0 h1 h2 =>
    simp [dicD] at e
    obtain ⟨rfl, rfl⟩ := e
    obtain ⟨kk, ek⟩ := Option.isSome_iff_exists.mp hk
    have ey := (rep_key rk).1 kk ek
    subst ey
    rw [kOf_eq ek]
    exact ⟨a, _, rfl, .k h1, h2.look kk⟩
  | @dT a ks kvs' h0 h1 h2 =>
    simp [dicD] at e
    obtain ⟨rfl, rfl⟩ := e
    obtain ⟨kk, ek⟩ := Option.isSome_iff_exists.mp hk
    obtain ⟨p, rfl, hp⟩ := (rep_key rk).2 kk ek
    cases k with
    | tuple ds =>
      rw [ksOf_eq ek]
      exact ⟨a, _, rfl, .t h1 hp, h2.look kk⟩
    | _ => simp [tOf] at ek
  | _ => simp [dicD, boxD] at e
theorem RepO.isSome {S : Addr → Prop} {bx : Option Addr} {H : Hp} : ∀ {a : Option D} {b : Option V}, RepO S bx H a b → b.isSome = a.isSome
  | some _, some _, _ => rfl
  | none, none, _ => rfl
  | some _, none, h => h.elim
  | none, some _, h => h.elim
section
variable {X : Cx} {a b : Expr} {fa fb fc : FE} {pos : Pos}
def withD (d : D) (k : Bool → List (D × D) → Prop) : Prop := match dicD d with
  | some (b, kvs) => k b kvs
  | none => False
theorem withD_of {d : D} {k : Bool → List (D × D) → Prop} (h : withD d k) : ∃ b kvs, dicD d = some (b, kvs) ∧ k b kvs := by
  unfold withD at h
  split at h
  · exact ⟨_, _, by assumption, h⟩
  · exact h.elim
def oInD : O2 := fun d e Q => withD e fun b kvs => keyFor b d = true ∧ Q (.bool (lookD kvs d).isSome)
def oNotInD : O2 := fun d e Q => withD e fun b kvs => keyFor b d = true ∧ Q (.bool (!(lookD kvs d).isSome))
theorem op_oInD (hu : X.A.units + 64 < cLine) : OpR X (compareOp .In) (rO oInD) := by
  intro pins s σ H x y v u Q I rx ry ⟨S, bx, d, e, Q', fr, rd, re, h, k⟩
  obtain ⟨b, kvs, e1, hk, h⟩ := withD_of h
  obtain ⟨ad, o, rfl, g, ro⟩ := dget_of re rd e1 hk
  cases ry
  exact d_in (by omega) I g rx fun s' I' => ⟨.bl _, H, I', rfl, k _ _ _ (Same.refl _) (by rw [ro.isSome]; exact .bl _) h⟩
theorem op_oNotInD (hu : X.A.units + 64 < cLine) : OpR X (compareOp .NotIn) (rO oNotInD) := by
  intro pins s σ H x y v u Q I rx ry ⟨S, bx, d, e, Q', fr, rd, re, h, k⟩
  obtain ⟨b, kvs, e1, hk, h⟩ := withD_of h
  obtain ⟨ad, o, rfl, g, ro⟩ := dget_of re rd e1 hk
  cases ry
  exact d_notIn (by omega) I g rx fun s' I' => ⟨.bl _, H, I', rfl, k _ _ _ (Same.refl _) (by rw [ro.isSome]; exact .bl _) h⟩
def oIxD : O2 := fun d e Q => withD d fun b kvs => keyFor b e = true ∧ ∃ v, lookD kvs e = some v ∧ Q v
theorem q_dix (hu : X.A.units + 64 < cLine) (ha : QE X a fa) (hb : QE X b fb) (hs : NoSl b := by exact fun _ _ => rfl) : QE X (.Subscript a b pos) (fBin oIxD fa fb) :=
  PE.imp (pe_dget (by omega) ha hb hs) fun σ H Q ⟨W, env, Q', ok, er, h, k⟩ => ⟨W, env, _, ok, er, h, fun v H1 d x1 r1 q1 => ⟨W, env, _, x1.ok, er.ext x1, q1, fun w H2 e x2 r2 q2 => by
    obtain ⟨b, kvs, e1, hk, z, ez, q⟩ := withD_of q2
    obtain ⟨ad, o, rfl, g, ro⟩ := dget_of (r1.kp x2.kp) r2 e1 hk
    rw [ez] at ro
    cases o with
    | none => exact ro.elim
    | some vz => exact ⟨ad, vz, rfl, g, k _ _ _ (x1.trans x2) ro q⟩⟩⟩
end
end T2
set_option Elab.async false
set_option linter.all false
set_option maxRecDepth 100000
set_option maxHeartbeats 4000000
set_option autoImplicit false
namespace T2
open PySem L2 PySem.Spec PyProof.Rows HT

/-! ### += of tuples -/
section
variable {prog : Program} {w : World} {A : Around} {E : Value → Shared → Prop} {s : Shared}
theorem no_iadd_tuple : typeLookup (.type "tuple") (dunderI "add") = pure none := by
  with_unfolding_all rfl
theorem icat_tup {t b : Addr} {vs ws : List Value} {Q : Value → Shared → Prop} (ht : IsTup s.heap t vs.toArray) (hb : IsTup s.heap b ws.toArray)
    (h0 : vs = [] → Q (.ref b) s) (h1 : vs ≠ [] → ws = [] → Q (.ref t) s) (h2 : vs ≠ [] → ws ≠ [] → Q (.ref s.heap.objs.size) { s with heap := s.heap.push { cls := .type "tuple", data := .seq (vs ++ ws).toArray } })
    (hsz : vs.length + ws.length ≤ sizeLine) : wpAny (model prog w) A (inplaceOp .Add (.ref t) (.ref b)) Q E s := by
  obtain ⟨⟨cls, dd, data, sl⟩, ho, hc, n, hd⟩ := id ht
  obtain ⟨⟨cls2, dd2, data2, sl2⟩, ho2, hc2, n2, hd2⟩ := id hb
  simp only at hc hd hc2 hd2
  subst hc hd hc2 hd2
  have e : vs.toArray ++ ws.toArray = (vs ++ ws).toArray := by simp
  refine wpAny_inplaceOp_concat (T := "tuple") ⟨_, ho, rfl⟩ ⟨_, ho2, rfl⟩ no_iadd_tuple noFill_tuple_add seq_tuple_add ?_
  by_cases hv : vs = []
  · subst hv
    exact call_meets PySem.F.slot_tuple_add ⟨_, ho, rfl⟩ PySem.F.entry_tuple_add (PySem.F.args_tuple_add_2 _ _)
      (tuple_addW0 t b ([] : List Value).toArray ws.toArray n n2 dd dd2 sl sl2 (by simp)) ⟨ho, ho2, h0 rfl⟩
  by_cases hw : ws = []
  · exact call_meets PySem.F.slot_tuple_add ⟨_, ho, rfl⟩ PySem.F.entry_tuple_add (PySem.F.args_tuple_add_2 _ _)
      (tuple_addW1 t b vs.toArray ws.toArray n n2 dd dd2 sl sl2 (by simpa using hv) (by simp [hw])) ⟨ho, ho2, h1 hv hw⟩
  · refine call_meets PySem.F.slot_tuple_add ⟨_, ho, rfl⟩ PySem.F.entry_tuple_add (PySem.F.args_tuple_add_2 _ _)
      (tuple_addW2 t b vs.toArray ws.toArray n n2 dd dd2 sl sl2 (by simpa using hv) (by simpa using hw) (by rw [List.size_toArray, List.size_toArray]; exact hsz)) ⟨ho, ho2, ?_⟩
    rw [e]
    exact h2 hv hw

/-! ### t[::-1] -/
theorem fm_map {α β : Type} {f : α → Option β} {g : α → β} : ∀ {l : List α}, (∀ m ∈ l, f m = some (g m)) → l.filterMap f = l.map g
  | [], _ => rfl
  | a :: l, h => by
    rw [List.filterMap_cons, h a List.mem_cons_self, List.map_cons, fm_map fun m hm => h m (List.mem_cons_of_mem _ hm)]
theorem pick_rev (xs : Array Value) (n : Nat) (hn : n = xs.size) : ((List.range n).filterMap fun (m : Nat) => xs[((n : Int) - 1 + (m : Int) * (-1)).toNat]?).toArray = xs.toList.reverse.toArray := by
  congr 1
  subst hn
  apply List.ext_getElem?
  intro i
  have e : ((List.range xs.size).filterMap fun (m : Nat) => xs[((xs.size : Int) - 1 + (m : Int) * (-1)).toNat]?) = (List.range xs.size).map fun m => xs.toList.getD (xs.size - 1 - m) .none := by
    apply fm_map
    intro m hm
    have h := List.mem_range.mp hm
    have e1 : ((xs.size : Int) - 1 + (m : Int) * (-1)).toNat = xs.size - 1 - m := by omega
    rw [e1]
    have h2 : xs.size - 1 - m < xs.toList.length := by simp; omega
    rw [← Array.getElem?_toList, List.getElem?_eq_getElem h2]
    rw [List.getD_eq_getElem?_getD, List.getElem?_eq_getElem h2]
    rfl
  rw [e, List.getElem?_map]
  by_cases hi : i < xs.size
  · rw [List.getElem?_range hi, List.getElem?_reverse (by simpa using hi)]
    have h2 : xs.size - 1 - i < xs.toList.length := by simp; omega
    simp only [Option.map_some, Array.length_toList]
    rw [List.getD_eq_getElem?_getD, List.getElem?_eq_getElem h2]
    rfl
  · rw [List.getElem?_eq_none (by simpa using hi), List.getElem?_eq_none (by simpa using hi)]
    rfl
theorem getItem_tuple_rev {t sl : Addr} {items : Array Value} {vs : Value} {Q : Value → Shared → Prop} (ht : IsTup s.heap t items) (hs : s.heap.IsSliceOf sl .none .none vs) (pv : IsPart vs (some (-1)))
    (h : Q (.ref s.heap.objs.size) { s with heap := s.heap.push { cls := .type "tuple", data := .seq items.toList.reverse.toArray } })
    (hsz : items.size ≤ sizeLine) : wpAny (model prog w) A (getItem (.ref t) (.ref sl)) Q E s := by
  have htake : sizeOk (.seq items.toList.reverse.toArray) := by
    show items.toList.reverse.toArray.size ≤ sizeLine
    rw [List.size_toArray, List.length_reverse, Array.length_toList]
    exact hsz
  obtain ⟨os, hos, hcs, hds⟩ := id hs
  have hTs : s.TypeIs (.ref sl) "slice" := ⟨os, hos, hcs⟩
  unfold getItem
  try with_reducible refine wpAny_holding ?_
  first | refine wpAny_bind (wpAny_pure ?_) | skip
  refine wpAny_bind (wpAny_sequenceKey ht.typeIs (by decide) ?_)
  refine wpAny_bind (wpAny_callSpecial?_slot (name := Str.ofString "__getitem__") ht.typeIs PyProof.Rows.slot_tuple_getitem
    (wpAny_call_entry PyProof.Rows.slot_tuple_getitem ht.typeIs entry_tuple_getitem ?_ (args_tuple_getitem _ _)))
  show wpAny _ _ (Builtin.Tuple.tupleItemsOf (.ref t) >>= _) _ _ s
  refine wpAny_bind (tupleItemsOf_ ht ?_)
  refine wpAny_bind (wpAny_typeOf hTs ?_)
  rw [if_pos (by decide)]
  refine wpAny_bind ?_
  · unfold Builtin.Slice.sliceApplied Builtin.Slice.sliceFields
    refine wpAny_bind (wpAny_bind (wpAny_field hos hds (x := .none) rfl (wpAny_bind (wpAny_field hos hds (x := .none) rfl (wpAny_bind (wpAny_field hos hds (x := vs) rfl (wpAny_pure ?_)))))))
    refine wpAny_bind (slicePart_ pv ?_)
    show wpAny _ _ (if ((-1 : Int) == 0) = true then _ else _) _ _ s
    rw [if_neg (by decide)]
    refine wpAny_bind (slicePart_none (wpAny_bind (slicePart_none (wpAny_bind (wpAny_pure ?_)))))
    show wpAny _ _ (match Builtin.Slice.sliceAdjust none none (-1) (items.size : Int) with | (lo, hi) => pure (lo, (-1 : Int), Builtin.Slice.slicePlaces lo hi (-1))) _ _ s
    have ea : Builtin.Slice.sliceAdjust none none (-1) (items.size : Int) = ((items.size : Int) - 1, (-1 : Int)) := rfl
    rw [ea]
    have ep : Builtin.Slice.slicePlaces ((items.size : Int) - 1) (-1) (-1) = items.size := by
      unfold Builtin.Slice.slicePlaces
      have h1 : ¬ ((-1 : Int) > 0) := by omega
      have h2 : (-(-1 : Int)) = 1 := rfl
      simp only [h1, if_false, h2, Int.ediv_one]
      split <;> omega
    show wpAny _ _ (pure ((items.size : Int) - 1, (-1 : Int), Builtin.Slice.slicePlaces ((items.size : Int) - 1) (-1) (-1))) _ _ s
    rw [ep]
    refine wpAny_pure ?_
    have hno : ¬ ((((items.size : Int) - 1) == 0 && (-1 : Int) == 1 && items.size == items.size) = true) := by
      intro q
      rw [Bool.and_eq_true, Bool.and_eq_true] at q
      exact absurd q.1.2 (by decide)
    show wpAny _ _ (if (((items.size : Int) - 1) == 0 && (-1 : Int) == 1 && items.size == items.size) = true then _ else _) _ _ s
    rw [if_neg hno, pick_rev items _ rfl]
    first
      | exact wpAny_bind (m := Builtin.Tuple.tupleExact _) (wpAny_newObj_type (wpAny_pure ⟨_, rfl, wpAny_pure h⟩) htake)
      | exact wpAny_bind (m := Builtin.Tuple.tupleExact _) (wpAny_newObj_type (wpAny_bind (wpAny_pure (wpAny_pure ⟨_, rfl, wpAny_pure h⟩))) htake)
      | exact wpAny_bind (wpAny_bind (m := Builtin.Tuple.tupleExact _) (wpAny_newObj_type (wpAny_pure (wpAny_pure ⟨_, rfl, wpAny_pure h⟩)) htake))
      | exact wpAny_bind (wpAny_bind (m := Builtin.Tuple.tupleExact _) (wpAny_newObj_type (wpAny_pure ⟨_, rfl, wpAny_pure h⟩) htake))
end
theorem str_rev (x : Str) (u : Tok) : Txt.sliceBy x none none (-1, u) = ⟨x.cps.toList.reverse.toArray⟩ := by
  have h := step_rev_list x u
  have e : (Txt.sliceBy x none none (-1, u)).cps.toList = x.cps.toList.reverse := by
    rw [h]
    apply List.ext_getElem?
    intro i
    rw [List.getElem?_map]
    have hl : x.length = x.cps.toList.length := str_len x
    by_cases hi : i < x.length
    · rw [List.getElem?_range hi, List.getElem?_reverse (by omega)]
      have h2 : x.cps.toList.length - 1 - i < x.cps.toList.length := by omega
      simp only [Option.map_some]
      rw [← hl] at h2 ⊢
      have h3 : x.length - 1 - i < x.cps.size := by show _ < x.length; omega
      rw [Array.getD_eq_getD_getElem?, Array.getElem?_eq_getElem h3]
      simp
    · rw [List.getElem?_eq_none (by simpa using hi), List.getElem?_eq_none (by rw [List.length_reverse]; omega)]
      rfl
  cases hx : Txt.sliceBy x none none (-1, u) with
  | mk c =>
    rw [hx] at e
    congr 1
    apply Array.ext'
    rw [e]
section
variable {X : Cx} {e : Expr} {te : TE} {fe : FE} {k : Nat} {p1 p2 p3 pos : Pos}
def oRev (d : D) (Q : D → Prop) : Prop := match d with
  | .list xs => Q (.list xs.reverse)
  | .tuple xs => Q (.tuple xs.reverse)
  | .str x => Q (sD x.cps.toList.reverse)
  | _ => False
def tRev (te : TE) : TE := fun σ H Q => te σ H fun x H1 => ∃ (S : Addr → Prop) (bx : Option Addr) (d : D) (Q' : D → Prop), (∀ a, H1 a = none → S a) ∧ Rep S bx H1 d x ∧ oRev d Q' ∧ ∀ v H' z, Same H1 H' → Rep S bx H' z v → Q' z → Q v H'
theorem pe_rev (he : PE X e te) : PE X (.Subscript e (.Slice none none (some (.UnaryOp .USub (.Constant (.int 1) k p1) p2)) p3) pos) (tRev te) := by
  refine ⟨fun pins s σ H Q I h => ?_⟩
  refine Subscript_ (thn (he.run pins s σ H _ I h) fun v s1 ⟨x, H1, I1, r1, S, bx, d, Q', fr, rd, h, kk⟩ => ?_)
  have hst : PO X (some (.UnaryOp .USub (.Constant (.int 1) k p1) p2)) (tPart (tUn (rU fun i => .int (-i)) (tC (.int 1)))) := po_some (pe_un un_neg pe_int)
  refine wpAny_Slice (thn (po_none.run pins s1 σ H1 (fun o H2 => o = none ∧ H2 = H1) I1 ⟨rfl, rfl⟩) fun vl s2 ⟨l, H2, I2, pl, el, e2⟩ => ?_)
  subst el e2
  refine thn (po_none.run pins s2 σ H2 (fun o H3 => o = none ∧ H3 = H2) I2 ⟨rfl, rfl⟩) fun vu s3 ⟨u, H3, I3, pu, eu, e3⟩ => ?_
  subst eu e3
  refine thn (hst.run pins s3 σ H3 (fun o H4 => o = some (-1) ∧ H4 = H3) I3 ⟨1, rfl, -1, rfl, rfl, rfl⟩) fun vs s4 ⟨o, H4, I4, ps, eo, e4⟩ => ?_
  subst eo e4
  have I5 : Inv X pins σ H4 { s4 with heap := s4.heap.push { cls := .type "slice", data := .fields #[vl, vu, vs] } } := I4.kept (t' := s4.toks) fun b ob q => Heap.get?_push_of_some _ q
  have hsl := Heap.IsSliceOf.new s4.heap vl vu vs
  show wpAny (model X.prog X.w) X.A (subscriptTail e (.Slice none none (some (.UnaryOp .USub (.Constant (.int 1) k p1) p2)) p3) v (.ref s4.heap.objs.size)) (EP X pins σ Q) X.xe { s4 with heap := s4.heap.push { cls := .type "slice", data := .fields #[vl, vu, vs] } }
  unfold oRev at h
  split at h
  · cases rd with
    | @lst a xs _ g0 g1 g2 g3 =>
      cases r1
      obtain ⟨its, r, ht, hz⟩ := I5.list (.of g1)
      refine tail_any (ops := [.ref a, .ref s4.heap.objs.size]) ht.isList.typeIs (PySem.slot_list_getitem.lookup) ?_ (by with_unfolding_all rfl)
      refine wpAny_getItem_list_slice ht.isList hsl pl pu ps (by decide) ?_ (by rw [List.size_toArray]; have := r.length; omega)
      rw [PySem.W.krv_pick]
      have hp := I5.hok.fresh (Nat.le_refl _)
      refine ⟨.ref _, _, I5.laid (t' := s4.toks) (o := .lst xs.reverse) (fun b ob q => Heap.get?_push_of_some _ q) (Nat.le_refl _) ?_, rfl, kk _ _ _ (same_new hp) (rep_new_lst (fr _ hp) hp g2.reverse (by rw [List.length_reverse]; exact g3)) h⟩
      exact ⟨by rw [List.length_reverse]; exact hz, _, 0, r.reverse, Heap.get?_push_size _ rfl⟩
  · cases rd with
    | @tup a xs _ g1 g2 g3 =>
      cases r1
      obtain ⟨its, r, ht, hz⟩ := I5.tuple (.of g1)
      refine tail_any (ops := [.ref a, .ref s4.heap.objs.size]) ht.typeIs (PyProof.Rows.slot_tuple_getitem.lookup) ?_ (by with_unfolding_all rfl)
      cases pl
      cases pu
      refine getItem_tuple_rev ht hsl ps ?_ (by rw [List.size_toArray]; have := r.length; omega)
      have hp := I5.hok.fresh (Nat.le_refl _)
      refine ⟨.ref _, _, I5.laid (t' := s4.toks) (o := .tup xs.reverse) (fun b ob q => Heap.get?_push_of_some _ q) (Nat.le_refl _) ?_, rfl, kk _ _ _ (same_new hp) (rep_new_tup hp g2.reverse (by rw [List.length_reverse]; exact g3)) h⟩
      exact ⟨by rw [List.length_reverse]; exact hz, _, r.reverse, IsTup.new _ _⟩
  · rename_i x
    cases rd with
    | str _ g =>
      obtain ⟨t, rfl⟩ := r1
      cases pl
      cases pu
      obtain ⟨os, hos, hcs, hds⟩ := hsl
      cases ps with
      | int _ t2 =>
        refine tail_any (ops := [.str x t, .ref s4.heap.objs.size]) (typeIs_str _ _ _) (PySem.F.slot_str_getitem.lookup) ?_ (by with_unfolding_all rfl)
        refine wpAny_getItem_str_slice (l := none) (u := none) (st := some (-1, t2)) ⟨os, hos, hcs, hds⟩ rfl ?_
        have hlen : (Txt.sliceBy x none none (-1, t2)).length ≤ sizeLine := Nat.le_trans (Txt.sliceBy_le x _ _ _ (by show (-1 : Int) ≠ 0; decide)) g
        refine post_val_or_str ⟨hlen, fun t' c => ⟨.str (Txt.sliceBy x none none (-1, t2)), H4, I5.tok _, ⟨_, rfl⟩, kk _ _ (sD x.cps.toList.reverse) (Same.refl _) ?_ h⟩⟩
        rw [str_rev] at hlen ⊢
        exact .str _ hlen
  · exact h.elim
def fRev (fe : FE) : FE := fun env Q => fe env fun x => oRev x Q
theorem q_rev (he : QE X e fe) : QE X (.Subscript e (.Slice none none (some (.UnaryOp .USub (.Constant (.int 1) k p1) p2)) p3) pos) (fRev fe) :=
  PE.imp (pe_rev he) fun σ H Q ⟨W, env, Q', ok, er, h, k⟩ => ⟨W, env, _, ok, er, h, fun v H1 d x1 r1 q1 => ⟨W.S, W.bx, d, _, fun a n => x1.ok.fresh n, r1, q1, fun z H4 zd g r4 q4 => k _ _ _ (x1.trans (.grow x1.ok g)) r4 q4⟩⟩
end
end T2
set_option Elab.async false
set_option linter.all false
set_option maxRecDepth 100000
set_option maxHeartbeats 4000000
set_option autoImplicit false
namespace T2
open PySem L2 PySem.Spec PyProof.Rows PySem.W

/-! ### sorted of a tuple, of a dict's keys -/
section
variable {X : Cx} {e : Expr} {es : List Expr} {r : FA} {pos p : Pos}
theorem sorted_any (hu : X.A.units + 64 < cLine) {pins : List (Addr × Obj)} {s : Shared} {σ : L2.St} {H : Hp} {v : Value} {S : Addr → Prop} {bx : Option Addr} {ds : List D} {Q : VK} (I : Inv X pins σ H s) (hall : allOk ds) (hz : ds.length ≤ sizeLine)
    (hc : ∀ R : List Value → Shared → Prop, (∀ h' tk vs xs, (∀ b o, s.heap.get? b = some o → h'.get? b = some o) → Vals xs vs → RepAll S bx H ds xs → R vs { s with heap := h', toks := tk }) → wpAny (model X.prog X.w) X.A.in1 (collect v) R X.xe s)
    (hq : ∀ p ys, H p = none → RepAll S bx H (sortD ds) ys → (sortD ds).length ≤ sizeLine → Q (.ref p) (upd H p (.lst ys))) :
    wpAny (model X.prog X.w) X.A (call (.builtin "sorted") [v]) (EP X pins σ Q) X.xe s := by
  obtain ⟨a1, a2, a3⟩ := hall
  refine Calls.call_function_entry PyProof.Rows.kind_sorted PyProof.Rows.plain_sorted PyProof.Rows.entry_sorted (PyProof.Rows.args_sorted1 _) ?_
  unfold Builtin.«sorted»
  refine wpAny_bind (m := checkCount "sorted" 1 1 _) (wpAny_pure ?_)
  refine wpAny_bind (hc _ fun h' tk vs xs hk rv rd => ?_)
  have I1 : Inv X pins σ H { s with heap := h', toks := tk } := I.kept hk
  have hlen : vs.length = ds.length := by rw [← rv.length, rd.len]
  refine wpAny_bind (wpAny_newList ?_ (by rw [hlen]; exact hz))
  have hoL : (h'.push (seqObj "list" vs.toArray 0)).get? h'.objs.size = some (seqObj "list" vs.toArray 0) := Heap.get?_push_size _ rfl
  show wpAny _ _ _ _ _ { s with heap := h'.push (seqObj "list" vs.toArray 0), toks := tk }
  have keep : ∀ b o, h'.get? b = some o → (sortingHeap (h'.push (seqObj "list" vs.toArray 0)) h'.objs.size vs).get? b = some o := fun b o q => by
    have hb : b < h'.objs.size := Heap.lt_size q
    exact sortingHeap_old (Nat.ne_of_lt hb) (Heap.get?_push_of_some _ q)
  obtain ⟨e1, e2⟩ := each_of (s := { s with heap := h', toks := tk }) I1 rd rv fun d hd => (a1 d hd).1
  have er' : PySem.W.EachIs (fun v d => ∃ as, Reads (sortingHeap (h'.push (seqObj "list" vs.toArray 0)) h'.objs.size vs) v (id d) as) vs ds := e2.mono fun _ _ ⟨as, r⟩ => ⟨as, PyProof.Rows.Reads.keeps keep r⟩
  refine wpAny_bind (wpAny_holding (PySem.wpAny_call_entry PyProof.Rows.slot_list_sort ⟨_, hoL, rfl⟩ PyProof.Rows.entry_list_sort
    (PySem.W.list_sort_vals (s := { s with heap := h'.push (seqObj "list" vs.toArray 0), toks := tk }) (κ := PySem.W.dataKind (sortingHeap (h'.push (seqObj "list" vs.toArray 0)) h'.objs.size vs) (ds.map id)) hoL
      (PySem.W.SortsAt.data (s := { s with heap := sortingHeap (h'.push (seqObj "list" vs.toArray 0)) h'.objs.size vs, toks := tk }) (PySem.W.each_map (R := fun v d => ∃ as, Reads (sortingHeap (h'.push (seqObj "list" vs.toArray 0)) h'.objs.size vs) v d as) id er') (by simpa using a2) (by simpa using a3)
        (PySem.W.bound_map fun d hd => by have := (a1 d hd).2; show X.A.units + 2 + d.depth < cLine; omega)) (by rw [hlen]; exact hz) ⟨_, rfl, ?_⟩)
    (PyProof.Rows.args_list_sort _)))
  have eo := PySem.W.sortVals_data false e1 er' (by simpa using a2)
  obtain ⟨ys, v1, v2⟩ := each_back eo
  obtain ⟨ep, he'⟩ := PyProof.Rows.sortedHeap_at (vs := vs) (out := (PySem.W.sortVals (PySem.W.dataKind (sortingHeap (h'.push (seqObj "list" vs.toArray 0)) h'.objs.size vs) (ds.map id)) false vs vs).toArray) hoL
  have hl2 : ys.length ≤ sizeLine := by rw [v1.length, PySem.W.sortVals_length false rfl, hlen]; exact hz
  have hp : H h'.objs.size = none := I1.hok.fresh (Nat.le_refl _)
  refine wpAny_pure ⟨_, rfl, .ref h'.objs.size, upd H h'.objs.size (.lst ys), I1.laid (t' := tk) (fun b u e => ?_) (Nat.le_refl _) ⟨hl2, _, ep, v1, he'⟩, rfl, hq _ _ hp v2 (by
    show (ds.mergeSort _).length ≤ sizeLine
    rw [List.length_mergeSort]; exact hz)⟩
  have hb : b < h'.objs.size := Heap.lt_size e
  show (sortedHeap (h'.push (seqObj "list" vs.toArray 0)) h'.objs.size vs _).get? b = some u
  rw [PyProof.Rows.sortedHeap_old (Nat.ne_of_lt hb) (by rw [size_push']; exact Nat.lt_succ_of_lt hb)]
  exact Heap.get?_push_of_some _ e
/-- of a list or a tuple -/
def oSort2 : OC := fun ds Q => match ds with
  | [.list xs] => allOk xs ∧ Q (.list (sortD xs))
  | [.tuple xs] => allOk xs ∧ Q (.list (sortD xs))
  | _ => False
theorem c_oSort2 (hu : X.A.units + 64 < cLine) : CallR X (.builtin "sorted") (rC oSort2) := by
  intro pins s σ H vs us Q I rv ⟨S, bx, ds, Q', fr, rd, h, k⟩
  unfold oSort2 at h
  split at h
  · exact c_oSorted hu pins s σ H vs us Q I rv ⟨S, bx, _, Q', fr, rd, h, k⟩
  · obtain ⟨v, rfl, r⟩ := rep1 rd
    cases r with
    | @tup a ws _ g1 g2 g3 =>
      obtain ⟨u, rfl, ru⟩ := vals1 rv
      cases ru
      obtain ⟨its, rw', ⟨o, ho, hcls, n, hd⟩, hz⟩ := I.tuple (.of g1)
      refine sorted_any hu I h.1 g3 (fun R hR => ?_) fun p ys hp ry hl => k _ _ _ (same_new hp) (rep_new_lst (fr _ hp) hp ry hl) h.2
      refine wpAny_collect_seq a (.inr rfl) ho hcls hd (fun h' hk => ?_) (by rw [List.size_toArray]; have := rw'.length; omega)
      exact hR h' s.toks its ws hk rw' g2
  · exact h.elim
theorem q_sort2 (hu : X.A.units + 64 < cLine) (hm : X.mg "sorted" = none) (ha : QA X (e :: es) r) (hg : Gl X "sorted" := by rfl) (he : starEach (e :: es) X.env = (false, eval e X.env) :: starEach es X.env := by rfl) (hpl : (backTo pos (starEach es X.env)).any (·.1) = false := by rfl) : QE X (.Call (.Name "sorted" p) (e :: es) [] pos) (fCall oSort2 r) :=
  q_callB (c_oSort2 hu) boot_sorted hm ha hg (by decide) (by decide) he hpl

def fitK : D → Bool
  | .str x => decide (x.cps.toList.length ≤ 16000000)
  | .tuple ds => decide (ds.length ≤ 16000000) && ds.all fun d => match d with
    | .str x => decide (x.cps.toList.length ≤ 16000000)
    | _ => true
  | _ => true
theorem rep_key1 {S : Addr → Prop} {bx : Option Addr} {H : Hp} (k : Key) (h : fitK (keyD k) = true) : Rep S bx H (keyD k) (kV k) := by
  cases k with
  | inl i => exact .int i
  | inr x =>
    have h' : decide (x.cps.toList.length ≤ 16000000) = true := h
    exact .str x (by rw [str_len]; exact lim (of_decide_eq_true h'))
theorem rep_keys {S : Addr → Prop} {bx : Option Addr} {H : Hp} : ∀ (k : List Key), ((k.map keyD).all fun d => match d with
    | .str x => decide (x.cps.toList.length ≤ 16000000)
    | _ => true) = true → RepAll S bx H (k.map keyD) (k.map kV)
  | [], _ => .nil
  | a :: k, h => by
    rw [List.map_cons, List.all_cons, Bool.and_eq_true] at h
    refine .cons (rep_key1 a ?_) (rep_keys k h.2)
    cases a with
    | inl i => rfl
    | inr x => exact h.1
def oSortedD : OC := fun ds Q => match ds with
  | [d] => withD d fun _ kvs => allOk (kvs.map (·.1)) ∧ (∀ p ∈ kvs, fitK p.1 = true) ∧ kvs.length ≤ 16000000 ∧ Q (.list (sortD (kvs.map (·.1))))
  | _ => False
theorem repK_keys {S : Addr → Prop} {bx : Option Addr} {H : Hp} : ∀ {kvs : List (D × D)} {ks : List (Key × V)}, RepK S bx H kvs ks → (∀ p ∈ kvs, fitK p.1 = true) → RepAll S bx H (kvs.map (·.1)) (ks.map fun kv => kV kv.1)
  | _, _, .nil, _ => .nil
  | _, _, .cons (k := k) _ b, h => .cons (rep_key1 k (h _ List.mem_cons_self)) (repK_keys b fun p hp => h p (List.mem_cons_of_mem _ hp))
theorem repT_keys {S : Addr → Prop} {bx : Option Addr} {H : Hp} : ∀ {kvs : List (D × D)} {ks : List (List Key × V)} {bs : List Addr}, RepT S bx H kvs ks → IsKeys H ks bs → (∀ p ∈ kvs, fitK p.1 = true) → RepAll S bx H (kvs.map (·.1)) (bs.map V.ref)
  | _, _, _, .nil, q, _ => by cases q; exact .nil
  | _, _, _, .cons (k := k) _ b, q, h => by
    cases q with
    | cons q1 q2 =>
      have h1 := h _ List.mem_cons_self
      have h2 : (decide ((k.map keyD).length ≤ 16000000) && (k.map keyD).all fun d => match d with
        | .str x => decide (x.cps.toList.length ≤ 16000000)
        | _ => true) = true := h1
      rw [Bool.and_eq_true] at h2
      exact .cons (.tup q1 (rep_keys k h2.2) (lim (of_decide_eq_true h2.1))) (repT_keys b q2 fun p hp => h p (List.mem_cons_of_mem _ hp))
theorem c_oSortedD (hc : X.calm = true) (hu : X.A.units + 64 < cLine) : CallR X (.builtin "sorted") (rC oSortedD) := by
  intro pins s σ H vs us Q I rv ⟨S, bx, ds, Q', fr, rd, h, k⟩
  unfold oSortedD at h
  split at h
  · obtain ⟨v, rfl, r⟩ := rep1 rd
    obtain ⟨b, kvs, e1, hall, hfit, hl, h⟩ := withD_of h
    obtain ⟨u, rfl, ru⟩ := vals1 rv
    have hlz : (kvs.map (·.1)).length ≤ sizeLine := by rw [List.length_map]; exact lim hl
    cases r with
    | @dK a ks kvs' h0 h1 h2 =>
      simp [dicD] at e1
      obtain ⟨rfl, rfl⟩ := e1
      cases ru
      obtain ⟨z, lo, ws, rk, hd⟩ := (show ObjOk X.prog X.w H s.heap a (.dK ks) from I.hok a _ h1)
      obtain ⟨ep, hat⟩ := hd.dictAt
      have hl2 : ks.length = ws.length := Paired.length rk
      refine sorted_any hu I hall hlz (fun R hR => ?_) fun p ys hp ry hl => k _ _ _ (same_new hp) (rep_new_lst (fr _ hp) hp ry hl) h
      refine PySem.W.kdu_collect (A := X.A.in1) (PySem.W.kdl_dict (knd := mixKind X.prog X.w) (kvs := ws) (ep := ep) lo) (I.ok.hd hc) hat (by rw [← hl2]; exact z) fun h' tk acc hk hacc => ?_
      refine hR h' tk acc.toList _ hk ?_ (repK_keys h2 hfit)
      have el : acc.toList.length = acc.size := by simp
      refine vals_of_at (by rw [List.length_map, el, hacc.1, hl2]) fun j x w h1 h2 => ?_
      obtain ⟨kk, y, hky, hi⟩ := hacc.2 j w (by rw [← Array.getElem?_toList]; exact h2)
      have e1 : (ks.map (·.1))[j]? = some kk := by
        rw [KV.keys rk, List.getElem?_map, hky] <;> rfl
      have e2 : (ks.map fun kv => kV kv.1)[j]? = some (kV kk) := by
        have e3 : (ks.map fun kv => kV kv.1) = (ks.map (·.1)).map kV := by rw [List.map_map] <;> rfl
        rw [e3, List.getElem?_map, e1] <;> rfl
      rw [e2] at h1
      cases h1
      exact keyIs_rel hi
    | @dT a kvs0 kvs' h0 h1 h2 =>
      simp [dicD] at e1
      obtain ⟨rfl, rfl⟩ := e1
      cases ru
      obtain ⟨z, hs, ks, pr, o, es, ep, ho, hx, hdt, he, hn⟩ := (show ObjOk X.prog X.w H s.heap a (.dT kvs0) from I.hok a _ h1)
      have l1 : es.size = ks.length := size_of_entries he
      have l2 : kvs0.length = ks.length := Paired.length pr
      refine sorted_any hu I hall hlz (fun R hR => ?_) fun p ys hp ry hl => k _ _ _ (same_new hp) (rep_new_lst (fr _ hp) hp ry hl) h
      refine PySem.W.kdu_collect (A := X.A.in1) (kdl_raw hs hx hdt) (I.ok.hd hc) ho (by omega) fun h' tk acc' kp it => ?_
      have ea : acc'.toList = ks.map fun x => Value.ref x.2.1 := by
        have hl : acc'.toList.length = ks.length := by rw [Array.length_toList, it.1]; exact l1
        apply List.ext_getElem?
        intro j
        rw [List.getElem?_map]
        cases hj : acc'.toList[j]? with
        | none =>
          have h1 := List.getElem?_eq_none_iff.mp hj
          rw [List.getElem?_eq_none (by omega)]
          all_goals rfl
        | some v =>
          obtain ⟨en, hen, hv⟩ := it.2 j v (by rw [← Array.getElem?_toList]; exact hj)
          have qe := entry_at he j
          rw [hen] at qe
          cases hb : ks[j]? with
          | none =>
            rw [hb] at qe
            exact nomatch (show some en = none from qe)
          | some b =>
            rw [hb] at qe
            have e2 : en = entryOfKey (tupleKind (mixKind X.prog X.w)) b := Option.some.inj qe
            rw [hv, e2]
            all_goals rfl
      have eb : acc'.toList = (ks.map fun x => x.2.1).map Value.ref := by rw [ea, List.map_map]; all_goals rfl
      exact hR h' tk acc'.toList ((ks.map fun x => x.2.1).map V.ref) kp (by rw [eb]; exact vals_refs _) (repT_keys h2 (isKeys_of pr) hfit)
    | _ => simp [dicD, boxD] at e1
  · exact h.elim
theorem q_sortedD (hu : X.A.units + 64 < cLine) (hm : X.mg "sorted" = none) (ha : QA X (e :: es) r) (hc : X.calm = true := by rfl) (hg : Gl X "sorted" := by rfl) (he : starEach (e :: es) X.env = (false, eval e X.env) :: starEach es X.env := by rfl) (hpl : (backTo pos (starEach es X.env)).any (·.1) = false := by rfl) : QE X (.Call (.Name "sorted" p) (e :: es) [] pos) (fCall oSortedD r) :=
  q_callB (c_oSortedD hc hu) boot_sorted hm ha hg (by decide) (by decide) he hpl
end
end T2
set_option Elab.async false
set_option linter.all false
set_option maxRecDepth 100000
set_option maxHeartbeats 4000000
set_option autoImplicit false
namespace T2
open PySem L2 PySem.Spec PyProof.Rows

/-! ### op= -/
section
variable {X : Cx} {e f : Expr} {es : List Expr} {fe ff : FE} {r : FA} {pos p : Pos}
def oAddI : O2 := fun d e Q => match d with
  | .list _ => False
  | _ => oAdd d e Q
theorem iop_oAdd : PIp X .Add (rO oAddI) := by
  intro pins s σ H x y v u Q I rx ry ⟨S, bx, d, e, Q', fr, rd, re, h, k⟩
  cases rd with
  | int i =>
    cases re with
    | int j => exact iop_add pins s σ H _ _ v u Q I rx ry ⟨i, j, rfl, rfl, k _ _ _ (Same.refl _) (.int _) h⟩
    | _ => exact (show False from h).elim
  | str i hi =>
    cases re with
    | str j hj =>
      obtain ⟨hl, h⟩ := (show i.cps.toList.length + j.cps.toList.length ≤ 16000000 ∧ Q' (sD (i.cps.toList ++ j.cps.toList)) from h)
      have e := str_app i j
      exact iop_add_str pins s σ H _ _ v u Q I rx ry ⟨i, j, rfl, rfl, lim (by rw [str_len, str_len]; exact hl), k _ _ (.str (i ++ j)) (Same.refl _) (.str _ (lim (by rw [e, str_len]; simpa using hl))) (by rw [e]; exact h)⟩
    | _ => exact (show False from h).elim
  | @tup a xs ds h1 h2 h3 =>
    cases re with
    | @tup b ys es g1 g2 g3 =>
      obtain ⟨hl, h⟩ := (show ds.length + es.length ≤ 16000000 ∧ Q' (.tuple (ds ++ es)) from h)
      cases rx
      cases ry
      obtain ⟨its, r1, p1, z1⟩ := I.tuple (.of h1)
      obtain ⟨its2, r2, p2, z2⟩ := I.tuple (.of g1)
      refine icat_tup p1 p2 (fun z => ?_) (fun _ z => ?_) (fun _ _ => ?_) (by rw [← r1.length, ← r2.length, ← h2.len, ← g2.len]; exact lim hl)
      · subst z
        cases r1
        cases h2
        exact ⟨.ref b, H, I, rfl, k _ _ _ (Same.refl _) (.tup g1 g2 g3) (by simpa using h)⟩
      · subst z
        cases r2
        cases g2
        exact ⟨.ref a, H, I, rfl, k _ _ _ (Same.refl _) (.tup h1 h2 h3) (by simpa using h)⟩
      · have hp := I.hok.fresh (Nat.le_refl s.heap.objs.size)
        have hz : (xs ++ ys).length ≤ sizeLine := by rw [List.length_append, ← h2.len, ← g2.len]; exact lim hl
        exact ⟨.ref _, _, I.laid (t' := s.toks) (o := .tup (xs ++ ys)) (fun b ob q => Heap.get?_push_of_some _ q) (Nat.le_refl _) ⟨hz, _, r1.append r2, IsTup.new _ _⟩, rfl, k _ _ _ (same_new hp) (rep_new_tup hp (h2.append g2) (lim (by simpa using hl))) h⟩
    | _ => exact (show False from h).elim
  | _ => exact (show False from h).elim
theorem iop_oSub : PIp X .Sub (rO oSub) := by
  intro pins s σ H x y v u Q I rx ry ⟨S, bx, d, e, Q', fr, rd, re, h, k⟩
  cases rd with
  | int i =>
    cases re with
    | int j => exact iop_sub pins s σ H _ _ v u Q I rx ry ⟨i, j, rfl, rfl, k _ _ _ (Same.refl _) (.int _) h⟩
    | _ => exact (show False from h).elim
  | _ => exact (show False from h).elim
theorem iop_oMul : PIp X .Mult (rO fun d e Q => match d, e with
    | .int i, .int j => ((-18446744073709551616 < i ∧ i < 18446744073709551616) ∨ (-18446744073709551616 < j ∧ j < 18446744073709551616)) ∧ Q (.int (i * j))
    | _, _ => False) := by
  intro pins s σ H x y v u Q I rx ry ⟨S, bx, d, e, Q', fr, rd, re, h, k⟩
  cases rd with
  | int i =>
    cases re with
    | int j => exact iop_mul pins s σ H _ _ v u Q I rx ry ⟨i, j, rfl, rfl, h.1, k _ _ _ (Same.refl _) (.int _) h.2⟩
    | _ => exact (show False from h).elim
  | _ => exact (show False from h).elim
theorem iop_oFdiv : PIp X .FloorDiv (rO oFdiv) := by
  intro pins s σ H x y v u Q I rx ry ⟨S, bx, d, e, Q', fr, rd, re, h, k⟩
  cases rd with
  | int i =>
    cases re with
    | int j =>
      obtain ⟨hc, h⟩ := (show (0 < j ∧ j < 1073741824) ∧ Q' (.int (i / j)) from h)
      exact iop_fdiv pins s σ H _ _ v u Q I rx ry ⟨i, j, rfl, rfl, hc, k _ _ _ (Same.refl _) (.int _) h⟩
    | _ => exact (show False from h).elim
  | _ => exact (show False from h).elim
def frAt (env : SE) (i : Nat) (k : D → Prop) : Prop := match env[i]? with
  | some (some (.fr d)) => k d
  | _ => False
theorem frAt_of {env : SE} {i : Nat} {k : D → Prop} (h : frAt env i k) : ∃ d, env[i]? = some (some (.fr d)) ∧ k d := by
  unfold frAt at h
  split at h
  · exact ⟨_, by assumption, h⟩
  · exact h.elim
/-- name op= e, the name not owned -/
def sAugF (g : O2) (i : Nat) (fe : FE) : FS := fun D' env => frAt env i fun d => fe (vF env) fun e => g d e fun z => D'.nx (env.set i (some (.fr z)))
def sAugN (g : O2) (i : Nat) (fe : FE) : FS := fun D' env => frAt env i fun d => fe (vN env) fun e => flat e = true ∧ g d e fun z => D'.nx (env.set i (some (.fr z)))
theorem aug_imp {g : O2} {i : Nat} {W : Wd} {σ : L2.St} {H : Hp} {env : SE} {D' : DE} {E : Ends} {d : D} (sr : SRep W σ H env) (a : Adapt W σ H env D' E) (hd : env[i]? = some (some (.fr d))) (v w : V) (H1 : Hp) (e : D) (x : Ext W H H1)
    (hv : Rep (fun a => W.S a ∧ ¬ OwnA σ env a) W.bx H d v) (hw : Rep (fun a => W.S a ∧ ¬ OwnA σ env a) W.bx H1 e w) (q : g d e fun z => D'.nx (env.set i (some (.fr z)))) : (rO g) v w H1 fun z H2 => E.nx (σ.set i (some z)) H2 := by
  have hO : ∀ a, OwnA σ env a → ∃ o, H1 a = some o := fun a z => by
    obtain ⟨s, o, ho⟩ := sr.own z
    exact ⟨o, x.kp.keep _ _ s ho⟩
  refine ⟨fun a => W.S a ∧ ¬ OwnA σ env a, W.bx, d, e, _, fun a n => ⟨x.ok.fresh n, fun z => ?_⟩, hv.kp (x.kp.sub fun _ z => z.1), hw, q, fun z H2 zd g r q => ?_⟩
  · obtain ⟨o, ho⟩ := hO a z
    rw [n] at ho; cases ho
  · have x2 := x.trans (.grow x.ok g)
    exact a.nx _ _ _ ⟨x2.kp.sub fun _ z => z.1, fun b z => .inl (own_set_fr z)⟩ ((sr.ext x2).setfr r) q
theorem qs_augF {i : Nat} {x : Str} {op : Operator} {g : O2} {pos' : Pos} (ho : PIp X op (rO g)) (he : QE X e fe) (hN : X.N.Nodup) (hi : X.N[i]? = some x := by rfl) (hx : Loc X.env.scope x := by first | exact Or.inl rfl | exact Or.inr rfl)
    (hf : X.fn x = true ∨ X.env.scope.names.lookup x = some .local := by first | exact .inl rfl | exact .inr rfl) : QS X (.AugAssign (.Name x pos') op e pos) (sAugF g i fe) :=
  PS.imp (ps_aug hN hi hx he ho hf) fun E σ H ⟨W, env, D', sr, h, a⟩ => by
    obtain ⟨d, hd, h⟩ := frAt_of h
    obtain ⟨v, e1, rv⟩ := sr.fr i d hd
    exact ⟨v, e1, W.less (OwnA σ env) H (fun _ z => sr.own z), vF env, _, less_ok sr.ok, sr.erF _, h, fun w H1 e x r q => aug_imp sr a hd v w H1 e (less_ext x) rv r q⟩
theorem qs_augN {i : Nat} {x : Str} {op : Operator} {g : O2} {pos' : Pos} (ho : PIp X op (rO g)) (he : QE X e fe) (hN : X.N.Nodup) (hi : X.N[i]? = some x := by rfl) (hx : Loc X.env.scope x := by first | exact Or.inl rfl | exact Or.inr rfl)
    (hf : X.fn x = true ∨ X.env.scope.names.lookup x = some .local := by first | exact .inl rfl | exact .inr rfl) : QS X (.AugAssign (.Name x pos') op e pos) (sAugN g i fe) :=
  PS.imp (ps_aug hN hi hx he ho hf) fun E σ H ⟨W, env, D', sr, h, a⟩ => by
    obtain ⟨d, hd, h⟩ := frAt_of h
    obtain ⟨v, e1, rv⟩ := sr.fr i d hd
    exact ⟨v, e1, W, vN env, _, sr.ok, sr.erN, h, fun w H1 e x r q => aug_imp sr a hd v w H1 e x rv (r.flat q.1) q.2⟩

/-! ### xs.extend(ys) -/
def exL (m : Bool) (d : D) (k : List D → Prop) : Prop := match d with
  | .list es => (m = true ∨ flat.flatAll es = true) ∧ k es
  | _ => False
theorem exL_of {m : Bool} {d : D} {k : List D → Prop} (h : exL m d k) : ∃ es, d = .list es ∧ (m = true ∨ flat.flatAll es = true) ∧ k es := by
  unfold exL at h
  split at h
  · exact ⟨_, rfl, h⟩
  · exact h.elim
def sExt (m : Bool) (i : Nat) (fe : FE) : FS := fun D' env => ownL env i fun ds => fe (vw m env) fun d => exL m d fun es => ds.length + es.length ≤ 16000000 ∧ D'.nx (env.set i (some (.ow (.list (ds ++ es)))))
theorem qs_ext (m : Bool) {i : Nat} {x : Str} {e : Expr} {fe : FE} {px apos cpos : Pos} (hx : PE X (.Name x px) (tVar i)) (he : QE X e fe)
    (hbase : attributeBase (.Name x px) "extend" X.env (eval (.Name x px) X.env) = eval (.Name x px) X.env := by rfl)
    (hfew : ((backTo cpos (starEach [e] X.env)).all (fun x => !x.1) && (backToKw cpos (keywordEach [] X.env)).all (fun x => x.1.isSome)
      && decide ([e].length + ([] : List Keyword).length + (if ([] : List Keyword).isEmpty then 0 else 1) < 30)) = true := by rfl)
    (hline : (apos.endLine == cpos.line) = true := by rfl) (hs : starEach [e] X.env = (false, eval e X.env) :: starEach [] X.env := by rfl) (hplain : (backTo cpos (starEach [] X.env)).any (·.1) = false := by rfl)
    (hsw : swapsWith (.Call (.Attribute (.Name x px) "extend" apos) [e] [] cpos) none pos.line X.env = pure false := by rfl) :
    QS X (.Expr (.Call (.Attribute (.Name x px) "extend" apos) [e] [] cpos) pos) (sExt m i fe) :=
  PS.imp (ps_expr (pe_bm PySem.F.plainAttrs_list PySem.F.slot_list_extend PySem.F.type_list_extend mt_extend hx (pa_cons he pa_nil hs) hbase hfew hline hs hplain) hsw) fun E σ H ⟨W, env, D', sr, h, ad⟩ => by
    obtain ⟨ds, hi, h⟩ := ownL_of h
    obtain ⟨a, xs, e1, s, e2, r, hl⟩ := sr.ownL hi
    refine ⟨.ref a, e1, .inl ⟨rfl, xs, .of e2⟩, ?_⟩
    have fin : ∀ v H1 d, Ext W H H1 → (∀ es, d = .list es → (m = true ∨ flat.flatAll es = true) → ∃ b ys, v = .ref b ∧ H1 b = some (.lst ys) ∧ RepAll (fun a => W.S a ∧ ¬ OwnA σ env a) W.bx H1 es ys) →
        exL m d (fun es => ds.length + es.length ≤ 16000000 ∧ D'.nx (env.set i (some (.ow (.list (ds ++ es)))))) → rExtend (.ref a) [v] H1 fun _ H2 => E.nx σ H2 := by
      intro v H1 d x1 rd q
      obtain ⟨es, hd, hm, hle, q⟩ := exL_of q
      obtain ⟨b, ys, rfl, hb, ry⟩ := rd es hd hm
      have e3 := x1.kp.keep _ _ s e2
      refine ⟨a, b, xs, ys, rfl, rfl, e3, hb, by rw [← r.len, ← ry.len]; exact lim hle, ?_⟩
      have oa : OwnA σ env a := ⟨i, _, hi, e1⟩
      have kp : Kp (fun b => W.S b ∧ ¬ OwnA σ env b) H1 (L2.upd H1 a (.lst (xs ++ ys))) := own_kp oa e3 (fun _ z => nomatch z)
      have r1 := (r.kp (x1.kp.sub fun _ z => z.1)).append ry
      obtain ⟨s1, s2⟩ := (sr.ext x1).change hi e1 e3 (fun _ z => nomatch z) (.lst upd_same (r1.kp kp) (lim (by rw [List.length_append]; exact hle)))
      exact ad.nx _ _ _ ((Stp.of_ext x1).trans s2 x1.ok) s1 q
    cases m with
    | true => exact ⟨W.less (OwnA σ env) H (fun _ z => sr.own z), vF env, _, less_ok sr.ok, sr.erF _, h, fun v H1 d x r q => fin v H1 d (less_ext x) (fun es hd _ => by
        subst hd
        cases r with
        | lst g0 g1 g2 g3 => exact ⟨_, _, rfl, g1, g2⟩) q⟩
    | false => exact ⟨W, vN env, _, sr.ok, sr.erN, h, fun v H1 d x r q => fin v H1 d x (fun es hd hm => by
        subst hd
        cases r with
        | lst g0 g1 g2 g3 => exact ⟨_, _, rfl, g1, g2.flat (hm.resolve_left (by decide))⟩) q⟩

/-! ### d[k] = v -/
def ownD (env : SE) (i : Nat) (k : Bool → List (D × D) → Prop) : Prop := match env[i]? with
  | some (some (.ow d)) => withD d k
  | _ => False
theorem ownD_of {env : SE} {i : Nat} {k : Bool → List (D × D) → Prop} (h : ownD env i k) : ∃ d b kvs, env[i]? = some (some (.ow d)) ∧ dicD d = some (b, kvs) ∧ k b kvs := by
  unfold ownD at h
  split at h
  · obtain ⟨b, kvs, e, h⟩ := withD_of h
    exact ⟨_, b, kvs, by assumption, e, h⟩
  · exact h.elim
def mkD (b : Bool) (kvs : List (D × D)) : D := .dict ((.bool b, .none) :: kvs)
theorem mkD_f (kvs : List (D × D)) : mkD false kvs = dKD kvs := rfl
theorem mkD_t (kvs : List (D × D)) : mkD true kvs = dTD kvs := rfl
theorem dicD_eq {d : D} {b : Bool} {kvs : List (D × D)} (h : dicD d = some (b, kvs)) : d = mkD b kvs := by
  unfold dicD at h
  split at h
  · cases h; rfl
  · cases h
def sPutD (m : Bool) (i : Nat) (fk fv : FE) : FS := fun D' env => ownD env i fun b kvs => fv (vw m env) fun v => okM m v ∧ fk (vw m env) fun k => keyFor b k = true ∧ kvs.length < 16000000 ∧ D'.nx (env.set i (some (.ow (mkD b (putD kvs k v)))))
theorem okM_fr {m : Bool} {W : Wd} {σ : L2.St} {H : Hp} {env : SE} {fe : FE} {Q' : D → Prop} {Q : VK} (sr : SRep W σ H env) (h : fe (vw m env) Q') (k : ∀ v H1 d, Ext W H H1 → W.Rep H1 d v → (m = true → Rep (fun a => W.S a ∧ ¬ OwnA σ env a) W.bx H1 d v) → Q' d → Q v H1) : tE fe σ H Q := by
  cases m with
  | true => exact ⟨W.less (OwnA σ env) H (fun _ z => sr.own z), vF env, _, less_ok sr.ok, sr.erF _, h, fun v H1 d x r q => k v H1 d (less_ext x) (r.mono (fun _ z => z.1) (.refl _ _)) (fun _ => r) q⟩
  | false => exact ⟨W, vN env, _, sr.ok, sr.erN, h, fun v H1 d x r q => k v H1 d x r (fun z => nomatch z) q⟩
theorem putD_len (kvs : List (D × D)) (k v : D) : (putD kvs k v).length ≤ kvs.length + 1 := by
  unfold putD
  split <;> simp
theorem qs_putD (hu : X.A.units + 64 < cLine) (m : Bool) {i : Nat} {x : Str} {k e : Expr} {fk fe : FE} {px pos' : Pos} (hx : PE X (.Name x px) (tVar i)) (hk : QE X k fk) (he : QE X e fe)
    (hs : swapsWith e (some (.Subscript (.Name x px) k pos')) pos.line X.env = pure false := by rfl) : QS X (.Assign [.Subscript (.Name x px) k pos'] e pos) (sPutD m i fk fe) :=
  PS.imp (ps_dput (by omega) hx hk he hs) fun E σ H ⟨W, env, D', sr, h, ad⟩ => by
    obtain ⟨d, b, kvs, hi, ed, h⟩ := ownD_of h
    obtain ⟨a, e1, s, o⟩ := sr.ow i _ hi
    refine tE_mode m sr h fun v H1 vd x1 rv q => ?_
    refine ⟨.ref a, e1, ?_⟩
    have sr1 := sr.ext x1
    refine okM_fr (m := m) sr1 q fun kv H2 kd x2 rk _ q2 => ?_
    obtain ⟨hkf, hl, q2⟩ := q2
    have x12 := x1.trans x2
    have sr2 := sr.ext x12
    have rv2 := rv.kp (x2.kp.sub fun a (z : W.S a ∧ ¬ OwnA σ env a) => z.1)
    have oa : OwnA σ env a := ⟨i, _, hi, e1⟩
    have ed' := dicD_eq ed
    obtain ⟨a', e1', s', o2⟩ := sr2.ow i _ hi
    rw [e1] at e1'
    cases e1'
    cases b with
    | false =>
      obtain ⟨kk, ek⟩ := Option.isSome_iff_exists.mp hkf
      have ey := (rep_key rk).1 kk ek
      subst ey
      have ekd := kOf_eq ek
      subst ekd
      rw [ed', mkD_f] at o2
      generalize hdd : dKD kvs = dd at o2
      cases o2 with
      | lst _ _ _ => cases hdd
      | dT _ _ => cases hdd
      | @dK _ ks kvs2 h1 h2 =>
        simp at hdd
        subst hdd
        refine ⟨a, _, rfl, .k h1 (by rw [← h2.len]; exact Nat.lt_of_lt_of_le hl (by decide)), ?_⟩
        have kp := own_kp (W := W) (o' := .dK (putK ks kk v)) oa h1 (fun _ z => nomatch z)
        have h3 : RepK (fun b => W.S b ∧ ¬ OwnA σ env b) W.bx H2 (putD kvs (keyD kk) vd) (putK ks kk v) := h2.put rv2
        obtain ⟨s1, s2⟩ := sr2.change (d' := mkD false (putD kvs (keyD kk) vd)) hi e1 h1 (fun _ z => nomatch z) (.dK upd_same (h3.mono (fun _ z => z) kp))
        exact ad.nx _ _ _ ((Stp.of_ext x12).trans s2 x12.ok) s1 q2
    | true =>
      obtain ⟨kk, ek⟩ := Option.isSome_iff_exists.mp hkf
      obtain ⟨pb, rfl, hp⟩ := (rep_key rk).2 kk ek
      rw [ed', mkD_t] at o2
      generalize hdd : dTD kvs = dd at o2
      cases o2 with
      | lst _ _ _ => cases hdd
      | dK _ _ => cases hdd
      | @dT _ ks kvs2 h1 h2 =>
        simp at hdd
        subst hdd
        cases kd with
        | tuple ds =>
          have ekd := ksOf_eq (ds := ds) ek
          subst ekd
          refine ⟨a, _, rfl, .t h1 hp (by rw [← h2.len]; exact Nat.lt_of_lt_of_le hl (by decide)), ?_⟩
          have kp := own_kp (W := W) (o' := .dT (putK ks kk v)) oa h1 (fun _ z => nomatch z)
          have h3 : RepT (fun b => W.S b ∧ ¬ OwnA σ env b) W.bx H2 (putD kvs (.tuple (kk.map keyD)) vd) (putK ks kk v) := h2.put rv2
          obtain ⟨s1, s2⟩ := sr2.change (d' := mkD true (putD kvs (.tuple (kk.map keyD)) vd)) hi e1 h1 (fun _ z => nomatch z) (.dT upd_same (h3.mono (fun _ z => z) kp))
          exact ad.nx _ _ _ ((Stp.of_ext x12).trans s2 x12.ok) s1 q2
        | _ => simp [tOf] at ek
end
end T2
set_option Elab.async false
set_option linter.all false
set_option maxRecDepth 100000
set_option maxHeartbeats 4000000
set_option autoImplicit false
namespace T2
open PySem L2 PySem.Spec PyProof.Rows

/-! ### join -/
def joinW (sep : List Nat) : List (List Nat) → List Nat
  | [] => []
  | [w] => w
  | w :: v :: ws => w ++ sep ++ joinW sep (v :: ws)
theorem join_glue (sep : List Nat) (ws : List (List Nat)) : Txt.join ⟨sep.toArray⟩ (ws.map fun w => (⟨w.toArray⟩ : Str)) = ⟨(joinW sep ws).toArray⟩ := by
  show Builtin.Str.glued _ _ = _
  unfold Builtin.Str.glued
  congr 1
  have key : ∀ (vs : List (List Nat)) (acc : Array Nat) (w : List Nat), (vs.map fun w => (⟨w.toArray⟩ : Str)).foldl (fun acc p => acc ++ sep.toArray ++ p.cps) (acc ++ w.toArray) = acc ++ (joinW sep (w :: vs)).toArray := by
    intro vs
    induction vs with
    | nil => intro acc w; rfl
    | cons v vs ih =>
      intro acc w
      rw [List.map_cons, List.foldl_cons, ih]
      apply Array.ext'
      simp [joinW, List.append_assoc]
  cases ws with
  | nil => rfl
  | cons w vs =>
    have h := key vs #[] w
    rw [show (#[] : Array Nat) ++ w.toArray = w.toArray by simp] at h
    rw [show (#[] : Array Nat) ++ (joinW sep (w :: vs)).toArray = (joinW sep (w :: vs)).toArray by simp] at h
    exact h
theorem joinW_len (sep : List Nat) : ∀ ws : List (List Nat), (joinW sep ws).length ≤ (ws.map List.length).sum + ws.length * sep.length
  | [] => by simp [joinW]
  | [w] => by simp [joinW]
  | w :: v :: ws => by
    have ih := joinW_len sep (v :: ws)
    have e : joinW sep (w :: v :: ws) = w ++ sep ++ joinW sep (v :: ws) := rfl
    rw [e, List.length_append, List.length_append, List.map_cons, List.sum_cons]
    have e2 : (w :: v :: ws).length * sep.length = (v :: ws).length * sep.length + sep.length := by
      rw [List.length_cons (a := w), Nat.succ_mul]
    omega
def oJoin (x d : D) (Q : D → Prop) : Prop := ∃ (sep : List Nat) (ws : List (List Nat)), x = sD sep ∧ (d = .list (ws.map sD) ∨ d = .tuple (ws.map sD)) ∧ (ws.map List.length).sum + ws.length * sep.length ≤ 16000000 ∧ Q (sD (joinW sep ws))
section
variable {X : Cx} {o e : Expr} {es : List Expr} {fo fe : FE} {r : FA} {apos pos p : Pos}
def fJoin (fo fe : FE) : FE := fun env Q => fo env fun x => (∃ s, x = .str s) ∧ fe env fun d => oJoin x d Q
theorem q_join (ho : QE X o fo) (he : QE X e fe) (hs : starEach [e] X.env = [(false, eval e X.env)] := by rfl) (hbase : attributeBase o "join" X.env (eval o X.env) = eval o X.env := by rfl) (hline : (apos.endLine == pos.line) = true := by rfl) :
    QE X (.Call (.Attribute o "join" apos) [e] [] pos) (fJoin fo fe) :=
  PE.imp (pe_join ho he hs hbase hline) fun σ H Q ⟨W, env, Q', ok, er, h, k⟩ => ⟨W, env, _, ok, er, h, fun v H1 d x1 r1 q1 => by
    obtain ⟨⟨s, rfl⟩, q1⟩ := q1
    cases r1
    refine ⟨⟨_, rfl⟩, W, env, _, x1.ok, er.ext x1, q1, fun w H2 d2 x2 r2 q2 => ?_⟩
    obtain ⟨sep, ws, e1, e2, hl, q⟩ := q2
    injection e1 with e1
    subst e1
    have hj := joinW_len sep ws
    have fin : ∀ b xs, (SqL X.K H2 b xs ∨ SqT X.K H2 b xs) → RepAll W.S W.bx H2 (ws.map sD) xs → ∃ a p, ∃ ys : List Str, V.str ⟨sep.toArray⟩ = .str a ∧ [V.ref b] = [.ref p] ∧ (SqL X.K H2 p (ys.map V.str) ∨ SqT X.K H2 p (ys.map V.str)) ∧
      (ys.map (·.length)).sum + ys.length * a.length ≤ 16777216 ∧ Q (.str (Txt.join a ys)) H2 := fun b xs hq rr => by
      have hx := rep_strs rr
      subst hx
      refine ⟨⟨sep.toArray⟩, b, ws.map fun w => (⟨w.toArray⟩ : Str), rfl, rfl, hq, ?_, ?_⟩
      · have e1 : ((ws.map fun w => (⟨w.toArray⟩ : Str)).map (·.length)) = ws.map List.length := by
          rw [List.map_map]
          apply List.map_congr_left
          intro w _
          show (⟨w.toArray⟩ : Str).length = _
          rw [str_len]
        rw [e1, List.length_map]
        have e2 : (⟨sep.toArray⟩ : Str).length = sep.length := by rw [str_len]
        rw [e2]
        exact Nat.le_trans hl (by decide)
      · rw [join_glue]
        exact k _ _ _ (x1.trans x2) (.str _ (by rw [str_len]; exact lim (by simpa using Nat.le_trans hj hl))) q
    rcases e2 with rfl | rfl
    · cases r2 with
      | lst g0 g1 g2 g3 => exact fin _ _ (.inl (.of g1)) g2
    · cases r2 with
      | tup g1 g2 g3 => exact fin _ _ (.inr (.of g1)) g2⟩

/-! ### min, max -/
mutual
theorem reads_uni {h : Heap} : ∀ (d : D) {d' : D} {v : Value} {as bs : List Addr}, d.plain = true → Reads h v d as → Reads h v d' bs → d = d'
  | .none, _, _, _, _, _, r, q => by cases r; cases q; rfl
  | .bool _, _, _, _, _, _, r, q => by cases r; cases q; rfl
  | .int _, _, _, _, _, _, r, q => by cases r; cases q; rfl
  | .str _, _, _, _, _, _, r, q => by cases r; cases q; rfl
  | .dict _, _, _, _, _, hp, _, _ => by simp [PyData.plain] at hp
  | .list xs, _, _, _, _, hp, r, q => by
    cases r with
    | list a1 a2 a3 a4 => cases q with
      | list b1 b2 b3 b4 =>
        rw [a1] at b1; cases b1
        rw [a3] at b3; cases b3
        exact congrArg PyData.list (readsAll_uni xs (by simpa [PyData.plain] using hp) a4 b4)
      | tuple b1 b2 b3 b4 => rw [a1] at b1; cases b1; rw [a2] at b2; exact absurd b2 (by simp)
      | dict b1 b2 _ _ _ => rw [a1] at b1; cases b1; rw [a2] at b2; exact absurd b2 (by simp)
  | .tuple xs, _, _, _, _, hp, r, q => by
    cases r with
    | tuple a1 a2 a3 a4 => cases q with
      | tuple b1 b2 b3 b4 =>
        rw [a1] at b1; cases b1
        rw [a3] at b3; cases b3
        exact congrArg PyData.tuple (readsAll_uni xs (by simpa [PyData.plain] using hp) a4 b4)
      | list b1 b2 b3 b4 => rw [a1] at b1; cases b1; rw [a2] at b2; exact absurd b2 (by simp)
      | dict b1 b2 _ _ _ => rw [a1] at b1; cases b1; rw [a2] at b2; exact absurd b2 (by simp)
theorem readsAll_uni {h : Heap} : ∀ (xs : List D) {ys : List D} {vs : List Value} {as bs : List Addr}, PyData.plainAll xs = true → ReadsAll h vs xs as → ReadsAll h vs ys bs → xs = ys
  | [], _, _, _, _, _, r, q => by cases r; cases q; rfl
  | x :: xs, _, _, _, _, hp, r, q => by
    rw [PyData.plainAll, Bool.and_eq_true] at hp
    cases r with
    | cons a1 a2 => cases q with
      | cons b1 b2 => rw [reads_uni x hp.1 a1 b1, readsAll_uni xs hp.2 a2 b2]
end
def minOk (xs : List D) : Prop := PyData.plainAll xs = true ∧ PySem.W.AlikeAll xs ∧ PyData.depthAll xs ≤ 60
def oMin : OC := fun ds Q => match ds with
  | [.int i, .int j] => Q (.int (if j < i then j else i))
  | [.list (x :: xs)] => minOk (x :: xs) ∧ Q (PySem.W.minD x xs)
  | _ => False
def oMax : OC := fun ds Q => match ds with
  | [.int i, .int j] => Q (.int (if j > i then j else i))
  | [.list (x :: xs)] => minOk (x :: xs) ∧ Q (PySem.W.maxD x xs)
  | _ => False
theorem plain_mem : ∀ {xs : List D} {d : D}, PyData.plainAll xs = true → d ∈ xs → d.plain = true
  | [], _, _, h => nomatch h
  | x :: xs, d, hp, h => by
    rw [PyData.plainAll, Bool.and_eq_true] at hp
    rcases List.mem_cons.mp h with rfl | h
    · exact hp.1
    · exact plain_mem hp.2 h
theorem rep_pick {pins : List (Addr × Obj)} {σ : L2.St} {H : Hp} {s : Shared} {S : Addr → Prop} {bx : Option Addr} {ds : List D} {ws : List V} {its : List Value} (I : Inv X pins σ H s) (g2 : RepAll S bx H ds ws) (rw' : Vals ws its) (hp : PyData.plainAll ds = true)
    {i : Nat} {v : Value} {h' : Heap} {bs : List Addr} {d : D} (hv : its.toArray[i]? = some v) (hr : Reads h' v d bs) (hk : ∀ b o, s.heap.get? b = some o → h'.get? b = some o) : ∃ x, RelV x v ∧ Rep S bx H d x := by
  have hv' : its[i]? = some v := by simpa using hv
  have hi : i < its.length := (List.getElem?_eq_some_iff.mp hv').1
  have hl : ds.length = its.length := by rw [g2.len, rw'.length]
  obtain ⟨x, e1, r1⟩ := g2.get (List.getElem?_eq_getElem (by rw [hl]; exact hi))
  obtain ⟨u, e2, r2⟩ := rw'.get e1
  rw [hv'] at e2
  cases e2
  have pl := plain_mem hp (List.getElem_mem (by rw [hl]; exact hi) : ds[i]'(by rw [hl]; exact hi) ∈ ds)
  obtain ⟨as, ra⟩ := r1.reads I r2 pl
  have := reads_uni _ pl (PyProof.Rows.Reads.keeps hk ra) hr
  rw [this] at r1
  exact ⟨x, r2, r1⟩
theorem c_oMin (hc : X.calm = true) (hu : X.A.units + 64 < cLine) : CallR X (.builtin "min") (rC oMin) := by
  intro pins s σ H vs us Q I rv ⟨S, bx, ds, Q', fr, rd, h, k⟩
  unfold oMin at h
  split at h
  · obtain ⟨v, w, rfl, r1, r2⟩ := rep2 rd
    cases r1; cases r2
    exact call_min2 hc pins s σ H _ us Q I rv ⟨_, _, rfl, k _ _ _ (Same.refl _) (.int _) h⟩
  · obtain ⟨v, rfl, r⟩ := rep1 rd
    obtain ⟨⟨h1, h2, h3⟩, h⟩ := h
    cases r with
    | @lst a ws _ g0 g1 g2 g3 =>
      obtain ⟨u, rfl, ru⟩ := vals1 rv
      cases ru
      obtain ⟨its, rw', hl, hz⟩ := I.list (.of g1)
      obtain ⟨as, ra⟩ := g2.reads I rw' h1
      refine PySem.W.min_list_data (I.ok.hd hc) hl.isList (by simpa using ra) h2 (by omega) fun i v h' tk bs hv hr hk => ?_
      obtain ⟨x, e1, e2⟩ := rep_pick I g2 rw' h1 hv hr hk
      exact ⟨x, H, I.kept (t' := tk) hk, e1, k _ _ _ (Same.refl _) e2 h⟩
  · exact h.elim
theorem c_oMax (hc : X.calm = true) (hu : X.A.units + 64 < cLine) : CallR X (.builtin "max") (rC oMax) := by
  intro pins s σ H vs us Q I rv ⟨S, bx, ds, Q', fr, rd, h, k⟩
  unfold oMax at h
  split at h
  · obtain ⟨v, w, rfl, r1, r2⟩ := rep2 rd
    cases r1; cases r2
    exact call_max2 hc pins s σ H _ us Q I rv ⟨_, _, rfl, k _ _ _ (Same.refl _) (.int _) h⟩
  · obtain ⟨v, rfl, r⟩ := rep1 rd
    obtain ⟨⟨h1, h2, h3⟩, h⟩ := h
    cases r with
    | @lst a ws _ g0 g1 g2 g3 =>
      obtain ⟨u, rfl, ru⟩ := vals1 rv
      cases ru
      obtain ⟨its, rw', hl, hz⟩ := I.list (.of g1)
      obtain ⟨as, ra⟩ := g2.reads I rw' h1
      refine PySem.W.max_list_data (I.ok.hd hc) hl.isList (by simpa using ra) h2 (by omega) fun i v h' tk bs hv hr hk => ?_
      obtain ⟨x, e1, e2⟩ := rep_pick I g2 rw' h1 hv hr hk
      exact ⟨x, H, I.kept (t' := tk) hk, e1, k _ _ _ (Same.refl _) e2 h⟩
  · exact h.elim
theorem q_min (hu : X.A.units + 64 < cLine) (hm : X.mg "min" = none) (ha : QA X (e :: es) r) (hc : X.calm = true := by rfl) (hg : Gl X "min" := by rfl) (he : starEach (e :: es) X.env = (false, eval e X.env) :: starEach es X.env := by rfl) (hpl : (backTo pos (starEach es X.env)).any (·.1) = false := by rfl) : QE X (.Call (.Name "min" p) (e :: es) [] pos) (fCall oMin r) :=
  q_callB (c_oMin hc hu) boot_min hm ha hg (by decide) (by decide) he hpl
theorem q_max (hu : X.A.units + 64 < cLine) (hm : X.mg "max" = none) (ha : QA X (e :: es) r) (hc : X.calm = true := by rfl) (hg : Gl X "max" := by rfl) (he : starEach (e :: es) X.env = (false, eval e X.env) :: starEach es X.env := by rfl) (hpl : (backTo pos (starEach es X.env)).any (·.1) = false := by rfl) : QE X (.Call (.Name "max" p) (e :: es) [] pos) (fCall oMax r) :=
  q_callB (c_oMax hc hu) boot_max hm ha hg (by decide) (by decide) he hpl

/-! ### sum, abs, int, list -/
def oSum : OC := fun ds Q => match ds with
  | [.list xs] => ∃ ns : List Int, xs = ns.map .int ∧ Q (.int ns.sum)
  | _ => False
theorem c_oSum (hc : X.calm = true) : CallR X (.builtin "sum") (rC oSum) := by
  intro pins s σ H vs us Q I rv ⟨S, bx, ds, Q', fr, rd, h, k⟩
  unfold oSum at h
  split at h
  · obtain ⟨v, rfl, r⟩ := rep1 rd
    obtain ⟨ns, rfl, h⟩ := h
    cases r with
    | lst g0 g1 g2 g3 => exact cr_sum hc pins s σ H _ us Q I rv ⟨_, ns, rfl, .of (by rw [g1, rep_ints g2]), k _ _ _ (Same.refl _) (.int _) h⟩
  · exact h.elim
theorem q_sum (hm : X.mg "sum" = none) (ha : QA X (e :: es) r) (hc : X.calm = true := by rfl) (hg : Gl X "sum" := by rfl) (he : starEach (e :: es) X.env = (false, eval e X.env) :: starEach es X.env := by rfl) (hpl : (backTo pos (starEach es X.env)).any (·.1) = false := by rfl) : QE X (.Call (.Name "sum" p) (e :: es) [] pos) (fCall oSum r) :=
  q_callB (c_oSum hc) boot_sum hm ha hg (by decide) (by decide) he hpl
def oAbs : OC := fun ds Q => match ds with
  | [.int i] => Q (.int (if i < 0 then -i else i))
  | _ => False
theorem c_oAbs : CallR X (.builtin "abs") (rC oAbs) := by
  intro pins s σ H vs us Q I rv ⟨S, bx, ds, Q', fr, rd, h, k⟩
  unfold oAbs at h
  split at h
  · obtain ⟨v, rfl, r⟩ := rep1 rd
    cases r
    exact call_abs pins s σ H _ us Q I rv ⟨_, rfl, k _ _ _ (Same.refl _) (.int _) h⟩
  · exact h.elim
theorem q_abs (hm : X.mg "abs" = none) (ha : QA X (e :: es) r) (hg : Gl X "abs" := by rfl) (he : starEach (e :: es) X.env = (false, eval e X.env) :: starEach es X.env := by rfl) (hpl : (backTo pos (starEach es X.env)).any (·.1) = false := by rfl) : QE X (.Call (.Name "abs" p) (e :: es) [] pos) (fCall oAbs r) :=
  q_callB c_oAbs boot_abs hm ha hg (by decide) (by decide) he hpl
def oInt : OC := fun ds Q => match ds with
  | [.int i] => Q (.int i)
  | [.bool b] => Q (.int (if b = true then 1 else 0))
  | _ => False
theorem c_oInt : CallR X (.type "int") (rC oInt) := by
  intro pins s σ H vs us Q I rv ⟨S, bx, ds, Q', fr, rd, h, k⟩
  unfold oInt at h
  split at h
  · obtain ⟨v, rfl, r⟩ := rep1 rd
    cases r
    exact call_int1 pins s σ H _ us Q I rv (.inl ⟨_, rfl, k _ _ _ (Same.refl _) (.int _) h⟩)
  · obtain ⟨v, rfl, r⟩ := rep1 rd
    cases r
    exact call_int1 pins s σ H _ us Q I rv (.inr ⟨_, rfl, k _ _ _ (Same.refl _) (.int _) h⟩)
  · exact h.elim
theorem q_int1 (hm : X.mg "int" = none) (ha : QA X (e :: es) r) (hg : Gl X "int" := by rfl) (he : starEach (e :: es) X.env = (false, eval e X.env) :: starEach es X.env := by rfl) (hpl : (backTo pos (starEach es X.env)).any (·.1) = false := by rfl) : QE X (.Call (.Name "int" p) (e :: es) [] pos) (fCall oInt r) :=
  q_callT c_oInt PyProof.Rows.boot_int hm ha hg (by decide) (by decide) he hpl
def oList : OC := fun ds Q => match ds with
  | [.list xs] => Q (.list xs)
  | [.tuple xs] => Q (.list xs)
  | _ => False
theorem c_oList : CallR X (.type "list") (rC oList) := by
  intro pins s σ H vs us Q I rv ⟨S, bx, ds, Q', fr, rd, h, k⟩
  unfold oList at h
  split at h
  · obtain ⟨v, rfl, r⟩ := rep1 rd
    cases r with
    | lst g0 g1 g2 g3 => exact call_list_of pins s σ H _ us Q I rv ⟨_, _, rfl, .inl (.of g1), fun p hp => k _ _ _ (same_new hp) (rep_new_lst (fr _ hp) hp g2 g3) h⟩
  · obtain ⟨v, rfl, r⟩ := rep1 rd
    cases r with
    | tup g1 g2 g3 => exact call_list_of pins s σ H _ us Q I rv ⟨_, _, rfl, .inr (.of g1), fun p hp => k _ _ _ (same_new hp) (rep_new_lst (fr _ hp) hp g2 g3) h⟩
  · exact h.elim
theorem q_list (hm : X.mg "list" = none) (ha : QA X (e :: es) r) (hg : Gl X "list" := by rfl) (he : starEach (e :: es) X.env = (false, eval e X.env) :: starEach es X.env := by rfl) (hpl : (backTo pos (starEach es X.env)).any (·.1) = false := by rfl) : QE X (.Call (.Name "list" p) (e :: es) [] pos) (fCall oList r) :=
  q_callT c_oList PyProof.Rows.boot_list hm ha hg (by decide) (by decide) he hpl
end
end T2
set_option Elab.async false
set_option linter.all false
set_option maxRecDepth 100000
set_option maxHeartbeats 4000000
set_option autoImplicit false
namespace T2
open PySem L2 PySem.Spec PyProof.Rows

/-! ### the law's draws: readings over places, once for all laws -/
def EvI (t : TE) (σ : L2.St) (H : Hp) (i : Int) : Prop := ∀ Q : VK, Q (.int i) H → t σ H Q
abbrev zC (i : Int) : TE := tC (.int i)
abbrev zAdd : R2 := rI0 fun i j => .int (i + j)
abbrev zSub : R2 := rI0 fun i j => .int (i - j)
abbrev zMul : R2 := rI CMul fun i j => .int (i * j)
abbrev zMod : R2 := rI (fun _ j => 0 < j) fun i j => .int (i % j)
abbrev zDiv : R2 := rI CDiv fun i j => .int (i / j)
abbrev zGt : R2 := rI0 fun i j => .bl (decide (j < i))
abbrev zGe : R2 := rI0 fun i j => .bl (decide (j ≤ i))
abbrev zLt : R2 := rI0 fun i j => .bl (decide (i < j))
abbrev zNeg (t : TE) : TE := tUn (rU fun i => .int (-i)) t
abbrev zInt (t : TE) : TE := tCB (fun xs H Q => (∃ i, xs = [V.int i] ∧ Q (.int i) H) ∨ ∃ k, xs = [V.bl k] ∧ Q (.int (if k then 1 else 0)) H) (tCons t tNil)
abbrev zLen (K : PySem.W.Frag) (t : TE) : TE := tCB (fun xs H Q => ∃ x n, xs = [x] ∧ LenV K x H n ∧ Q (.int (n : Nat)) H) (tCons t tNil)
abbrev zIx (K : PySem.W.Frag) (n : Nat) (i : Int) : TE := tOp (rIxL K) (tVar n) (zC i)
abbrev zPut (i : Int) : TG := gSub (tVar 0) (zC i) rSetL
section
variable {σ : L2.St} {H : Hp} {ta tb : TE} {i j : Int} {K : PySem.W.Frag}
theorem ev_c : EvI (zC i) σ H i := fun Q q => q
theorem ev_v {n : Nat} (h : σ[n]? = some (some (.int i))) : EvI (tVar n) σ H i := fun Q q => ⟨_, h, q⟩
theorem ev_add (a : EvI ta σ H i) (b : EvI tb σ H j) : EvI (tOp zAdd ta tb) σ H (i + j) := fun Q q => a _ (b _ ⟨i, j, rfl, rfl, q⟩)
theorem ev_sub (a : EvI ta σ H i) (b : EvI tb σ H j) : EvI (tOp zSub ta tb) σ H (i - j) := fun Q q => a _ (b _ ⟨i, j, rfl, rfl, q⟩)
theorem ev_mul (a : EvI ta σ H i) (b : EvI tb σ H j) (h : CMul i j) : EvI (tOp zMul ta tb) σ H (i * j) := fun Q q => a _ (b _ ⟨i, j, rfl, rfl, h, q⟩)
theorem ev_mod (a : EvI ta σ H i) (b : EvI tb σ H j) (h : 0 < j) : EvI (tOp zMod ta tb) σ H (i % j) := fun Q q => a _ (b _ ⟨i, j, rfl, rfl, h, q⟩)
theorem ev_div (a : EvI ta σ H i) (b : EvI tb σ H j) (h : CDiv i j) : EvI (tOp zDiv ta tb) σ H (i / j) := fun Q q => a _ (b _ ⟨i, j, rfl, rfl, h, q⟩)
theorem ev_neg (a : EvI ta σ H i) : EvI (zNeg ta) σ H (-i) := fun Q q => a _ ⟨i, rfl, q⟩
theorem ev_int (a : EvI ta σ H i) : EvI (zInt ta) σ H i := fun Q q => a _ (.inl ⟨i, rfl, q⟩)
theorem ev_ix {n : Nat} {b : Addr} {xs : List V} (h : σ[n]? = some (some (.ref b))) (hb : H b = some (.lst xs)) (e : atI xs i = some (.int j)) : EvI (zIx K n i) σ H j := fun Q q => ⟨_, h, b, xs, i, _, rfl, rfl, .of hb, e, q⟩
theorem ev_len {t : TE} {c : Addr} {xs : List V} (a : ∀ Q : VK, Q (.ref c) H → t σ H Q) (hc : H c = some (.lst xs)) : EvI (zLen K t) σ H (xs.length : Int) := fun Q q => a _ ⟨_, _, rfl, .inl ⟨xs, .of hc, rfl⟩, q⟩
theorem ev_if {t : TT} {b : Bool} (h : ∀ Q : Bool → Hp → Prop, Q b H → t σ H Q) (a : b = true → EvI ta σ H i) (c : b = false → EvI tb σ H i) : EvI (tIf t ta tb) σ H i := fun Q q => h _ (by
  cases b with
  | true => exact a rfl Q q
  | false => exact c rfl Q q)
theorem tst_gt (a : EvI ta σ H i) (b : EvI tb σ H j) : ∀ Q : Bool → Hp → Prop, Q (decide (j < i)) H → tTest (tOp zGt ta tb) σ H Q := fun Q q => a _ (b _ ⟨i, j, rfl, rfl, _, rfl, q⟩)
theorem tst_ge (a : EvI ta σ H i) (b : EvI tb σ H j) : ∀ Q : Bool → Hp → Prop, Q (decide (j ≤ i)) H → tTest (tOp zGe ta tb) σ H Q := fun Q q => a _ (b _ ⟨i, j, rfl, rfl, _, rfl, q⟩)
theorem tst_lt (a : EvI ta σ H i) (b : EvI tb σ H j) : ∀ Q : Bool → Hp → Prop, Q (decide (i < j)) H → tTest (tOp zLt ta tb) σ H Q := fun Q q => a _ (b _ ⟨i, j, rfl, rfl, _, rfl, q⟩)
theorem asg_n {n : Nat} (a : EvI ta σ H i) {D : Ends} (h : D.nx (σ.set n (some (.int i))) H) : tAsg ta (gName n) D σ H := a _ h
theorem asg_v {n : Nat} {v : V} (a : ∀ Q : VK, Q v H → ta σ H Q) {D : Ends} (h : D.nx (σ.set n (some v)) H) : tAsg ta (gName n) D σ H := a _ h
theorem ifs {t : TT} {b : Bool} {A B : TS} {D : Ends} (h : ∀ Q : Bool → Hp → Prop, Q b H → t σ H Q) (q : (b = true → A D σ H) ∧ (b = false → B D σ H)) : tIfS t A B D σ H := h _ (by
  cases b with
  | true => exact q.1 rfl
  | false => exact q.2 rfl)
theorem seq_v {n : Nat} {v : V} {u : TS} (a : ∀ Q : VK, Q v H → ta σ H Q) {D : Ends} (h : u D (σ.set n (some v)) H) : tSeq (tAsg ta (gName n)) u D σ H := a _ h
theorem seq_w {n : Nat} {v : V} {u : TS} {H1 : Hp} (a : ∀ Q : VK, Q v H1 → ta σ H Q) {D : Ends} (h : u D (σ.set n (some v)) H1) : tSeq (tAsg ta (gName n)) u D σ H := a _ h
theorem seq_n {n : Nat} {u : TS} (a : EvI ta σ H i) {D : Ends} (h : u D (σ.set n (some (.int i))) H) : tSeq (tAsg ta (gName n)) u D σ H := a _ h
theorem seq_ifs {t : TT} {b : Bool} {A B u : TS} {D : Ends} (h : ∀ Q : Bool → Hp → Prop, Q b H → t σ H Q) (q1 : b = true → A { D with nx := u D } σ H) (q2 : b = false → B { D with nx := u D } σ H) : tSeq (tIfS t A B) u D σ H := h _ (by
  cases b with
  | true => exact q1 rfl
  | false => exact q2 rfl)
theorem seq_put {n : Int} {k : Nat} {b : Addr} {xs : List V} {u : TS} (a : EvI ta σ H i) {D : Ends} (h0 : σ[0]? = some (some (.ref b))) (hb : H b = some (.lst xs)) (hn : ixN xs.length n = some k) (h : u D σ (upd H b (.lst (xs.set k (.int i))))) : tSeq (tAsg ta (zPut n)) u D σ H :=
  a _ ⟨_, h0, b, xs, n, k, rfl, rfl, hb, hn, h⟩
theorem asg_put {n : Int} {k : Nat} {b : Addr} {xs : List V} (a : EvI ta σ H i) {D : Ends} (h0 : σ[0]? = some (some (.ref b))) (hb : H b = some (.lst xs)) (hn : ixN xs.length n = some k) (h : D.nx σ (upd H b (.lst (xs.set k (.int i))))) : tAsg ta (zPut n) D σ H :=
  a _ ⟨_, h0, b, xs, n, k, rfl, rfl, hb, hn, h⟩
end
/-- the box of point: cells, what is left, the seed -/
structure Box3 (b c : Addr) (z s : Int) (ns : List Int) (H : Hp) : Prop where
  ne : b ≠ c
  hb : H b = some (.lst [.ref c, .int z, .int s])
  hc : H c = some (.lst (ns.map V.int))
  z0 : 0 ≤ z
  s0 : 0 ≤ s
  nl : ns.length ≤ 1000
/-- nothing but the box has changed -/
def Else (b c : Addr) (H H' : Hp) : Prop := ∀ a, a ≠ b → a ≠ c → H' a = H a
theorem Else.refl {b c : Addr} {H : Hp} : Else b c H H := fun _ _ _ => rfl
theorem Else.trans {b c : Addr} {H H1 H2 : Hp} (h1 : Else b c H H1) (h2 : Else b c H1 H2) : Else b c H H2 := fun a x y => (h2 a x y).trans (h1 a x y)
theorem Else.b {b c : Addr} {H : Hp} {o : HO} : Else b c H (upd H b o) := fun a x _ => upd_ne x
theorem Else.c {b c : Addr} {H : Hp} {o : HO} : Else b c H (upd H c o) := fun a _ x => upd_ne x
theorem Box3.z' {b c : Addr} {z s z' : Int} {ns : List Int} {H : Hp} (B : Box3 b c z s ns H) (h : 0 ≤ z') : Box3 b c z' s ns (upd H b (.lst [.ref c, .int z', .int s])) := ⟨B.ne, upd_same, by rw [upd_ne B.ne.symm]; exact B.hc, h, B.s0, B.nl⟩
theorem Box3.s' {b c : Addr} {z s s' : Int} {ns : List Int} {H : Hp} (B : Box3 b c z s ns H) (h : 0 ≤ s') : Box3 b c z s' ns (upd H b (.lst [.ref c, .int z, .int s'])) := ⟨B.ne, upd_same, by rw [upd_ne B.ne.symm]; exact B.hc, B.z0, h, B.nl⟩
theorem Box3.c' {b c : Addr} {z s : Int} {ns ns' : List Int} {H : Hp} (B : Box3 b c z s ns H) (h : ns'.length ≤ 1000) : Box3 b c z s ns' (upd H c (.lst (ns'.map V.int))) := ⟨B.ne, by rw [upd_ne B.ne]; exact B.hb, upd_same, B.z0, B.s0, h⟩
theorem Box3.at_ {b c : Addr} {z s : Int} {ns : List Int} {H : Hp} (B : Box3 b c z s ns H) : BoxAt b c H := ⟨B.ne, [z, s], ns, B.hb, B.hc, fun y hy => by
  rcases List.mem_cons.mp hy with rfl | hy
  · exact B.z0
  · rw [List.mem_singleton.mp hy]; exact B.s0, rfl, B.nl⟩
section
variable (K : PySem.W.Frag)
def tLoadA : TS :=
  tSeq (tAsg (zInt (tBM K "list" rPopAt (tVar 1) (tCons (zC 0) tNil))) (gName 2))
  (tSeq (tAsg (tIf (tTest (tOp zGe (tVar 2) (zC 0))) (tOp zMul (zC 2) (tVar 2)) (tOp zSub (tOp zMul (zNeg (zC 2)) (tVar 2)) (zC 1))) (gName 3))
  (tSeq (tIfS (tTest (tOp zGe (tVar 3) (zC 1000000000000000000))) (tRet (tVar 3)) tNext)
    (tAsg (tOp zMod (zInt (tOp zAdd (tOp zAdd (tOp zMul (zIx K 0 2) (zC 69621)) (tOp zMul (tVar 3) (zC 48271))) (zC 11))) (zC 2147483647)) (zPut 2))))
def tLoad : TS :=
  tSeq (tAsg (zIx K 0 0) (gName 1))
  (tSeq (tIfS (tTest (tOp zGt (zLen K (tVar 1)) (zC 0))) (tLoadA K) tNext)
  (tSeq (tAsg (tOp zMod (zInt (tOp zAdd (tOp zMul (zIx K 0 2) (zC 48271)) (zC 17))) (zC 2147483629)) (gName 4))
  (tSeq (tAsg (tOp zMod (zInt (tOp zAdd (tOp zMul (tVar 4) (zC 69621)) (zC 5))) (zC 2147483587)) (gName 5))
  (tSeq (tAsg (tOp zMod (zInt (tOp zAdd (tOp zMul (tVar 5) (zC 40692)) (zC 3))) (zC 2147483563)) (zPut 2))
    (tRet (tOp zAdd (tOp zAdd (tOp zMul (tVar 4) (zC 4611686014132420609)) (tOp zMul (tVar 5) (zC 2147483647))) (zIx K 0 2)))))))
def tDraw (tl : TE) : TS :=
  tSeq (tIfS (tTest (tOp zLt (zIx K 0 1) (tVar 1))) (tAsg tl (zPut 1)) tNext)
  (tSeq (tAsg (tOp zMod (zInt (zIx K 0 1)) (tVar 1)) (gName 2))
  (tSeq (tAsg (tOp zDiv (zIx K 0 1) (tVar 1)) (zPut 1))
    (tRet (tVar 2))))
end
/-- what a load gives -/
def spLoad : Sp := fun vs H Q _ => ∃ b c z s ns, vs = [.ref b] ∧ Box3 b c z s ns H ∧ ∀ r s' ns' H', 0 ≤ r → Box3 b c z s' ns' H' → Else b c H H' → Q (.int r) H'
def spDraw : Sp := fun vs H Q _ => ∃ b c z s ns many, vs = [.ref b, .int many] ∧ Box3 b c z s ns H ∧ (0 < many ∧ many < 1073741824) ∧ ∀ d z' s' ns' H', 0 ≤ d → d < many → Box3 b c z' s' ns' H' → Else b c H H' → Q (.int d) H'
theorem cm_r {i j : Int} (h1 : -(2 ^ 64) < j) (h2 : j < 2 ^ 64) : CMul i j := .inr ⟨h1, h2⟩
theorem cm_l {i j : Int} (h1 : -(2 ^ 64) < i) (h2 : i < 2 ^ 64) : CMul i j := .inl ⟨h1, h2⟩
theorem load_tail {K : PySem.W.Frag} {b c : Addr} {z s : Int} {ns : List Int} {H0 H : Hp} {v2 v3 : Option V} {Q : VK} {D : Ends} (B : Box3 b c z s ns H) (E : Else b c H0 H) (hD : D.rt = Q)
    (k : ∀ r s' ns' H', 0 ≤ r → Box3 b c z s' ns' H' → Else b c H0 H' → Q (.int r) H') :
    (tSeq (tAsg (tOp zMod (zInt (tOp zAdd (tOp zMul (zIx K 0 2) (zC 48271)) (zC 17))) (zC 2147483629)) (gName 4))
  (tSeq (tAsg (tOp zMod (zInt (tOp zAdd (tOp zMul (tVar 4) (zC 69621)) (zC 5))) (zC 2147483587)) (gName 5))
  (tSeq (tAsg (tOp zMod (zInt (tOp zAdd (tOp zMul (tVar 5) (zC 40692)) (zC 3))) (zC 2147483563)) (zPut 2))
    (tRet (tOp zAdd (tOp zAdd (tOp zMul (tVar 4) (zC 4611686014132420609)) (tOp zMul (tVar 5) (zC 2147483647))) (zIx K 0 2)))))) D [some (.ref b), some (.ref c), v2, v3, none, none] H := by
  refine seq_n (ev_mod (ev_int (ev_add (ev_mul (ev_ix rfl B.hb rfl) ev_c (cm_r (by decide) (by decide))) ev_c)) ev_c (by decide)) ?_
  refine seq_n (ev_mod (ev_int (ev_add (ev_mul (ev_v rfl) ev_c (cm_r (by decide) (by decide))) ev_c)) ev_c (by decide)) ?_
  have h1 := Int.emod_nonneg (s * 48271 + 17) (show (2147483629 : Int) ≠ 0 by decide)
  have h2 := Int.emod_nonneg ((s * 48271 + 17) % 2147483629 * 69621 + 5) (show (2147483587 : Int) ≠ 0 by decide)
  have h3 := Int.emod_nonneg (((s * 48271 + 17) % 2147483629 * 69621 + 5) % 2147483587 * 40692 + 3) (show (2147483563 : Int) ≠ 0 by decide)
  refine seq_put (k := 2) (ev_mod (ev_int (ev_add (ev_mul (ev_v rfl) ev_c (cm_r (by decide) (by decide))) ev_c)) ev_c (by decide)) rfl B.hb rfl ?_
  have B2 := B.s' h3
  refine ev_add (ev_add (ev_mul (ev_v rfl) ev_c (cm_r (by decide) (by decide))) (ev_mul (ev_v rfl) ev_c (cm_r (by decide) (by decide)))) (ev_ix rfl B2.hb rfl) _ ?_
  rw [hD]
  exact k _ _ _ _ (by omega) B2 (E.trans .b)
theorem load_ok {K : PySem.W.Frag} {b c : Addr} {z s : Int} {ns : List Int} {H : Hp} {Q : VK} {nx : L2.St → Hp → Prop} (B : Box3 b c z s ns H) (k : ∀ r s' ns' H', 0 ≤ r → Box3 b c z s' ns' H' → Else b c H H' → Q (.int r) H') :
    tLoad K { nx := nx, rt := Q } (L2.start ["box", "cells", "cell", "size", "first", "second"] [.ref b]) H := by
  refine seq_v (v := .ref c) (fun Q q => ⟨_, rfl, b, _, 0, .ref c, rfl, rfl, .of B.hb, rfl, q⟩) ?_
  refine seq_ifs (tst_gt (ev_len (fun Q q => ⟨_, rfl, q⟩) B.hc) ev_c) (fun hl => ?_) (fun hl => ?_)
  · have hl := of_decide_eq_true hl
    cases ns with
    | nil => simp at hl
    | cons n ns =>
      have B1 : Box3 b c z s ns (upd H c (.lst (ns.map V.int))) := B.c' (by have := B.nl; rw [List.length_cons] at this; omega)
      have hx : seqIndex? 0 (List.map V.int (n :: ns)).length = some 0 := (ixN_seq (by simp [ixN])).1
      refine seq_w (H1 := upd H c (.lst (ns.map V.int))) (v := .int n) (fun Q q => ⟨_, rfl, .inl ⟨rfl, _, .of B.hc⟩, c, _, 0, 0, .int n, rfl, rfl, B.hc, by decide, by decide, hx, rfl, .inl ⟨n, rfl, q⟩⟩) ?_
      have body : ∀ size : Int, 0 ≤ size → (tSeq (tIfS (tTest (tOp zGe (tVar 3) (zC 1000000000000000000))) (tRet (tVar 3)) tNext)
          (tAsg (tOp zMod (zInt (tOp zAdd (tOp zAdd (tOp zMul (zIx K 0 2) (zC 69621)) (tOp zMul (tVar 3) (zC 48271))) (zC 11))) (zC 2147483647)) (zPut 2)))
          { nx := fun σ H' => (tSeq (tAsg (tOp zMod (zInt (tOp zAdd (tOp zMul (zIx K 0 2) (zC 48271)) (zC 17))) (zC 2147483629)) (gName 4))
            (tSeq (tAsg (tOp zMod (zInt (tOp zAdd (tOp zMul (tVar 4) (zC 69621)) (zC 5))) (zC 2147483587)) (gName 5))
            (tSeq (tAsg (tOp zMod (zInt (tOp zAdd (tOp zMul (tVar 5) (zC 40692)) (zC 3))) (zC 2147483563)) (zPut 2))
              (tRet (tOp zAdd (tOp zAdd (tOp zMul (tVar 4) (zC 4611686014132420609)) (tOp zMul (tVar 5) (zC 2147483647))) (zIx K 0 2)))))) { nx := nx, rt := Q } σ H', rt := Q }
          [some (.ref b), some (.ref c), some (.int n), some (.int size), none, none] (upd H c (.lst (ns.map V.int))) := by
        intro size hs
        refine seq_ifs (tst_ge (ev_v rfl) ev_c) (fun h => ?_) (fun h => ?_)
        · exact ⟨_, rfl, k size s ns _ hs B1 .c⟩
        · refine asg_put (k := 2) (ev_mod (ev_int (ev_add (ev_add (ev_mul (ev_ix rfl B1.hb rfl) ev_c (cm_r (by decide) (by decide))) (ev_mul (ev_v rfl) ev_c (cm_r (by decide) (by decide)))) ev_c)) ev_c (by decide)) rfl B1.hb rfl ?_
          exact load_tail (B1.s' (Int.emod_nonneg _ (by decide))) (Else.c.trans .b) rfl k
      by_cases hn : (0 : Int) ≤ n
      · refine seq_n (i := 2 * n) (ev_if (tst_ge (ev_v rfl) ev_c) (fun _ => ev_mul ev_c (ev_v rfl) (cm_l (by decide) (by decide))) fun e => ?_) (body _ (by omega))
        exact absurd (decide_eq_true hn) (by rw [e]; decide)
      · refine seq_n (i := -2 * n - 1) (ev_if (tst_ge (ev_v rfl) ev_c) (fun e => absurd (of_decide_eq_true e) hn) fun _ => ev_sub (ev_mul (ev_neg ev_c) (ev_v rfl) (cm_l (by decide) (by decide))) ev_c) (body _ (by omega))
  · exact load_tail B .refl rfl k
theorem draw_ok {K : PySem.W.Frag} {tl : TE} {b c : Addr} {z s many : Int} {ns : List Int} {H : Hp} {Q : VK} {nx : L2.St → Hp → Prop} (B : Box3 b c z s ns H) (hm : 0 < many ∧ many < 1073741824)
    (hl : ∀ (σ : L2.St) (H : Hp) (z s : Int) (ns : List Int) (Q : VK), σ[0]? = some (some (.ref b)) → Box3 b c z s ns H → (∀ r s' ns' H', 0 ≤ r → Box3 b c z s' ns' H' → Else b c H H' → Q (.int r) H') → tl σ H Q)
    (k : ∀ d z' s' ns' H', 0 ≤ d → d < many → Box3 b c z' s' ns' H' → Else b c H H' → Q (.int d) H') :
    tDraw K tl { nx := nx, rt := Q } (L2.start ["box", "many", "digit"] [.ref b, .int many]) H := by
  have tail : ∀ (z s : Int) (ns : List Int) (H1 : Hp), Box3 b c z s ns H1 → Else b c H H1 → (tSeq (tAsg (tOp zMod (zInt (zIx K 0 1)) (tVar 1)) (gName 2))
      (tSeq (tAsg (tOp zDiv (zIx K 0 1) (tVar 1)) (zPut 1)) (tRet (tVar 2)))) { nx := nx, rt := Q } [some (.ref b), some (.int many), none] H1 := by
    intro z s ns H1 B E
    refine seq_n (ev_mod (ev_int (ev_ix rfl B.hb rfl)) (ev_v rfl) hm.1) ?_
    refine seq_put (k := 1) (ev_div (ev_ix rfl B.hb rfl) (ev_v rfl) hm) rfl B.hb rfl ?_
    exact ⟨_, rfl, k _ _ _ _ _ (Int.emod_nonneg _ (by omega)) (Int.emod_lt_of_pos _ hm.1) (B.z' (Int.ediv_nonneg B.z0 (by omega))) (E.trans .b)⟩
  refine seq_ifs (tst_lt (ev_ix rfl B.hb rfl) (ev_v rfl)) (fun h => ?_) (fun h => ?_)
  · refine hl _ _ _ _ _ _ rfl B fun r s' ns' H' hr B' E => ?_
    exact ⟨_, rfl, b, _, 1, 1, rfl, rfl, B'.hb, rfl, tail r s' ns' _ (B'.z' hr) (E.trans .b)⟩
  · exact tail z s ns H B .refl

/-! ### .. and as specs over data -/
def sp_draw : QSp := fun ds Q => ∃ many : Int, ds = [boxD, .int many] ∧ (0 < many ∧ many < 1073741824) ∧ ∀ d : Int, 0 ≤ d → d < many → Q (.int d)
theorem ext_else {W : Wd} {b c : Addr} {H H' : Hp} (ok : W.ok H) (e : W.bc = some (b, c)) (B : BoxAt b c H') (E : Else b c H H') : Ext W H H' := by
  have n := W.nS b c e
  obtain ⟨ne, zs, ns, h1, h2, r⟩ := ok.box b c e
  have keep : ∀ a o, (a ≠ b ∧ a ≠ c) → H a = some o → H' a = some o := fun a o h q => by rw [E a h.1 h.2]; exact q
  refine ⟨⟨fun a o s q => keep a o ⟨fun z => n.1 (z ▸ s), fun z => n.2 (z ▸ s)⟩ q, fun a xs q => keep a _ ⟨fun z => ?_, fun z => ?_⟩ q⟩, fun a ns hx => ?_, fun b' c' e' => ?_⟩
  · subst z; rw [h1] at q; cases q
  · subst z; rw [h2] at q; cases q
  · have := hx b c e
    rw [E a this.1 this.2]
    exact ok.fz a ns hx
  · rw [e] at e'; cases e'; exact B
theorem callee_draw {P : Program} {w : World} {K : PySem.W.Frag} {mg : Str → Option Value} {base : Heap} {name : Str} {k : Nat} {ps : List Str} {f : Addr} {fd : FuncData}
    (G : FnOk P w K mg base CX0 k f fd ps spDraw) (hm : mg name = some (.ref f)) (hk : PySem.W.keepIn K (.ref f) = true) (hb : Binds K fd ps []) : Callee P w K mg base name k ps sp_draw := by
  refine ⟨f, fd, G.imp fun vs H Q E ⟨W, ds, Q', ok, r, ⟨many, e, hmany, q⟩, kk⟩ => ?_, hm, hk, hb⟩
  subst e
  obtain ⟨v1, v2, rfl, r1, r2⟩ := rep2 r
  generalize hbd : boxD = bd at r1
  cases r1 with
  | @box b hbx =>
    cases r2
    unfold Wd.bx at hbx
    cases ebc : W.bc with
    | none => rw [ebc] at hbx; cases hbx
    | some p =>
      obtain ⟨b', c⟩ := p
      rw [ebc] at hbx
      have : b' = b := Option.some.inj hbx
      subst this
      obtain ⟨ne, zs, ns, h1, h2, h3, h4, h5⟩ := ok.box _ _ ebc
      have hz : ∃ z s, zs = [z, s] := by
        match zs, h4 with
        | [z, s], _ => exact ⟨z, s, rfl⟩
      obtain ⟨z, s, rfl⟩ := hz
      exact ⟨b', c, z, s, ns, many, rfl, ⟨ne, h1, h2, h3 z (by simp), h3 s (by simp), h5⟩, hmany, fun d z' s' ns' H' h0 h1 B E => kk _ _ _ (ext_else ok ebc B.at_ E) (.int d) (q d h0 h1)⟩
  | non => cases hbd
  | bl _ => cases hbd
  | int _ => cases hbd
  | str _ _ => cases hbd
  | tup _ _ _ => cases hbd
  | lst _ _ _ _ => cases hbd
  | dK _ _ _ => cases hbd
  | dT _ _ _ => cases hbd
theorem callee_none {P : Program} {w : World} {K : PySem.W.Frag} {mg : Str → Option Value} {base : Heap} {name : Str} {st : Stmt} {ps : List Str} {k : Nat} (A : DefAt K mg name st ps) : Callee P w K mg base name k ps fun _ _ => False := by
  obtain ⟨f, fd, F, hm, hb⟩ := A
  exact ⟨f, fd, ⟨fun vs H Q E ⟨_, _, _, _, _, h, _⟩ => h.elim, fun A outer s H args us vs Q E _ _ _ _ ⟨_, _, _, _, _, h, _⟩ => h.elim⟩, hm, F.kp, hb⟩
theorem Callee.mono {P : Program} {w : World} {K : PySem.W.Frag} {mg : Str → Option Value} {base : Heap} {name : Str} {j k : Nat} {ps : List Str} {sp : QSp} (C : Callee P w K mg base name j ps sp) (h : j ≤ k) : Callee P w K mg base name k ps sp := by
  obtain ⟨f, fd, G, r⟩ := C
  exact ⟨f, fd, G.mono h, r⟩

/-! ### constants by what they are -/
section
variable {X : Cx}
theorem q_strD (w : List Nat) {x j pos} (hx : x = (⟨w.toArray⟩ : Str) := by decide +kernel) (h : w.length ≤ 10000 := by decide +kernel) : QE X (.Constant (.str x) j pos) (fC (sD w)) := by
  subst hx
  exact q_str (by rw [str_len]; simpa using h)
theorem q_ginte {x : Str} {i : Int} {pos : Pos} (hm : ∃ t, X.mg x = some (.int i t)) (hg : Gl X x := by rfl) (hd : (x == ("__debug__" : Str)) = false := by decide) : QE X (.Name x pos) (fC (.int i)) := by
  obtain ⟨t, hm⟩ := hm
  exact q_gint hm hg hd
theorem q_gstre (w : List Nat) {x : Str} {y : Str} {pos : Pos} (hm : ∃ t, X.mg x = some (.str y t)) (hx : y = (⟨w.toArray⟩ : Str) := by decide +kernel) (h : w.length ≤ 10000 := by decide +kernel) (hg : Gl X x := by rfl) (hd : (x == ("__debug__" : Str)) = false := by decide) : QE X (.Name x pos) (fC (sD w)) := by
  obtain ⟨t, hm⟩ := hm
  subst hx
  exact q_gstr hm (by rw [str_len]; simpa using h) hg hd
end
end T2
set_option Elab.async false
set_option linter.all false
set_option maxRecDepth 100000
set_option maxHeartbeats 4000000
set_option autoImplicit false
namespace T2
open PySem L2

/-! ### equal data, without truth values -/
mutual
def nb : D → Bool
  | .none | .int _ | .str _ => true
  | .bool _ | .dict _ => false
  | .list xs | .tuple xs => nbAll xs
def nbAll : List D → Bool
  | [] => true
  | x :: xs => nb x && nbAll xs
end
mutual
theorem eqv_nb : ∀ (d e : D), nb d = true → nb e = true → (PyData.eqv d e = true ↔ d = e)
  | .none, e, _, h => by cases e <;> simp_all [PyData.eqv, nb]
  | .int i, e, _, h => by cases e <;> simp_all [PyData.eqv, nb]
  | .str x, e, _, h => by cases e <;> simp_all [PyData.eqv, nb]
  | .bool b, e, h, _ => by simp [nb] at h
  | .dict b, e, h, _ => by simp [nb] at h
  | .list xs, e, h, h' => by
    cases e with
    | list ys =>
      have := eqv_nbAll xs ys (by simpa [nb] using h) (by simpa [nb] using h')
      simp [PyData.eqv, this]
    | _ => simp [PyData.eqv]
  | .tuple xs, e, h, h' => by
    cases e with
    | tuple ys =>
      have := eqv_nbAll xs ys (by simpa [nb] using h) (by simpa [nb] using h')
      simp [PyData.eqv, this]
    | _ => simp [PyData.eqv]
theorem eqv_nbAll : ∀ (xs ys : List D), nbAll xs = true → nbAll ys = true → (PyData.eqvAll xs ys = true ↔ xs = ys)
  | [], [], _, _ => by simp [PyData.eqvAll]
  | [], _ :: _, _, _ => by simp [PyData.eqvAll]
  | _ :: _, [], _, _ => by simp [PyData.eqvAll]
  | x :: xs, y :: ys, h, h' => by
    rw [nbAll, Bool.and_eq_true] at h h'
    have a := eqv_nb x y h.1 h'.1
    have b := eqv_nbAll xs ys h.2 h'.2
    rw [PyData.eqvAll, Bool.and_eq_true, a, b, List.cons.injEq]
end
theorem nbAll_of {xs : List D} (h : ∀ x ∈ xs, nb x = true) : nbAll xs = true := by
  induction xs with
  | nil => rfl
  | cons x xs ih => rw [nbAll, h x List.mem_cons_self, ih fun y hy => h y (List.mem_cons_of_mem _ hy)]; rfl
theorem plainAll_of {xs : List D} (h : ∀ x ∈ xs, x.plain = true) : PyData.plainAll xs = true := by
  induction xs with
  | nil => rfl
  | cons x xs ih => rw [PyData.plainAll, h x List.mem_cons_self, ih fun y hy => h y (List.mem_cons_of_mem _ hy)]; rfl
theorem depthAll_of {xs : List D} {n : Nat} (h : ∀ x ∈ xs, x.depth ≤ n) : PyData.depthAll xs ≤ n := by
  induction xs with
  | nil => exact Nat.zero_le _
  | cons x xs ih =>
    rw [PyData.depthAll]
    have := h x List.mem_cons_self
    have := ih fun y hy => h y (List.mem_cons_of_mem _ hy)
    omega
mutual
theorem plain_nb : ∀ d : D, nb d = true → d.plain = true
  | .none, _ => rfl
  | .int _, _ => rfl
  | .str _, _ => rfl
  | .bool _, h => rfl
  | .dict _, h => by simp [nb] at h
  | .list xs, h => by
    have := plainAll_nb xs (by simpa [nb] using h)
    simpa [PyData.plain] using this
  | .tuple xs, h => by
    have := plainAll_nb xs (by simpa [nb] using h)
    simpa [PyData.plain] using this
theorem plainAll_nb : ∀ xs : List D, nbAll xs = true → PyData.plainAll xs = true
  | [], _ => rfl
  | x :: xs, h => by
    rw [nbAll, Bool.and_eq_true] at h
    rw [PyData.plainAll, plain_nb x h.1, plainAll_nb xs h.2]; rfl
end
theorem sD_inj {u v : List Nat} : (sD u = sD v) ↔ u = v := by
  constructor
  · intro h
    injection h with h
    injection h with h
    have := congrArg Array.toList h
    simpa using this
  · intro h; rw [h]
theorem eqv_sD (u v : List Nat) : PyData.eqv (sD u) (sD v) = decide (u = v) := by
  rw [Bool.eq_iff_iff, eqv_nb _ _ rfl rfl, sD_inj, decide_eq_true_eq]
theorem eqv_self : ∀ d : D, d.plain = true → PyData.eqv d d = true := by
  intro d
  exact PyData.rec (motive_1 := fun d => d.plain = true → PyData.eqv d d = true) (motive_2 := fun xs => PyData.plainAll xs = true → PyData.eqvAll xs xs = true) (motive_3 := fun _ => True) (motive_4 := fun _ => True)
    (fun _ => by simp [PyData.eqv]) (fun b _ => by simp [PyData.eqv]) (fun i _ => by simp [PyData.eqv]) (fun x _ => by simp [PyData.eqv])
    (fun xs ih h => by rw [PyData.eqv]; exact ih (by simpa [PyData.plain] using h)) (fun xs ih h => by rw [PyData.eqv]; exact ih (by simpa [PyData.plain] using h)) (fun _ _ h => by simp [PyData.plain] at h)
    (fun _ => by simp [PyData.eqvAll]) (fun x xs h1 h2 h => by
      rw [PyData.plainAll, Bool.and_eq_true] at h
      rw [PyData.eqvAll, h1 h.1, h2 h.2]; rfl) trivial (fun _ _ _ _ => trivial) (fun _ _ _ _ => trivial) d

/-! ### operators on words, numbers -/
section
variable {Q : D → Prop}
theorem oEqS (u v : List Nat) : oEq (sD u) (sD v) Q = Q (.bool (decide (u = v))) := by
  unfold oEq
  rw [eqv_sD]
  exact propext ⟨fun h => h.2, fun h => ⟨⟨rfl, rfl, Nat.zero_le _⟩, h⟩⟩
theorem oNeS (u v : List Nat) : oNe (sD u) (sD v) Q = Q (.bool (!decide (u = v))) := by
  unfold oNe
  rw [eqv_sD]
  exact propext ⟨fun h => h.2, fun h => ⟨⟨rfl, rfl, Nat.zero_le _⟩, h⟩⟩
theorem eqv_int (i j : Int) : PyData.eqv (.int i) (.int j) = decide (i = j) := by
  rw [Bool.eq_iff_iff, eqv_nb _ _ rfl rfl, PyData.int.injEq, decide_eq_true_eq]
theorem oEqI (i j : Int) : oEq (.int i) (.int j) Q = Q (.bool (decide (i = j))) := by
  unfold oEq
  rw [eqv_int]
  exact propext ⟨fun h => h.2, fun h => ⟨⟨rfl, rfl, Nat.zero_le _⟩, h⟩⟩
theorem oNeI (i j : Int) : oNe (.int i) (.int j) Q = Q (.bool (!decide (i = j))) := by
  unfold oNe
  rw [eqv_int]
  exact propext ⟨fun h => h.2, fun h => ⟨⟨rfl, rfl, Nat.zero_le _⟩, h⟩⟩
theorem oEq_ok {d e : D} {b : Bool} (h1 : d.plain = true) (h2 : e.plain = true) (h3 : min d.depth e.depth ≤ 60) (h : PyData.eqv d e = b) (q : Q (.bool b)) : oEq d e Q := ⟨⟨h1, h2, h3⟩, by rw [h]; exact q⟩
theorem oNe_ok {d e : D} {b : Bool} (h1 : d.plain = true) (h2 : e.plain = true) (h3 : min d.depth e.depth ≤ 60) (h : PyData.eqv d e = b) (q : Q (.bool (!b))) : oNe d e Q := ⟨⟨h1, h2, h3⟩, by rw [h]; exact q⟩
theorem oLtS (u v : List Nat) : oLt (sD u) (sD v) Q = Q (.bool (decide (u < v))) := rfl
theorem oLtI (i j : Int) : oLt (.int i) (.int j) Q = Q (.bool (decide (i < j))) := rfl
theorem oLeI (i j : Int) : oLe (.int i) (.int j) Q = Q (.bool (decide (i ≤ j))) := rfl
theorem oGtI (i j : Int) : oGt (.int i) (.int j) Q = Q (.bool (decide (j < i))) := rfl
theorem oGeI (i j : Int) : oGe (.int i) (.int j) Q = Q (.bool (decide (j ≤ i))) := rfl
theorem oAddS (u v : List Nat) : oAdd (sD u) (sD v) Q = (u.length + v.length ≤ 16000000 ∧ Q (sD (u ++ v))) := rfl
theorem oAddI' (i j : Int) : oAdd (.int i) (.int j) Q = Q (.int (i + j)) := rfl
theorem oAddT (u v : List D) : oAdd (.tuple u) (.tuple v) Q = (u.length + v.length ≤ 16000000 ∧ Q (.tuple (u ++ v))) := rfl
theorem oAddL (u v : List D) : oAdd (.list u) (.list v) Q = (u.length + v.length ≤ 16000000 ∧ Q (.list (u ++ v))) := rfl
theorem oLenS (u : List Nat) : oLen [sD u] Q = Q (.int u.length) := rfl
theorem oLenT (u : List D) : oLen [.tuple u] Q = Q (.int u.length) := rfl
theorem oLenL (u : List D) : oLen [.list u] Q = Q (.int u.length) := rfl
theorem oSlS (u : List Nat) (l h : Option Int) : oSl (sD u) l h Q = Q (sD (cut u l h)) := rfl
theorem oSlT (u : List D) (l h : Option Int) : oSl (.tuple u) l h Q = Q (.tuple (cut u l h)) := rfl
theorem oSlL (u : List D) (l h : Option Int) : oSl (.list u) l h Q = Q (.list (cut u l h)) := rfl
theorem oIxT {xs : List D} {i : Nat} {d : D} (h : xs[i]? = some d) : oIx (.tuple xs) (.int (i : Nat)) Q = Q d := by
  have e := atI_nat h
  unfold oIx
  exact propext ⟨fun ⟨v, h1, q⟩ => by rw [e] at h1; cases h1; exact q, fun q => ⟨d, e, q⟩⟩
theorem oIxL {xs : List D} {i : Nat} {d : D} (h : xs[i]? = some d) : oIx (.list xs) (.int (i : Nat)) Q = Q d := by
  have e := atI_nat h
  unfold oIx
  exact propext ⟨fun ⟨v, h1, q⟩ => by rw [e] at h1; cases h1; exact q, fun q => ⟨d, e, q⟩⟩
theorem oIx0 (d : D) (ds : List D) : oIx (.tuple (d :: ds)) (.int 0) Q = Q d := oIxT (i := 0) rfl
theorem oIx1 (c d : D) (ds : List D) : oIx (.tuple (c :: d :: ds)) (.int 1) Q = Q d := oIxT (i := 1) rfl
theorem oIxT1 {xs : List D} {i : Nat} {d : D} (h : xs[i + 1]? = some d) : oIx (.tuple xs) (.int ((i : Int) + 1)) Q = Q d := oIxT (i := i + 1) h
theorem oMulS (u : List Nat) (j : Int) : oMul (sD u) (.int j) Q = (u.length * j.toNat ≤ 16000000 ∧ -9000000000000000000 < j ∧ j < 9000000000000000000 ∧ Q (sD (List.replicate j.toNat u).flatten)) := rfl
theorem oMulI (i j : Int) : oMul (.int i) (.int j) Q = (((-18446744073709551616 < i ∧ i < 18446744073709551616) ∨ (-18446744073709551616 < j ∧ j < 18446744073709551616)) ∧ Q (.int (i * j))) := rfl
theorem oFdivI (i j : Int) : oFdiv (.int i) (.int j) Q = ((0 < j ∧ j < 1073741824) ∧ Q (.int (i / j))) := rfl
theorem oIsB (a b : Bool) : oIs (.bool a) (.bool b) Q = Q (.bool (decide (a = b))) := propext ⟨fun ⟨x, e, q⟩ => by cases e; exact q, fun q => ⟨a, rfl, q⟩⟩
theorem oIsntB (a b : Bool) : oIsnt (.bool a) (.bool b) Q = Q (.bool (!decide (a = b))) := propext ⟨fun ⟨x, e, q⟩ => by cases e; exact q, fun q => ⟨a, rfl, q⟩⟩
theorem oIsN (d : D) : oIs d .none Q = Q (.bool (isNone d)) := rfl
theorem oIsntN (d : D) : oIsnt d .none Q = Q (.bool (!isNone d)) := rfl
theorem oIxS {u : List Nat} {i : Nat} {c : Nat} (h : u[i]? = some c) (q : Q (sD [c])) : oIx (sD u) (.int (i : Nat)) Q := by
  have e := atI_nat h
  unfold oIx
  exact ⟨c, e, q⟩
end
theorem sIx_n (n k d : Nat) : HT.sIx n d (some (k : Int)) = min k n := HT.sIx_nat n d k
theorem cut_nat {α : Type} (xs : List α) (i j : Nat) : cut xs (some (i : Int)) (some (j : Int)) = (xs.drop i).take (j - i) := by
  unfold cut
  rw [sIx_n, sIx_n]
  by_cases h : i ≤ xs.length
  · rw [Nat.min_eq_left h]
    by_cases hj : j ≤ xs.length
    · rw [Nat.min_eq_left hj]
    · rw [Nat.min_eq_right (by omega), List.take_of_length_le (by simp), List.take_of_length_le (by simp; omega)]
  · have e : min i xs.length = xs.length := by omega
    rw [e, List.drop_of_length_le (Nat.le_refl _), List.drop_of_length_le (show xs.length ≤ i by omega)]
    simp
theorem cut_to {α : Type} (xs : List α) (j : Nat) : cut xs none (some (j : Int)) = xs.take j := by
  unfold cut
  rw [sIx_n, HT.sIx_none]
  by_cases hj : j ≤ xs.length
  · rw [Nat.min_eq_left hj]; simp
  · rw [Nat.min_eq_right (by omega), List.take_of_length_le (by simp), List.take_of_length_le (by omega)]
    simp
theorem cut_from {α : Type} (xs : List α) (i : Nat) : cut xs (some (i : Int)) none = xs.drop i := by
  unfold cut
  rw [sIx_n, HT.sIx_none]
  by_cases h : i ≤ xs.length
  · rw [Nat.min_eq_left h, List.take_of_length_le (by simp)]
  · rw [Nat.min_eq_right (by omega), List.drop_of_length_le (Nat.le_refl _), List.drop_of_length_le (by omega)]
    simp
theorem cut_last {α : Type} (xs : List α) : cut xs (some (-1)) none = xs.drop (xs.length - 1) := by
  unfold cut
  rw [HT.sIx_none]
  have : HT.sIx xs.length 0 (some (-1)) = xs.length - 1 := by
    show (if (-1 : Int) < 0 then ((-1 : Int) + (xs.length : Int)).toNat else min (-1 : Int).toNat xs.length) = _
    rw [if_pos (by decide)]
    omega
  rw [this, List.take_of_length_le (by simp)]

theorem cut_at {α : Type} (xs : List α) (p n : Nat) : cut xs (some (p : Int)) (some ((p : Int) + (n : Int))) = (xs.drop p).take n := by
  rw [show ((p : Int) + (n : Int)) = ((p + n : Nat) : Int) by omega, cut_nat, Nat.add_sub_cancel_left]
theorem cut_fromA {α : Type} (xs : List α) (p n : Nat) : cut xs (some ((p : Int) + (n : Int))) none = xs.drop (p + n) := by
  rw [show ((p : Int) + (n : Int)) = ((p + n : Nat) : Int) by omega, cut_from]

/-! ### loops -/
section
variable {α : Type} {xs : List α} {g : α → D} {p : Pat} {c : FT} {e : FE} {env : EV} {acc : List D} {Q : List D → Prop}
theorem qComp_yes {d : D} {ds : List D} (h : ∃ asg, bindP p d = some asg ∧ e (setE env asg) fun y => qComp p fYes e env ds (acc ++ [y]) Q) : qComp p fYes e env (d :: ds) acc Q := by
  obtain ⟨asg, h1, h2⟩ := h
  unfold qComp
  have key : ∀ R : Bool → Prop, R true → fYes (setE env asg) R := fun _ h => h
  exact ⟨asg, h1, key _ (by rw [if_pos rfl]; exact h2)⟩
theorem qComp_map (g' : α → D) (step : ∀ x ∈ xs, ∃ asg, bindP p (g x) = some asg ∧ ∀ Q' : D → Prop, Q' (g' x) → e (setE env asg) Q') (q : Q (acc ++ xs.map g')) : qComp p fYes e env (xs.map g) acc Q := by
  induction xs generalizing acc with
  | nil => unfold qComp; simpa using q
  | cons x xs ih =>
    obtain ⟨asg, h1, h2⟩ := step x List.mem_cons_self
    rw [List.map_cons]
    refine qComp_yes ⟨asg, h1, ?_⟩
    refine h2 _ (ih (fun y hy => step y (List.mem_cons_of_mem _ hy)) ?_)
    simpa using q
theorem qComp_filter (f : α → Bool) (g' : α → D) (step : ∀ x ∈ xs, ∃ asg, bindP p (g x) = some asg ∧ (∀ Q' : Bool → Prop, Q' (f x) → c (setE env asg) Q') ∧ (f x = true → ∀ Q' : D → Prop, Q' (g' x) → e (setE env asg) Q')) (q : Q (acc ++ (xs.filter f).map g')) : qComp p c e env (xs.map g) acc Q := by
  induction xs generalizing acc with
  | nil => unfold qComp; simpa using q
  | cons x xs ih =>
    obtain ⟨asg, h1, h2, h3⟩ := step x List.mem_cons_self
    rw [List.map_cons]
    unfold qComp
    refine ⟨asg, h1, h2 _ ?_⟩
    have ih' := fun {a : List D} => ih (acc := a) (fun y hy => step y (List.mem_cons_of_mem _ hy))
    cases hf : f x with
    | true =>
      rw [if_pos rfl]
      refine h3 hf _ (ih' ?_)
      rw [List.filter_cons_of_pos hf] at q
      simpa using q
    | false =>
      rw [if_neg (by decide)]
      refine ih' ?_
      rw [List.filter_cons_of_neg (by rw [hf]; decide)] at q
      exact q
theorem qComp_any (P : D → Prop) (step : ∀ x ∈ xs, ∃ asg, bindP p (g x) = some asg ∧ ∀ Q' : D → Prop, (∀ y, P y → Q' y) → e (setE env asg) Q') (q : ∀ ys : List D, ys.length = xs.length → (∀ y ∈ ys, P y) → Q (acc ++ ys)) : qComp p fYes e env (xs.map g) acc Q := by
  induction xs generalizing acc with
  | nil => unfold qComp; simpa using q [] rfl (fun _ h => nomatch h)
  | cons x xs ih =>
    obtain ⟨asg, h1, h2⟩ := step x List.mem_cons_self
    rw [List.map_cons]
    refine qComp_yes ⟨asg, h1, ?_⟩
    refine h2 _ fun y hy => ih (fun y hy => step y (List.mem_cons_of_mem _ hy)) fun ys hl hys => ?_
    have := q (y :: ys) (by rw [List.length_cons, List.length_cons, hl]) (fun z hz => by
      rcases List.mem_cons.mp hz with rfl | hz
      · exact hy
      · exact hys z hz)
    simpa using this
/-- a loop by what holds behind its first i turns -/
theorem qFor_inv {F : FS} {D' : DE} (I : Nat → SE → Prop) {env : SE} (h0 : I 0 env) (step : ∀ i x env, xs[i]? = some x → I i env → ∃ asg, bindP p (g x) = some asg ∧ ∀ K : SE → Prop, (∀ env', I (i + 1) env' → K env') → F { D' with nx := K, ct := K, bk := D'.nx } (setS env asg))
    (fin : ∀ env, I xs.length env → D'.nx env) : qFor p F (xs.map g) D' env := by
  have key : ∀ (n : Nat) (env : SE), n ≤ xs.length → I n env → qFor p F ((xs.drop n).map g) D' env := by
    intro n
    induction hk : xs.length - n generalizing n with
    | zero =>
      intro env hn hI
      have : n = xs.length := by omega
      subst this
      rw [List.drop_of_length_le (Nat.le_refl _)]
      exact fin env hI
    | succ k ih =>
      intro env hn hI
      have hlt : n < xs.length := by omega
      rw [List.drop_eq_getElem_cons hlt, List.map_cons]
      obtain ⟨asg, h1, h2⟩ := step n _ env (List.getElem?_eq_getElem hlt) hI
      unfold qFor
      exact ⟨asg, h1, h2 _ fun env' hI' => ih (n + 1) (by omega) env' (by omega) hI'⟩
  have := key 0 env (Nat.zero_le _) h0
  simpa using this
end
theorem qFor_ids {ds : List D} {p : Pat} {F : FS} {D' : DE} (I : Nat → SE → Prop) {env : SE} (h0 : I 0 env) (step : ∀ i x env, ds[i]? = some x → I i env → ∃ asg, bindP p x = some asg ∧ ∀ K : SE → Prop, (∀ env', I (i + 1) env' → K env') → F { D' with nx := K, ct := K, bk := D'.nx } (setS env asg))
    (fin : ∀ env, I ds.length env → D'.nx env) : qFor p F ds D' env := by
  have := qFor_inv (xs := ds) (g := id) (p := p) (F := F) (D' := D') I h0 step fin
  rwa [List.map_id] at this
theorem qComp_ids {ds : List D} {p : Pat} {e : FE} {env : EV} {acc : List D} {Q : List D → Prop} (g' : D → D) (step : ∀ x ∈ ds, ∃ asg, bindP p x = some asg ∧ ∀ Q' : D → Prop, Q' (g' x) → e (setE env asg) Q') (q : Q (acc ++ ds.map g')) : qComp p fYes e env ds acc Q := by
  have := qComp_map (xs := ds) (g := id) (p := p) (e := e) (env := env) (acc := acc) (Q := Q) g' step q
  rwa [List.map_id] at this
/-- a while loop by what is left -/
theorem sWhile_idx {c : FT} {F : FS} {D' : DE} {env : SE} (I : Nat → SE → Prop) (n0 : Nat) (h0 : I n0 env) (h : ∀ n env, I n env → ∀ K : SE → Prop, (∀ m e, m < n → I m e → K e) → c (vN env) fun b => if b = true then F { D' with nx := K, ct := K, bk := D'.nx } env else D'.nx env) : sWhile c F D' env := by
  classical
  have wf : ∀ e : SE, ∃ k : Nat, (∃ n, I n e) → (I k e ∧ ∀ j, I j e → k ≤ j) := by
    intro e
    by_cases hn : ∃ n, I n e
    · obtain ⟨n, hn⟩ := hn
      induction n using Nat.strongRecOn with
      | ind n ih =>
        by_cases hm : ∃ m, m < n ∧ I m e
        · obtain ⟨m, h1, h2⟩ := hm
          exact ih m h1 h2
        · refine ⟨n, fun _ => ⟨hn, fun j hj => ?_⟩⟩
          by_cases hjn : n ≤ j
          · exact hjn
          · exact absurd ⟨j, by omega, hj⟩ hm
    · exact ⟨0, fun z => absurd z hn⟩
  obtain ⟨μ, hμ⟩ := Classical.axiomOfChoice wf
  refine ⟨fun e => ∃ n, I n e, μ, ⟨n0, h0⟩, fun env hP => ?_⟩
  obtain ⟨h1, h2⟩ := hμ env hP
  exact h (μ env) env h1 _ fun m e hm hI => ⟨⟨m, hI⟩, Nat.lt_of_le_of_lt ((hμ e ⟨m, hI⟩).2 m hI) hm⟩
theorem natsD0 (n : Nat) : natsD 0 n = (List.range n).map fun k : Nat => PyData.int (k : Int) := by
  unfold natsD
  apply List.map_congr_left
  intro k _
  rw [Int.zero_add]
theorem natsD_range (n : Nat) : natsD 0 ((n : Int)).toNat = (List.range n).map fun k : Nat => PyData.int (k : Int) := by
  rw [natsD0]; rfl
end T2
set_option Elab.async false
set_option linter.all false
set_option maxRecDepth 100000
set_option autoImplicit false
namespace T2
open PySem L2
/-! ### the readings' equations with named continuations -/
def KBin2 (g : O2) (x : D) (Q : D → Prop) : D → Prop := fun y => g x y Q
def KBin1 (g : O2) (fb : FE) (env : EV) (Q : D → Prop) : D → Prop := fun x => fb env (KBin2 g x Q)
def KTB (Q : Bool → Prop) : D → Prop := fun x => asB x Q
def KTru (Q : Bool → Prop) : D → Prop := fun x => isDict x = false ∧ Q (truD x)
def KAndT (u : FT) (env : EV) (Q : Bool → Prop) : Bool → Prop := fun c => if c = true then u env Q else Q false
def KOrT (u : FT) (env : EV) (Q : Bool → Prop) : Bool → Prop := fun c => if c = true then Q true else u env Q
def KNotT (Q : Bool → Prop) : Bool → Prop := fun c => Q (!c)
def KAnd2 (fb : FE) (env : EV) (Q : D → Prop) : Bool → Prop := fun c => if c = true then fb env Q else Q (.bool false)
def KAnd (fb : FE) (env : EV) (Q : D → Prop) : D → Prop := fun x => asB x (KAnd2 fb env Q)
def KOr2 (fb : FE) (env : EV) (Q : D → Prop) : Bool → Prop := fun c => if c = true then Q (.bool true) else fb env Q
def KOr (fb : FE) (env : EV) (Q : D → Prop) : D → Prop := fun x => asB x (KOr2 fb env Q)
def KNot2 (Q : D → Prop) : Bool → Prop := fun c => Q (.bool (!c))
def KNot (Q : D → Prop) : D → Prop := fun x => asB x (KNot2 Q)
def KIf (fa : FE) (fb : FE) (env : EV) (Q : D → Prop) : Bool → Prop := fun c => if c = true then fa env Q else fb env Q
def KCh5 (g' : O2) (y : D) (Q : D → Prop) : D → Prop := fun w => g' y w Q
def KCh4 (g' : O2) (y : D) (fc : FE) (env : EV) (Q : D → Prop) : Bool → Prop := fun k => if k = true then fc env (KCh5 g' y Q) else Q (.bool false)
def KCh3 (g' : O2) (y : D) (fc : FE) (env : EV) (Q : D → Prop) : D → Prop := fun z => asB z (KCh4 g' y fc env Q)
def KCh2 (g : O2) (g' : O2) (x : D) (fc : FE) (env : EV) (Q : D → Prop) : D → Prop := fun y => g x y (KCh3 g' y fc env Q)
def KCh1 (g : O2) (g' : O2) (fb : FE) (fc : FE) (env : EV) (Q : D → Prop) : D → Prop := fun x => fb env (KCh2 g g' x fc env Q)
def negI (x : D) (Q : D → Prop) : Prop := match x with
  | .int i => Q (.int (-i))
  | _ => False
def KNeg (Q : D → Prop) : D → Prop := fun x => negI x Q
def KCons2 (x : D) (Q : List D → Prop) : List D → Prop := fun xs => Q (x :: xs)
def KCons (r : FA) (env : EV) (Q : List D → Prop) : D → Prop := fun x => r env (KCons2 x Q)
def KTup (Q : D → Prop) : List D → Prop := fun xs => xs.length ≤ 1000 ∧ Q (.tuple xs)
def KLst (Q : D → Prop) : List D → Prop := fun xs => xs.length ≤ 1000 ∧ Q (.list xs)
def prtI (x : D) (Q : Option Int → Prop) : Prop := match x with
  | .int i => Q (some i)
  | _ => False
def KPart (Q : Option Int → Prop) : D → Prop := fun x => prtI x Q
def KSl3 (x : D) (lo : Option Int) (Q : D → Prop) : Option Int → Prop := fun hi => oSl x lo hi Q
def KSl2 (x : D) (h : FO) (env : EV) (Q : D → Prop) : Option Int → Prop := fun lo => h env (KSl3 x lo Q)
def KSl1 (l : FO) (h : FO) (env : EV) (Q : D → Prop) : D → Prop := fun x => l env (KSl2 x h env Q)
def KCall (g : OC) (Q : D → Prop) : List D → Prop := fun ds => g ds Q
def KCallF (sp : QSp) (Q : D → Prop) : List D → Prop := fun ds => sp ds Q
def KIsi (T : Ty) (Q : D → Prop) : D → Prop := fun d => isDict d = false ∧ Q (.bool (isT T d))
def KR1 (Q : List D → Prop) : Int → Prop := fun j => (-4000000000000000000 ≤ j ∧ j ≤ 16000000) ∧ Q (natsD 0 j.toNat)
def KR0 (Q : List D → Prop) : D → Prop := fun x => asI x (KR1 Q)
def KRj (i : Int) (Q : List D → Prop) : Int → Prop := fun j => (j - i ≤ 16000000 ∧ -4000000000000000000 ≤ i ∧ i ≤ 4000000000000000000 ∧ -4000000000000000000 ≤ j ∧ j ≤ 4000000000000000000) ∧ Q (natsD i (j - i).toNat)
def KRi (y : D) (Q : List D → Prop) : Int → Prop := fun i => asI y (KRj i Q)
def KRy (x : D) (Q : List D → Prop) : D → Prop := fun y => asI x (KRi y Q)
def KRx (fb : FE) (env : EV) (Q : List D → Prop) : D → Prop := fun x => fb env (KRy x Q)
def KSeq (Q : List D → Prop) : D → Prop := fun x => seqD x Q
def KEn2 (Q : List D → Prop) : List D → Prop := fun ds => Q (enumD ds)
def KEn (Q : List D → Prop) : D → Prop := fun x => seqD x (KEn2 Q)
def KLc2 (Q : D → Prop) : List D → Prop := fun ys => Q (.list ys)
def KLc (p : Pat) (vs : List Nat) (c : FT) (e : FE) (env : EV) (Q : D → Prop) : List D → Prop := fun ds => qComp p c e (wipeE env vs) ds [] (KLc2 Q)
def KRev (Q : D → Prop) : D → Prop := fun x => oRev x Q
def KJ2 (x : D) (Q : D → Prop) : D → Prop := fun d => oJoin x d Q
def KJ (fe : FE) (env : EV) (Q : D → Prop) : D → Prop := fun x => (∃ s, x = .str s) ∧ fe env (KJ2 x Q)
def KRet (D' : DE) : D → Prop := fun d => D'.rt d
def KSIf (F : FS) (G : FS) (D' : DE) (env : SE) : Bool → Prop := fun b => if b = true then F D' env else G D' env
def KExpr (D' : DE) (env : SE) : D → Prop := fun d => D'.nx env
def KSetF (i : Nat) (D' : DE) (env : SE) : D → Prop := fun d => D'.nx (env.set i (some (.fr d)))
def KSetN (i : Nat) (D' : DE) (env : SE) : D → Prop := fun d => flat d = true ∧ D'.nx (env.set i (some (.fr d)))
def KFor (p : Pat) (F : FS) (D' : DE) (env : SE) : List D → Prop := fun ds => qFor p F ds D' env
def KUnp (p : Pat) (D' : DE) (env : SE) : D → Prop := fun d => ∃ asg, bindP p d = some asg ∧ D'.nx (setS env asg)
def KUnpN (p : Pat) (D' : DE) (env : SE) : D → Prop := fun d => flat d = true ∧ ∃ asg, bindP p d = some asg ∧ D'.nx (setS env asg)
def KPar2 (i : Nat) (j : Nat) (d : D) (D' : DE) (env : SE) : D → Prop := fun e => flat d = true ∧ flat e = true ∧ D'.nx ((env.set i (some (.fr d))).set j (some (.fr e)))
def KPar (i : Nat) (j : Nat) (fb : FE) (D' : DE) (env : SE) : D → Prop := fun d => fb (vN env) (KPar2 i j d D' env)
def KOwn (i : Nat) (D' : DE) (env : SE) : D → Prop := fun d => D'.nx (env.set i (some (.ow d)))
def KApp2 (m : Bool) (i : Nat) (ds : List D) (D' : DE) (env : SE) : D → Prop := fun d => okM m d ∧ ds.length < 16000000 ∧ D'.nx (env.set i (some (.ow (.list (ds ++ [d])))))
def KApp (m : Bool) (i : Nat) (fe : FE) (D' : DE) (env : SE) : List D → Prop := fun ds => fe (vw m env) (KApp2 m i ds D' env)
def KExt3 (i : Nat) (ds : List D) (D' : DE) (env : SE) : List D → Prop := fun es => ds.length + es.length ≤ 16000000 ∧ D'.nx (env.set i (some (.ow (.list (ds ++ es)))))
def KExt2 (m : Bool) (i : Nat) (ds : List D) (D' : DE) (env : SE) : D → Prop := fun d => exL m d (KExt3 i ds D' env)
def KExt (m : Bool) (i : Nat) (fe : FE) (D' : DE) (env : SE) : List D → Prop := fun ds => fe (vw m env) (KExt2 m i ds D' env)
def KAug3 (i : Nat) (D' : DE) (env : SE) : D → Prop := fun z => D'.nx (env.set i (some (.fr z)))
def KAug2 (g : O2) (i : Nat) (d : D) (D' : DE) (env : SE) : D → Prop := fun e => g d e (KAug3 i D' env)
def KAug (g : O2) (i : Nat) (fe : FE) (D' : DE) (env : SE) : D → Prop := fun d => fe (vF env) (KAug2 g i d D' env)
def KAugN2 (g : O2) (i : Nat) (d : D) (D' : DE) (env : SE) : D → Prop := fun e => flat e = true ∧ g d e (KAug3 i D' env)
def KAugN (g : O2) (i : Nat) (fe : FE) (D' : DE) (env : SE) : D → Prop := fun d => fe (vN env) (KAugN2 g i d D' env)
theorem xKBin2 {g : O2} {x : D} {Q : D → Prop} (y : D) : KBin2 g x Q y = (g x y Q) := rfl
theorem xKBin1 {g : O2} {fb : FE} {env : EV} {Q : D → Prop} (x : D) : KBin1 g fb env Q x = (fb env (KBin2 g x Q)) := rfl
theorem eBin {g : O2} {fa : FE} {fb : FE} {env : EV} {Q : D → Prop} : fBin g fa fb env Q = (fa env (KBin1 g fb env Q)) := rfl
theorem xKTB {Q : Bool → Prop} (x : D) : KTB Q x = (asB x Q) := rfl
theorem eTB {fe : FE} {env : EV} {Q : Bool → Prop} : fTB fe env Q = (fe env (KTB Q)) := rfl
theorem xKTru {Q : Bool → Prop} (x : D) : KTru Q x = (isDict x = false ∧ Q (truD x)) := rfl
theorem eTru {fe : FE} {env : EV} {Q : Bool → Prop} : fTru fe env Q = (fe env (KTru Q)) := rfl
theorem xKAndT {u : FT} {env : EV} {Q : Bool → Prop} (c : Bool) : KAndT u env Q c = (if c = true then u env Q else Q false) := rfl
theorem eAndT {t : FT} {u : FT} {env : EV} {Q : Bool → Prop} : fAndT t u env Q = (t env (KAndT u env Q)) := rfl
theorem xKOrT {u : FT} {env : EV} {Q : Bool → Prop} (c : Bool) : KOrT u env Q c = (if c = true then Q true else u env Q) := rfl
theorem eOrT {t : FT} {u : FT} {env : EV} {Q : Bool → Prop} : fOrT t u env Q = (t env (KOrT u env Q)) := rfl
theorem xKNotT {Q : Bool → Prop} (c : Bool) : KNotT Q c = (Q (!c)) := rfl
theorem eNotT {t : FT} {env : EV} {Q : Bool → Prop} : fNotT t env Q = (t env (KNotT Q)) := rfl
theorem xKAnd2 {fb : FE} {env : EV} {Q : D → Prop} (c : Bool) : KAnd2 fb env Q c = (if c = true then fb env Q else Q (.bool false)) := rfl
theorem xKAnd {fb : FE} {env : EV} {Q : D → Prop} (x : D) : KAnd fb env Q x = (asB x (KAnd2 fb env Q)) := rfl
theorem eAnd {fa : FE} {fb : FE} {env : EV} {Q : D → Prop} : fAnd fa fb env Q = (fa env (KAnd fb env Q)) := rfl
theorem xKOr2 {fb : FE} {env : EV} {Q : D → Prop} (c : Bool) : KOr2 fb env Q c = (if c = true then Q (.bool true) else fb env Q) := rfl
theorem xKOr {fb : FE} {env : EV} {Q : D → Prop} (x : D) : KOr fb env Q x = (asB x (KOr2 fb env Q)) := rfl
theorem eOr {fa : FE} {fb : FE} {env : EV} {Q : D → Prop} : fOr fa fb env Q = (fa env (KOr fb env Q)) := rfl
theorem xKNot2 {Q : D → Prop} (c : Bool) : KNot2 Q c = (Q (.bool (!c))) := rfl
theorem xKNot {Q : D → Prop} (x : D) : KNot Q x = (asB x (KNot2 Q)) := rfl
theorem eNot {fa : FE} {env : EV} {Q : D → Prop} : fNot fa env Q = (fa env (KNot Q)) := rfl
theorem xKIf {fa : FE} {fb : FE} {env : EV} {Q : D → Prop} (c : Bool) : KIf fa fb env Q c = (if c = true then fa env Q else fb env Q) := rfl
theorem eIf {t : FT} {fa : FE} {fb : FE} {env : EV} {Q : D → Prop} : fIf t fa fb env Q = (t env (KIf fa fb env Q)) := rfl
theorem xKCh5 {g' : O2} {y : D} {Q : D → Prop} (w : D) : KCh5 g' y Q w = (g' y w Q) := rfl
theorem xKCh4 {g' : O2} {y : D} {fc : FE} {env : EV} {Q : D → Prop} (k : Bool) : KCh4 g' y fc env Q k = (if k = true then fc env (KCh5 g' y Q) else Q (.bool false)) := rfl
theorem xKCh3 {g' : O2} {y : D} {fc : FE} {env : EV} {Q : D → Prop} (z : D) : KCh3 g' y fc env Q z = (asB z (KCh4 g' y fc env Q)) := rfl
theorem xKCh2 {g : O2} {g' : O2} {x : D} {fc : FE} {env : EV} {Q : D → Prop} (y : D) : KCh2 g g' x fc env Q y = (g x y (KCh3 g' y fc env Q)) := rfl
theorem xKCh1 {g : O2} {g' : O2} {fb : FE} {fc : FE} {env : EV} {Q : D → Prop} (x : D) : KCh1 g g' fb fc env Q x = (fb env (KCh2 g g' x fc env Q)) := rfl
theorem eChain {g : O2} {g' : O2} {fa : FE} {fb : FE} {fc : FE} {env : EV} {Q : D → Prop} : fChain g g' fa fb fc env Q = (fa env (KCh1 g g' fb fc env Q)) := rfl
theorem negI_int {i : Int} {Q : D → Prop} : negI (.int i) Q = Q (.int (-i)) := rfl
theorem xKNeg {Q : D → Prop} (x : D) : KNeg Q x = (negI x Q) := rfl
theorem eNeg {fa : FE} {env : EV} {Q : D → Prop} : fNeg fa env Q = fa env (KNeg Q) := rfl
theorem xKCons2 {x : D} {Q : List D → Prop} (xs : List D) : KCons2 x Q xs = (Q (x :: xs)) := rfl
theorem xKCons {r : FA} {env : EV} {Q : List D → Prop} (x : D) : KCons r env Q x = (r env (KCons2 x Q)) := rfl
theorem eCons {fa : FE} {r : FA} {env : EV} {Q : List D → Prop} : fCons fa r env Q = (fa env (KCons r env Q)) := rfl
theorem xKTup {Q : D → Prop} (xs : List D) : KTup Q xs = (xs.length ≤ 1000 ∧ Q (.tuple xs)) := rfl
theorem eTup {r : FA} {env : EV} {Q : D → Prop} : fTup r env Q = (r env (KTup Q)) := rfl
theorem xKLst {Q : D → Prop} (xs : List D) : KLst Q xs = (xs.length ≤ 1000 ∧ Q (.list xs)) := rfl
theorem eLst {r : FA} {env : EV} {Q : D → Prop} : fLst r env Q = (r env (KLst Q)) := rfl
theorem prtI_int {i : Int} {Q : Option Int → Prop} : prtI (.int i) Q = Q (some i) := rfl
theorem xKPart {Q : Option Int → Prop} (x : D) : KPart Q x = (prtI x Q) := rfl
theorem ePart {fa : FE} {env : EV} {Q : Option Int → Prop} : fPart fa env Q = fa env (KPart Q) := rfl
theorem xKSl3 {x : D} {lo : Option Int} {Q : D → Prop} (hi : Option Int) : KSl3 x lo Q hi = (oSl x lo hi Q) := rfl
theorem xKSl2 {x : D} {h : FO} {env : EV} {Q : D → Prop} (lo : Option Int) : KSl2 x h env Q lo = (h env (KSl3 x lo Q)) := rfl
theorem xKSl1 {l : FO} {h : FO} {env : EV} {Q : D → Prop} (x : D) : KSl1 l h env Q x = (l env (KSl2 x h env Q)) := rfl
theorem eSl {fa : FE} {l : FO} {h : FO} {env : EV} {Q : D → Prop} : fSl fa l h env Q = (fa env (KSl1 l h env Q)) := rfl
theorem xKCall {g : OC} {Q : D → Prop} (ds : List D) : KCall g Q ds = (g ds Q) := rfl
theorem eCall {g : OC} {r : FA} {env : EV} {Q : D → Prop} : fCall g r env Q = (r env (KCall g Q)) := rfl
theorem xKCallF {sp : QSp} {Q : D → Prop} (ds : List D) : KCallF sp Q ds = (sp ds Q) := rfl
theorem eCallF {sp : QSp} {r : FA} {env : EV} {Q : D → Prop} : fCallF sp r env Q = (r env (KCallF sp Q)) := rfl
theorem xKIsi {T : Ty} {Q : D → Prop} (d : D) : KIsi T Q d = (isDict d = false ∧ Q (.bool (isT T d))) := rfl
theorem eIsi {T : Ty} {fa : FE} {env : EV} {Q : D → Prop} : fIsi T fa env Q = (fa env (KIsi T Q)) := rfl
theorem xKR1 {Q : List D → Prop} (j : Int) : KR1 Q j = ((-4000000000000000000 ≤ j ∧ j ≤ 16000000) ∧ Q (natsD 0 j.toNat)) := rfl
theorem xKR0 {Q : List D → Prop} (x : D) : KR0 Q x = (asI x (KR1 Q)) := rfl
theorem eRng1 {fa : FE} {env : EV} {Q : List D → Prop} : fRng1 fa env Q = (fa env (KR0 Q)) := rfl
theorem xKRj {i : Int} {Q : List D → Prop} (j : Int) : KRj i Q j = ((j - i ≤ 16000000 ∧ -4000000000000000000 ≤ i ∧ i ≤ 4000000000000000000 ∧ -4000000000000000000 ≤ j ∧ j ≤ 4000000000000000000) ∧ Q (natsD i (j - i).toNat)) := rfl
theorem xKRi {y : D} {Q : List D → Prop} (i : Int) : KRi y Q i = (asI y (KRj i Q)) := rfl
theorem xKRy {x : D} {Q : List D → Prop} (y : D) : KRy x Q y = (asI x (KRi y Q)) := rfl
theorem xKRx {fb : FE} {env : EV} {Q : List D → Prop} (x : D) : KRx fb env Q x = (fb env (KRy x Q)) := rfl
theorem eRng2 {fa : FE} {fb : FE} {env : EV} {Q : List D → Prop} : fRng2 fa fb env Q = (fa env (KRx fb env Q)) := rfl
theorem xKSeq {Q : List D → Prop} (x : D) : KSeq Q x = (seqD x Q) := rfl
theorem eSeq {fa : FE} {env : EV} {Q : List D → Prop} : fSeq fa env Q = (fa env (KSeq Q)) := rfl
theorem xKEn2 {Q : List D → Prop} (ds : List D) : KEn2 Q ds = (Q (enumD ds)) := rfl
theorem xKEn {Q : List D → Prop} (x : D) : KEn Q x = (seqD x (KEn2 Q)) := rfl
theorem eEnum {fa : FE} {env : EV} {Q : List D → Prop} : fEnum fa env Q = (fa env (KEn Q)) := rfl
theorem xKLc2 {Q : D → Prop} (ys : List D) : KLc2 Q ys = (Q (.list ys)) := rfl
theorem xKLc {p : Pat} {vs : List Nat} {c : FT} {e : FE} {env : EV} {Q : D → Prop} (ds : List D) : KLc p vs c e env Q ds = (qComp p c e (wipeE env vs) ds [] (KLc2 Q)) := rfl
theorem eLc {fi : FI} {p : Pat} {vs : List Nat} {c : FT} {e : FE} {env : EV} {Q : D → Prop} : fLc fi p vs c e env Q = (fi env (KLc p vs c e env Q)) := rfl
theorem xKRev {Q : D → Prop} (x : D) : KRev Q x = (oRev x Q) := rfl
theorem eRev {fe : FE} {env : EV} {Q : D → Prop} : fRev fe env Q = (fe env (KRev Q)) := rfl
theorem xKJ2 {x : D} {Q : D → Prop} (d : D) : KJ2 x Q d = (oJoin x d Q) := rfl
theorem xKJ {fe : FE} {env : EV} {Q : D → Prop} (x : D) : KJ fe env Q x = ((∃ s, x = .str s) ∧ fe env (KJ2 x Q)) := rfl
theorem eJoin {fo : FE} {fe : FE} {env : EV} {Q : D → Prop} : fJoin fo fe env Q = (fo env (KJ fe env Q)) := rfl
theorem xKRet {D' : DE} (d : D) : KRet D' d = (D'.rt d) := rfl
theorem eRet {fe : FE} {D' : DE} {env : SE} : sRet fe D' env = (fe (vN env) (KRet D')) := rfl
theorem xKSIf {F : FS} {G : FS} {D' : DE} {env : SE} (b : Bool) : KSIf F G D' env b = (if b = true then F D' env else G D' env) := rfl
theorem eSIf {c : FT} {F : FS} {G : FS} {D' : DE} {env : SE} : sIf c F G D' env = (c (vN env) (KSIf F G D' env)) := rfl
theorem xKExpr {D' : DE} {env : SE} (d : D) : KExpr D' env d = (D'.nx env) := rfl
theorem eExpr {fe : FE} {D' : DE} {env : SE} : sExpr fe D' env = (fe (vN env) (KExpr D' env)) := rfl
theorem xKSetF {i : Nat} {D' : DE} {env : SE} (d : D) : KSetF i D' env d = (D'.nx (env.set i (some (.fr d)))) := rfl
theorem eSetF {i : Nat} {fe : FE} {D' : DE} {env : SE} : sSetF i fe D' env = (fe (vF env) (KSetF i D' env)) := rfl
theorem xKSetN {i : Nat} {D' : DE} {env : SE} (d : D) : KSetN i D' env d = (flat d = true ∧ D'.nx (env.set i (some (.fr d)))) := rfl
theorem eSetN {i : Nat} {fe : FE} {D' : DE} {env : SE} : sSetN i fe D' env = (fe (vN env) (KSetN i D' env)) := rfl
theorem xKFor {p : Pat} {F : FS} {D' : DE} {env : SE} (ds : List D) : KFor p F D' env ds = (qFor p F ds D' env) := rfl
theorem eFor {fi : FI} {p : Pat} {F : FS} {D' : DE} {env : SE} : sFor fi p F D' env = (fi (vF env) (KFor p F D' env)) := rfl
theorem xKUnp {p : Pat} {D' : DE} {env : SE} (d : D) : KUnp p D' env d = (∃ asg, bindP p d = some asg ∧ D'.nx (setS env asg)) := rfl
theorem eUnpF {p : Pat} {fe : FE} {D' : DE} {env : SE} : sUnpF p fe D' env = (fe (vF env) (KUnp p D' env)) := rfl
theorem xKUnpN {p : Pat} {D' : DE} {env : SE} (d : D) : KUnpN p D' env d = (flat d = true ∧ ∃ asg, bindP p d = some asg ∧ D'.nx (setS env asg)) := rfl
theorem eUnpN {p : Pat} {fe : FE} {D' : DE} {env : SE} : sUnpN p fe D' env = (fe (vN env) (KUnpN p D' env)) := rfl
theorem xKPar2 {i : Nat} {j : Nat} {d : D} {D' : DE} {env : SE} (e : D) : KPar2 i j d D' env e = (flat d = true ∧ flat e = true ∧ D'.nx ((env.set i (some (.fr d))).set j (some (.fr e)))) := rfl
theorem xKPar {i : Nat} {j : Nat} {fb : FE} {D' : DE} {env : SE} (d : D) : KPar i j fb D' env d = (fb (vN env) (KPar2 i j d D' env)) := rfl
theorem ePar {i : Nat} {j : Nat} {fa : FE} {fb : FE} {D' : DE} {env : SE} : sPar i j fa fb D' env = (fa (vN env) (KPar i j fb D' env)) := rfl
theorem xKOwn {i : Nat} {D' : DE} {env : SE} (d : D) : KOwn i D' env d = (D'.nx (env.set i (some (.ow d)))) := rfl
theorem eOwn {i : Nat} {fe : FE} {D' : DE} {env : SE} : sOwn i fe D' env = (fe (vF env) (KOwn i D' env)) := rfl
theorem xKApp2 {m : Bool} {i : Nat} {ds : List D} {D' : DE} {env : SE} (d : D) : KApp2 m i ds D' env d = (okM m d ∧ ds.length < 16000000 ∧ D'.nx (env.set i (some (.ow (.list (ds ++ [d])))))) := rfl
theorem xKApp {m : Bool} {i : Nat} {fe : FE} {D' : DE} {env : SE} (ds : List D) : KApp m i fe D' env ds = (fe (vw m env) (KApp2 m i ds D' env)) := rfl
theorem eApp {m : Bool} {i : Nat} {fe : FE} {D' : DE} {env : SE} : sApp m i fe D' env = (ownL env i (KApp m i fe D' env)) := rfl
theorem xKExt3 {i : Nat} {ds : List D} {D' : DE} {env : SE} (es : List D) : KExt3 i ds D' env es = (ds.length + es.length ≤ 16000000 ∧ D'.nx (env.set i (some (.ow (.list (ds ++ es)))))) := rfl
theorem xKExt2 {m : Bool} {i : Nat} {ds : List D} {D' : DE} {env : SE} (d : D) : KExt2 m i ds D' env d = (exL m d (KExt3 i ds D' env)) := rfl
theorem xKExt {m : Bool} {i : Nat} {fe : FE} {D' : DE} {env : SE} (ds : List D) : KExt m i fe D' env ds = (fe (vw m env) (KExt2 m i ds D' env)) := rfl
theorem eExt {m : Bool} {i : Nat} {fe : FE} {D' : DE} {env : SE} : sExt m i fe D' env = (ownL env i (KExt m i fe D' env)) := rfl
theorem xKAug3 {i : Nat} {D' : DE} {env : SE} (z : D) : KAug3 i D' env z = (D'.nx (env.set i (some (.fr z)))) := rfl
theorem xKAug2 {g : O2} {i : Nat} {d : D} {D' : DE} {env : SE} (e : D) : KAug2 g i d D' env e = (g d e (KAug3 i D' env)) := rfl
theorem xKAug {g : O2} {i : Nat} {fe : FE} {D' : DE} {env : SE} (d : D) : KAug g i fe D' env d = (fe (vF env) (KAug2 g i d D' env)) := rfl
theorem eAugF {g : O2} {i : Nat} {fe : FE} {D' : DE} {env : SE} : sAugF g i fe D' env = (frAt env i (KAug g i fe D' env)) := rfl
theorem xKAugN2 {g : O2} {i : Nat} {d : D} {D' : DE} {env : SE} (e : D) : KAugN2 g i d D' env e = (flat e = true ∧ g d e (KAug3 i D' env)) := rfl
theorem xKAugN {g : O2} {i : Nat} {fe : FE} {D' : DE} {env : SE} (d : D) : KAugN g i fe D' env d = (fe (vN env) (KAugN2 g i d D' env)) := rfl
theorem eAugN {g : O2} {i : Nat} {fe : FE} {D' : DE} {env : SE} : sAugN g i fe D' env = (frAt env i (KAugN g i fe D' env)) := rfl
end T2
set_option Elab.async false
set_option linter.all false
set_option maxRecDepth 100000
set_option maxHeartbeats 4000000
set_option autoImplicit false
namespace T2
open PySem L2 PySem.Spec PyProof.Rows
/-! ### the law's box, the law's start -/
def spLaw (K : PySem.W.Frag) : Sp := fun vs H Q _ => ∃ (a : Addr) (ns : List Int), vs = [.ref a] ∧ SqL K H a (ns.map V.int) ∧ ns.length ≤ 63 ∧ ∀ H', Q (.bl true) H'
def spBox (K : PySem.W.Frag) : Sp := fun vs H Q _ => ∃ (a : Addr) (ns : List Int), vs = [.ref a] ∧ SqL K H a (ns.map V.int) ∧ ns.length ≤ 63 ∧ ∀ b c z s ns' H', H b = none → H c = none → Same H H' → Box3 b c z s ns' H' → Q (.ref b) H'
def tBox (K : PySem.W.Frag) : TS := tRet (tLst (tCons (tCB (fun xs H Q => ∃ p ys, xs = [V.ref p] ∧ (SqL K H p ys ∨ SqT K H p ys) ∧ ∀ l, H l = none → Q (.ref l) (upd H l (.lst ys))) (tCons (tSl (rSlL K) (tVar 0) (fun _ H Q => Q none H) (tPart (zC 63))) tNil))
  (tCons (zC 0) (tCons (tOp zAdd (zC 4711) (zLen K (tVar 0))) tNil))))
theorem cutV_int (ns : List Int) (lo hi : Option Int) : cutV (ns.map V.int) lo hi = (cut ns lo hi).map V.int := by
  unfold cutV cut
  rw [List.length_map, List.map_take, List.map_drop]
theorem box_ok {K : PySem.W.Frag} {a : Addr} {ns : List Int} {H : Hp} {Q : VK} {nx : L2.St → Hp → Prop} (hS : SqL K H a (ns.map V.int)) (hl : ns.length ≤ 63) (k : ∀ b c z s ns' H', H b = none → H c = none → Same H H' → Box3 b c z s ns' H' → Q (.ref b) H') :
    tBox K { nx := nx, rt := Q } (L2.start ["script"] [.ref a]) H := by
  refine ⟨_, rfl, 63, rfl, a, _, rfl, hS, fun p hp => ⟨p, _, rfl, .inl (.of upd_same), fun c hc => ?_⟩⟩
  have s1 : Same H (upd H p (.lst (cutV (ns.map V.int) none (some 63)))) := same_new hp
  have s2 : Same (upd H p (.lst (cutV (ns.map V.int) none (some 63)))) (upd (upd H p (.lst (cutV (ns.map V.int) none (some 63)))) c (.lst (cutV (ns.map V.int) none (some 63)))) := same_new hc
  have s12 := s1.trans s2
  have hS2 := s12.seq hS
  refine ⟨_, rfl, .ref a, (ns.map V.int).length, rfl, .inl ⟨_, hS2, rfl⟩, (4711 : Int), ((ns.map V.int).length : Nat), rfl, rfl, ?_⟩
  refine ⟨by show 3 ≤ sizeLine; decide, fun b hb => ?_⟩
  have hbc : b ≠ c := fun z => by rw [z, upd_same] at hb; cases hb
  have hHc : H c = none := s1.free hc
  have hHb : H b = none := s12.free hb
  refine k b c _ _ (cut ns none (some 63)) _ hHb hHc (s12.trans (same_new hb)) ⟨hbc, upd_same, ?_, Int.le_refl _, ?_, ?_⟩
  · rw [upd_ne hbc.symm, upd_same, cutV_int]
  · have := List.length_map (f := V.int) (as := ns)
    omega
  · have := cut_len ns none (some 63)
    omega
/-- the reading of a law that begins with its box -/
theorem law_reading {K : PySem.W.Frag} {a : Addr} {ns : List Int} {H : Hp} {Q : VK} {nx : L2.St → Hp → Prop} {n : Nat} {F : FS} {E0 : XK} (hS : SqL K H a (ns.map V.int)) (hl : ns.length ≤ 63) (k : ∀ H', Q (.bl true) H')
    (hF : ∀ D' : DE, D'.rt (.bool true) → F D' (none :: some (.fr boxD) :: List.replicate n none)) :
    tSeq (tAsg (tCall (spBox K) [] E0 (tCons (tVar 0) tNil)) (gName 1)) (tS F) { nx := nx, rt := Q } (some (.ref a) :: List.replicate (n + 1) none) H := by
  refine ⟨_, rfl, a, ns, rfl, hS, hl, fun b c z s ns' H' hb hc hs B => ?_⟩
  let W : Wd := { S := fun x => x ≠ b ∧ x ≠ c, bc := some (b, c), fz := fun _ => none, nS := fun b' c' e => by cases e; exact ⟨fun h => h.1 rfl, fun h => h.2 rfl⟩, fs := fun x h k => (h (k b c rfl)).elim }
  have ok : W.ok H' := ⟨fun x h k => (h (k b c rfl)).elim, fun b' c' e => by cases e; exact B.at_⟩
  have noOw : ∀ (i : Nat) (d : D), (none :: some (Sl.fr boxD) :: List.replicate n none : SE)[i]? ≠ some (some (.ow d)) := fun i d e => by
    match i with
    | 0 => simp at e
    | 1 => simp at e
    | i + 2 =>
      simp only [List.getElem?_cons_succ, List.getElem?_replicate] at e
      split at e <;> cases e
  have sr : SRep W (some (.ref a) :: some (.ref b) :: List.replicate n none) H' (none :: some (.fr boxD) :: List.replicate n none) := by
    refine ⟨by simp, ok, fun i d e => ?_, fun i d e => (noOw i d e).elim, fun i j d e a h => (noOw i d h).elim⟩
    match i with
    | 0 => simp at e
    | 1 =>
      simp at e
      subst e
      exact ⟨.ref b, rfl, .box rfl⟩
    | i + 2 =>
      simp only [List.getElem?_cons_succ, List.getElem?_replicate] at e
      split at e <;> cases e
  refine ⟨W, _, { nx := fun _ => False, rt := fun d => d = .bool true }, sr, hF _ rfl, fun _ _ _ _ _ z => z.elim, fun _ _ _ _ _ z => z.elim, fun _ _ _ _ _ z => z.elim, fun v H2 d _ _ r q => ?_⟩
  have q : d = .bool true := q
  subst q
  cases r
  exact k H2
end T2
set_option linter.all false
set_option maxRecDepth 100000
set_option autoImplicit false
namespace K68
open PySem L2 T2
-- _law_after: 0 rules, 1 word, 2 step, 3 left, 4 right
def F__law_after : FS :=
    (sSeq (sUnpF (.tup [(.name 3), (.name 4)]) (fBin oIx (fVar 0) (fBin oIx (fVar 2) (fC (.int 0)))))
    (sRet (fBin oAdd (fBin oAdd (fSl (fVar 1) fNo (fPart (fBin oIx (fVar 2) (fC (.int 1))))) (fVar 4)) (fSl (fVar 1) (fPart (fBin oAdd (fBin oIx (fVar 2) (fC (.int 1))) (fCall oLen (fCons (fVar 3) fNil)))) fNo))))
-- _law_bad: 0 box, 1 rules, 2 odd, 3 at, 4 one, 5 rows
def F__law_bad (sp__law_draw : QSp) : FS :=
    (sSeq (sSetF 2 (fLst (fCons (fTup (fCons (fC (sD [97])) (fCons (fC (sD [97])) fNil))) (fCons (fTup (fCons (fC (sD [97])) (fCons (fC (sD [98])) fNil))) (fCons (fTup (fCons (fC (sD [])) (fCons (fC (sD [])) fNil))) (fCons (fTup (fCons (fC (sD [97])) (fCons (fC (sD [97, 97])) fNil))) (fCons (fTup (fCons (fBin oMul (fC (sD [97])) (fC (.int 13))) (fCons (fC (sD [])) fNil))) (fCons (fTup (fCons (fC (sD [65])) (fCons (fC (sD [])) fNil))) (fCons (fTup (fCons (fC (sD [97])) (fCons (fC .none) fNil))) (fCons (fTup (fCons (fC (sD [97])) fNil)) (fCons (fTup (fCons (fC (sD [97])) (fCons (fC (sD [])) (fCons (fC (sD [])) fNil)))) (fCons (fC .none) (fCons (fC (sD [97, 98])) (fCons (fTup (fCons (fC (sD [97, 98])) (fCons (fC (sD [98, 97])) fNil))) fNil))))))))))))))
    (sSeq (sSetF 3 (fCallF sp__law_draw (fCons (fVar 0) (fCons (fBin oAdd (fCall oLen (fCons (fVar 1) fNil)) (fC (.int 1))) fNil))))
    (sSeq (sSetF 4 (fBin oIx (fVar 2) (fCallF sp__law_draw (fCons (fVar 0) (fCons (fC (.int 12)) fNil)))))
    (sSeq (sSetF 5 (fLst (fCons (fBin oAdd (fBin oAdd (fSl (fVar 1) fNo (fPart (fVar 3))) (fTup (fCons (fVar 4) fNil))) (fSl (fVar 1) (fPart (fVar 3)) fNo)) (fCons (fBin oAdd (fBin oAdd (fSl (fVar 1) fNo (fPart (fVar 3))) (fTup (fCons (fVar 4) fNil))) (fSl (fVar 1) (fPart (fBin oAdd (fVar 3) (fC (.int 1)))) fNo)) (fCons (fIf (fTB (fBin oNe (fVar 1) (fTup fNil))) (fBin oAdd (fVar 1) (fSl (fVar 1) (fPart (fNeg (fC (.int 1)))) fNo)) (fC .none)) (fCons (fIf (fTB (fBin oGt (fCall oLen (fCons (fVar 1) fNil)) (fC (.int 1)))) (fRev (fVar 1)) (fC (.int 5))) (fCons (fC .none) (fCons (fC (sD [114, 117, 108, 101, 115])) (fCons (fTup (fCons (fVar 4) fNil)) (fCons (fTup (fCons (fTup (fCons (fC (sD [97])) (fCons (fC (sD [])) fNil))) (fCons (fTup (fCons (fC (sD [97])) (fCons (fC (sD [])) fNil))) fNil))) fNil))))))))))
    (sRet (fBin oIx (fVar 5) (fCallF sp__law_draw (fCons (fVar 0) (fCons (fC (.int 8)) fNil)))))))))
-- _law_bent: 0 box, 1 way, 2 at, 3 rows, 4 step
def F__law_bent (sp__law_draw : QSp) : FS :=
    (sSeq (sSetF 2 (fCallF sp__law_draw (fCons (fVar 0) (fCons (fBin oAdd (fCall oLen (fCons (fVar 1) fNil)) (fC (.int 1))) fNil))))
    (sSeq (sSetF 3 (fLst (fCons (fVar 1) (fCons (fBin oAdd (fSl (fVar 1) fNo (fPart (fVar 2))) (fSl (fVar 1) (fPart (fBin oAdd (fVar 2) (fC (.int 1)))) fNo)) (fCons (fRev (fVar 1)) (fCons (fBin oAdd (fVar 1) (fSl (fVar 1) (fPart (fNeg (fC (.int 1)))) fNo)) (fCons (fBin oAdd (fBin oAdd (fSl (fVar 1) fNo (fPart (fVar 2))) (fTup (fCons (fTup (fCons (fCallF sp__law_draw (fCons (fVar 0) (fCons (fC (.int 4)) fNil))) (fCons (fCallF sp__law_draw (fCons (fVar 0) (fCons (fC (.int 6)) fNil))) fNil))) fNil))) (fSl (fVar 1) (fPart (fVar 2)) fNo)) (fCons (fC .none) (fCons (fC (sD [119, 97, 121])) (fCons (fBin oAdd (fVar 1) (fTup (fCons (fC .none) fNil))) (fCons (fBin oAdd (fVar 1) (fTup (fCons (fTup (fCons (fC (.int 0)) fNil)) fNil))) (fCons (fBin oAdd (fVar 1) (fTup (fCons (fTup (fCons (fC (.int 0)) (fCons (fNeg (fC (.int 1))) fNil))) fNil))) (fCons (fBin oAdd (fSl (fVar 1) fNo (fPart (fVar 2))) (fCall oTuple (fCons (fLc (fSeq (fSl (fVar 1) (fPart (fVar 2)) fNo)) (.name 4) [4] fYes (fTup (fCons (fBin oIx (fVar 4) (fC (.int 1))) (fCons (fBin oIx (fVar 4) (fC (.int 0))) fNil)))) fNil))) (fCons (fTup fNil) fNil))))))))))))))
    (sRet (fBin oIx (fVar 3) (fCallF sp__law_draw (fCons (fVar 0) (fCons (fC (.int 12)) fNil)))))))
-- _law_steps: 0 rules, 1 word, 2 found*, 3 k, 4 left, 5 place
def F__law_steps : FS :=
    (sSeq (sOwn 2 (fLst fNil))
    (sSeq (sFor (fRng1 (fCall oLen (fCons (fVar 0) fNil))) (.name 3) (sSeq (sSetF 4 (fBin oIx (fBin oIx (fVar 0) (fVar 3)) (fC (.int 0))))
    (sExt true 2 (fLc (fRng1 (fCall oLen (fCons (fVar 1) fNil))) (.name 5) [5] (fTB (fBin oEq (fSl (fVar 1) (fPart (fVar 5)) (fPart (fBin oAdd (fVar 5) (fCall oLen (fCons (fVar 4) fNil))))) (fVar 4))) (fTup (fCons (fVar 3) (fCons (fVar 5) fNil)))))))
    (sRet (fVar 2))))
-- _law_leads: 0 rules, 1 word, 2 value, 3 step, 4 k
def F__law_leads (sp__law_after : QSp) (sp__law_steps : QSp) : FS :=
    (sSeq (sIf (fNotT (fTru (fIsi .tuple (fVar 2)))) (sRet (fC .none)) sNext)
    (sSeq (sFor (fSeq (fVar 2)) (.name 3) (sSeq (sIf (fOrT (fNotT (fTru (fIsi .tuple (fVar 3)))) (fOrT (fTB (fBin oNe (fCall oLen (fCons (fVar 3) fNil)) (fC (.int 2)))) (fOrT (fNotT (fTru (fCall oAll (fCons (fLc (fSeq (fVar 3)) (.name 4) [4] fYes (fAnd (fIsi .int (fVar 4)) (fNot (fIsi .bool (fVar 4))))) fNil)))) (fTB (fBin oNotIn (fVar 3) (fCallF sp__law_steps (fCons (fVar 0) (fCons (fVar 1) fNil)))))))) (sRet (fC .none)) sNext)
    (sSetF 1 (fCallF sp__law_after (fCons (fVar 0) (fCons (fVar 1) (fCons (fVar 3) fNil)))))))
    (sRet (fVar 1))))
-- _law_plain: 0 rules, 1 word, 2 way, 3 steps, 4 place, 5 step
def F__law_plain (sp__law_after : QSp) (sp__law_steps : QSp) : FS :=
    (sSeq (sSetF 2 (fTup fNil))
    (sWhile (fTB (fC (.bool true))) (sSeq (sSetF 3 (fCallF sp__law_steps (fCons (fVar 0) (fCons (fVar 1) fNil))))
    (sSeq (sIf (fTB (fBin oEq (fVar 3) (fLst fNil))) (sRet (fTup (fCons (fVar 2) (fCons (fVar 1) fNil)))) sNext)
    (sSeq (sSetF 4 (fCall oMin (fCons (fLc (fSeq (fVar 3)) (.name 5) [5] fYes (fBin oIx (fVar 5) (fC (.int 1)))) fNil)))
    (sSeq (sSetF 5 (fCall oMin (fCons (fLc (fSeq (fVar 3)) (.name 5) [5] (fTB (fBin oEq (fBin oIx (fVar 5) (fC (.int 1))) (fVar 4))) (fVar 5)) fNil)))
    (sPar 2 1 (fBin oAdd (fVar 2) (fTup (fCons (fVar 5) fNil))) (fCallF sp__law_after (fCons (fVar 0) (fCons (fVar 1) (fCons (fVar 5) fNil)))))))))))
-- _law_before: 0 one, 1 other
def F__law_before : FS :=
    (sRet (fOr (fBin oLt (fCall oLen (fCons (fVar 0) fNil)) (fCall oLen (fCons (fVar 1) fNil))) (fAnd (fBin oEq (fCall oLen (fCons (fVar 0) fNil)) (fCall oLen (fCons (fVar 1) fNil))) (fBin oLt (fVar 0) (fVar 1)))))
-- _law_word: 0 box, 1 most, 2 letters, 3 k
def F__law_word (sp__law_draw : QSp) : FS :=
    (sRet (fJoin (fC (sD [])) (fLc (fRng1 (fCallF sp__law_draw (fCons (fVar 0) (fCons (fBin oAdd (fVar 1) (fC (.int 1))) fNil)))) (.name 3) [3] fYes (fBin oIx (fVar 2) (fCallF sp__law_draw (fCons (fVar 0) (fCons (fCall oLen (fCons (fVar 2) fNil)) fNil)))))))
-- _law_rules: 0 box, 1 most, 2 long, 3 letters, 4 found*, 5 turn, 6 left, 7 right
def F__law_rules (sp__law_before : QSp) (sp__law_draw : QSp) (sp__law_word : QSp) : FS :=
    (sSeq (sOwn 4 fDictT)
    (sSeq (sFor (fRng1 (fCallF sp__law_draw (fCons (fVar 0) (fCons (fBin oAdd (fVar 1) (fC (.int 1))) fNil)))) (.name 5) (sSeq (sSetF 6 (fBin oAdd (fBin oIx (fVar 3) (fCallF sp__law_draw (fCons (fVar 0) (fCons (fCall oLen (fCons (fVar 3) fNil)) fNil)))) (fCallF sp__law_word (fCons (fVar 0) (fCons (fBin oSub (fVar 2) (fC (.int 1))) (fCons (fVar 3) fNil))))))
    (sSeq (sSetF 7 (fCallF sp__law_word (fCons (fVar 0) (fCons (fVar 2) (fCons (fVar 3) fNil)))))
    (sIf (fTru (fCallF sp__law_before (fCons (fVar 7) (fCons (fVar 6) fNil)))) (sPutD true 4 (fTup (fCons (fVar 6) (fCons (fVar 7) fNil))) (fC (.bool true))) sNext))))
    (sRet (fCall oTuple (fCons (fCall oSortedD (fCons (fVar 4) fNil)) fNil)))))
-- _law_same: 0 a, 1 b, 2 k
def F__law_same (sp__law_same : QSp) : FS :=
    (sSeq (sIf (fOrT (fAndT (fTru (fIsi .tuple (fVar 0))) (fTru (fIsi .tuple (fVar 1)))) (fAndT (fTru (fIsi .list (fVar 0))) (fTru (fIsi .list (fVar 1))))) (sRet (fAnd (fBin oEq (fCall oLen (fCons (fVar 0) fNil)) (fCall oLen (fCons (fVar 1) fNil))) (fCall oAll (fCons (fLc (fRng1 (fCall oLen (fCons (fVar 0) fNil))) (.name 2) [2] fYes (fCallF sp__law_same (fCons (fBin oIx (fVar 0) (fVar 2)) (fCons (fBin oIx (fVar 1) (fVar 2)) fNil)))) fNil)))) sNext)
    (sSeq (sIf (fOrT (fTru (fIsi .bool (fVar 0))) (fTru (fIsi .bool (fVar 1)))) (sRet (fAnd (fIsi .bool (fVar 0)) (fAnd (fIsi .bool (fVar 1)) (fBin oEq (fVar 0) (fVar 1))))) sNext)
    (sSeq (sIf (fOrT (fAndT (fTru (fIsi .int (fVar 0))) (fTru (fIsi .int (fVar 1)))) (fAndT (fTru (fIsi .str (fVar 0))) (fTru (fIsi .str (fVar 1))))) (sRet (fBin oEq (fVar 0) (fVar 1))) sNext)
    (sRet (fAnd (fBin oIs (fVar 0) (fC .none)) (fBin oIs (fVar 1) (fC .none)))))))
-- after: 0 rules, 1 word, 2 step, 3 left, 4 right
def F_after : FS :=
    (sSeq (sUnpF (.tup [(.name 3), (.name 4)]) (fBin oIx (fVar 0) (fBin oIx (fVar 2) (fC (.int 0)))))
    (sRet (fBin oAdd (fBin oAdd (fSl (fVar 1) fNo (fPart (fBin oIx (fVar 2) (fC (.int 1))))) (fVar 4)) (fSl (fVar 1) (fPart (fBin oAdd (fBin oIx (fVar 2) (fC (.int 1))) (fCall oLen (fCons (fVar 3) fNil)))) fNo))))
-- is_ascending: 0 rows, 1 k
def F_is_ascending : FS :=
    (sRet (fCall oAll (fCons (fLc (fRng1 (fBin oSub (fCall oLen (fCons (fVar 0) fNil)) (fC (.int 1)))) (.name 1) [1] fYes (fBin oLt (fBin oIx (fVar 0) (fVar 1)) (fBin oIx (fVar 0) (fBin oAdd (fVar 1) (fC (.int 1)))))) fNil)))
-- is_less: 0 one, 1 other
def F_is_less : FS :=
    (sRet (fBin oLt (fTup (fCons (fCall oLen (fCons (fVar 0) fNil)) (fCons (fVar 0) fNil))) (fTup (fCons (fCall oLen (fCons (fVar 1) fNil)) (fCons (fVar 1) fNil)))))
-- is_word: 0 value, 1 letter
def F_is_word : FS :=
    (sRet (fAnd (fIsi .str (fVar 0)) (fAnd (fBin oLe (fCall oLen (fCons (fVar 0) fNil)) (fC (.int 60))) (fCall oAll (fCons (fLc (fSeq (fVar 0)) (.name 1) [1] fYes (fBin oIn (fVar 1) (fC (sD [97, 98, 99, 100, 101, 102, 103, 104, 105, 106, 107, 108, 109, 110, 111, 112, 113, 114, 115, 116, 117, 118, 119, 120, 121, 122])))) fNil)))))
-- is_rule: 0 value
def F_is_rule (sp_is_less : QSp) (sp_is_word : QSp) : FS :=
    (sSeq (sIf (fOrT (fNotT (fTru (fIsi .tuple (fVar 0)))) (fOrT (fTB (fBin oNe (fCall oLen (fCons (fVar 0) fNil)) (fC (.int 2)))) (fOrT (fNotT (fTru (fCallF sp_is_word (fCons (fBin oIx (fVar 0) (fC (.int 0))) fNil)))) (fNotT (fTru (fCallF sp_is_word (fCons (fBin oIx (fVar 0) (fC (.int 1))) fNil))))))) (sRet (fC (.bool false))) sNext)
    (sRet (fAnd (fChain oLe oLe (fC (.int 1)) (fCall oLen (fCons (fBin oIx (fVar 0) (fC (.int 0))) fNil)) (fC (.int 12))) (fCallF sp_is_less (fCons (fBin oIx (fVar 0) (fC (.int 1))) (fCons (fBin oIx (fVar 0) (fC (.int 0))) fNil))))))
-- are_rules: 0 value, 1 rule
def F_are_rules (sp_is_ascending : QSp) (sp_is_rule : QSp) : FS :=
    (sSeq (sIf (fOrT (fNotT (fTru (fIsi .tuple (fVar 0)))) (fOrT (fTB (fBin oGt (fCall oLen (fCons (fVar 0) fNil)) (fC (.int 24)))) (fNotT (fTru (fCall oAll (fCons (fLc (fSeq (fVar 0)) (.name 1) [1] fYes (fCallF sp_is_rule (fCons (fVar 1) fNil))) fNil)))))) (sRet (fC (.bool false))) sNext)
    (sRet (fCallF sp_is_ascending (fCons (fVar 0) fNil))))
-- places_of: 0 part, 1 word, 2 k
def F_places_of : FS :=
    (sRet (fCall oTuple (fCons (fLc (fRng1 (fBin oAdd (fBin oSub (fCall oLen (fCons (fVar 1) fNil)) (fCall oLen (fCons (fVar 0) fNil))) (fC (.int 1)))) (.name 2) [2] (fTB (fBin oEq (fSl (fVar 1) (fPart (fVar 2)) (fPart (fBin oAdd (fVar 2) (fCall oLen (fCons (fVar 0) fNil))))) (fVar 0))) (fVar 2)) fNil)))
-- steps_of: 0 rules, 1 word, 2 found*, 3 k, 4 left, 5 _, 6 place
def F_steps_of (sp_places_of : QSp) : FS :=
    (sSeq (sOwn 2 (fLst fNil))
    (sSeq (sFor (fEnum (fVar 0)) (.tup [(.name 3), (.tup [(.name 4), (.name 5)])]) (sExt true 2 (fLc (fSeq (fCallF sp_places_of (fCons (fVar 4) (fCons (fVar 1) fNil)))) (.name 6) [6] fYes (fTup (fCons (fVar 3) (fCons (fVar 6) fNil))))))
    (sRet (fCall oTuple (fCons (fVar 2) fNil)))))
-- is_end: 0 rules, 1 word
def F_is_end (sp_steps_of : QSp) : FS :=
    (sRet (fBin oEq (fCallF sp_steps_of (fCons (fVar 0) (fCons (fVar 1) fNil))) (fTup fNil)))
-- is_number: 0 value, 1 least, 2 most
def F_is_number : FS :=
    (sRet (fAnd (fIsi .int (fVar 0)) (fAnd (fNot (fIsi .bool (fVar 0))) (fChain oLe oLe (fVar 1) (fVar 0) (fVar 2)))))
-- is_step: 0 rules, 1 word, 2 value, 3 left
def F_is_step (sp_is_number : QSp) : FS :=
    (sSeq (sIf (fOrT (fNotT (fTru (fIsi .tuple (fVar 2)))) (fOrT (fTB (fBin oNe (fCall oLen (fCons (fVar 2) fNil)) (fC (.int 2)))) (fNotT (fTru (fCallF sp_is_number (fCons (fBin oIx (fVar 2) (fC (.int 0))) (fCons (fC (.int 0)) (fCons (fBin oSub (fCall oLen (fCons (fVar 0) fNil)) (fC (.int 1))) fNil)))))))) (sRet (fC (.bool false))) sNext)
    (sSeq (sSetF 3 (fBin oIx (fBin oIx (fVar 0) (fBin oIx (fVar 2) (fC (.int 0)))) (fC (.int 0))))
    (sSeq (sIf (fNotT (fTru (fCallF sp_is_number (fCons (fBin oIx (fVar 2) (fC (.int 1))) (fCons (fC (.int 0)) (fCons (fBin oSub (fCall oLen (fCons (fVar 1) fNil)) (fCall oLen (fCons (fVar 3) fNil))) fNil)))))) (sRet (fC (.bool false))) sNext)
    (sRet (fBin oEq (fSl (fVar 1) (fPart (fBin oIx (fVar 2) (fC (.int 1)))) (fPart (fBin oAdd (fBin oIx (fVar 2) (fC (.int 1))) (fCall oLen (fCons (fVar 3) fNil))))) (fVar 3))))))
-- end_of: 0 rules, 1 word, 2 value, 3 step
def F_end_of (sp_after : QSp) (sp_is_step : QSp) : FS :=
    (sSeq (sIf (fNotT (fTru (fIsi .tuple (fVar 2)))) (sRet (fC .none)) sNext)
    (sSeq (sFor (fSeq (fVar 2)) (.name 3) (sSeq (sIf (fNotT (fTru (fCallF sp_is_step (fCons (fVar 0) (fCons (fVar 1) (fCons (fVar 3) fNil)))))) (sRet (fC .none)) sNext)
    (sSetF 1 (fCallF sp_after (fCons (fVar 0) (fCons (fVar 1) (fCons (fVar 3) fNil)))))))
    (sRet (fVar 1))))
-- is_way: 0 rules, 1 word, 2 other, 3 value
def F_is_way (sp_end_of : QSp) : FS :=
    (sRet (fBin oEq (fCallF sp_end_of (fCons (fVar 0) (fCons (fVar 1) (fCons (fVar 3) fNil)))) (fVar 2)))
-- plain_step: 0 rules, 1 word, 2 place, 3 k, 4 left, 5 _
def F_plain_step : FS :=
    (sSeq (sFor (fRng1 (fCall oLen (fCons (fVar 1) fNil))) (.name 2) (sFor (fEnum (fVar 0)) (.tup [(.name 3), (.tup [(.name 4), (.name 5)])]) (sIf (fTB (fBin oEq (fSl (fVar 1) (fPart (fVar 2)) (fPart (fBin oAdd (fVar 2) (fCall oLen (fCons (fVar 4) fNil))))) (fVar 4))) (sRet (fTup (fCons (fVar 3) (fCons (fVar 2) fNil)))) sNext)))
    (sRet (fC .none)))
-- plain_end: 0 rules, 1 word, 2 step
def F_plain_end (sp_after : QSp) (sp_plain_step : QSp) : FS :=
    (sSeq (sSetF 2 (fCallF sp_plain_step (fCons (fVar 0) (fCons (fVar 1) fNil))))
    (sSeq (sWhile (fTB (fBin oIsnt (fVar 2) (fC .none))) (sSeq (sSetF 1 (fCallF sp_after (fCons (fVar 0) (fCons (fVar 1) (fCons (fVar 2) fNil)))))
    (sSetF 2 (fCallF sp_plain_step (fCons (fVar 0) (fCons (fVar 1) fNil))))))
    (sRet (fVar 1))))
-- plain_way: 0 rules, 1 word, 2 way, 3 step
def F_plain_way (sp_after : QSp) (sp_plain_step : QSp) : FS :=
    (sSeq (sSetF 2 (fTup fNil))
    (sSeq (sSetF 3 (fCallF sp_plain_step (fCons (fVar 0) (fCons (fVar 1) fNil))))
    (sSeq (sWhile (fTB (fBin oIsnt (fVar 3) (fC .none))) (sSeq (sAugF oAddI 2 (fTup (fCons (fVar 3) fNil)))
    (sSeq (sSetF 1 (fCallF sp_after (fCons (fVar 0) (fCons (fVar 1) (fCons (fVar 3) fNil)))))
    (sSetF 3 (fCallF sp_plain_step (fCons (fVar 0) (fCons (fVar 1) fNil)))))))
    (sRet (fVar 2)))))
-- law: 0 script, 1 box, 2 letters, 3 rules, 4 many, 5 word, 6 turn, 7 steps, 8 papers, 9 paper, 10 way, 11 last, 12 found, 13 step, 14 k, 15 rule, 16 again
def F_law_0 (sp__law_after : QSp) (sp__law_bad : QSp) (sp__law_bent : QSp) (sp__law_draw : QSp) (sp__law_leads : QSp) (sp__law_plain : QSp) (sp__law_rules : QSp) (sp__law_same : QSp) (sp__law_steps : QSp) (sp__law_word : QSp) (sp_after : QSp) (sp_are_rules : QSp) (sp_is_end : QSp) (sp_is_way : QSp) (sp_plain_end : QSp) (sp_plain_way : QSp) (sp_steps_of : QSp) : FS :=
    (sSetF 2 (fBin oIx (fLst (fCons (fC (sD [97])) (fCons (fC (sD [97, 98])) (fCons (fC (sD [97, 98, 99])) fNil)))) (fCallF sp__law_draw (fCons (fVar 1) (fCons (fC (.int 3)) fNil)))))
def F_law_1 (sp__law_after : QSp) (sp__law_bad : QSp) (sp__law_bent : QSp) (sp__law_draw : QSp) (sp__law_leads : QSp) (sp__law_plain : QSp) (sp__law_rules : QSp) (sp__law_same : QSp) (sp__law_steps : QSp) (sp__law_word : QSp) (sp_after : QSp) (sp_are_rules : QSp) (sp_is_end : QSp) (sp_is_way : QSp) (sp_plain_end : QSp) (sp_plain_way : QSp) (sp_steps_of : QSp) : FS :=
    (sSetF 3 (fCallF sp__law_rules (fCons (fVar 1) (fCons (fC (.int 6)) (fCons (fC (.int 3)) (fCons (fVar 2) fNil))))))
def F_law_2 (sp__law_after : QSp) (sp__law_bad : QSp) (sp__law_bent : QSp) (sp__law_draw : QSp) (sp__law_leads : QSp) (sp__law_plain : QSp) (sp__law_rules : QSp) (sp__law_same : QSp) (sp__law_steps : QSp) (sp__law_word : QSp) (sp_after : QSp) (sp_are_rules : QSp) (sp_is_end : QSp) (sp_is_way : QSp) (sp_plain_end : QSp) (sp_plain_way : QSp) (sp_steps_of : QSp) : FS :=
    (sIf (fOrT (fTB (fBin oNe (fTup (fCons (fC (.int 12)) (fCons (fC (.int 24)) (fCons (fC (.int 2000)) fNil)))) (fTup (fCons (fC (.int 12)) (fCons (fC (.int 24)) (fCons (fC (.int 2000)) fNil)))))) (fOrT (fTB (fBin oIsnt (fCallF sp_are_rules (fCons (fVar 3) fNil)) (fC (.bool true)))) (fNotT (fTru (fCall oAll (fCons (fLc (fRng1 (fC (.int 3))) (.name 6) [6] fYes (fBin oIs (fCallF sp_are_rules (fCons (fCallF sp__law_bad (fCons (fVar 1) (fCons (fVar 3) fNil))) fNil)) (fC (.bool false)))) fNil)))))) (sRet (fC (.bool false))) sNext)
def F_law_3 (sp__law_after : QSp) (sp__law_bad : QSp) (sp__law_bent : QSp) (sp__law_draw : QSp) (sp__law_leads : QSp) (sp__law_plain : QSp) (sp__law_rules : QSp) (sp__law_same : QSp) (sp__law_steps : QSp) (sp__law_word : QSp) (sp_after : QSp) (sp_are_rules : QSp) (sp_is_end : QSp) (sp_is_way : QSp) (sp_plain_end : QSp) (sp_plain_way : QSp) (sp_steps_of : QSp) : FS :=
    (sSetF 4 (fCall oTuple (fCons (fLc (fRng1 (fC (.int 25))) (.name 14) [14] fYes (fTup (fCons (fBin oAdd (fBin oMul (fC (sD [97])) (fBin oAdd (fC (.int 1)) (fBin oFdiv (fVar 14) (fC (.int 6))))) (fBin oMul (fC (sD [98])) (fBin oSub (fVar 14) (fBin oMul (fBin oFdiv (fVar 14) (fC (.int 6))) (fC (.int 6)))))) (fCons (fC (sD [])) fNil)))) fNil)))
def F_law_4 (sp__law_after : QSp) (sp__law_bad : QSp) (sp__law_bent : QSp) (sp__law_draw : QSp) (sp__law_leads : QSp) (sp__law_plain : QSp) (sp__law_rules : QSp) (sp__law_same : QSp) (sp__law_steps : QSp) (sp__law_word : QSp) (sp_after : QSp) (sp_are_rules : QSp) (sp_is_end : QSp) (sp_is_way : QSp) (sp_plain_end : QSp) (sp_plain_way : QSp) (sp_steps_of : QSp) : FS :=
    (sSetF 4 (fCall oTuple (fCons (fCall oSort2 (fCons (fVar 4) fNil)) fNil)))
def F_law_5 (sp__law_after : QSp) (sp__law_bad : QSp) (sp__law_bent : QSp) (sp__law_draw : QSp) (sp__law_leads : QSp) (sp__law_plain : QSp) (sp__law_rules : QSp) (sp__law_same : QSp) (sp__law_steps : QSp) (sp__law_word : QSp) (sp_after : QSp) (sp_are_rules : QSp) (sp_is_end : QSp) (sp_is_way : QSp) (sp_plain_end : QSp) (sp_plain_way : QSp) (sp_steps_of : QSp) : FS :=
    (sIf (fOrT (fTB (fBin oIsnt (fCallF sp_are_rules (fCons (fSl (fVar 4) fNo (fPart (fC (.int 24)))) fNil)) (fC (.bool true)))) (fOrT (fTB (fBin oIsnt (fCallF sp_are_rules (fCons (fVar 4) fNil)) (fC (.bool false)))) (fTB (fBin oIsnt (fCallF sp_are_rules (fCons (fTup (fCons (fTup (fCons (fBin oMul (fC (sD [97])) (fC (.int 12))) (fCons (fBin oMul (fC (sD [97])) (fC (.int 11))) fNil))) fNil)) fNil)) (fC (.bool true)))))) (sRet (fC (.bool false))) sNext)
def F_law_6 (sp__law_after : QSp) (sp__law_bad : QSp) (sp__law_bent : QSp) (sp__law_draw : QSp) (sp__law_leads : QSp) (sp__law_plain : QSp) (sp__law_rules : QSp) (sp__law_same : QSp) (sp__law_steps : QSp) (sp__law_word : QSp) (sp_after : QSp) (sp_are_rules : QSp) (sp_is_end : QSp) (sp_is_way : QSp) (sp_plain_end : QSp) (sp_plain_way : QSp) (sp_steps_of : QSp) : FS :=
    (sSetF 5 (fCallF sp__law_word (fCons (fVar 1) (fCons (fBin oIx (fLst (fCons (fC (.int 7)) (fCons (fC (.int 30)) fNil))) (fCallF sp__law_draw (fCons (fVar 1) (fCons (fC (.int 2)) fNil)))) (fCons (fVar 2) fNil)))))
def F_law_7 (sp__law_after : QSp) (sp__law_bad : QSp) (sp__law_bent : QSp) (sp__law_draw : QSp) (sp__law_leads : QSp) (sp__law_plain : QSp) (sp__law_rules : QSp) (sp__law_same : QSp) (sp__law_steps : QSp) (sp__law_word : QSp) (sp_after : QSp) (sp_are_rules : QSp) (sp_is_end : QSp) (sp_is_way : QSp) (sp_plain_end : QSp) (sp_plain_way : QSp) (sp_steps_of : QSp) : FS :=
    (sIf (fTB (fBin oGt (fCall oLen (fCons (fVar 5) fNil)) (fC (.int 7)))) (sSetF 3 (fCall oTuple (fCons (fLc (fSeq (fVar 3)) (.name 15) [15] (fTB (fBin oLt (fCall oLen (fCons (fBin oIx (fVar 15) (fC (.int 1))) fNil)) (fCall oLen (fCons (fBin oIx (fVar 15) (fC (.int 0))) fNil)))) (fVar 15)) fNil))) sNext)
def F_law_8 (sp__law_after : QSp) (sp__law_bad : QSp) (sp__law_bent : QSp) (sp__law_draw : QSp) (sp__law_leads : QSp) (sp__law_plain : QSp) (sp__law_rules : QSp) (sp__law_same : QSp) (sp__law_steps : QSp) (sp__law_word : QSp) (sp_after : QSp) (sp_are_rules : QSp) (sp_is_end : QSp) (sp_is_way : QSp) (sp_plain_end : QSp) (sp_plain_way : QSp) (sp_steps_of : QSp) : FS :=
    (sFor (fRng1 (fC (.int 4))) (.name 6) (sSeq (sSetF 7 (fCallF sp__law_steps (fCons (fVar 3) (fCons (fVar 5) fNil))))
    (sSeq (sIf (fOrT (fNotT (fTru (fCallF sp__law_same (fCons (fCallF sp_steps_of (fCons (fVar 3) (fCons (fVar 5) fNil))) (fCons (fCall oTuple (fCons (fVar 7) fNil)) fNil))))) (fNotT (fTru (fCallF sp__law_same (fCons (fCallF sp_is_end (fCons (fVar 3) (fCons (fVar 5) fNil))) (fCons (fBin oEq (fVar 7) (fLst fNil)) fNil)))))) (sRet (fC (.bool false))) sNext)
    (sSeq (sUnpF (.tup [(.name 10), (.name 11)]) (fCallF sp__law_plain (fCons (fVar 3) (fCons (fVar 5) fNil))))
    (sSeq (sIf (fOrT (fNotT (fTru (fCallF sp__law_same (fCons (fCallF sp_plain_way (fCons (fVar 3) (fCons (fVar 5) fNil))) (fCons (fVar 10) fNil))))) (fNotT (fTru (fCallF sp__law_same (fCons (fCallF sp_plain_end (fCons (fVar 3) (fCons (fVar 5) fNil))) (fCons (fVar 11) fNil)))))) (sRet (fC (.bool false))) sNext)
    (sSeq (sSetF 8 (fBin oAdd (fLst (fCons (fVar 10) fNil)) (fLc (fRng1 (fC (.int 5))) (.name 16) [16] fYes (fCallF sp__law_bent (fCons (fVar 1) (fCons (fVar 10) fNil))))))
    (sSeq (sFor (fSeq (fVar 8)) (.name 9) (sSeq (sSetF 12 (fCallF sp__law_leads (fCons (fVar 3) (fCons (fVar 5) (fCons (fVar 9) fNil)))))
    (sIf (fOrT (fNotT (fTru (fCallF sp__law_same (fCons (fCallF sp_is_way (fCons (fVar 3) (fCons (fVar 5) (fCons (fVar 11) (fCons (fVar 9) fNil))))) (fCons (fBin oEq (fVar 12) (fVar 11)) fNil))))) (fAndT (fTB (fBin oIsnt (fVar 12) (fC .none))) (fTB (fBin oIsnt (fCallF sp_is_way (fCons (fVar 3) (fCons (fVar 5) (fCons (fVar 12) (fCons (fVar 9) fNil))))) (fC (.bool true)))))) (sRet (fC (.bool false))) sNext)))
    (sIf (fTB (fBin oNe (fVar 7) (fLst fNil))) (sSeq (sSetF 13 (fBin oIx (fVar 7) (fCallF sp__law_draw (fCons (fVar 1) (fCons (fCall oLen (fCons (fVar 7) fNil)) fNil)))))
    (sSeq (sIf (fNotT (fTru (fCallF sp__law_same (fCons (fCallF sp_after (fCons (fVar 3) (fCons (fVar 5) (fCons (fVar 13) fNil)))) (fCons (fCallF sp__law_after (fCons (fVar 3) (fCons (fVar 5) (fCons (fVar 13) fNil)))) fNil))))) (sRet (fC (.bool false))) sNext)
    (sSetF 5 (fCallF sp__law_after (fCons (fVar 3) (fCons (fVar 5) (fCons (fVar 13) fNil))))))) sNext))))))))
def F_law_9 (sp__law_after : QSp) (sp__law_bad : QSp) (sp__law_bent : QSp) (sp__law_draw : QSp) (sp__law_leads : QSp) (sp__law_plain : QSp) (sp__law_rules : QSp) (sp__law_same : QSp) (sp__law_steps : QSp) (sp__law_word : QSp) (sp_after : QSp) (sp_are_rules : QSp) (sp_is_end : QSp) (sp_is_way : QSp) (sp_plain_end : QSp) (sp_plain_way : QSp) (sp_steps_of : QSp) : FS :=
    (sRet (fC (.bool true)))
def F_law (sp__law_after : QSp) (sp__law_bad : QSp) (sp__law_bent : QSp) (sp__law_draw : QSp) (sp__law_leads : QSp) (sp__law_plain : QSp) (sp__law_rules : QSp) (sp__law_same : QSp) (sp__law_steps : QSp) (sp__law_word : QSp) (sp_after : QSp) (sp_are_rules : QSp) (sp_is_end : QSp) (sp_is_way : QSp) (sp_plain_end : QSp) (sp_plain_way : QSp) (sp_steps_of : QSp) : FS :=
    (sSeq (F_law_0 sp__law_after sp__law_bad sp__law_bent sp__law_draw sp__law_leads sp__law_plain sp__law_rules sp__law_same sp__law_steps sp__law_word sp_after sp_are_rules sp_is_end sp_is_way sp_plain_end sp_plain_way sp_steps_of) (sSeq (F_law_1 sp__law_after sp__law_bad sp__law_bent sp__law_draw sp__law_leads sp__law_plain sp__law_rules sp__law_same sp__law_steps sp__law_word sp_after sp_are_rules sp_is_end sp_is_way sp_plain_end sp_plain_way sp_steps_of) (sSeq (F_law_2 sp__law_after sp__law_bad sp__law_bent sp__law_draw sp__law_leads sp__law_plain sp__law_rules sp__law_same sp__law_steps sp__law_word sp_after sp_are_rules sp_is_end sp_is_way sp_plain_end sp_plain_way sp_steps_of) (sSeq (F_law_3 sp__law_after sp__law_bad sp__law_bent sp__law_draw sp__law_leads sp__law_plain sp__law_rules sp__law_same sp__law_steps sp__law_word sp_after sp_are_rules sp_is_end sp_is_way sp_plain_end sp_plain_way sp_steps_of) (sSeq (F_law_4 sp__law_after sp__law_bad sp__law_bent sp__law_draw sp__law_leads sp__law_plain sp__law_rules sp__law_same sp__law_steps sp__law_word sp_after sp_are_rules sp_is_end sp_is_way sp_plain_end sp_plain_way sp_steps_of) (sSeq (F_law_5 sp__law_after sp__law_bad sp__law_bent sp__law_draw sp__law_leads sp__law_plain sp__law_rules sp__law_same sp__law_steps sp__law_word sp_after sp_are_rules sp_is_end sp_is_way sp_plain_end sp_plain_way sp_steps_of) (sSeq (F_law_6 sp__law_after sp__law_bad sp__law_bent sp__law_draw sp__law_leads sp__law_plain sp__law_rules sp__law_same sp__law_steps sp__law_word sp_after sp_are_rules sp_is_end sp_is_way sp_plain_end sp_plain_way sp_steps_of) (sSeq (F_law_7 sp__law_after sp__law_bad sp__law_bent sp__law_draw sp__law_leads sp__law_plain sp__law_rules sp__law_same sp__law_steps sp__law_word sp_after sp_are_rules sp_is_end sp_is_way sp_plain_end sp_plain_way sp_steps_of) (sSeq (F_law_8 sp__law_after sp__law_bad sp__law_bent sp__law_draw sp__law_leads sp__law_plain sp__law_rules sp__law_same sp__law_steps sp__law_word sp_after sp_are_rules sp_is_end sp_is_way sp_plain_end sp_plain_way sp_steps_of) (F_law_9 sp__law_after sp__law_bad sp__law_bent sp__law_draw sp__law_leads sp__law_plain sp__law_rules sp__law_same sp__law_steps sp__law_word sp_after sp_are_rules sp_is_end sp_is_way sp_plain_end sp_plain_way sp_steps_of))))))))))
end K68
set_option Elab.async false
set_option linter.all false
set_option maxRecDepth 100000
set_option maxHeartbeats 4000000
set_option autoImplicit false
namespace K68
open PySem L2 T2
/-! ### words, rules, steps -/
abbrev Wo := List Nat
abbrev Rule := Wo × Wo
abbrev Stp := Nat × Nat
def wlt (u v : Wo) : Bool := decide (u.length < v.length) || (decide (u.length = v.length) && decide (u < v))
abbrev ruD (r : Rule) : D := .tuple [sD r.1, sD r.2]
abbrev rsD (R : List Rule) : D := .tuple (R.map ruD)
abbrev stD (s : Stp) : D := .tuple [.int s.1, .int s.2]
def stands (w : Wo) (p : Nat) (l : Wo) : Bool := decide ((w.drop p).take l.length = l)
def rwr (w : Wo) (p : Nat) (r : Rule) : Wo := w.take p ++ r.2 ++ w.drop (p + r.1.length)
/-- rules that shorten or keep, of at most a thousand letters, with a left side -/
def Good (R : List Rule) : Prop := ∀ r ∈ R, r.2.length ≤ r.1.length ∧ r.1.length ≤ 1000 ∧ 1 ≤ r.1.length
theorem Good.at_ {R : List Rule} (h : Good R) {k : Nat} {r : Rule} (e : R[k]? = some r) : r.2.length ≤ r.1.length ∧ r.1.length ≤ 1000 ∧ 1 ≤ r.1.length := h r (List.mem_of_getElem? e)
theorem rs_at {R : List Rule} {k : Nat} {r : Rule} (e : R[k]? = some r) : (R.map ruD)[k]? = some (ruD r) := by rw [List.getElem?_map, e]; rfl
theorem nb_ru (r : Rule) : nb (ruD r) = true := by simp [nb, nbAll]
theorem nb_st (s : Stp) : nb (stD s) = true := by simp [nb, nbAll]
theorem plain_ru (r : Rule) : (ruD r).plain = true := plain_nb _ (nb_ru r)
theorem plain_st (s : Stp) : (stD s).plain = true := plain_nb _ (nb_st s)
theorem plain_rs (R : List Rule) : (rsD R).plain = true := by
  show PyData.plainAll _ = true
  exact plainAll_of fun x hx => by obtain ⟨r, _, rfl⟩ := List.mem_map.mp hx; exact plain_ru r
theorem ruD_inj {a b : Rule} (h : ruD a = ruD b) : a = b := by
  simp only [PyData.tuple.injEq, List.cons.injEq, and_true, sD_inj] at h
  exact Prod.ext h.1 h.2
theorem stD_inj {a b : Stp} (h : stD a = stD b) : a = b := by
  simp only [PyData.tuple.injEq, List.cons.injEq, and_true, PyData.int.injEq] at h
  exact Prod.ext (by omega) (by omega)

/-! ### small defs -/
def sp_wlt : QSp := fun ds Q => ∃ u v : Wo, ds = [sD u, sD v] ∧ Q (.bool (wlt u v))
theorem lt_is (u v : Wo) : PySem.W.dataLt (.tuple [.int u.length, sD u]) (.tuple [.int v.length, sD v]) = wlt u v := by
  rw [PySem.W.dataLt_pair (by simp [PySem.W.alike]) (by simp [PySem.W.alike]), PySem.W.dataLt_int, PySem.W.dataLt_str, eqv_int, eqv_sD]
  unfold wlt
  by_cases h1 : u.length = v.length
  · by_cases h2 : u = v
    · subst h2; simp [List.lt_irrefl]
    · simp [h1, h2]
  · have : ¬ ((u.length : Int) = v.length) := by omega
    simp [h1, this]
theorem p_is_less : Pure 2 sp_wlt F_is_less := by
  rintro ds Q ⟨u, v, rfl, q⟩
  simp only [F_is_less, sSeq, sIf, sRet, sRetN, sNext, sSetF, sSetN, sOwn, sExpr, sUnpF, sUnpN, sPar, sApp, sExt, sPutD, sAugF, sAugN, sFor, fVar, fC, fBin, fChain, fAnd, fOr, fNot, fIf, fTB, fTru, fAndT, fOrT, fNotT, fNil, fCons, fTup, fLst, fCall, fIsi, fSl, fNo, fPart, fNeg, fRev, fCallF, fLc, fRng1, fRng2, fSeq, fEnum, fJoin, fDictK, fDictT, vN, vF, startS, asB, asI, truD, isDict, isT, seqD, ownL, ownD, frAt, okM, exL, vw, oRev, List.map_cons, List.map_nil, List.length_cons, List.length_nil, List.replicate, List.cons_append, List.nil_append, List.append_nil, List.getElem?_cons_zero, List.getElem?_cons_succ, List.set_cons_zero, List.set_cons_succ, Option.map_some, Option.map_none, Option.bind_some, Option.bind_none, Sl.dat, Sl.frz, Nat.sub_self, Nat.reduceSub, Nat.reduceAdd, Bool.not_true, Bool.not_false, Bool.false_eq_true, if_true, if_false, reduceCtorEq, Nat.reduceLeDiff, true_and, cut_at, cut_to, cut_from, cut_fromA, Nat.zero_le, and_true, decide_true, setS, List.foldl_cons, List.foldl_nil, setE, wipeE, List.foldl_append, decide_false, Int.natCast_one, Int.natCast_zero, Int.cast_ofNat_Int, Int.reduceEq, oEqS, oNeS, oEqI, oNeI, oLtS, oLtI, oLeI, oGtI, oGeI, oAddS, oAddI', oAddT, oAddL, oLenS, oLenT, oLenL, oSlS, oSlT, oSlL, oSub, oTuple, oIx0, oIx1, oMulS, oMulI, oFdivI, oIsB, oIsntB, oIsN, oIsntN, isNone]
  exact ⟨⟨rfl, rfl, by simp [PySem.W.alike, PySem.W.alikeAll], by simp, by simp [PyData.depth, PyData.depthAll]⟩, by rw [lt_is]; exact q⟩
theorem p__law_before : Pure 2 sp_wlt F__law_before := by
  rintro ds Q ⟨u, v, rfl, q⟩
  simp only [F__law_before, sSeq, sIf, sRet, sRetN, sNext, sSetF, sSetN, sOwn, sExpr, sUnpF, sUnpN, sPar, sApp, sExt, sPutD, sAugF, sAugN, sFor, fVar, fC, fBin, fChain, fAnd, fOr, fNot, fIf, fTB, fTru, fAndT, fOrT, fNotT, fNil, fCons, fTup, fLst, fCall, fIsi, fSl, fNo, fPart, fNeg, fRev, fCallF, fLc, fRng1, fRng2, fSeq, fEnum, fJoin, fDictK, fDictT, vN, vF, startS, asB, asI, truD, isDict, isT, seqD, ownL, ownD, frAt, okM, exL, vw, oRev, List.map_cons, List.map_nil, List.length_cons, List.length_nil, List.replicate, List.cons_append, List.nil_append, List.append_nil, List.getElem?_cons_zero, List.getElem?_cons_succ, List.set_cons_zero, List.set_cons_succ, Option.map_some, Option.map_none, Option.bind_some, Option.bind_none, Sl.dat, Sl.frz, Nat.sub_self, Nat.reduceSub, Nat.reduceAdd, Bool.not_true, Bool.not_false, Bool.false_eq_true, if_true, if_false, reduceCtorEq, Nat.reduceLeDiff, true_and, cut_at, cut_to, cut_from, cut_fromA, Nat.zero_le, and_true, decide_true, setS, List.foldl_cons, List.foldl_nil, setE, wipeE, List.foldl_append, decide_false, Int.natCast_one, Int.natCast_zero, Int.cast_ofNat_Int, Int.reduceEq, oEqS, oNeS, oEqI, oNeI, oLtS, oLtI, oLeI, oGtI, oGeI, oAddS, oAddI', oAddT, oAddL, oLenS, oLenT, oLenL, oSlS, oSlT, oSlL, oSub, oTuple, oIx0, oIx1, oMulS, oMulI, oFdivI, oIsB, oIsntB, oIsN, oIsntN, isNone]
  unfold wlt at q
  by_cases h1 : u.length < v.length
  · have : ((u.length : Int) < v.length) := by omega
    simp only [h1, this, List.map_cons, List.map_nil, List.length_cons, List.length_nil, List.replicate, List.cons_append, List.nil_append, List.append_nil, List.getElem?_cons_zero, List.getElem?_cons_succ, List.set_cons_zero, List.set_cons_succ, Option.map_some, Option.map_none, Option.bind_some, Option.bind_none, Sl.dat, Sl.frz, Nat.sub_self, Nat.reduceSub, Nat.reduceAdd, Bool.not_true, Bool.not_false, Bool.false_eq_true, if_true, if_false, reduceCtorEq, Nat.reduceLeDiff, true_and, cut_at, cut_to, cut_from, cut_fromA, Nat.zero_le, and_true, decide_true, setS, List.foldl_cons, List.foldl_nil, setE, wipeE, List.foldl_append, decide_false, Int.natCast_one, Int.natCast_zero, Int.cast_ofNat_Int, Int.reduceEq, Bool.true_or] at q ⊢
    exact q
  · have : ¬ ((u.length : Int) < v.length) := by omega
    by_cases h2 : u.length = v.length
    · simp [h2] at q ⊢
      exact q
    · have h3 : ¬ ((u.length : Int) = v.length) := by omega
      simp only [h1, this, h2, h3, List.map_cons, List.map_nil, List.length_cons, List.length_nil, List.replicate, List.cons_append, List.nil_append, List.append_nil, List.getElem?_cons_zero, List.getElem?_cons_succ, List.set_cons_zero, List.set_cons_succ, Option.map_some, Option.map_none, Option.bind_some, Option.bind_none, Sl.dat, Sl.frz, Nat.sub_self, Nat.reduceSub, Nat.reduceAdd, Bool.not_true, Bool.not_false, Bool.false_eq_true, if_true, if_false, reduceCtorEq, Nat.reduceLeDiff, true_and, cut_at, cut_to, cut_from, cut_fromA, Nat.zero_le, and_true, decide_true, setS, List.foldl_cons, List.foldl_nil, setE, wipeE, List.foldl_append, decide_false, Int.natCast_one, Int.natCast_zero, Int.cast_ofNat_Int, Int.reduceEq, Bool.false_or, Bool.false_and] at q ⊢
      exact q
def numIn (d : D) (a b : Int) : Bool := match d with
  | .int i => decide (a ≤ i) && decide (i ≤ b)
  | _ => false
def sp_is_number : QSp := fun ds Q => ∃ (d : D) (a b : Int), ds = [d, .int a, .int b] ∧ d.plain = true ∧ Q (.bool (numIn d a b))
theorem p_is_number : Pure 3 sp_is_number F_is_number := by
  rintro ds Q ⟨d, a, b, rfl, hd, q⟩
  cases d <;> simp only [F_is_number, sSeq, sIf, sRet, sRetN, sNext, sSetF, sSetN, sOwn, sExpr, sUnpF, sUnpN, sPar, sApp, sExt, sPutD, sAugF, sAugN, sFor, fVar, fC, fBin, fChain, fAnd, fOr, fNot, fIf, fTB, fTru, fAndT, fOrT, fNotT, fNil, fCons, fTup, fLst, fCall, fIsi, fSl, fNo, fPart, fNeg, fRev, fCallF, fLc, fRng1, fRng2, fSeq, fEnum, fJoin, fDictK, fDictT, vN, vF, startS, asB, asI, truD, isDict, isT, seqD, ownL, ownD, frAt, okM, exL, vw, oRev, List.map_cons, List.map_nil, List.length_cons, List.length_nil, List.replicate, List.cons_append, List.nil_append, List.append_nil, List.getElem?_cons_zero, List.getElem?_cons_succ, List.set_cons_zero, List.set_cons_succ, Option.map_some, Option.map_none, Option.bind_some, Option.bind_none, Sl.dat, Sl.frz, Nat.sub_self, Nat.reduceSub, Nat.reduceAdd, Bool.not_true, Bool.not_false, Bool.false_eq_true, if_true, if_false, reduceCtorEq, Nat.reduceLeDiff, true_and, cut_at, cut_to, cut_from, cut_fromA, Nat.zero_le, and_true, decide_true, setS, List.foldl_cons, List.foldl_nil, setE, wipeE, List.foldl_append, decide_false, Int.natCast_one, Int.natCast_zero, Int.cast_ofNat_Int, Int.reduceEq, oEqS, oNeS, oEqI, oNeI, oLtS, oLtI, oLeI, oGtI, oGeI, oAddS, oAddI', oAddT, oAddL, oLenS, oLenT, oLenL, oSlS, oSlT, oSlL, oSub, oTuple, oIx0, oIx1, oMulS, oMulI, oFdivI, oIsB, oIsntB, oIsN, oIsntN, isNone, numIn] at q ⊢ <;> try exact q
  · rename_i i
    by_cases h1 : a ≤ i
    · simp only [h1, List.map_cons, List.map_nil, List.length_cons, List.length_nil, List.replicate, List.cons_append, List.nil_append, List.append_nil, List.getElem?_cons_zero, List.getElem?_cons_succ, List.set_cons_zero, List.set_cons_succ, Option.map_some, Option.map_none, Option.bind_some, Option.bind_none, Sl.dat, Sl.frz, Nat.sub_self, Nat.reduceSub, Nat.reduceAdd, Bool.not_true, Bool.not_false, Bool.false_eq_true, if_true, if_false, reduceCtorEq, Nat.reduceLeDiff, true_and, cut_at, cut_to, cut_from, cut_fromA, Nat.zero_le, and_true, decide_true, setS, List.foldl_cons, List.foldl_nil, setE, wipeE, List.foldl_append, decide_false, Int.natCast_one, Int.natCast_zero, Int.cast_ofNat_Int, Int.reduceEq, Bool.true_and] at q ⊢; exact q
    · simp only [h1, List.map_cons, List.map_nil, List.length_cons, List.length_nil, List.replicate, List.cons_append, List.nil_append, List.append_nil, List.getElem?_cons_zero, List.getElem?_cons_succ, List.set_cons_zero, List.set_cons_succ, Option.map_some, Option.map_none, Option.bind_some, Option.bind_none, Sl.dat, Sl.frz, Nat.sub_self, Nat.reduceSub, Nat.reduceAdd, Bool.not_true, Bool.not_false, Bool.false_eq_true, if_true, if_false, reduceCtorEq, Nat.reduceLeDiff, true_and, cut_at, cut_to, cut_from, cut_fromA, Nat.zero_le, and_true, decide_true, setS, List.foldl_cons, List.foldl_nil, setE, wipeE, List.foldl_append, decide_false, Int.natCast_one, Int.natCast_zero, Int.cast_ofNat_Int, Int.reduceEq, Bool.false_and] at q ⊢; exact q
  · simp [PyData.plain] at hd
def sp_after : QSp := fun ds Q => ∃ (R : List Rule) (w : Wo) (k p : Nat) (r : Rule), ds = [rsD R, sD w, stD (k, p)] ∧ R[k]? = some r ∧ w.length ≤ 1000 ∧ r.1.length ≤ 1000 ∧ r.2.length ≤ 1000 ∧ Q (sD (rwr w p r))
theorem p_after : Pure 5 sp_after F_after := by
  rintro ds Q ⟨R, w, k, p, r, rfl, e, hw, hl, hr, q⟩
  simp only [F_after, sSeq, sIf, sRet, sRetN, sNext, sSetF, sSetN, sOwn, sExpr, sUnpF, sUnpN, sPar, sApp, sExt, sPutD, sAugF, sAugN, sFor, fVar, fC, fBin, fChain, fAnd, fOr, fNot, fIf, fTB, fTru, fAndT, fOrT, fNotT, fNil, fCons, fTup, fLst, fCall, fIsi, fSl, fNo, fPart, fNeg, fRev, fCallF, fLc, fRng1, fRng2, fSeq, fEnum, fJoin, fDictK, fDictT, vN, vF, startS, asB, asI, truD, isDict, isT, seqD, ownL, ownD, frAt, okM, exL, vw, oRev, List.map_cons, List.map_nil, List.length_cons, List.length_nil, List.replicate, List.cons_append, List.nil_append, List.append_nil, List.getElem?_cons_zero, List.getElem?_cons_succ, List.set_cons_zero, List.set_cons_succ, Option.map_some, Option.map_none, Option.bind_some, Option.bind_none, Sl.dat, Sl.frz, Nat.sub_self, Nat.reduceSub, Nat.reduceAdd, Bool.not_true, Bool.not_false, Bool.false_eq_true, if_true, if_false, reduceCtorEq, Nat.reduceLeDiff, true_and, cut_at, cut_to, cut_from, cut_fromA, Nat.zero_le, and_true, decide_true, setS, List.foldl_cons, List.foldl_nil, setE, wipeE, List.foldl_append, decide_false, Int.natCast_one, Int.natCast_zero, Int.cast_ofNat_Int, Int.reduceEq, oEqS, oNeS, oEqI, oNeI, oLtS, oLtI, oLeI, oGtI, oGeI, oAddS, oAddI', oAddT, oAddL, oLenS, oLenT, oLenL, oSlS, oSlT, oSlL, oSub, oTuple, oIx0, oIx1, oMulS, oMulI, oFdivI, oIsB, oIsntB, oIsN, oIsntN, isNone, oIxT (rs_at e)]
  refine ⟨_, rfl, ?_⟩
  simp only [sSeq, sIf, sRet, sRetN, sNext, sSetF, sSetN, sOwn, sExpr, sUnpF, sUnpN, sPar, sApp, sExt, sPutD, sAugF, sAugN, sFor, fVar, fC, fBin, fChain, fAnd, fOr, fNot, fIf, fTB, fTru, fAndT, fOrT, fNotT, fNil, fCons, fTup, fLst, fCall, fIsi, fSl, fNo, fPart, fNeg, fRev, fCallF, fLc, fRng1, fRng2, fSeq, fEnum, fJoin, fDictK, fDictT, vN, vF, startS, asB, asI, truD, isDict, isT, seqD, ownL, ownD, frAt, okM, exL, vw, oRev, List.map_cons, List.map_nil, List.length_cons, List.length_nil, List.replicate, List.cons_append, List.nil_append, List.append_nil, List.getElem?_cons_zero, List.getElem?_cons_succ, List.set_cons_zero, List.set_cons_succ, Option.map_some, Option.map_none, Option.bind_some, Option.bind_none, Sl.dat, Sl.frz, Nat.sub_self, Nat.reduceSub, Nat.reduceAdd, Bool.not_true, Bool.not_false, Bool.false_eq_true, if_true, if_false, reduceCtorEq, Nat.reduceLeDiff, true_and, cut_at, cut_to, cut_from, cut_fromA, Nat.zero_le, and_true, decide_true, setS, List.foldl_cons, List.foldl_nil, setE, wipeE, List.foldl_append, decide_false, Int.natCast_one, Int.natCast_zero, Int.cast_ofNat_Int, Int.reduceEq, oEqS, oNeS, oEqI, oNeI, oLtS, oLtI, oLeI, oGtI, oGeI, oAddS, oAddI', oAddT, oAddL, oLenS, oLenT, oLenL, oSlS, oSlT, oSlL, oSub, oTuple, oIx0, oIx1, oMulS, oMulI, oFdivI, oIsB, oIsntB, oIsN, oIsntN, isNone]
  refine ⟨by simp; omega, by simp; omega, ?_⟩
  exact q
theorem p__law_after : Pure 5 sp_after F__law_after := p_after

/-! ### places, steps -/
def places (l w : Wo) : List Nat := (List.range (w.length + 1 - l.length)).filter fun p => stands w p l
def sp_places_of : QSp := fun ds Q => ∃ l w : Wo, ds = [sD l, sD w] ∧ w.length ≤ 1000 ∧ l.length ≤ 1000 ∧ Q (.tuple ((places l w).map fun p : Nat => .int (p : Int)))
theorem p_places_of : Pure 3 sp_places_of F_places_of := by
  rintro ds Q ⟨l, w, rfl, hw, hl, q⟩
  simp only [F_places_of, sSeq, sIf, sRet, sRetN, sNext, sSetF, sSetN, sOwn, sExpr, sUnpF, sUnpN, sPar, sApp, sExt, sPutD, sAugF, sAugN, sFor, fVar, fC, fBin, fChain, fAnd, fOr, fNot, fIf, fTB, fTru, fAndT, fOrT, fNotT, fNil, fCons, fTup, fLst, fCall, fIsi, fSl, fNo, fPart, fNeg, fRev, fCallF, fLc, fRng1, fRng2, fSeq, fEnum, fJoin, fDictK, fDictT, vN, vF, startS, asB, asI, truD, isDict, isT, seqD, ownL, ownD, frAt, okM, exL, vw, oRev, List.map_cons, List.map_nil, List.length_cons, List.length_nil, List.replicate, List.cons_append, List.nil_append, List.append_nil, List.getElem?_cons_zero, List.getElem?_cons_succ, List.set_cons_zero, List.set_cons_succ, Option.map_some, Option.map_none, Option.bind_some, Option.bind_none, Sl.dat, Sl.frz, Nat.sub_self, Nat.reduceSub, Nat.reduceAdd, Bool.not_true, Bool.not_false, Bool.false_eq_true, if_true, if_false, reduceCtorEq, Nat.reduceLeDiff, true_and, cut_at, cut_to, cut_from, cut_fromA, Nat.zero_le, and_true, decide_true, setS, List.foldl_cons, List.foldl_nil, setE, wipeE, List.foldl_append, decide_false, Int.natCast_one, Int.natCast_zero, Int.cast_ofNat_Int, Int.reduceEq, oEqS, oNeS, oEqI, oNeI, oLtS, oLtI, oLeI, oGtI, oGeI, oAddS, oAddI', oAddT, oAddL, oLenS, oLenT, oLenL, oSlS, oSlT, oSlL, oSub, oTuple, oIx0, oIx1, oMulS, oMulI, oFdivI, oIsB, oIsntB, oIsN, oIsntN, isNone]
  refine ⟨by omega, ?_⟩
  have e : ((w.length : Int) - l.length + 1).toNat = w.length + 1 - l.length := by omega
  rw [e, natsD0]
  refine qComp_filter (fun p => stands w p l) (fun p => .int (p : Int)) (fun p _ => ⟨_, rfl, fun Q' q' => ?_, fun _ Q' q' => ?_⟩) ?_
  · simp only [sSeq, sIf, sRet, sRetN, sNext, sSetF, sSetN, sOwn, sExpr, sUnpF, sUnpN, sPar, sApp, sExt, sPutD, sAugF, sAugN, sFor, fVar, fC, fBin, fChain, fAnd, fOr, fNot, fIf, fTB, fTru, fAndT, fOrT, fNotT, fNil, fCons, fTup, fLst, fCall, fIsi, fSl, fNo, fPart, fNeg, fRev, fCallF, fLc, fRng1, fRng2, fSeq, fEnum, fJoin, fDictK, fDictT, vN, vF, startS, asB, asI, truD, isDict, isT, seqD, ownL, ownD, frAt, okM, exL, vw, oRev, List.map_cons, List.map_nil, List.length_cons, List.length_nil, List.replicate, List.cons_append, List.nil_append, List.append_nil, List.getElem?_cons_zero, List.getElem?_cons_succ, List.set_cons_zero, List.set_cons_succ, Option.map_some, Option.map_none, Option.bind_some, Option.bind_none, Sl.dat, Sl.frz, Nat.sub_self, Nat.reduceSub, Nat.reduceAdd, Bool.not_true, Bool.not_false, Bool.false_eq_true, if_true, if_false, reduceCtorEq, Nat.reduceLeDiff, true_and, cut_at, cut_to, cut_from, cut_fromA, Nat.zero_le, and_true, decide_true, setS, List.foldl_cons, List.foldl_nil, setE, wipeE, List.foldl_append, decide_false, Int.natCast_one, Int.natCast_zero, Int.cast_ofNat_Int, Int.reduceEq, oEqS, oNeS, oEqI, oNeI, oLtS, oLtI, oLeI, oGtI, oGeI, oAddS, oAddI', oAddT, oAddL, oLenS, oLenT, oLenL, oSlS, oSlT, oSlL, oSub, oTuple, oIx0, oIx1, oMulS, oMulI, oFdivI, oIsB, oIsntB, oIsN, oIsntN, isNone]
    exact q'
  · simp only [sSeq, sIf, sRet, sRetN, sNext, sSetF, sSetN, sOwn, sExpr, sUnpF, sUnpN, sPar, sApp, sExt, sPutD, sAugF, sAugN, sFor, fVar, fC, fBin, fChain, fAnd, fOr, fNot, fIf, fTB, fTru, fAndT, fOrT, fNotT, fNil, fCons, fTup, fLst, fCall, fIsi, fSl, fNo, fPart, fNeg, fRev, fCallF, fLc, fRng1, fRng2, fSeq, fEnum, fJoin, fDictK, fDictT, vN, vF, startS, asB, asI, truD, isDict, isT, seqD, ownL, ownD, frAt, okM, exL, vw, oRev, List.map_cons, List.map_nil, List.length_cons, List.length_nil, List.replicate, List.cons_append, List.nil_append, List.append_nil, List.getElem?_cons_zero, List.getElem?_cons_succ, List.set_cons_zero, List.set_cons_succ, Option.map_some, Option.map_none, Option.bind_some, Option.bind_none, Sl.dat, Sl.frz, Nat.sub_self, Nat.reduceSub, Nat.reduceAdd, Bool.not_true, Bool.not_false, Bool.false_eq_true, if_true, if_false, reduceCtorEq, Nat.reduceLeDiff, true_and, cut_at, cut_to, cut_from, cut_fromA, Nat.zero_le, and_true, decide_true, setS, List.foldl_cons, List.foldl_nil, setE, wipeE, List.foldl_append, decide_false, Int.natCast_one, Int.natCast_zero, Int.cast_ofNat_Int, Int.reduceEq, oEqS, oNeS, oEqI, oNeI, oLtS, oLtI, oLeI, oGtI, oGeI, oAddS, oAddI', oAddT, oAddL, oLenS, oLenT, oLenL, oSlS, oSlT, oSlL, oSub, oTuple, oIx0, oIx1, oMulS, oMulI, oFdivI, oIsB, oIsntB, oIsN, oIsntN, isNone]
    exact q'
  · simp only [sSeq, sIf, sRet, sRetN, sNext, sSetF, sSetN, sOwn, sExpr, sUnpF, sUnpN, sPar, sApp, sExt, sPutD, sAugF, sAugN, sFor, fVar, fC, fBin, fChain, fAnd, fOr, fNot, fIf, fTB, fTru, fAndT, fOrT, fNotT, fNil, fCons, fTup, fLst, fCall, fIsi, fSl, fNo, fPart, fNeg, fRev, fCallF, fLc, fRng1, fRng2, fSeq, fEnum, fJoin, fDictK, fDictT, vN, vF, startS, asB, asI, truD, isDict, isT, seqD, ownL, ownD, frAt, okM, exL, vw, oRev, List.map_cons, List.map_nil, List.length_cons, List.length_nil, List.replicate, List.cons_append, List.nil_append, List.append_nil, List.getElem?_cons_zero, List.getElem?_cons_succ, List.set_cons_zero, List.set_cons_succ, Option.map_some, Option.map_none, Option.bind_some, Option.bind_none, Sl.dat, Sl.frz, Nat.sub_self, Nat.reduceSub, Nat.reduceAdd, Bool.not_true, Bool.not_false, Bool.false_eq_true, if_true, if_false, reduceCtorEq, Nat.reduceLeDiff, true_and, cut_at, cut_to, cut_from, cut_fromA, Nat.zero_le, and_true, decide_true, setS, List.foldl_cons, List.foldl_nil, setE, wipeE, List.foldl_append, decide_false, Int.natCast_one, Int.natCast_zero, Int.cast_ofNat_Int, Int.reduceEq, oEqS, oNeS, oEqI, oNeI, oLtS, oLtI, oLeI, oGtI, oGeI, oAddS, oAddI', oAddT, oAddL, oLenS, oLenT, oLenL, oSlS, oSlT, oSlL, oSub, oTuple, oIx0, oIx1, oMulS, oMulI, oFdivI, oIsB, oIsntB, oIsN, oIsntN, isNone]
    exact q
def stepsFrom (w : Wo) (k : Nat) : List Rule → List Stp
  | [] => []
  | r :: R => ((places r.1 w).map fun p => (k, p)) ++ stepsFrom w (k + 1) R
def steps (R : List Rule) (w : Wo) : List Stp := stepsFrom w 0 R
theorem stepsFrom_take (w : Wo) : ∀ (R : List Rule) (k n : Nat) (r : Rule), R[n]? = some r → stepsFrom w k (R.take (n + 1)) = stepsFrom w k (R.take n) ++ ((places r.1 w).map fun p => (k + n, p))
  | [], _, _, _, e => by simp at e
  | x :: R, k, 0, r, e => by
    simp at e; subst e
    simp [stepsFrom]
  | x :: R, k, n + 1, r, e => by
    have ih := stepsFrom_take w R (k + 1) n r (by simpa using e)
    rw [List.take_succ_cons, List.take_succ_cons]
    unfold stepsFrom
    rw [ih, List.append_assoc]
    congr 3
    funext p
    rw [show k + 1 + n = k + (n + 1) by omega]
theorem places_len (l w : Wo) : (places l w).length ≤ w.length + 1 := by
  unfold places
  refine Nat.le_trans (List.length_filter_le _ _) ?_
  rw [List.length_range]; omega
theorem stepsFrom_len (w : Wo) : ∀ (R : List Rule) (k : Nat), (stepsFrom w k R).length ≤ R.length * (w.length + 1)
  | [], _ => Nat.zero_le _
  | r :: R, k => by
    unfold stepsFrom
    have := stepsFrom_len w R (k + 1)
    have := places_len r.1 w
    rw [List.length_append, List.length_map, List.length_cons, Nat.succ_mul]
    omega
def sp_steps (mk : List D → D) : QSp := fun ds Q => ∃ (R : List Rule) (w : Wo), ds = [rsD R, sD w] ∧ Good R ∧ R.length ≤ 1000 ∧ w.length ≤ 1000 ∧ Q (mk ((steps R w).map stD))
theorem en_rs (R : List Rule) : enumD (R.map ruD) = R.zipIdx.map fun x => .tuple [.int (x.2 : Int), ruD x.1] := by
  unfold enumD
  apply List.ext_getElem?
  intro i
  simp only [List.getElem?_mapIdx, List.getElem?_map, List.getElem?_zipIdx, Option.map_map]
  cases R[i]? <;> simp
theorem len_take {w : Wo} {R : List Rule} (hR : R.length ≤ 1000) (hw : w.length ≤ 1000) (n k : Nat) : (stepsFrom w k (R.take n)).length ≤ 1001000 := by
  refine Nat.le_trans (stepsFrom_len w _ k) ?_
  have h1 : (R.take n).length ≤ 1000 := by rw [List.length_take]; omega
  exact Nat.le_trans (Nat.mul_le_mul h1 (show w.length + 1 ≤ 1001 by omega)) (by decide)
theorem p_steps_of : Pure 7 (sp_steps .tuple) (F_steps_of sp_places_of) := by
  rintro ds Q ⟨R, w, rfl, hg, hR, hw, q⟩
  simp only [F_steps_of, sSeq, sIf, sRet, sRetN, sNext, sSetF, sSetN, sOwn, sExpr, sUnpF, sUnpN, sPar, sApp, sExt, sPutD, sAugF, sAugN, sFor, fVar, fC, fBin, fChain, fAnd, fOr, fNot, fIf, fTB, fTru, fAndT, fOrT, fNotT, fNil, fCons, fTup, fLst, fCall, fIsi, fSl, fNo, fPart, fNeg, fRev, fCallF, fLc, fRng1, fRng2, fSeq, fEnum, fJoin, fDictK, fDictT, vN, vF, startS, asB, asI, truD, isDict, isT, seqD, ownL, ownD, frAt, okM, exL, vw, oRev, List.map_cons, List.map_nil, List.length_cons, List.length_nil, List.replicate, List.cons_append, List.nil_append, List.append_nil, List.getElem?_cons_zero, List.getElem?_cons_succ, List.set_cons_zero, List.set_cons_succ, Option.map_some, Option.map_none, Option.bind_some, Option.bind_none, Sl.dat, Sl.frz, Nat.sub_self, Nat.reduceSub, Nat.reduceAdd, Bool.not_true, Bool.not_false, Bool.false_eq_true, if_true, if_false, reduceCtorEq, Nat.reduceLeDiff, true_and, cut_at, cut_to, cut_from, cut_fromA, Nat.zero_le, and_true, decide_true, setS, List.foldl_cons, List.foldl_nil, setE, wipeE, List.foldl_append, decide_false, Int.natCast_one, Int.natCast_zero, Int.cast_ofNat_Int, Int.reduceEq, oEqS, oNeS, oEqI, oNeI, oLtS, oLtI, oLeI, oGtI, oGeI, oAddS, oAddI', oAddT, oAddL, oLenS, oLenT, oLenL, oSlS, oSlT, oSlL, oSub, oTuple, oIx0, oIx1, oMulS, oMulI, oFdivI, oIsB, oIsntB, oIsN, oIsntN, isNone, en_rs]
  refine qFor_inv (fun i env => ∃ a b c d, env = [some (.fr (rsD R)), some (.fr (sD w)), some (.ow (.list ((stepsFrom w 0 (R.take i)).map stD))), a, b, c, d]) ⟨_, _, _, _, rfl⟩ ?_ ?_
  · rintro i x env hx ⟨a, b, c, d, rfl⟩
    rw [List.getElem?_zipIdx] at hx
    cases hr : R[i]? with
    | none => rw [hr] at hx; cases hx
    | some r =>
      rw [hr] at hx
      cases hx
      have hgr := hg.at_ hr
      refine ⟨_, rfl, fun K hK => ?_⟩
      simp only [sSeq, sIf, sRet, sRetN, sNext, sSetF, sSetN, sOwn, sExpr, sUnpF, sUnpN, sPar, sApp, sExt, sPutD, sAugF, sAugN, sFor, fVar, fC, fBin, fChain, fAnd, fOr, fNot, fIf, fTB, fTru, fAndT, fOrT, fNotT, fNil, fCons, fTup, fLst, fCall, fIsi, fSl, fNo, fPart, fNeg, fRev, fCallF, fLc, fRng1, fRng2, fSeq, fEnum, fJoin, fDictK, fDictT, vN, vF, startS, asB, asI, truD, isDict, isT, seqD, ownL, ownD, frAt, okM, exL, vw, oRev, List.map_cons, List.map_nil, List.length_cons, List.length_nil, List.replicate, List.cons_append, List.nil_append, List.append_nil, List.getElem?_cons_zero, List.getElem?_cons_succ, List.set_cons_zero, List.set_cons_succ, Option.map_some, Option.map_none, Option.bind_some, Option.bind_none, Sl.dat, Sl.frz, Nat.sub_self, Nat.reduceSub, Nat.reduceAdd, Bool.not_true, Bool.not_false, Bool.false_eq_true, if_true, if_false, reduceCtorEq, Nat.reduceLeDiff, true_and, cut_at, cut_to, cut_from, cut_fromA, Nat.zero_le, and_true, decide_true, setS, List.foldl_cons, List.foldl_nil, setE, wipeE, List.foldl_append, decide_false, Int.natCast_one, Int.natCast_zero, Int.cast_ofNat_Int, Int.reduceEq, oEqS, oNeS, oEqI, oNeI, oLtS, oLtI, oLeI, oGtI, oGeI, oAddS, oAddI', oAddT, oAddL, oLenS, oLenT, oLenL, oSlS, oSlT, oSlL, oSub, oTuple, oIx0, oIx1, oMulS, oMulI, oFdivI, oIsB, oIsntB, oIsN, oIsntN, isNone]
      refine ⟨r.1, w, rfl, hw, hgr.2.1, ?_⟩
      simp only [sSeq, sIf, sRet, sRetN, sNext, sSetF, sSetN, sOwn, sExpr, sUnpF, sUnpN, sPar, sApp, sExt, sPutD, sAugF, sAugN, sFor, fVar, fC, fBin, fChain, fAnd, fOr, fNot, fIf, fTB, fTru, fAndT, fOrT, fNotT, fNil, fCons, fTup, fLst, fCall, fIsi, fSl, fNo, fPart, fNeg, fRev, fCallF, fLc, fRng1, fRng2, fSeq, fEnum, fJoin, fDictK, fDictT, vN, vF, startS, asB, asI, truD, isDict, isT, seqD, ownL, ownD, frAt, okM, exL, vw, oRev, List.map_cons, List.map_nil, List.length_cons, List.length_nil, List.replicate, List.cons_append, List.nil_append, List.append_nil, List.getElem?_cons_zero, List.getElem?_cons_succ, List.set_cons_zero, List.set_cons_succ, Option.map_some, Option.map_none, Option.bind_some, Option.bind_none, Sl.dat, Sl.frz, Nat.sub_self, Nat.reduceSub, Nat.reduceAdd, Bool.not_true, Bool.not_false, Bool.false_eq_true, if_true, if_false, reduceCtorEq, Nat.reduceLeDiff, true_and, cut_at, cut_to, cut_from, cut_fromA, Nat.zero_le, and_true, decide_true, setS, List.foldl_cons, List.foldl_nil, setE, wipeE, List.foldl_append, decide_false, Int.natCast_one, Int.natCast_zero, Int.cast_ofNat_Int, Int.reduceEq, oEqS, oNeS, oEqI, oNeI, oLtS, oLtI, oLeI, oGtI, oGeI, oAddS, oAddI', oAddT, oAddL, oLenS, oLenT, oLenL, oSlS, oSlT, oSlL, oSub, oTuple, oIx0, oIx1, oMulS, oMulI, oFdivI, oIsB, oIsntB, oIsN, oIsntN, isNone]
      refine qComp_map (fun p => stD (i, p)) (fun p _ => ⟨_, rfl, fun Q' q' => ?_⟩) ?_
      · simp only [sSeq, sIf, sRet, sRetN, sNext, sSetF, sSetN, sOwn, sExpr, sUnpF, sUnpN, sPar, sApp, sExt, sPutD, sAugF, sAugN, sFor, fVar, fC, fBin, fChain, fAnd, fOr, fNot, fIf, fTB, fTru, fAndT, fOrT, fNotT, fNil, fCons, fTup, fLst, fCall, fIsi, fSl, fNo, fPart, fNeg, fRev, fCallF, fLc, fRng1, fRng2, fSeq, fEnum, fJoin, fDictK, fDictT, vN, vF, startS, asB, asI, truD, isDict, isT, seqD, ownL, ownD, frAt, okM, exL, vw, oRev, List.map_cons, List.map_nil, List.length_cons, List.length_nil, List.replicate, List.cons_append, List.nil_append, List.append_nil, List.getElem?_cons_zero, List.getElem?_cons_succ, List.set_cons_zero, List.set_cons_succ, Option.map_some, Option.map_none, Option.bind_some, Option.bind_none, Sl.dat, Sl.frz, Nat.sub_self, Nat.reduceSub, Nat.reduceAdd, Bool.not_true, Bool.not_false, Bool.false_eq_true, if_true, if_false, reduceCtorEq, Nat.reduceLeDiff, true_and, cut_at, cut_to, cut_from, cut_fromA, Nat.zero_le, and_true, decide_true, setS, List.foldl_cons, List.foldl_nil, setE, wipeE, List.foldl_append, decide_false, Int.natCast_one, Int.natCast_zero, Int.cast_ofNat_Int, Int.reduceEq, oEqS, oNeS, oEqI, oNeI, oLtS, oLtI, oLeI, oGtI, oGeI, oAddS, oAddI', oAddT, oAddL, oLenS, oLenT, oLenL, oSlS, oSlT, oSlL, oSub, oTuple, oIx0, oIx1, oMulS, oMulI, oFdivI, oIsB, oIsntB, oIsN, oIsntN, isNone]
        simpa using q'
      · simp only [sSeq, sIf, sRet, sRetN, sNext, sSetF, sSetN, sOwn, sExpr, sUnpF, sUnpN, sPar, sApp, sExt, sPutD, sAugF, sAugN, sFor, fVar, fC, fBin, fChain, fAnd, fOr, fNot, fIf, fTB, fTru, fAndT, fOrT, fNotT, fNil, fCons, fTup, fLst, fCall, fIsi, fSl, fNo, fPart, fNeg, fRev, fCallF, fLc, fRng1, fRng2, fSeq, fEnum, fJoin, fDictK, fDictT, vN, vF, startS, asB, asI, truD, isDict, isT, seqD, ownL, ownD, frAt, okM, exL, vw, oRev, List.map_cons, List.map_nil, List.length_cons, List.length_nil, List.replicate, List.cons_append, List.nil_append, List.append_nil, List.getElem?_cons_zero, List.getElem?_cons_succ, List.set_cons_zero, List.set_cons_succ, Option.map_some, Option.map_none, Option.bind_some, Option.bind_none, Sl.dat, Sl.frz, Nat.sub_self, Nat.reduceSub, Nat.reduceAdd, Bool.not_true, Bool.not_false, Bool.false_eq_true, if_true, if_false, reduceCtorEq, Nat.reduceLeDiff, true_and, cut_at, cut_to, cut_from, cut_fromA, Nat.zero_le, and_true, decide_true, setS, List.foldl_cons, List.foldl_nil, setE, wipeE, List.foldl_append, decide_false, Int.natCast_one, Int.natCast_zero, Int.cast_ofNat_Int, Int.reduceEq, oEqS, oNeS, oEqI, oNeI, oLtS, oLtI, oLeI, oGtI, oGeI, oAddS, oAddI', oAddT, oAddL, oLenS, oLenT, oLenL, oSlS, oSlT, oSlL, oSub, oTuple, oIx0, oIx1, oMulS, oMulI, oFdivI, oIsB, oIsntB, oIsN, oIsntN, isNone]
        have h1 := len_take hR hw i 0
        have h2 := places_len r.1 w
        refine ⟨by simp, by rw [List.length_map, List.length_map]; omega, hK _ ?_⟩
        have e : (stepsFrom w 0 (R.take (i + 1))).map stD = (stepsFrom w 0 (R.take i)).map stD ++ (places r.1 w).map fun p => stD (i, p) := by
          rw [stepsFrom_take w R 0 i r hr]
          simp
        rw [e]
        exact ⟨_, _, _, _, rfl⟩
  · rintro env ⟨a, b, c, d, rfl⟩
    simp only [sSeq, sIf, sRet, sRetN, sNext, sSetF, sSetN, sOwn, sExpr, sUnpF, sUnpN, sPar, sApp, sExt, sPutD, sAugF, sAugN, sFor, fVar, fC, fBin, fChain, fAnd, fOr, fNot, fIf, fTB, fTru, fAndT, fOrT, fNotT, fNil, fCons, fTup, fLst, fCall, fIsi, fSl, fNo, fPart, fNeg, fRev, fCallF, fLc, fRng1, fRng2, fSeq, fEnum, fJoin, fDictK, fDictT, vN, vF, startS, asB, asI, truD, isDict, isT, seqD, ownL, ownD, frAt, okM, exL, vw, oRev, List.map_cons, List.map_nil, List.length_cons, List.length_nil, List.replicate, List.cons_append, List.nil_append, List.append_nil, List.getElem?_cons_zero, List.getElem?_cons_succ, List.set_cons_zero, List.set_cons_succ, Option.map_some, Option.map_none, Option.bind_some, Option.bind_none, Sl.dat, Sl.frz, Nat.sub_self, Nat.reduceSub, Nat.reduceAdd, Bool.not_true, Bool.not_false, Bool.false_eq_true, if_true, if_false, reduceCtorEq, Nat.reduceLeDiff, true_and, cut_at, cut_to, cut_from, cut_fromA, Nat.zero_le, and_true, decide_true, setS, List.foldl_cons, List.foldl_nil, setE, wipeE, List.foldl_append, decide_false, Int.natCast_one, Int.natCast_zero, Int.cast_ofNat_Int, Int.reduceEq, oEqS, oNeS, oEqI, oNeI, oLtS, oLtI, oLeI, oGtI, oGeI, oAddS, oAddI', oAddT, oAddL, oLenS, oLenT, oLenL, oSlS, oSlT, oSlL, oSub, oTuple, oIx0, oIx1, oMulS, oMulI, oFdivI, oIsB, oIsntB, oIsN, oIsntN, isNone]
    rw [List.length_zipIdx, List.take_length]
    exact q
end K68
set_option Elab.async false
set_option linter.all false
set_option maxRecDepth 100000
set_option maxHeartbeats 4000000
set_option autoImplicit false
namespace K68
open PySem L2 T2
/-! the law's steps: places among all, of a left side with a letter -/
theorem stands_le {w l : Wo} {p : Nat} (h : stands w p l = true) : p + l.length ≤ w.length ∨ l = [] := by
  have e := of_decide_eq_true h
  have := congrArg List.length e
  rw [List.length_take, List.length_drop] at this
  by_cases h0 : l.length = 0
  · exact .inr (List.eq_nil_of_length_eq_zero h0)
  · left; omega
theorem filter_range_le {f : Nat → Bool} {m n : Nat} (hmn : m ≤ n) (h : ∀ i, m ≤ i → i < n → f i = false) : (List.range n).filter f = (List.range m).filter f := by
  obtain ⟨k, rfl⟩ := Nat.le.dest hmn
  rw [List.range_add, List.filter_append]
  have : ((List.range k).map fun x => m + x).filter f = [] := by
    rw [List.filter_eq_nil_iff]
    intro x hx
    obtain ⟨y, hy, rfl⟩ := List.mem_map.mp hx
    have := List.mem_range.mp hy
    rw [h (m + y) (by omega) (by omega)]; decide
  rw [this, List.append_nil]
theorem places_all {l w : Wo} (hl : 1 ≤ l.length) : places l w = (List.range w.length).filter fun p => stands w p l := by
  unfold places
  symm
  apply filter_range_le (by omega)
  intro i h1 h2
  cases h : stands w i l with
  | false => rfl
  | true =>
    rcases stands_le h with h3 | h3
    · omega
    · subst h3; simp at hl
theorem p__law_steps : Pure 6 (sp_steps .list) F__law_steps := by
  rintro ds Q ⟨R, w, rfl, hg, hR, hw, q⟩
  simp only [F__law_steps, sSeq, sIf, sRet, sRetN, sNext, sSetF, sSetN, sOwn, sExpr, sUnpF, sUnpN, sPar, sApp, sExt, sPutD, sAugF, sAugN, sFor, fVar, fC, fBin, fChain, fAnd, fOr, fNot, fIf, fTB, fTru, fAndT, fOrT, fNotT, fNil, fCons, fTup, fLst, fCall, fIsi, fSl, fNo, fPart, fNeg, fRev, fCallF, fLc, fRng1, fRng2, fSeq, fEnum, fJoin, fDictK, fDictT, vN, vF, startS, asB, asI, truD, isDict, isT, seqD, ownL, ownD, frAt, okM, exL, vw, oRev, List.map_cons, List.map_nil, List.length_cons, List.length_nil, List.replicate, List.cons_append, List.nil_append, List.append_nil, List.getElem?_cons_zero, List.getElem?_cons_succ, List.set_cons_zero, List.set_cons_succ, Option.map_some, Option.map_none, Option.bind_some, Option.bind_none, Sl.dat, Sl.frz, Nat.sub_self, Nat.reduceSub, Nat.reduceAdd, Bool.not_true, Bool.not_false, Bool.false_eq_true, if_true, if_false, reduceCtorEq, Nat.reduceLeDiff, true_and, cut_at, cut_to, cut_from, cut_fromA, Nat.zero_le, and_true, decide_true, setS, List.foldl_cons, List.foldl_nil, setE, wipeE, List.foldl_append, decide_false, Int.natCast_one, Int.natCast_zero, Int.cast_ofNat_Int, Int.reduceEq, oEqS, oNeS, oEqI, oNeI, oLtS, oLtI, oLeI, oGtI, oGeI, oAddS, oAddI', oAddT, oAddL, oLenS, oLenT, oLenL, oSlS, oSlT, oSlL, oSub, oTuple, oIx0, oIx1, oMulS, oMulI, oFdivI, oIsB, oIsntB, oIsN, oIsntN, isNone, List.length_map, natsD_range]
  refine ⟨⟨by omega, by omega⟩, ?_⟩
  refine qFor_inv (fun i env => ∃ a b c, env = [some (.fr (rsD R)), some (.fr (sD w)), some (.ow (.list ((stepsFrom w 0 (R.take i)).map stD))), a, b, c]) ⟨_, _, _, rfl⟩ ?_ ?_
  · rintro i x env hx ⟨a, b, c, rfl⟩
    have hx' := List.getElem?_eq_some_iff.mp hx
    obtain ⟨hi, rfl⟩ := hx'
    rw [List.length_range] at hi
    rw [List.getElem_range]
    have hr : R[i]? = some R[i] := List.getElem?_eq_getElem hi
    have hgr := hg.at_ hr
    refine ⟨_, rfl, fun K hK => ?_⟩
    simp only [sSeq, sIf, sRet, sRetN, sNext, sSetF, sSetN, sOwn, sExpr, sUnpF, sUnpN, sPar, sApp, sExt, sPutD, sAugF, sAugN, sFor, fVar, fC, fBin, fChain, fAnd, fOr, fNot, fIf, fTB, fTru, fAndT, fOrT, fNotT, fNil, fCons, fTup, fLst, fCall, fIsi, fSl, fNo, fPart, fNeg, fRev, fCallF, fLc, fRng1, fRng2, fSeq, fEnum, fJoin, fDictK, fDictT, vN, vF, startS, asB, asI, truD, isDict, isT, seqD, ownL, ownD, frAt, okM, exL, vw, oRev, List.map_cons, List.map_nil, List.length_cons, List.length_nil, List.replicate, List.cons_append, List.nil_append, List.append_nil, List.getElem?_cons_zero, List.getElem?_cons_succ, List.set_cons_zero, List.set_cons_succ, Option.map_some, Option.map_none, Option.bind_some, Option.bind_none, Sl.dat, Sl.frz, Nat.sub_self, Nat.reduceSub, Nat.reduceAdd, Bool.not_true, Bool.not_false, Bool.false_eq_true, if_true, if_false, reduceCtorEq, Nat.reduceLeDiff, true_and, cut_at, cut_to, cut_from, cut_fromA, Nat.zero_le, and_true, decide_true, setS, List.foldl_cons, List.foldl_nil, setE, wipeE, List.foldl_append, decide_false, Int.natCast_one, Int.natCast_zero, Int.cast_ofNat_Int, Int.reduceEq, oEqS, oNeS, oEqI, oNeI, oLtS, oLtI, oLeI, oGtI, oGeI, oAddS, oAddI', oAddT, oAddL, oLenS, oLenT, oLenL, oSlS, oSlT, oSlL, oSub, oTuple, oIx0, oIx1, oMulS, oMulI, oFdivI, oIsB, oIsntB, oIsN, oIsntN, isNone, oIxT (rs_at hr), natsD_range]
    refine ⟨⟨by omega, by omega⟩, ?_⟩
    refine qComp_filter (fun p => stands w p R[i].1) (fun p => stD (i, p)) (fun p _ => ⟨_, rfl, fun Q' q' => ?_, fun _ Q' q' => ?_⟩) ?_
    · simp only [sSeq, sIf, sRet, sRetN, sNext, sSetF, sSetN, sOwn, sExpr, sUnpF, sUnpN, sPar, sApp, sExt, sPutD, sAugF, sAugN, sFor, fVar, fC, fBin, fChain, fAnd, fOr, fNot, fIf, fTB, fTru, fAndT, fOrT, fNotT, fNil, fCons, fTup, fLst, fCall, fIsi, fSl, fNo, fPart, fNeg, fRev, fCallF, fLc, fRng1, fRng2, fSeq, fEnum, fJoin, fDictK, fDictT, vN, vF, startS, asB, asI, truD, isDict, isT, seqD, ownL, ownD, frAt, okM, exL, vw, oRev, List.map_cons, List.map_nil, List.length_cons, List.length_nil, List.replicate, List.cons_append, List.nil_append, List.append_nil, List.getElem?_cons_zero, List.getElem?_cons_succ, List.set_cons_zero, List.set_cons_succ, Option.map_some, Option.map_none, Option.bind_some, Option.bind_none, Sl.dat, Sl.frz, Nat.sub_self, Nat.reduceSub, Nat.reduceAdd, Bool.not_true, Bool.not_false, Bool.false_eq_true, if_true, if_false, reduceCtorEq, Nat.reduceLeDiff, true_and, cut_at, cut_to, cut_from, cut_fromA, Nat.zero_le, and_true, decide_true, setS, List.foldl_cons, List.foldl_nil, setE, wipeE, List.foldl_append, decide_false, Int.natCast_one, Int.natCast_zero, Int.cast_ofNat_Int, Int.reduceEq, oEqS, oNeS, oEqI, oNeI, oLtS, oLtI, oLeI, oGtI, oGeI, oAddS, oAddI', oAddT, oAddL, oLenS, oLenT, oLenL, oSlS, oSlT, oSlL, oSub, oTuple, oIx0, oIx1, oMulS, oMulI, oFdivI, oIsB, oIsntB, oIsN, oIsntN, isNone]
      exact q'
    · simp only [sSeq, sIf, sRet, sRetN, sNext, sSetF, sSetN, sOwn, sExpr, sUnpF, sUnpN, sPar, sApp, sExt, sPutD, sAugF, sAugN, sFor, fVar, fC, fBin, fChain, fAnd, fOr, fNot, fIf, fTB, fTru, fAndT, fOrT, fNotT, fNil, fCons, fTup, fLst, fCall, fIsi, fSl, fNo, fPart, fNeg, fRev, fCallF, fLc, fRng1, fRng2, fSeq, fEnum, fJoin, fDictK, fDictT, vN, vF, startS, asB, asI, truD, isDict, isT, seqD, ownL, ownD, frAt, okM, exL, vw, oRev, List.map_cons, List.map_nil, List.length_cons, List.length_nil, List.replicate, List.cons_append, List.nil_append, List.append_nil, List.getElem?_cons_zero, List.getElem?_cons_succ, List.set_cons_zero, List.set_cons_succ, Option.map_some, Option.map_none, Option.bind_some, Option.bind_none, Sl.dat, Sl.frz, Nat.sub_self, Nat.reduceSub, Nat.reduceAdd, Bool.not_true, Bool.not_false, Bool.false_eq_true, if_true, if_false, reduceCtorEq, Nat.reduceLeDiff, true_and, cut_at, cut_to, cut_from, cut_fromA, Nat.zero_le, and_true, decide_true, setS, List.foldl_cons, List.foldl_nil, setE, wipeE, List.foldl_append, decide_false, Int.natCast_one, Int.natCast_zero, Int.cast_ofNat_Int, Int.reduceEq, oEqS, oNeS, oEqI, oNeI, oLtS, oLtI, oLeI, oGtI, oGeI, oAddS, oAddI', oAddT, oAddL, oLenS, oLenT, oLenL, oSlS, oSlT, oSlL, oSub, oTuple, oIx0, oIx1, oMulS, oMulI, oFdivI, oIsB, oIsntB, oIsN, oIsntN, isNone]
      simpa using q'
    · simp only [sSeq, sIf, sRet, sRetN, sNext, sSetF, sSetN, sOwn, sExpr, sUnpF, sUnpN, sPar, sApp, sExt, sPutD, sAugF, sAugN, sFor, fVar, fC, fBin, fChain, fAnd, fOr, fNot, fIf, fTB, fTru, fAndT, fOrT, fNotT, fNil, fCons, fTup, fLst, fCall, fIsi, fSl, fNo, fPart, fNeg, fRev, fCallF, fLc, fRng1, fRng2, fSeq, fEnum, fJoin, fDictK, fDictT, vN, vF, startS, asB, asI, truD, isDict, isT, seqD, ownL, ownD, frAt, okM, exL, vw, oRev, List.map_cons, List.map_nil, List.length_cons, List.length_nil, List.replicate, List.cons_append, List.nil_append, List.append_nil, List.getElem?_cons_zero, List.getElem?_cons_succ, List.set_cons_zero, List.set_cons_succ, Option.map_some, Option.map_none, Option.bind_some, Option.bind_none, Sl.dat, Sl.frz, Nat.sub_self, Nat.reduceSub, Nat.reduceAdd, Bool.not_true, Bool.not_false, Bool.false_eq_true, if_true, if_false, reduceCtorEq, Nat.reduceLeDiff, true_and, cut_at, cut_to, cut_from, cut_fromA, Nat.zero_le, and_true, decide_true, setS, List.foldl_cons, List.foldl_nil, setE, wipeE, List.foldl_append, decide_false, Int.natCast_one, Int.natCast_zero, Int.cast_ofNat_Int, Int.reduceEq, oEqS, oNeS, oEqI, oNeI, oLtS, oLtI, oLeI, oGtI, oGeI, oAddS, oAddI', oAddT, oAddL, oLenS, oLenT, oLenL, oSlS, oSlT, oSlL, oSub, oTuple, oIx0, oIx1, oMulS, oMulI, oFdivI, oIsB, oIsntB, oIsN, oIsntN, isNone]
      have h1 := len_take hR hw i 0
      have h2 := places_len R[i].1 w
      rw [← places_all hgr.2.2]
      refine ⟨by simp, by rw [List.length_map, List.length_map]; omega, hK _ ?_⟩
      have e : (stepsFrom w 0 (R.take (i + 1))).map stD = (stepsFrom w 0 (R.take i)).map stD ++ (places R[i].1 w).map fun p => stD (i, p) := by
        rw [stepsFrom_take w R 0 i _ hr]
        simp
      rw [e]
      exact ⟨_, _, _, rfl⟩
  · rintro env ⟨a, b, c, rfl⟩
    simp only [sSeq, sIf, sRet, sRetN, sNext, sSetF, sSetN, sOwn, sExpr, sUnpF, sUnpN, sPar, sApp, sExt, sPutD, sAugF, sAugN, sFor, fVar, fC, fBin, fChain, fAnd, fOr, fNot, fIf, fTB, fTru, fAndT, fOrT, fNotT, fNil, fCons, fTup, fLst, fCall, fIsi, fSl, fNo, fPart, fNeg, fRev, fCallF, fLc, fRng1, fRng2, fSeq, fEnum, fJoin, fDictK, fDictT, vN, vF, startS, asB, asI, truD, isDict, isT, seqD, ownL, ownD, frAt, okM, exL, vw, oRev, List.map_cons, List.map_nil, List.length_cons, List.length_nil, List.replicate, List.cons_append, List.nil_append, List.append_nil, List.getElem?_cons_zero, List.getElem?_cons_succ, List.set_cons_zero, List.set_cons_succ, Option.map_some, Option.map_none, Option.bind_some, Option.bind_none, Sl.dat, Sl.frz, Nat.sub_self, Nat.reduceSub, Nat.reduceAdd, Bool.not_true, Bool.not_false, Bool.false_eq_true, if_true, if_false, reduceCtorEq, Nat.reduceLeDiff, true_and, cut_at, cut_to, cut_from, cut_fromA, Nat.zero_le, and_true, decide_true, setS, List.foldl_cons, List.foldl_nil, setE, wipeE, List.foldl_append, decide_false, Int.natCast_one, Int.natCast_zero, Int.cast_ofNat_Int, Int.reduceEq, oEqS, oNeS, oEqI, oNeI, oLtS, oLtI, oLeI, oGtI, oGeI, oAddS, oAddI', oAddT, oAddL, oLenS, oLenT, oLenL, oSlS, oSlT, oSlL, oSub, oTuple, oIx0, oIx1, oMulS, oMulI, oFdivI, oIsB, oIsntB, oIsN, oIsntN, isNone]
    rw [List.length_range, List.take_length]
    exact q
theorem mem_stepsFrom {w : Wo} {k p : Nat} : ∀ {R : List Rule} {k0 : Nat}, (k, p) ∈ stepsFrom w k0 R ↔ ∃ r, k0 ≤ k ∧ R[k - k0]? = some r ∧ p ∈ places r.1 w
  | [], k0 => by simp [stepsFrom]
  | x :: R, k0 => by
    unfold stepsFrom
    rw [List.mem_append, mem_stepsFrom (R := R)]
    constructor
    · rintro (h | ⟨r, h1, h2, h3⟩)
      · obtain ⟨q, hq, e⟩ := List.mem_map.mp h
        cases e
        exact ⟨x, Nat.le_refl _, by simp, hq⟩
      · refine ⟨r, by omega, ?_, h3⟩
        rw [show k - k0 = (k - (k0 + 1)) + 1 by omega]
        simpa using h2
    · rintro ⟨r, h1, h2, h3⟩
      by_cases e : k = k0
      · subst e
        simp at h2
        subst h2
        exact .inl (List.mem_map.mpr ⟨p, h3, rfl⟩)
      · refine .inr ⟨r, by omega, ?_, h3⟩
        rw [show k - k0 = (k - (k0 + 1)) + 1 by omega] at h2
        simpa using h2
theorem mem_places {l w : Wo} {p : Nat} : p ∈ places l w ↔ p + l.length ≤ w.length ∧ stands w p l = true := by
  unfold places
  rw [List.mem_filter, List.mem_range]
  constructor
  · rintro ⟨h1, h2⟩
    refine ⟨?_, h2⟩
    rcases stands_le h2 with h | h
    · exact h
    · subst h; simp at h1 ⊢; omega
  · rintro ⟨h1, h2⟩
    exact ⟨by omega, h2⟩
/-- a step of these rules in this word -/
def okStep (R : List Rule) (w : Wo) (s : Stp) : Bool := match R[s.1]? with
  | some r => decide (s.2 + r.1.length ≤ w.length) && stands w s.2 r.1
  | none => false
theorem mem_steps {R : List Rule} {w : Wo} {s : Stp} : s ∈ steps R w ↔ okStep R w s = true := by
  obtain ⟨k, p⟩ := s
  unfold steps okStep
  rw [mem_stepsFrom]
  simp only [Nat.sub_zero, Nat.zero_le, true_and, mem_places]
  cases R[k]? with
  | none => simp
  | some r => simp
def sp_is_end : QSp := fun ds Q => ∃ (R : List Rule) (w : Wo), ds = [rsD R, sD w] ∧ Good R ∧ R.length ≤ 1000 ∧ w.length ≤ 1000 ∧ Q (.bool (steps R w).isEmpty)
theorem p_is_end : Pure 2 sp_is_end (F_is_end (sp_steps .tuple)) := by
  rintro ds Q ⟨R, w, rfl, hg, hR, hw, q⟩
  simp only [F_is_end, sSeq, sIf, sRet, sRetN, sNext, sSetF, sSetN, sOwn, sExpr, sUnpF, sUnpN, sPar, sApp, sExt, sPutD, sAugF, sAugN, sFor, fVar, fC, fBin, fChain, fAnd, fOr, fNot, fIf, fTB, fTru, fAndT, fOrT, fNotT, fNil, fCons, fTup, fLst, fCall, fIsi, fSl, fNo, fPart, fNeg, fRev, fCallF, fLc, fRng1, fRng2, fSeq, fEnum, fJoin, fDictK, fDictT, vN, vF, startS, asB, asI, truD, isDict, isT, seqD, ownL, ownD, frAt, okM, exL, vw, oRev, List.map_cons, List.map_nil, List.length_cons, List.length_nil, List.replicate, List.cons_append, List.nil_append, List.append_nil, List.getElem?_cons_zero, List.getElem?_cons_succ, List.set_cons_zero, List.set_cons_succ, Option.map_some, Option.map_none, Option.bind_some, Option.bind_none, Sl.dat, Sl.frz, Nat.sub_self, Nat.reduceSub, Nat.reduceAdd, Bool.not_true, Bool.not_false, Bool.false_eq_true, if_true, if_false, reduceCtorEq, Nat.reduceLeDiff, true_and, cut_at, cut_to, cut_from, cut_fromA, Nat.zero_le, and_true, decide_true, setS, List.foldl_cons, List.foldl_nil, setE, wipeE, List.foldl_append, decide_false, Int.natCast_one, Int.natCast_zero, Int.cast_ofNat_Int, Int.reduceEq, oEqS, oNeS, oEqI, oNeI, oLtS, oLtI, oLeI, oGtI, oGeI, oAddS, oAddI', oAddT, oAddL, oLenS, oLenT, oLenL, oSlS, oSlT, oSlL, oSub, oTuple, oIx0, oIx1, oMulS, oMulI, oFdivI, oIsB, oIsntB, oIsN, oIsntN, isNone]
  refine ⟨R, w, rfl, hg, hR, hw, ?_⟩
  refine oEq_ok (b := (steps R w).isEmpty) ?_ rfl (by simp [PyData.depth, PyData.depthAll]) ?_ q
  · show PyData.plainAll _ = true
    exact plainAll_of fun x hx => by obtain ⟨r, _, rfl⟩ := List.mem_map.mp hx; exact plain_st r
  · cases steps R w <;> simp [PyData.eqv, PyData.eqvAll]
end K68
set_option Elab.async false
set_option linter.all false
set_option maxRecDepth 100000
set_option maxHeartbeats 4000000
set_option autoImplicit false
namespace K68
open PySem L2 T2
/-! ### is_step -/
def stepOf : D → Option Stp
  | .tuple [.int a, .int b] => if 0 ≤ a ∧ 0 ≤ b then some (a.toNat, b.toNat) else none
  | _ => none
def isStep (R : List Rule) (w : Wo) (d : D) : Bool := match stepOf d with
  | some s => okStep R w s
  | none => false
theorem stepOf_st (s : Stp) : stepOf (stD s) = some s := by
  unfold stepOf
  simp
theorem stepOf_eq {d : D} {s : Stp} (h : stepOf d = some s) : d = stD s := by
  unfold stepOf at h
  split at h
  · split at h
    · rename_i a b hab
      cases h
      simp only [PyData.tuple.injEq, List.cons.injEq, PyData.int.injEq, and_true]
      exact ⟨by omega, by omega⟩
    · cases h
  · cases h
def sp_is_step : QSp := fun ds Q => ∃ (R : List Rule) (w : Wo) (d : D), ds = [rsD R, sD w, d] ∧ Good R ∧ R.length ≤ 1000 ∧ w.length ≤ 1000 ∧ d.plain = true ∧ Q (.bool (isStep R w d))
theorem plain_dict {d : D} (h : d.plain = true) : isDict d = false := by
  cases d <;> first | rfl | simp [PyData.plain] at h
theorem p_is_step : Pure 4 sp_is_step (F_is_step sp_is_number) := by
  rintro ds Q ⟨R, w, d, rfl, hg, hR, hw, hd, q⟩
  have hdd := plain_dict hd
  cases d with
  | tuple xs =>
    match xs with
    | [] => simp only [F_is_step, sSeq, sIf, sRet, sRetN, sNext, sSetF, sSetN, sOwn, sExpr, sUnpF, sUnpN, sPar, sApp, sExt, sPutD, sAugF, sAugN, sFor, fVar, fC, fBin, fChain, fAnd, fOr, fNot, fIf, fTB, fTru, fAndT, fOrT, fNotT, fNil, fCons, fTup, fLst, fCall, fIsi, fSl, fNo, fPart, fNeg, fRev, fCallF, fLc, fRng1, fRng2, fSeq, fEnum, fJoin, fDictK, fDictT, vN, vF, startS, asB, asI, truD, isDict, isT, seqD, ownL, ownD, frAt, okM, exL, vw, oRev, List.map_cons, List.map_nil, List.length_cons, List.length_nil, List.replicate, List.cons_append, List.nil_append, List.append_nil, List.getElem?_cons_zero, List.getElem?_cons_succ, List.set_cons_zero, List.set_cons_succ, Option.map_some, Option.map_none, Option.bind_some, Option.bind_none, Sl.dat, Sl.frz, Nat.sub_self, Nat.reduceSub, Nat.reduceAdd, Bool.not_true, Bool.not_false, Bool.false_eq_true, if_true, if_false, reduceCtorEq, Nat.reduceLeDiff, true_and, cut_at, cut_to, cut_from, cut_fromA, Nat.zero_le, and_true, decide_true, setS, List.foldl_cons, List.foldl_nil, setE, wipeE, List.foldl_append, decide_false, Int.natCast_one, Int.natCast_zero, Int.cast_ofNat_Int, Int.reduceEq, oEqS, oNeS, oEqI, oNeI, oLtS, oLtI, oLeI, oGtI, oGeI, oAddS, oAddI', oAddT, oAddL, oLenS, oLenT, oLenL, oSlS, oSlT, oSlL, oSub, oTuple, oIx0, oIx1, oMulS, oMulI, oFdivI, oIsB, oIsntB, oIsN, oIsntN, isNone] at q ⊢; simpa [isStep, stepOf] using q
    | [x] => simp only [F_is_step, sSeq, sIf, sRet, sRetN, sNext, sSetF, sSetN, sOwn, sExpr, sUnpF, sUnpN, sPar, sApp, sExt, sPutD, sAugF, sAugN, sFor, fVar, fC, fBin, fChain, fAnd, fOr, fNot, fIf, fTB, fTru, fAndT, fOrT, fNotT, fNil, fCons, fTup, fLst, fCall, fIsi, fSl, fNo, fPart, fNeg, fRev, fCallF, fLc, fRng1, fRng2, fSeq, fEnum, fJoin, fDictK, fDictT, vN, vF, startS, asB, asI, truD, isDict, isT, seqD, ownL, ownD, frAt, okM, exL, vw, oRev, List.map_cons, List.map_nil, List.length_cons, List.length_nil, List.replicate, List.cons_append, List.nil_append, List.append_nil, List.getElem?_cons_zero, List.getElem?_cons_succ, List.set_cons_zero, List.set_cons_succ, Option.map_some, Option.map_none, Option.bind_some, Option.bind_none, Sl.dat, Sl.frz, Nat.sub_self, Nat.reduceSub, Nat.reduceAdd, Bool.not_true, Bool.not_false, Bool.false_eq_true, if_true, if_false, reduceCtorEq, Nat.reduceLeDiff, true_and, cut_at, cut_to, cut_from, cut_fromA, Nat.zero_le, and_true, decide_true, setS, List.foldl_cons, List.foldl_nil, setE, wipeE, List.foldl_append, decide_false, Int.natCast_one, Int.natCast_zero, Int.cast_ofNat_Int, Int.reduceEq, oEqS, oNeS, oEqI, oNeI, oLtS, oLtI, oLeI, oGtI, oGeI, oAddS, oAddI', oAddT, oAddL, oLenS, oLenT, oLenL, oSlS, oSlT, oSlL, oSub, oTuple, oIx0, oIx1, oMulS, oMulI, oFdivI, oIsB, oIsntB, oIsN, oIsntN, isNone] at q ⊢; simpa [isStep, stepOf] using q
    | x :: y :: z :: xs =>
      have hf : isStep R w (.tuple (x :: y :: z :: xs)) = false := by simp [isStep, stepOf]
      rw [hf] at q
      have : ¬ (((xs.length + 1 + 1 + 1 : Nat) : Int) = 2) := by omega
      simp only [F_is_step, sSeq, sIf, sRet, sRetN, sNext, sSetF, sSetN, sOwn, sExpr, sUnpF, sUnpN, sPar, sApp, sExt, sPutD, sAugF, sAugN, sFor, fVar, fC, fBin, fChain, fAnd, fOr, fNot, fIf, fTB, fTru, fAndT, fOrT, fNotT, fNil, fCons, fTup, fLst, fCall, fIsi, fSl, fNo, fPart, fNeg, fRev, fCallF, fLc, fRng1, fRng2, fSeq, fEnum, fJoin, fDictK, fDictT, vN, vF, startS, asB, asI, truD, isDict, isT, seqD, ownL, ownD, frAt, okM, exL, vw, oRev, List.map_cons, List.map_nil, List.length_cons, List.length_nil, List.replicate, List.cons_append, List.nil_append, List.append_nil, List.getElem?_cons_zero, List.getElem?_cons_succ, List.set_cons_zero, List.set_cons_succ, Option.map_some, Option.map_none, Option.bind_some, Option.bind_none, Sl.dat, Sl.frz, Nat.sub_self, Nat.reduceSub, Nat.reduceAdd, Bool.not_true, Bool.not_false, Bool.false_eq_true, if_true, if_false, reduceCtorEq, Nat.reduceLeDiff, true_and, cut_at, cut_to, cut_from, cut_fromA, Nat.zero_le, and_true, decide_true, setS, List.foldl_cons, List.foldl_nil, setE, wipeE, List.foldl_append, decide_false, Int.natCast_one, Int.natCast_zero, Int.cast_ofNat_Int, Int.reduceEq, oEqS, oNeS, oEqI, oNeI, oLtS, oLtI, oLeI, oGtI, oGeI, oAddS, oAddI', oAddT, oAddL, oLenS, oLenT, oLenL, oSlS, oSlT, oSlL, oSub, oTuple, oIx0, oIx1, oMulS, oMulI, oFdivI, oIsB, oIsntB, oIsN, oIsntN, isNone, this]
      exact q
    | [x, y] =>
      have hp : x.plain = true ∧ y.plain = true := by simpa [PyData.plain, PyData.plainAll] using hd
      simp only [F_is_step, sSeq, sIf, sRet, sRetN, sNext, sSetF, sSetN, sOwn, sExpr, sUnpF, sUnpN, sPar, sApp, sExt, sPutD, sAugF, sAugN, sFor, fVar, fC, fBin, fChain, fAnd, fOr, fNot, fIf, fTB, fTru, fAndT, fOrT, fNotT, fNil, fCons, fTup, fLst, fCall, fIsi, fSl, fNo, fPart, fNeg, fRev, fCallF, fLc, fRng1, fRng2, fSeq, fEnum, fJoin, fDictK, fDictT, vN, vF, startS, asB, asI, truD, isDict, isT, seqD, ownL, ownD, frAt, okM, exL, vw, oRev, List.map_cons, List.map_nil, List.length_cons, List.length_nil, List.replicate, List.cons_append, List.nil_append, List.append_nil, List.getElem?_cons_zero, List.getElem?_cons_succ, List.set_cons_zero, List.set_cons_succ, Option.map_some, Option.map_none, Option.bind_some, Option.bind_none, Sl.dat, Sl.frz, Nat.sub_self, Nat.reduceSub, Nat.reduceAdd, Bool.not_true, Bool.not_false, Bool.false_eq_true, if_true, if_false, reduceCtorEq, Nat.reduceLeDiff, true_and, cut_at, cut_to, cut_from, cut_fromA, Nat.zero_le, and_true, decide_true, setS, List.foldl_cons, List.foldl_nil, setE, wipeE, List.foldl_append, decide_false, Int.natCast_one, Int.natCast_zero, Int.cast_ofNat_Int, Int.reduceEq, oEqS, oNeS, oEqI, oNeI, oLtS, oLtI, oLeI, oGtI, oGeI, oAddS, oAddI', oAddT, oAddL, oLenS, oLenT, oLenL, oSlS, oSlT, oSlL, oSub, oTuple, oIx0, oIx1, oMulS, oMulI, oFdivI, oIsB, oIsntB, oIsN, oIsntN, isNone, List.length_map]
      refine ⟨x, 0, _, rfl, hp.1, ?_⟩
      simp only [sSeq, sIf, sRet, sRetN, sNext, sSetF, sSetN, sOwn, sExpr, sUnpF, sUnpN, sPar, sApp, sExt, sPutD, sAugF, sAugN, sFor, fVar, fC, fBin, fChain, fAnd, fOr, fNot, fIf, fTB, fTru, fAndT, fOrT, fNotT, fNil, fCons, fTup, fLst, fCall, fIsi, fSl, fNo, fPart, fNeg, fRev, fCallF, fLc, fRng1, fRng2, fSeq, fEnum, fJoin, fDictK, fDictT, vN, vF, startS, asB, asI, truD, isDict, isT, seqD, ownL, ownD, frAt, okM, exL, vw, oRev, List.map_cons, List.map_nil, List.length_cons, List.length_nil, List.replicate, List.cons_append, List.nil_append, List.append_nil, List.getElem?_cons_zero, List.getElem?_cons_succ, List.set_cons_zero, List.set_cons_succ, Option.map_some, Option.map_none, Option.bind_some, Option.bind_none, Sl.dat, Sl.frz, Nat.sub_self, Nat.reduceSub, Nat.reduceAdd, Bool.not_true, Bool.not_false, Bool.false_eq_true, if_true, if_false, reduceCtorEq, Nat.reduceLeDiff, true_and, cut_at, cut_to, cut_from, cut_fromA, Nat.zero_le, and_true, decide_true, setS, List.foldl_cons, List.foldl_nil, setE, wipeE, List.foldl_append, decide_false, Int.natCast_one, Int.natCast_zero, Int.cast_ofNat_Int, Int.reduceEq, oEqS, oNeS, oEqI, oNeI, oLtS, oLtI, oLeI, oGtI, oGeI, oAddS, oAddI', oAddT, oAddL, oLenS, oLenT, oLenL, oSlS, oSlT, oSlL, oSub, oTuple, oIx0, oIx1, oMulS, oMulI, oFdivI, oIsB, oIsntB, oIsN, oIsntN, isNone]
      cases h1 : numIn x 0 ((R.length : Int) - 1) with
      | false =>
        have hf : isStep R w (.tuple [x, y]) = false := by
          cases x <;> cases y <;> simp [isStep, stepOf]
          rename_i a b
          by_cases h : 0 ≤ a ∧ 0 ≤ b
          · simp only [numIn] at h1
            rw [if_pos h]
            simp only [okStep]
            have : R[a.toNat]? = none := by
              rw [List.getElem?_eq_none_iff]
              simp at h1
              have := h1 h.1
              omega
            rw [this]
          · rw [if_neg h]
        rw [hf] at q
        simp only [sSeq, sIf, sRet, sRetN, sNext, sSetF, sSetN, sOwn, sExpr, sUnpF, sUnpN, sPar, sApp, sExt, sPutD, sAugF, sAugN, sFor, fVar, fC, fBin, fChain, fAnd, fOr, fNot, fIf, fTB, fTru, fAndT, fOrT, fNotT, fNil, fCons, fTup, fLst, fCall, fIsi, fSl, fNo, fPart, fNeg, fRev, fCallF, fLc, fRng1, fRng2, fSeq, fEnum, fJoin, fDictK, fDictT, vN, vF, startS, asB, asI, truD, isDict, isT, seqD, ownL, ownD, frAt, okM, exL, vw, oRev, List.map_cons, List.map_nil, List.length_cons, List.length_nil, List.replicate, List.cons_append, List.nil_append, List.append_nil, List.getElem?_cons_zero, List.getElem?_cons_succ, List.set_cons_zero, List.set_cons_succ, Option.map_some, Option.map_none, Option.bind_some, Option.bind_none, Sl.dat, Sl.frz, Nat.sub_self, Nat.reduceSub, Nat.reduceAdd, Bool.not_true, Bool.not_false, Bool.false_eq_true, if_true, if_false, reduceCtorEq, Nat.reduceLeDiff, true_and, cut_at, cut_to, cut_from, cut_fromA, Nat.zero_le, and_true, decide_true, setS, List.foldl_cons, List.foldl_nil, setE, wipeE, List.foldl_append, decide_false, Int.natCast_one, Int.natCast_zero, Int.cast_ofNat_Int, Int.reduceEq, oEqS, oNeS, oEqI, oNeI, oLtS, oLtI, oLeI, oGtI, oGeI, oAddS, oAddI', oAddT, oAddL, oLenS, oLenT, oLenL, oSlS, oSlT, oSlL, oSub, oTuple, oIx0, oIx1, oMulS, oMulI, oFdivI, oIsB, oIsntB, oIsN, oIsntN, isNone]
        exact q
      | true =>
        cases x with
        | int a =>
          simp [numIn] at h1
          obtain ⟨n, rfl⟩ : ∃ n : Nat, a = (n : Int) := ⟨a.toNat, by omega⟩
          have hn : n < R.length := by omega
          have hr : R[n]? = some R[n] := List.getElem?_eq_getElem hn
          have hgr := hg.at_ hr
          simp only [sSeq, sIf, sRet, sRetN, sNext, sSetF, sSetN, sOwn, sExpr, sUnpF, sUnpN, sPar, sApp, sExt, sPutD, sAugF, sAugN, sFor, fVar, fC, fBin, fChain, fAnd, fOr, fNot, fIf, fTB, fTru, fAndT, fOrT, fNotT, fNil, fCons, fTup, fLst, fCall, fIsi, fSl, fNo, fPart, fNeg, fRev, fCallF, fLc, fRng1, fRng2, fSeq, fEnum, fJoin, fDictK, fDictT, vN, vF, startS, asB, asI, truD, isDict, isT, seqD, ownL, ownD, frAt, okM, exL, vw, oRev, List.map_cons, List.map_nil, List.length_cons, List.length_nil, List.replicate, List.cons_append, List.nil_append, List.append_nil, List.getElem?_cons_zero, List.getElem?_cons_succ, List.set_cons_zero, List.set_cons_succ, Option.map_some, Option.map_none, Option.bind_some, Option.bind_none, Sl.dat, Sl.frz, Nat.sub_self, Nat.reduceSub, Nat.reduceAdd, Bool.not_true, Bool.not_false, Bool.false_eq_true, if_true, if_false, reduceCtorEq, Nat.reduceLeDiff, true_and, cut_at, cut_to, cut_from, cut_fromA, Nat.zero_le, and_true, decide_true, setS, List.foldl_cons, List.foldl_nil, setE, wipeE, List.foldl_append, decide_false, Int.natCast_one, Int.natCast_zero, Int.cast_ofNat_Int, Int.reduceEq, oEqS, oNeS, oEqI, oNeI, oLtS, oLtI, oLeI, oGtI, oGeI, oAddS, oAddI', oAddT, oAddL, oLenS, oLenT, oLenL, oSlS, oSlT, oSlL, oSub, oTuple, oIx0, oIx1, oMulS, oMulI, oFdivI, oIsB, oIsntB, oIsN, oIsntN, isNone, oIxT (rs_at hr)]
          refine ⟨y, 0, _, rfl, hp.2, ?_⟩
          simp only [sSeq, sIf, sRet, sRetN, sNext, sSetF, sSetN, sOwn, sExpr, sUnpF, sUnpN, sPar, sApp, sExt, sPutD, sAugF, sAugN, sFor, fVar, fC, fBin, fChain, fAnd, fOr, fNot, fIf, fTB, fTru, fAndT, fOrT, fNotT, fNil, fCons, fTup, fLst, fCall, fIsi, fSl, fNo, fPart, fNeg, fRev, fCallF, fLc, fRng1, fRng2, fSeq, fEnum, fJoin, fDictK, fDictT, vN, vF, startS, asB, asI, truD, isDict, isT, seqD, ownL, ownD, frAt, okM, exL, vw, oRev, List.map_cons, List.map_nil, List.length_cons, List.length_nil, List.replicate, List.cons_append, List.nil_append, List.append_nil, List.getElem?_cons_zero, List.getElem?_cons_succ, List.set_cons_zero, List.set_cons_succ, Option.map_some, Option.map_none, Option.bind_some, Option.bind_none, Sl.dat, Sl.frz, Nat.sub_self, Nat.reduceSub, Nat.reduceAdd, Bool.not_true, Bool.not_false, Bool.false_eq_true, if_true, if_false, reduceCtorEq, Nat.reduceLeDiff, true_and, cut_at, cut_to, cut_from, cut_fromA, Nat.zero_le, and_true, decide_true, setS, List.foldl_cons, List.foldl_nil, setE, wipeE, List.foldl_append, decide_false, Int.natCast_one, Int.natCast_zero, Int.cast_ofNat_Int, Int.reduceEq, oEqS, oNeS, oEqI, oNeI, oLtS, oLtI, oLeI, oGtI, oGeI, oAddS, oAddI', oAddT, oAddL, oLenS, oLenT, oLenL, oSlS, oSlT, oSlL, oSub, oTuple, oIx0, oIx1, oMulS, oMulI, oFdivI, oIsB, oIsntB, oIsN, oIsntN, isNone]
          cases h2 : numIn y 0 ((w.length : Int) - R[n].1.length) with
          | false =>
            have hf : isStep R w (.tuple [.int n, y]) = false := by
              cases y <;> simp [isStep, stepOf]
              rename_i b
              by_cases h : 0 ≤ b
              · rw [if_pos h]
                simp only [okStep, hr]
                simp only [numIn] at h2
                simp at h2
                have := h2 h
                simp
                intro h3
                omega
              · rw [if_neg h]
            rw [hf] at q
            simp only [sSeq, sIf, sRet, sRetN, sNext, sSetF, sSetN, sOwn, sExpr, sUnpF, sUnpN, sPar, sApp, sExt, sPutD, sAugF, sAugN, sFor, fVar, fC, fBin, fChain, fAnd, fOr, fNot, fIf, fTB, fTru, fAndT, fOrT, fNotT, fNil, fCons, fTup, fLst, fCall, fIsi, fSl, fNo, fPart, fNeg, fRev, fCallF, fLc, fRng1, fRng2, fSeq, fEnum, fJoin, fDictK, fDictT, vN, vF, startS, asB, asI, truD, isDict, isT, seqD, ownL, ownD, frAt, okM, exL, vw, oRev, List.map_cons, List.map_nil, List.length_cons, List.length_nil, List.replicate, List.cons_append, List.nil_append, List.append_nil, List.getElem?_cons_zero, List.getElem?_cons_succ, List.set_cons_zero, List.set_cons_succ, Option.map_some, Option.map_none, Option.bind_some, Option.bind_none, Sl.dat, Sl.frz, Nat.sub_self, Nat.reduceSub, Nat.reduceAdd, Bool.not_true, Bool.not_false, Bool.false_eq_true, if_true, if_false, reduceCtorEq, Nat.reduceLeDiff, true_and, cut_at, cut_to, cut_from, cut_fromA, Nat.zero_le, and_true, decide_true, setS, List.foldl_cons, List.foldl_nil, setE, wipeE, List.foldl_append, decide_false, Int.natCast_one, Int.natCast_zero, Int.cast_ofNat_Int, Int.reduceEq, oEqS, oNeS, oEqI, oNeI, oLtS, oLtI, oLeI, oGtI, oGeI, oAddS, oAddI', oAddT, oAddL, oLenS, oLenT, oLenL, oSlS, oSlT, oSlL, oSub, oTuple, oIx0, oIx1, oMulS, oMulI, oFdivI, oIsB, oIsntB, oIsN, oIsntN, isNone]
            exact q
          | true =>
            cases y with
            | int b =>
              simp [numIn] at h2
              obtain ⟨m, rfl⟩ : ∃ m : Nat, b = (m : Int) := ⟨b.toNat, by omega⟩
              simp only [sSeq, sIf, sRet, sRetN, sNext, sSetF, sSetN, sOwn, sExpr, sUnpF, sUnpN, sPar, sApp, sExt, sPutD, sAugF, sAugN, sFor, fVar, fC, fBin, fChain, fAnd, fOr, fNot, fIf, fTB, fTru, fAndT, fOrT, fNotT, fNil, fCons, fTup, fLst, fCall, fIsi, fSl, fNo, fPart, fNeg, fRev, fCallF, fLc, fRng1, fRng2, fSeq, fEnum, fJoin, fDictK, fDictT, vN, vF, startS, asB, asI, truD, isDict, isT, seqD, ownL, ownD, frAt, okM, exL, vw, oRev, List.map_cons, List.map_nil, List.length_cons, List.length_nil, List.replicate, List.cons_append, List.nil_append, List.append_nil, List.getElem?_cons_zero, List.getElem?_cons_succ, List.set_cons_zero, List.set_cons_succ, Option.map_some, Option.map_none, Option.bind_some, Option.bind_none, Sl.dat, Sl.frz, Nat.sub_self, Nat.reduceSub, Nat.reduceAdd, Bool.not_true, Bool.not_false, Bool.false_eq_true, if_true, if_false, reduceCtorEq, Nat.reduceLeDiff, true_and, cut_at, cut_to, cut_from, cut_fromA, Nat.zero_le, and_true, decide_true, setS, List.foldl_cons, List.foldl_nil, setE, wipeE, List.foldl_append, decide_false, Int.natCast_one, Int.natCast_zero, Int.cast_ofNat_Int, Int.reduceEq, oEqS, oNeS, oEqI, oNeI, oLtS, oLtI, oLeI, oGtI, oGeI, oAddS, oAddI', oAddT, oAddL, oLenS, oLenT, oLenL, oSlS, oSlT, oSlL, oSub, oTuple, oIx0, oIx1, oMulS, oMulI, oFdivI, oIsB, oIsntB, oIsN, oIsntN, isNone]
              have : isStep R w (.tuple [.int n, .int m]) = stands w m R[n].1 := by
                have e : stepOf (.tuple [.int n, .int m]) = some (n, m) := stepOf_st (n, m)
                simp only [isStep, e, okStep, hr]
                rw [decide_eq_true (by omega), Bool.true_and]
              rw [this] at q
              exact q
            | _ => simp [numIn] at h2
        | _ => simp [numIn] at h1
  | dict _ => simp [isDict] at hdd
  | _ => simp only [F_is_step, sSeq, sIf, sRet, sRetN, sNext, sSetF, sSetN, sOwn, sExpr, sUnpF, sUnpN, sPar, sApp, sExt, sPutD, sAugF, sAugN, sFor, fVar, fC, fBin, fChain, fAnd, fOr, fNot, fIf, fTB, fTru, fAndT, fOrT, fNotT, fNil, fCons, fTup, fLst, fCall, fIsi, fSl, fNo, fPart, fNeg, fRev, fCallF, fLc, fRng1, fRng2, fSeq, fEnum, fJoin, fDictK, fDictT, vN, vF, startS, asB, asI, truD, isDict, isT, seqD, ownL, ownD, frAt, okM, exL, vw, oRev, List.map_cons, List.map_nil, List.length_cons, List.length_nil, List.replicate, List.cons_append, List.nil_append, List.append_nil, List.getElem?_cons_zero, List.getElem?_cons_succ, List.set_cons_zero, List.set_cons_succ, Option.map_some, Option.map_none, Option.bind_some, Option.bind_none, Sl.dat, Sl.frz, Nat.sub_self, Nat.reduceSub, Nat.reduceAdd, Bool.not_true, Bool.not_false, Bool.false_eq_true, if_true, if_false, reduceCtorEq, Nat.reduceLeDiff, true_and, cut_at, cut_to, cut_from, cut_fromA, Nat.zero_le, and_true, decide_true, setS, List.foldl_cons, List.foldl_nil, setE, wipeE, List.foldl_append, decide_false, Int.natCast_one, Int.natCast_zero, Int.cast_ofNat_Int, Int.reduceEq, oEqS, oNeS, oEqI, oNeI, oLtS, oLtI, oLeI, oGtI, oGeI, oAddS, oAddI', oAddT, oAddL, oLenS, oLenT, oLenL, oSlS, oSlT, oSlL, oSub, oTuple, oIx0, oIx1, oMulS, oMulI, oFdivI, oIsB, oIsntB, oIsN, oIsntN, isNone, isStep, stepOf] at q ⊢; exact q
end K68
set_option Elab.async false
set_option linter.all false
set_option maxRecDepth 100000
set_option maxHeartbeats 4000000
set_option autoImplicit false
namespace K68
open PySem L2 T2
/-! ### ways -/
def rwS (R : List Rule) (w : Wo) (s : Stp) : Wo := match R[s.1]? with
  | some r => rwr w s.2 r
  | none => w
def endOf (R : List Rule) : Wo → List D → Option Wo
  | w, [] => some w
  | w, d :: ds => if isStep R w d = true then endOf R (rwS R w ((stepOf d).getD (0, 0))) ds else none
theorem endOf_cons (R : List Rule) (w : Wo) (d : D) (ds : List D) : endOf R w (d :: ds) = if isStep R w d = true then endOf R (rwS R w ((stepOf d).getD (0, 0))) ds else none := rfl
def optD : Option Wo → D
  | some w => sD w
  | none => .none
def endD (R : List Rule) (w : Wo) (d : D) : Option Wo := match d with
  | .tuple ds => endOf R w ds
  | _ => none
theorem isStep_of {R : List Rule} {w : Wo} {d : D} (h : isStep R w d = true) : ∃ k p r, d = stD (k, p) ∧ stepOf d = some (k, p) ∧ R[k]? = some r ∧ p + r.1.length ≤ w.length ∧ stands w p r.1 = true := by
  unfold isStep at h
  split at h
  · rename_i s e
    obtain ⟨k, p⟩ := s
    unfold okStep at h
    cases hr : R[k]? with
    | none => simp only [hr] at h; cases h
    | some r =>
      simp only [hr] at h
      rw [Bool.and_eq_true, decide_eq_true_eq] at h
      exact ⟨k, p, r, stepOf_eq e, e, hr, h.1, h.2⟩
  · cases h
theorem rwr_len {w : Wo} {p : Nat} {r : Rule} (h : p + r.1.length ≤ w.length) : (rwr w p r).length + r.1.length = w.length + r.2.length := by
  unfold rwr
  rw [List.length_append, List.length_append, List.length_take, List.length_drop]
  omega
def sp_end (f : List Rule → Wo → D → Option Wo) : QSp := fun ds Q => ∃ (R : List Rule) (w : Wo) (v : D), ds = [rsD R, sD w, v] ∧ Good R ∧ R.length ≤ 1000 ∧ w.length ≤ 1000 ∧ v.plain = true ∧ Q (optD (f R w v))
theorem plain_at {xs : List D} (h : PyData.plainAll xs = true) {i : Nat} {d : D} (e : xs[i]? = some d) : d.plain = true := plain_mem h (List.mem_of_getElem? e)
theorem p_end_of : Pure 4 (sp_end endD) (F_end_of sp_after sp_is_step) := by
  rintro ds Q ⟨R, w, v, rfl, hg, hR, hw, hv, q⟩
  have hvd := plain_dict hv
  cases v with
  | tuple xs =>
    simp only [F_end_of, sSeq, sIf, sRet, sRetN, sNext, sSetF, sSetN, sOwn, sExpr, sUnpF, sUnpN, sPar, sApp, sExt, sPutD, sAugF, sAugN, sFor, fVar, fC, fBin, fChain, fAnd, fOr, fNot, fIf, fTB, fTru, fAndT, fOrT, fNotT, fNil, fCons, fTup, fLst, fCall, fIsi, fSl, fNo, fPart, fNeg, fRev, fCallF, fLc, fRng1, fRng2, fSeq, fEnum, fJoin, fDictK, fDictT, vN, vF, startS, asB, asI, truD, isDict, isT, seqD, ownL, ownD, frAt, okM, exL, vw, oRev, List.map_cons, List.map_nil, List.length_cons, List.length_nil, List.replicate, List.cons_append, List.nil_append, List.append_nil, List.getElem?_cons_zero, List.getElem?_cons_succ, List.set_cons_zero, List.set_cons_succ, Option.map_some, Option.map_none, Option.bind_some, Option.bind_none, Sl.dat, Sl.frz, Nat.sub_self, Nat.reduceSub, Nat.reduceAdd, Bool.not_true, Bool.not_false, Bool.false_eq_true, if_true, if_false, reduceCtorEq, Nat.reduceLeDiff, true_and, cut_at, cut_to, cut_from, cut_fromA, Nat.zero_le, and_true, decide_true, setS, List.foldl_cons, List.foldl_nil, setE, wipeE, List.foldl_append, decide_false, Int.natCast_one, Int.natCast_zero, Int.cast_ofNat_Int, Int.reduceEq, oEqS, oNeS, oEqI, oNeI, oLtS, oLtI, oLeI, oGtI, oGeI, oAddS, oAddI', oAddT, oAddL, oLenS, oLenT, oLenL, oSlS, oSlT, oSlL, oSub, oTuple, oIx0, oIx1, oMulS, oMulI, oFdivI, oIsB, oIsntB, oIsN, oIsntN, isNone]
    have hp : PyData.plainAll xs = true := by simpa [PyData.plain] using hv
    refine qFor_ids (fun i env => ∃ w' a, env = [some (.fr (rsD R)), some (.fr (sD w')), some (.fr (.tuple xs)), a] ∧ w'.length ≤ 1000 ∧ endOf R w xs = endOf R w' (xs.drop i)) ⟨w, _, rfl, hw, rfl⟩ ?_ ?_
    · rintro i d env hx ⟨w', a, rfl, hw', he⟩
      refine ⟨_, rfl, fun K hK => ?_⟩
      have hd := plain_at hp hx
      have e2 : xs.drop i = d :: xs.drop (i + 1) := by
        obtain ⟨hi, rfl⟩ := List.getElem?_eq_some_iff.mp hx
        exact List.drop_eq_getElem_cons hi
      rw [e2, endOf_cons] at he
      simp only [sSeq, sIf, sRet, sRetN, sNext, sSetF, sSetN, sOwn, sExpr, sUnpF, sUnpN, sPar, sApp, sExt, sPutD, sAugF, sAugN, sFor, fVar, fC, fBin, fChain, fAnd, fOr, fNot, fIf, fTB, fTru, fAndT, fOrT, fNotT, fNil, fCons, fTup, fLst, fCall, fIsi, fSl, fNo, fPart, fNeg, fRev, fCallF, fLc, fRng1, fRng2, fSeq, fEnum, fJoin, fDictK, fDictT, vN, vF, startS, asB, asI, truD, isDict, isT, seqD, ownL, ownD, frAt, okM, exL, vw, oRev, List.map_cons, List.map_nil, List.length_cons, List.length_nil, List.replicate, List.cons_append, List.nil_append, List.append_nil, List.getElem?_cons_zero, List.getElem?_cons_succ, List.set_cons_zero, List.set_cons_succ, Option.map_some, Option.map_none, Option.bind_some, Option.bind_none, Sl.dat, Sl.frz, Nat.sub_self, Nat.reduceSub, Nat.reduceAdd, Bool.not_true, Bool.not_false, Bool.false_eq_true, if_true, if_false, reduceCtorEq, Nat.reduceLeDiff, true_and, cut_at, cut_to, cut_from, cut_fromA, Nat.zero_le, and_true, decide_true, setS, List.foldl_cons, List.foldl_nil, setE, wipeE, List.foldl_append, decide_false, Int.natCast_one, Int.natCast_zero, Int.cast_ofNat_Int, Int.reduceEq, oEqS, oNeS, oEqI, oNeI, oLtS, oLtI, oLeI, oGtI, oGeI, oAddS, oAddI', oAddT, oAddL, oLenS, oLenT, oLenL, oSlS, oSlT, oSlL, oSub, oTuple, oIx0, oIx1, oMulS, oMulI, oFdivI, oIsB, oIsntB, oIsN, oIsntN, isNone]
      refine ⟨R, w', d, rfl, hg, hR, hw', hd, ?_⟩
      simp only [sSeq, sIf, sRet, sRetN, sNext, sSetF, sSetN, sOwn, sExpr, sUnpF, sUnpN, sPar, sApp, sExt, sPutD, sAugF, sAugN, sFor, fVar, fC, fBin, fChain, fAnd, fOr, fNot, fIf, fTB, fTru, fAndT, fOrT, fNotT, fNil, fCons, fTup, fLst, fCall, fIsi, fSl, fNo, fPart, fNeg, fRev, fCallF, fLc, fRng1, fRng2, fSeq, fEnum, fJoin, fDictK, fDictT, vN, vF, startS, asB, asI, truD, isDict, isT, seqD, ownL, ownD, frAt, okM, exL, vw, oRev, List.map_cons, List.map_nil, List.length_cons, List.length_nil, List.replicate, List.cons_append, List.nil_append, List.append_nil, List.getElem?_cons_zero, List.getElem?_cons_succ, List.set_cons_zero, List.set_cons_succ, Option.map_some, Option.map_none, Option.bind_some, Option.bind_none, Sl.dat, Sl.frz, Nat.sub_self, Nat.reduceSub, Nat.reduceAdd, Bool.not_true, Bool.not_false, Bool.false_eq_true, if_true, if_false, reduceCtorEq, Nat.reduceLeDiff, true_and, cut_at, cut_to, cut_from, cut_fromA, Nat.zero_le, and_true, decide_true, setS, List.foldl_cons, List.foldl_nil, setE, wipeE, List.foldl_append, decide_false, Int.natCast_one, Int.natCast_zero, Int.cast_ofNat_Int, Int.reduceEq, oEqS, oNeS, oEqI, oNeI, oLtS, oLtI, oLeI, oGtI, oGeI, oAddS, oAddI', oAddT, oAddL, oLenS, oLenT, oLenL, oSlS, oSlT, oSlL, oSub, oTuple, oIx0, oIx1, oMulS, oMulI, oFdivI, oIsB, oIsntB, oIsN, oIsntN, isNone]
      cases hs : isStep R w' d with
      | false =>
        rw [hs, if_neg (by decide)] at he
        simp only [sSeq, sIf, sRet, sRetN, sNext, sSetF, sSetN, sOwn, sExpr, sUnpF, sUnpN, sPar, sApp, sExt, sPutD, sAugF, sAugN, sFor, fVar, fC, fBin, fChain, fAnd, fOr, fNot, fIf, fTB, fTru, fAndT, fOrT, fNotT, fNil, fCons, fTup, fLst, fCall, fIsi, fSl, fNo, fPart, fNeg, fRev, fCallF, fLc, fRng1, fRng2, fSeq, fEnum, fJoin, fDictK, fDictT, vN, vF, startS, asB, asI, truD, isDict, isT, seqD, ownL, ownD, frAt, okM, exL, vw, oRev, List.map_cons, List.map_nil, List.length_cons, List.length_nil, List.replicate, List.cons_append, List.nil_append, List.append_nil, List.getElem?_cons_zero, List.getElem?_cons_succ, List.set_cons_zero, List.set_cons_succ, Option.map_some, Option.map_none, Option.bind_some, Option.bind_none, Sl.dat, Sl.frz, Nat.sub_self, Nat.reduceSub, Nat.reduceAdd, Bool.not_true, Bool.not_false, Bool.false_eq_true, if_true, if_false, reduceCtorEq, Nat.reduceLeDiff, true_and, cut_at, cut_to, cut_from, cut_fromA, Nat.zero_le, and_true, decide_true, setS, List.foldl_cons, List.foldl_nil, setE, wipeE, List.foldl_append, decide_false, Int.natCast_one, Int.natCast_zero, Int.cast_ofNat_Int, Int.reduceEq, oEqS, oNeS, oEqI, oNeI, oLtS, oLtI, oLeI, oGtI, oGeI, oAddS, oAddI', oAddT, oAddL, oLenS, oLenT, oLenL, oSlS, oSlT, oSlL, oSub, oTuple, oIx0, oIx1, oMulS, oMulI, oFdivI, oIsB, oIsntB, oIsN, oIsntN, isNone]
        have : endD R w (.tuple xs) = none := he
        rw [this] at q
        exact q
      | true =>
        rw [hs, if_pos rfl] at he
        obtain ⟨k, p, r, rfl, e3, hr, h1, h2⟩ := isStep_of hs
        have hgr := hg.at_ hr
        simp only [sSeq, sIf, sRet, sRetN, sNext, sSetF, sSetN, sOwn, sExpr, sUnpF, sUnpN, sPar, sApp, sExt, sPutD, sAugF, sAugN, sFor, fVar, fC, fBin, fChain, fAnd, fOr, fNot, fIf, fTB, fTru, fAndT, fOrT, fNotT, fNil, fCons, fTup, fLst, fCall, fIsi, fSl, fNo, fPart, fNeg, fRev, fCallF, fLc, fRng1, fRng2, fSeq, fEnum, fJoin, fDictK, fDictT, vN, vF, startS, asB, asI, truD, isDict, isT, seqD, ownL, ownD, frAt, okM, exL, vw, oRev, List.map_cons, List.map_nil, List.length_cons, List.length_nil, List.replicate, List.cons_append, List.nil_append, List.append_nil, List.getElem?_cons_zero, List.getElem?_cons_succ, List.set_cons_zero, List.set_cons_succ, Option.map_some, Option.map_none, Option.bind_some, Option.bind_none, Sl.dat, Sl.frz, Nat.sub_self, Nat.reduceSub, Nat.reduceAdd, Bool.not_true, Bool.not_false, Bool.false_eq_true, if_true, if_false, reduceCtorEq, Nat.reduceLeDiff, true_and, cut_at, cut_to, cut_from, cut_fromA, Nat.zero_le, and_true, decide_true, setS, List.foldl_cons, List.foldl_nil, setE, wipeE, List.foldl_append, decide_false, Int.natCast_one, Int.natCast_zero, Int.cast_ofNat_Int, Int.reduceEq, oEqS, oNeS, oEqI, oNeI, oLtS, oLtI, oLeI, oGtI, oGeI, oAddS, oAddI', oAddT, oAddL, oLenS, oLenT, oLenL, oSlS, oSlT, oSlL, oSub, oTuple, oIx0, oIx1, oMulS, oMulI, oFdivI, oIsB, oIsntB, oIsN, oIsntN, isNone]
        refine ⟨R, w', k, p, r, rfl, hr, hw', hgr.2.1, by omega, ?_⟩
        refine hK _ ⟨_, _, rfl, ?_, ?_⟩
        · have := rwr_len h1
          omega
        · rw [he, e3]
          simp only [Option.getD_some, rwS, hr]
    · rintro env ⟨w', a, rfl, hw', he⟩
      simp only [sSeq, sIf, sRet, sRetN, sNext, sSetF, sSetN, sOwn, sExpr, sUnpF, sUnpN, sPar, sApp, sExt, sPutD, sAugF, sAugN, sFor, fVar, fC, fBin, fChain, fAnd, fOr, fNot, fIf, fTB, fTru, fAndT, fOrT, fNotT, fNil, fCons, fTup, fLst, fCall, fIsi, fSl, fNo, fPart, fNeg, fRev, fCallF, fLc, fRng1, fRng2, fSeq, fEnum, fJoin, fDictK, fDictT, vN, vF, startS, asB, asI, truD, isDict, isT, seqD, ownL, ownD, frAt, okM, exL, vw, oRev, List.map_cons, List.map_nil, List.length_cons, List.length_nil, List.replicate, List.cons_append, List.nil_append, List.append_nil, List.getElem?_cons_zero, List.getElem?_cons_succ, List.set_cons_zero, List.set_cons_succ, Option.map_some, Option.map_none, Option.bind_some, Option.bind_none, Sl.dat, Sl.frz, Nat.sub_self, Nat.reduceSub, Nat.reduceAdd, Bool.not_true, Bool.not_false, Bool.false_eq_true, if_true, if_false, reduceCtorEq, Nat.reduceLeDiff, true_and, cut_at, cut_to, cut_from, cut_fromA, Nat.zero_le, and_true, decide_true, setS, List.foldl_cons, List.foldl_nil, setE, wipeE, List.foldl_append, decide_false, Int.natCast_one, Int.natCast_zero, Int.cast_ofNat_Int, Int.reduceEq, oEqS, oNeS, oEqI, oNeI, oLtS, oLtI, oLeI, oGtI, oGeI, oAddS, oAddI', oAddT, oAddL, oLenS, oLenT, oLenL, oSlS, oSlT, oSlL, oSub, oTuple, oIx0, oIx1, oMulS, oMulI, oFdivI, oIsB, oIsntB, oIsN, oIsntN, isNone]
      have : endD R w (.tuple xs) = some w' := by
        show endOf R w xs = _
        rw [he, List.drop_length]; rfl
      rw [this] at q
      exact q
  | dict _ => simp [isDict] at hvd
  | _ => simp only [F_end_of, sSeq, sIf, sRet, sRetN, sNext, sSetF, sSetN, sOwn, sExpr, sUnpF, sUnpN, sPar, sApp, sExt, sPutD, sAugF, sAugN, sFor, fVar, fC, fBin, fChain, fAnd, fOr, fNot, fIf, fTB, fTru, fAndT, fOrT, fNotT, fNil, fCons, fTup, fLst, fCall, fIsi, fSl, fNo, fPart, fNeg, fRev, fCallF, fLc, fRng1, fRng2, fSeq, fEnum, fJoin, fDictK, fDictT, vN, vF, startS, asB, asI, truD, isDict, isT, seqD, ownL, ownD, frAt, okM, exL, vw, oRev, List.map_cons, List.map_nil, List.length_cons, List.length_nil, List.replicate, List.cons_append, List.nil_append, List.append_nil, List.getElem?_cons_zero, List.getElem?_cons_succ, List.set_cons_zero, List.set_cons_succ, Option.map_some, Option.map_none, Option.bind_some, Option.bind_none, Sl.dat, Sl.frz, Nat.sub_self, Nat.reduceSub, Nat.reduceAdd, Bool.not_true, Bool.not_false, Bool.false_eq_true, if_true, if_false, reduceCtorEq, Nat.reduceLeDiff, true_and, cut_at, cut_to, cut_from, cut_fromA, Nat.zero_le, and_true, decide_true, setS, List.foldl_cons, List.foldl_nil, setE, wipeE, List.foldl_append, decide_false, Int.natCast_one, Int.natCast_zero, Int.cast_ofNat_Int, Int.reduceEq, oEqS, oNeS, oEqI, oNeI, oLtS, oLtI, oLeI, oGtI, oGeI, oAddS, oAddI', oAddT, oAddL, oLenS, oLenT, oLenL, oSlS, oSlT, oSlL, oSub, oTuple, oIx0, oIx1, oMulS, oMulI, oFdivI, oIsB, oIsntB, oIsN, oIsntN, isNone, endD, optD] at q ⊢; exact q
def sp_is_way : QSp := fun ds Q => ∃ (R : List Rule) (w u : Wo) (v : D), ds = [rsD R, sD w, sD u, v] ∧ Good R ∧ R.length ≤ 1000 ∧ w.length ≤ 1000 ∧ v.plain = true ∧ Q (.bool (decide (endD R w v = some u)))
theorem eqv_opt (x : Option Wo) (u : Wo) : PyData.eqv (optD x) (sD u) = decide (x = some u) := by
  cases x with
  | none => simp [optD, PyData.eqv]
  | some y => rw [show optD (some y) = sD y from rfl, eqv_sD]; simp
theorem plain_opt (x : Option Wo) : (optD x).plain = true := by cases x <;> rfl
theorem p_is_way : Pure 4 sp_is_way (F_is_way (sp_end endD)) := by
  rintro ds Q ⟨R, w, u, v, rfl, hg, hR, hw, hv, q⟩
  simp only [F_is_way, sSeq, sIf, sRet, sRetN, sNext, sSetF, sSetN, sOwn, sExpr, sUnpF, sUnpN, sPar, sApp, sExt, sPutD, sAugF, sAugN, sFor, fVar, fC, fBin, fChain, fAnd, fOr, fNot, fIf, fTB, fTru, fAndT, fOrT, fNotT, fNil, fCons, fTup, fLst, fCall, fIsi, fSl, fNo, fPart, fNeg, fRev, fCallF, fLc, fRng1, fRng2, fSeq, fEnum, fJoin, fDictK, fDictT, vN, vF, startS, asB, asI, truD, isDict, isT, seqD, ownL, ownD, frAt, okM, exL, vw, oRev, List.map_cons, List.map_nil, List.length_cons, List.length_nil, List.replicate, List.cons_append, List.nil_append, List.append_nil, List.getElem?_cons_zero, List.getElem?_cons_succ, List.set_cons_zero, List.set_cons_succ, Option.map_some, Option.map_none, Option.bind_some, Option.bind_none, Sl.dat, Sl.frz, Nat.sub_self, Nat.reduceSub, Nat.reduceAdd, Bool.not_true, Bool.not_false, Bool.false_eq_true, if_true, if_false, reduceCtorEq, Nat.reduceLeDiff, true_and, cut_at, cut_to, cut_from, cut_fromA, Nat.zero_le, and_true, decide_true, setS, List.foldl_cons, List.foldl_nil, setE, wipeE, List.foldl_append, decide_false, Int.natCast_one, Int.natCast_zero, Int.cast_ofNat_Int, Int.reduceEq, oEqS, oNeS, oEqI, oNeI, oLtS, oLtI, oLeI, oGtI, oGeI, oAddS, oAddI', oAddT, oAddL, oLenS, oLenT, oLenL, oSlS, oSlT, oSlL, oSub, oTuple, oIx0, oIx1, oMulS, oMulI, oFdivI, oIsB, oIsntB, oIsN, oIsntN, isNone]
  refine ⟨R, w, v, rfl, hg, hR, hw, hv, ?_⟩
  exact oEq_ok (plain_opt _) rfl (by simp [PyData.depth]) (eqv_opt _ _) q
theorem eqv_st {x : D} (hx : x.plain = true) (s : Stp) : PyData.eqv (stD s) x = true ↔ PyData.eqv (stD s) x = true := Iff.rfl
/-- of the law: d stands among steps told as tuples, when its parts are numbers -/
theorem in_steps {l : List Stp} {a b : Int} : ((l.map stD).any fun y => PyData.eqv y (.tuple [.int a, .int b])) = (match stepOf (.tuple [.int a, .int b]) with
    | some s => decide (s ∈ l)
    | none => false) := by
  rw [Bool.eq_iff_iff, List.any_eq_true]
  constructor
  · rintro ⟨y, hy, he⟩
    obtain ⟨s, hs, rfl⟩ := List.mem_map.mp hy
    have := (eqv_nb _ _ (nb_st s) (by simp [nb, nbAll])).mp he
    rw [← this, stepOf_st]
    exact decide_eq_true hs
  · intro h
    split at h
    · rename_i s e
      have e' := stepOf_eq e
      rw [e']
      exact ⟨stD s, List.mem_map.mpr ⟨s, of_decide_eq_true h, rfl⟩, eqv_self _ (plain_st s)⟩
    · cases h
theorem isInt_all (xs : List D) : ∀ bs : List Bool, True := fun _ => trivial
def intB : D → Bool
  | .int _ => true
  | _ => false
theorem p__law_leads : Pure 5 (sp_end endD) (F__law_leads sp_after (sp_steps .list)) := by
  rintro ds Q ⟨R, w, v, rfl, hg, hR, hw, hv, q⟩
  have hvd := plain_dict hv
  cases v with
  | tuple xs =>
    simp only [F__law_leads, sSeq, sIf, sRet, sRetN, sNext, sSetF, sSetN, sOwn, sExpr, sUnpF, sUnpN, sPar, sApp, sExt, sPutD, sAugF, sAugN, sFor, fVar, fC, fBin, fChain, fAnd, fOr, fNot, fIf, fTB, fTru, fAndT, fOrT, fNotT, fNil, fCons, fTup, fLst, fCall, fIsi, fSl, fNo, fPart, fNeg, fRev, fCallF, fLc, fRng1, fRng2, fSeq, fEnum, fJoin, fDictK, fDictT, vN, vF, startS, asB, asI, truD, isDict, isT, seqD, ownL, ownD, frAt, okM, exL, vw, oRev, List.map_cons, List.map_nil, List.length_cons, List.length_nil, List.replicate, List.cons_append, List.nil_append, List.append_nil, List.getElem?_cons_zero, List.getElem?_cons_succ, List.set_cons_zero, List.set_cons_succ, Option.map_some, Option.map_none, Option.bind_some, Option.bind_none, Sl.dat, Sl.frz, Nat.sub_self, Nat.reduceSub, Nat.reduceAdd, Bool.not_true, Bool.not_false, Bool.false_eq_true, if_true, if_false, reduceCtorEq, Nat.reduceLeDiff, true_and, cut_at, cut_to, cut_from, cut_fromA, Nat.zero_le, and_true, decide_true, setS, List.foldl_cons, List.foldl_nil, setE, wipeE, List.foldl_append, decide_false, Int.natCast_one, Int.natCast_zero, Int.cast_ofNat_Int, Int.reduceEq, oEqS, oNeS, oEqI, oNeI, oLtS, oLtI, oLeI, oGtI, oGeI, oAddS, oAddI', oAddT, oAddL, oLenS, oLenT, oLenL, oSlS, oSlT, oSlL, oSub, oTuple, oIx0, oIx1, oMulS, oMulI, oFdivI, oIsB, oIsntB, oIsN, oIsntN, isNone]
    have hp : PyData.plainAll xs = true := by simpa [PyData.plain] using hv
    refine qFor_ids (fun i env => ∃ w' a b, env = [some (.fr (rsD R)), some (.fr (sD w')), some (.fr (.tuple xs)), a, b] ∧ w'.length ≤ 1000 ∧ endOf R w xs = endOf R w' (xs.drop i)) ⟨w, _, _, rfl, hw, rfl⟩ ?_ ?_
    · rintro i d env hx ⟨w', a, b, rfl, hw', he⟩
      refine ⟨_, rfl, fun K hK => ?_⟩
      have hd := plain_at hp hx
      have e2 : xs.drop i = d :: xs.drop (i + 1) := by
        obtain ⟨hi, rfl⟩ := List.getElem?_eq_some_iff.mp hx
        exact List.drop_eq_getElem_cons hi
      rw [e2, endOf_cons] at he
      have bad : isStep R w' d = false → Q .none := fun hs => by
        rw [hs, if_neg (by decide)] at he
        have : endD R w (.tuple xs) = none := he
        rw [this] at q
        exact q
      cases d with
      | tuple ys =>
        match ys with
        | [] => simp only [sSeq, sIf, sRet, sRetN, sNext, sSetF, sSetN, sOwn, sExpr, sUnpF, sUnpN, sPar, sApp, sExt, sPutD, sAugF, sAugN, sFor, fVar, fC, fBin, fChain, fAnd, fOr, fNot, fIf, fTB, fTru, fAndT, fOrT, fNotT, fNil, fCons, fTup, fLst, fCall, fIsi, fSl, fNo, fPart, fNeg, fRev, fCallF, fLc, fRng1, fRng2, fSeq, fEnum, fJoin, fDictK, fDictT, vN, vF, startS, asB, asI, truD, isDict, isT, seqD, ownL, ownD, frAt, okM, exL, vw, oRev, List.map_cons, List.map_nil, List.length_cons, List.length_nil, List.replicate, List.cons_append, List.nil_append, List.append_nil, List.getElem?_cons_zero, List.getElem?_cons_succ, List.set_cons_zero, List.set_cons_succ, Option.map_some, Option.map_none, Option.bind_some, Option.bind_none, Sl.dat, Sl.frz, Nat.sub_self, Nat.reduceSub, Nat.reduceAdd, Bool.not_true, Bool.not_false, Bool.false_eq_true, if_true, if_false, reduceCtorEq, Nat.reduceLeDiff, true_and, cut_at, cut_to, cut_from, cut_fromA, Nat.zero_le, and_true, decide_true, setS, List.foldl_cons, List.foldl_nil, setE, wipeE, List.foldl_append, decide_false, Int.natCast_one, Int.natCast_zero, Int.cast_ofNat_Int, Int.reduceEq, oEqS, oNeS, oEqI, oNeI, oLtS, oLtI, oLeI, oGtI, oGeI, oAddS, oAddI', oAddT, oAddL, oLenS, oLenT, oLenL, oSlS, oSlT, oSlL, oSub, oTuple, oIx0, oIx1, oMulS, oMulI, oFdivI, oIsB, oIsntB, oIsN, oIsntN, isNone]; exact bad rfl
        | [x] => simp only [sSeq, sIf, sRet, sRetN, sNext, sSetF, sSetN, sOwn, sExpr, sUnpF, sUnpN, sPar, sApp, sExt, sPutD, sAugF, sAugN, sFor, fVar, fC, fBin, fChain, fAnd, fOr, fNot, fIf, fTB, fTru, fAndT, fOrT, fNotT, fNil, fCons, fTup, fLst, fCall, fIsi, fSl, fNo, fPart, fNeg, fRev, fCallF, fLc, fRng1, fRng2, fSeq, fEnum, fJoin, fDictK, fDictT, vN, vF, startS, asB, asI, truD, isDict, isT, seqD, ownL, ownD, frAt, okM, exL, vw, oRev, List.map_cons, List.map_nil, List.length_cons, List.length_nil, List.replicate, List.cons_append, List.nil_append, List.append_nil, List.getElem?_cons_zero, List.getElem?_cons_succ, List.set_cons_zero, List.set_cons_succ, Option.map_some, Option.map_none, Option.bind_some, Option.bind_none, Sl.dat, Sl.frz, Nat.sub_self, Nat.reduceSub, Nat.reduceAdd, Bool.not_true, Bool.not_false, Bool.false_eq_true, if_true, if_false, reduceCtorEq, Nat.reduceLeDiff, true_and, cut_at, cut_to, cut_from, cut_fromA, Nat.zero_le, and_true, decide_true, setS, List.foldl_cons, List.foldl_nil, setE, wipeE, List.foldl_append, decide_false, Int.natCast_one, Int.natCast_zero, Int.cast_ofNat_Int, Int.reduceEq, oEqS, oNeS, oEqI, oNeI, oLtS, oLtI, oLeI, oGtI, oGeI, oAddS, oAddI', oAddT, oAddL, oLenS, oLenT, oLenL, oSlS, oSlT, oSlL, oSub, oTuple, oIx0, oIx1, oMulS, oMulI, oFdivI, oIsB, oIsntB, oIsN, oIsntN, isNone]; exact bad (by cases x <;> rfl)
        | x :: y :: z :: ys =>
          have : ¬ (((ys.length + 1 + 1 + 1 : Nat) : Int) = 2) := by omega
          simp only [sSeq, sIf, sRet, sRetN, sNext, sSetF, sSetN, sOwn, sExpr, sUnpF, sUnpN, sPar, sApp, sExt, sPutD, sAugF, sAugN, sFor, fVar, fC, fBin, fChain, fAnd, fOr, fNot, fIf, fTB, fTru, fAndT, fOrT, fNotT, fNil, fCons, fTup, fLst, fCall, fIsi, fSl, fNo, fPart, fNeg, fRev, fCallF, fLc, fRng1, fRng2, fSeq, fEnum, fJoin, fDictK, fDictT, vN, vF, startS, asB, asI, truD, isDict, isT, seqD, ownL, ownD, frAt, okM, exL, vw, oRev, List.map_cons, List.map_nil, List.length_cons, List.length_nil, List.replicate, List.cons_append, List.nil_append, List.append_nil, List.getElem?_cons_zero, List.getElem?_cons_succ, List.set_cons_zero, List.set_cons_succ, Option.map_some, Option.map_none, Option.bind_some, Option.bind_none, Sl.dat, Sl.frz, Nat.sub_self, Nat.reduceSub, Nat.reduceAdd, Bool.not_true, Bool.not_false, Bool.false_eq_true, if_true, if_false, reduceCtorEq, Nat.reduceLeDiff, true_and, cut_at, cut_to, cut_from, cut_fromA, Nat.zero_le, and_true, decide_true, setS, List.foldl_cons, List.foldl_nil, setE, wipeE, List.foldl_append, decide_false, Int.natCast_one, Int.natCast_zero, Int.cast_ofNat_Int, Int.reduceEq, oEqS, oNeS, oEqI, oNeI, oLtS, oLtI, oLeI, oGtI, oGeI, oAddS, oAddI', oAddT, oAddL, oLenS, oLenT, oLenL, oSlS, oSlT, oSlL, oSub, oTuple, oIx0, oIx1, oMulS, oMulI, oFdivI, oIsB, oIsntB, oIsN, oIsntN, isNone, this]
          exact bad (by cases x <;> cases y <;> rfl)
        | [x, y] =>
          have hxy : x.plain = true ∧ y.plain = true := by simpa [PyData.plain, PyData.plainAll] using hd
          simp only [sSeq, sIf, sRet, sRetN, sNext, sSetF, sSetN, sOwn, sExpr, sUnpF, sUnpN, sPar, sApp, sExt, sPutD, sAugF, sAugN, sFor, fVar, fC, fBin, fChain, fAnd, fOr, fNot, fIf, fTB, fTru, fAndT, fOrT, fNotT, fNil, fCons, fTup, fLst, fCall, fIsi, fSl, fNo, fPart, fNeg, fRev, fCallF, fLc, fRng1, fRng2, fSeq, fEnum, fJoin, fDictK, fDictT, vN, vF, startS, asB, asI, truD, isDict, isT, seqD, ownL, ownD, frAt, okM, exL, vw, oRev, List.map_cons, List.map_nil, List.length_cons, List.length_nil, List.replicate, List.cons_append, List.nil_append, List.append_nil, List.getElem?_cons_zero, List.getElem?_cons_succ, List.set_cons_zero, List.set_cons_succ, Option.map_some, Option.map_none, Option.bind_some, Option.bind_none, Sl.dat, Sl.frz, Nat.sub_self, Nat.reduceSub, Nat.reduceAdd, Bool.not_true, Bool.not_false, Bool.false_eq_true, if_true, if_false, reduceCtorEq, Nat.reduceLeDiff, true_and, cut_at, cut_to, cut_from, cut_fromA, Nat.zero_le, and_true, decide_true, setS, List.foldl_cons, List.foldl_nil, setE, wipeE, List.foldl_append, decide_false, Int.natCast_one, Int.natCast_zero, Int.cast_ofNat_Int, Int.reduceEq, oEqS, oNeS, oEqI, oNeI, oLtS, oLtI, oLeI, oGtI, oGeI, oAddS, oAddI', oAddT, oAddL, oLenS, oLenT, oLenL, oSlS, oSlT, oSlL, oSub, oTuple, oIx0, oIx1, oMulS, oMulI, oFdivI, oIsB, oIsntB, oIsN, oIsntN, isNone]
          refine qComp_ids (fun z => .bool (intB z)) (fun z hz => ⟨_, rfl, fun Q' q' => ?_⟩) ?_
          · have hzp : z.plain = true := by
              rcases List.mem_cons.mp hz with rfl | hz
              · exact hxy.1
              · rw [List.mem_singleton.mp hz]; exact hxy.2
            have hzd := plain_dict hzp
            cases z <;> simp only [sSeq, sIf, sRet, sRetN, sNext, sSetF, sSetN, sOwn, sExpr, sUnpF, sUnpN, sPar, sApp, sExt, sPutD, sAugF, sAugN, sFor, fVar, fC, fBin, fChain, fAnd, fOr, fNot, fIf, fTB, fTru, fAndT, fOrT, fNotT, fNil, fCons, fTup, fLst, fCall, fIsi, fSl, fNo, fPart, fNeg, fRev, fCallF, fLc, fRng1, fRng2, fSeq, fEnum, fJoin, fDictK, fDictT, vN, vF, startS, asB, asI, truD, isDict, isT, seqD, ownL, ownD, frAt, okM, exL, vw, oRev, List.map_cons, List.map_nil, List.length_cons, List.length_nil, List.replicate, List.cons_append, List.nil_append, List.append_nil, List.getElem?_cons_zero, List.getElem?_cons_succ, List.set_cons_zero, List.set_cons_succ, Option.map_some, Option.map_none, Option.bind_some, Option.bind_none, Sl.dat, Sl.frz, Nat.sub_self, Nat.reduceSub, Nat.reduceAdd, Bool.not_true, Bool.not_false, Bool.false_eq_true, if_true, if_false, reduceCtorEq, Nat.reduceLeDiff, true_and, cut_at, cut_to, cut_from, cut_fromA, Nat.zero_le, and_true, decide_true, setS, List.foldl_cons, List.foldl_nil, setE, wipeE, List.foldl_append, decide_false, Int.natCast_one, Int.natCast_zero, Int.cast_ofNat_Int, Int.reduceEq, oEqS, oNeS, oEqI, oNeI, oLtS, oLtI, oLeI, oGtI, oGeI, oAddS, oAddI', oAddT, oAddL, oLenS, oLenT, oLenL, oSlS, oSlT, oSlL, oSub, oTuple, oIx0, oIx1, oMulS, oMulI, oFdivI, oIsB, oIsntB, oIsN, oIsntN, isNone, intB] at q' ⊢ <;> first | exact q' | simp [isDict] at hzd
          · simp only [sSeq, sIf, sRet, sRetN, sNext, sSetF, sSetN, sOwn, sExpr, sUnpF, sUnpN, sPar, sApp, sExt, sPutD, sAugF, sAugN, sFor, fVar, fC, fBin, fChain, fAnd, fOr, fNot, fIf, fTB, fTru, fAndT, fOrT, fNotT, fNil, fCons, fTup, fLst, fCall, fIsi, fSl, fNo, fPart, fNeg, fRev, fCallF, fLc, fRng1, fRng2, fSeq, fEnum, fJoin, fDictK, fDictT, vN, vF, startS, asB, asI, truD, isDict, isT, seqD, ownL, ownD, frAt, okM, exL, vw, oRev, List.map_cons, List.map_nil, List.length_cons, List.length_nil, List.replicate, List.cons_append, List.nil_append, List.append_nil, List.getElem?_cons_zero, List.getElem?_cons_succ, List.set_cons_zero, List.set_cons_succ, Option.map_some, Option.map_none, Option.bind_some, Option.bind_none, Sl.dat, Sl.frz, Nat.sub_self, Nat.reduceSub, Nat.reduceAdd, Bool.not_true, Bool.not_false, Bool.false_eq_true, if_true, if_false, reduceCtorEq, Nat.reduceLeDiff, true_and, cut_at, cut_to, cut_from, cut_fromA, Nat.zero_le, and_true, decide_true, setS, List.foldl_cons, List.foldl_nil, setE, wipeE, List.foldl_append, decide_false, Int.natCast_one, Int.natCast_zero, Int.cast_ofNat_Int, Int.reduceEq, oEqS, oNeS, oEqI, oNeI, oLtS, oLtI, oLeI, oGtI, oGeI, oAddS, oAddI', oAddT, oAddL, oLenS, oLenT, oLenL, oSlS, oSlT, oSlL, oSub, oTuple, oIx0, oIx1, oMulS, oMulI, oFdivI, oIsB, oIsntB, oIsN, oIsntN, isNone, oAll]
            refine ⟨[intB x, intB y], by simp, ?_⟩
            cases x with
            | int x =>
              cases y with
              | int y =>
                simp only [intB, List.all_cons, List.all_nil, id, Bool.and_self, sSeq, sIf, sRet, sRetN, sNext, sSetF, sSetN, sOwn, sExpr, sUnpF, sUnpN, sPar, sApp, sExt, sPutD, sAugF, sAugN, sFor, fVar, fC, fBin, fChain, fAnd, fOr, fNot, fIf, fTB, fTru, fAndT, fOrT, fNotT, fNil, fCons, fTup, fLst, fCall, fIsi, fSl, fNo, fPart, fNeg, fRev, fCallF, fLc, fRng1, fRng2, fSeq, fEnum, fJoin, fDictK, fDictT, vN, vF, startS, asB, asI, truD, isDict, isT, seqD, ownL, ownD, frAt, okM, exL, vw, oRev, List.map_cons, List.map_nil, List.length_cons, List.length_nil, List.replicate, List.cons_append, List.nil_append, List.append_nil, List.getElem?_cons_zero, List.getElem?_cons_succ, List.set_cons_zero, List.set_cons_succ, Option.map_some, Option.map_none, Option.bind_some, Option.bind_none, Sl.dat, Sl.frz, Nat.sub_self, Nat.reduceSub, Nat.reduceAdd, Bool.not_true, Bool.not_false, Bool.false_eq_true, if_true, if_false, reduceCtorEq, Nat.reduceLeDiff, true_and, cut_at, cut_to, cut_from, cut_fromA, Nat.zero_le, and_true, decide_true, setS, List.foldl_cons, List.foldl_nil, setE, wipeE, List.foldl_append, decide_false, Int.natCast_one, Int.natCast_zero, Int.cast_ofNat_Int, Int.reduceEq, oEqS, oNeS, oEqI, oNeI, oLtS, oLtI, oLeI, oGtI, oGeI, oAddS, oAddI', oAddT, oAddL, oLenS, oLenT, oLenL, oSlS, oSlT, oSlL, oSub, oTuple, oIx0, oIx1, oMulS, oMulI, oFdivI, oIsB, oIsntB, oIsN, oIsntN, isNone]
                refine ⟨R, w', rfl, hg, hR, hw', ?_⟩
                have hin := in_steps (l := steps R w') (a := x) (b := y)
                refine ⟨⟨?_, rfl, by simp [PyData.depth, PyData.depthAll]; omega⟩, ?_⟩
                · exact plainAll_of fun x hx => by obtain ⟨r, _, rfl⟩ := List.mem_map.mp hx; exact plain_st r
                · rw [hin]
                  simp only [sSeq, sIf, sRet, sRetN, sNext, sSetF, sSetN, sOwn, sExpr, sUnpF, sUnpN, sPar, sApp, sExt, sPutD, sAugF, sAugN, sFor, fVar, fC, fBin, fChain, fAnd, fOr, fNot, fIf, fTB, fTru, fAndT, fOrT, fNotT, fNil, fCons, fTup, fLst, fCall, fIsi, fSl, fNo, fPart, fNeg, fRev, fCallF, fLc, fRng1, fRng2, fSeq, fEnum, fJoin, fDictK, fDictT, vN, vF, startS, asB, asI, truD, isDict, isT, seqD, ownL, ownD, frAt, okM, exL, vw, oRev, List.map_cons, List.map_nil, List.length_cons, List.length_nil, List.replicate, List.cons_append, List.nil_append, List.append_nil, List.getElem?_cons_zero, List.getElem?_cons_succ, List.set_cons_zero, List.set_cons_succ, Option.map_some, Option.map_none, Option.bind_some, Option.bind_none, Sl.dat, Sl.frz, Nat.sub_self, Nat.reduceSub, Nat.reduceAdd, Bool.not_true, Bool.not_false, Bool.false_eq_true, if_true, if_false, reduceCtorEq, Nat.reduceLeDiff, true_and, cut_at, cut_to, cut_from, cut_fromA, Nat.zero_le, and_true, decide_true, setS, List.foldl_cons, List.foldl_nil, setE, wipeE, List.foldl_append, decide_false, Int.natCast_one, Int.natCast_zero, Int.cast_ofNat_Int, Int.reduceEq, oEqS, oNeS, oEqI, oNeI, oLtS, oLtI, oLeI, oGtI, oGeI, oAddS, oAddI', oAddT, oAddL, oLenS, oLenT, oLenL, oSlS, oSlT, oSlL, oSub, oTuple, oIx0, oIx1, oMulS, oMulI, oFdivI, oIsB, oIsntB, oIsN, oIsntN, isNone]
                  cases hs : isStep R w' (.tuple [.int x, .int y]) with
                  | false =>
                    have : (match stepOf (.tuple [.int x, .int y]) with
                      | some s => decide (s ∈ steps R w')
                      | none => false) = false := by
                      unfold isStep at hs
                      split
                      · rename_i s e
                        rw [e] at hs
                        simp only at hs
                        rw [decide_eq_false_iff_not, mem_steps, hs]; decide
                      · rfl
                    rw [this]
                    simp only [sSeq, sIf, sRet, sRetN, sNext, sSetF, sSetN, sOwn, sExpr, sUnpF, sUnpN, sPar, sApp, sExt, sPutD, sAugF, sAugN, sFor, fVar, fC, fBin, fChain, fAnd, fOr, fNot, fIf, fTB, fTru, fAndT, fOrT, fNotT, fNil, fCons, fTup, fLst, fCall, fIsi, fSl, fNo, fPart, fNeg, fRev, fCallF, fLc, fRng1, fRng2, fSeq, fEnum, fJoin, fDictK, fDictT, vN, vF, startS, asB, asI, truD, isDict, isT, seqD, ownL, ownD, frAt, okM, exL, vw, oRev, List.map_cons, List.map_nil, List.length_cons, List.length_nil, List.replicate, List.cons_append, List.nil_append, List.append_nil, List.getElem?_cons_zero, List.getElem?_cons_succ, List.set_cons_zero, List.set_cons_succ, Option.map_some, Option.map_none, Option.bind_some, Option.bind_none, Sl.dat, Sl.frz, Nat.sub_self, Nat.reduceSub, Nat.reduceAdd, Bool.not_true, Bool.not_false, Bool.false_eq_true, if_true, if_false, reduceCtorEq, Nat.reduceLeDiff, true_and, cut_at, cut_to, cut_from, cut_fromA, Nat.zero_le, and_true, decide_true, setS, List.foldl_cons, List.foldl_nil, setE, wipeE, List.foldl_append, decide_false, Int.natCast_one, Int.natCast_zero, Int.cast_ofNat_Int, Int.reduceEq, oEqS, oNeS, oEqI, oNeI, oLtS, oLtI, oLeI, oGtI, oGeI, oAddS, oAddI', oAddT, oAddL, oLenS, oLenT, oLenL, oSlS, oSlT, oSlL, oSub, oTuple, oIx0, oIx1, oMulS, oMulI, oFdivI, oIsB, oIsntB, oIsN, oIsntN, isNone]
                    exact bad hs
                  | true =>
                    rw [hs, if_pos rfl] at he
                    obtain ⟨k, p, r, e4, e3, hr, h1, h2⟩ := isStep_of hs
                    have hgr := hg.at_ hr
                    have hm : (k, p) ∈ steps R w' := by
                      rw [mem_steps]
                      unfold isStep at hs
                      rw [e3] at hs
                      exact hs
                    rw [e3]
                    simp only [hm, sSeq, sIf, sRet, sRetN, sNext, sSetF, sSetN, sOwn, sExpr, sUnpF, sUnpN, sPar, sApp, sExt, sPutD, sAugF, sAugN, sFor, fVar, fC, fBin, fChain, fAnd, fOr, fNot, fIf, fTB, fTru, fAndT, fOrT, fNotT, fNil, fCons, fTup, fLst, fCall, fIsi, fSl, fNo, fPart, fNeg, fRev, fCallF, fLc, fRng1, fRng2, fSeq, fEnum, fJoin, fDictK, fDictT, vN, vF, startS, asB, asI, truD, isDict, isT, seqD, ownL, ownD, frAt, okM, exL, vw, oRev, List.map_cons, List.map_nil, List.length_cons, List.length_nil, List.replicate, List.cons_append, List.nil_append, List.append_nil, List.getElem?_cons_zero, List.getElem?_cons_succ, List.set_cons_zero, List.set_cons_succ, Option.map_some, Option.map_none, Option.bind_some, Option.bind_none, Sl.dat, Sl.frz, Nat.sub_self, Nat.reduceSub, Nat.reduceAdd, Bool.not_true, Bool.not_false, Bool.false_eq_true, if_true, if_false, reduceCtorEq, Nat.reduceLeDiff, true_and, cut_at, cut_to, cut_from, cut_fromA, Nat.zero_le, and_true, decide_true, setS, List.foldl_cons, List.foldl_nil, setE, wipeE, List.foldl_append, decide_false, Int.natCast_one, Int.natCast_zero, Int.cast_ofNat_Int, Int.reduceEq, oEqS, oNeS, oEqI, oNeI, oLtS, oLtI, oLeI, oGtI, oGeI, oAddS, oAddI', oAddT, oAddL, oLenS, oLenT, oLenL, oSlS, oSlT, oSlL, oSub, oTuple, oIx0, oIx1, oMulS, oMulI, oFdivI, oIsB, oIsntB, oIsN, oIsntN, isNone]
                    refine ⟨R, w', k, p, r, by rw [e4], hr, hw', hgr.2.1, by omega, ?_⟩
                    refine hK _ ⟨_, _, _, rfl, ?_, ?_⟩
                    · have := rwr_len h1
                      omega
                    · rw [he, e3]
                      simp only [Option.getD_some, rwS, hr]
              | _ => simp only [intB, List.all_cons, List.all_nil, id, Bool.and_self, Bool.and_false, Bool.false_and, Bool.and_true, Bool.true_and, sSeq, sIf, sRet, sRetN, sNext, sSetF, sSetN, sOwn, sExpr, sUnpF, sUnpN, sPar, sApp, sExt, sPutD, sAugF, sAugN, sFor, fVar, fC, fBin, fChain, fAnd, fOr, fNot, fIf, fTB, fTru, fAndT, fOrT, fNotT, fNil, fCons, fTup, fLst, fCall, fIsi, fSl, fNo, fPart, fNeg, fRev, fCallF, fLc, fRng1, fRng2, fSeq, fEnum, fJoin, fDictK, fDictT, vN, vF, startS, asB, asI, truD, isDict, isT, seqD, ownL, ownD, frAt, okM, exL, vw, oRev, List.map_cons, List.map_nil, List.length_cons, List.length_nil, List.replicate, List.cons_append, List.nil_append, List.append_nil, List.getElem?_cons_zero, List.getElem?_cons_succ, List.set_cons_zero, List.set_cons_succ, Option.map_some, Option.map_none, Option.bind_some, Option.bind_none, Sl.dat, Sl.frz, Nat.sub_self, Nat.reduceSub, Nat.reduceAdd, Bool.not_true, Bool.not_false, Bool.false_eq_true, if_true, if_false, reduceCtorEq, Nat.reduceLeDiff, true_and, cut_at, cut_to, cut_from, cut_fromA, Nat.zero_le, and_true, decide_true, setS, List.foldl_cons, List.foldl_nil, setE, wipeE, List.foldl_append, decide_false, Int.natCast_one, Int.natCast_zero, Int.cast_ofNat_Int, Int.reduceEq, oEqS, oNeS, oEqI, oNeI, oLtS, oLtI, oLeI, oGtI, oGeI, oAddS, oAddI', oAddT, oAddL, oLenS, oLenT, oLenL, oSlS, oSlT, oSlL, oSub, oTuple, oIx0, oIx1, oMulS, oMulI, oFdivI, oIsB, oIsntB, oIsN, oIsntN, isNone]; exact bad rfl
            | _ => simp only [intB, List.all_cons, List.all_nil, id, Bool.and_self, Bool.and_false, Bool.false_and, Bool.and_true, Bool.true_and, sSeq, sIf, sRet, sRetN, sNext, sSetF, sSetN, sOwn, sExpr, sUnpF, sUnpN, sPar, sApp, sExt, sPutD, sAugF, sAugN, sFor, fVar, fC, fBin, fChain, fAnd, fOr, fNot, fIf, fTB, fTru, fAndT, fOrT, fNotT, fNil, fCons, fTup, fLst, fCall, fIsi, fSl, fNo, fPart, fNeg, fRev, fCallF, fLc, fRng1, fRng2, fSeq, fEnum, fJoin, fDictK, fDictT, vN, vF, startS, asB, asI, truD, isDict, isT, seqD, ownL, ownD, frAt, okM, exL, vw, oRev, List.map_cons, List.map_nil, List.length_cons, List.length_nil, List.replicate, List.cons_append, List.nil_append, List.append_nil, List.getElem?_cons_zero, List.getElem?_cons_succ, List.set_cons_zero, List.set_cons_succ, Option.map_some, Option.map_none, Option.bind_some, Option.bind_none, Sl.dat, Sl.frz, Nat.sub_self, Nat.reduceSub, Nat.reduceAdd, Bool.not_true, Bool.not_false, Bool.false_eq_true, if_true, if_false, reduceCtorEq, Nat.reduceLeDiff, true_and, cut_at, cut_to, cut_from, cut_fromA, Nat.zero_le, and_true, decide_true, setS, List.foldl_cons, List.foldl_nil, setE, wipeE, List.foldl_append, decide_false, Int.natCast_one, Int.natCast_zero, Int.cast_ofNat_Int, Int.reduceEq, oEqS, oNeS, oEqI, oNeI, oLtS, oLtI, oLeI, oGtI, oGeI, oAddS, oAddI', oAddT, oAddL, oLenS, oLenT, oLenL, oSlS, oSlT, oSlL, oSub, oTuple, oIx0, oIx1, oMulS, oMulI, oFdivI, oIsB, oIsntB, oIsN, oIsntN, isNone]; exact bad rfl
      | dict _ => simp [PyData.plain] at hd
      | _ => simp only [sSeq, sIf, sRet, sRetN, sNext, sSetF, sSetN, sOwn, sExpr, sUnpF, sUnpN, sPar, sApp, sExt, sPutD, sAugF, sAugN, sFor, fVar, fC, fBin, fChain, fAnd, fOr, fNot, fIf, fTB, fTru, fAndT, fOrT, fNotT, fNil, fCons, fTup, fLst, fCall, fIsi, fSl, fNo, fPart, fNeg, fRev, fCallF, fLc, fRng1, fRng2, fSeq, fEnum, fJoin, fDictK, fDictT, vN, vF, startS, asB, asI, truD, isDict, isT, seqD, ownL, ownD, frAt, okM, exL, vw, oRev, List.map_cons, List.map_nil, List.length_cons, List.length_nil, List.replicate, List.cons_append, List.nil_append, List.append_nil, List.getElem?_cons_zero, List.getElem?_cons_succ, List.set_cons_zero, List.set_cons_succ, Option.map_some, Option.map_none, Option.bind_some, Option.bind_none, Sl.dat, Sl.frz, Nat.sub_self, Nat.reduceSub, Nat.reduceAdd, Bool.not_true, Bool.not_false, Bool.false_eq_true, if_true, if_false, reduceCtorEq, Nat.reduceLeDiff, true_and, cut_at, cut_to, cut_from, cut_fromA, Nat.zero_le, and_true, decide_true, setS, List.foldl_cons, List.foldl_nil, setE, wipeE, List.foldl_append, decide_false, Int.natCast_one, Int.natCast_zero, Int.cast_ofNat_Int, Int.reduceEq, oEqS, oNeS, oEqI, oNeI, oLtS, oLtI, oLeI, oGtI, oGeI, oAddS, oAddI', oAddT, oAddL, oLenS, oLenT, oLenL, oSlS, oSlT, oSlL, oSub, oTuple, oIx0, oIx1, oMulS, oMulI, oFdivI, oIsB, oIsntB, oIsN, oIsntN, isNone]; exact bad rfl
    · rintro env ⟨w', a, b, rfl, hw', he⟩
      simp only [sSeq, sIf, sRet, sRetN, sNext, sSetF, sSetN, sOwn, sExpr, sUnpF, sUnpN, sPar, sApp, sExt, sPutD, sAugF, sAugN, sFor, fVar, fC, fBin, fChain, fAnd, fOr, fNot, fIf, fTB, fTru, fAndT, fOrT, fNotT, fNil, fCons, fTup, fLst, fCall, fIsi, fSl, fNo, fPart, fNeg, fRev, fCallF, fLc, fRng1, fRng2, fSeq, fEnum, fJoin, fDictK, fDictT, vN, vF, startS, asB, asI, truD, isDict, isT, seqD, ownL, ownD, frAt, okM, exL, vw, oRev, List.map_cons, List.map_nil, List.length_cons, List.length_nil, List.replicate, List.cons_append, List.nil_append, List.append_nil, List.getElem?_cons_zero, List.getElem?_cons_succ, List.set_cons_zero, List.set_cons_succ, Option.map_some, Option.map_none, Option.bind_some, Option.bind_none, Sl.dat, Sl.frz, Nat.sub_self, Nat.reduceSub, Nat.reduceAdd, Bool.not_true, Bool.not_false, Bool.false_eq_true, if_true, if_false, reduceCtorEq, Nat.reduceLeDiff, true_and, cut_at, cut_to, cut_from, cut_fromA, Nat.zero_le, and_true, decide_true, setS, List.foldl_cons, List.foldl_nil, setE, wipeE, List.foldl_append, decide_false, Int.natCast_one, Int.natCast_zero, Int.cast_ofNat_Int, Int.reduceEq, oEqS, oNeS, oEqI, oNeI, oLtS, oLtI, oLeI, oGtI, oGeI, oAddS, oAddI', oAddT, oAddL, oLenS, oLenT, oLenL, oSlS, oSlT, oSlL, oSub, oTuple, oIx0, oIx1, oMulS, oMulI, oFdivI, oIsB, oIsntB, oIsN, oIsntN, isNone]
      have : endD R w (.tuple xs) = some w' := by
        show endOf R w xs = _
        rw [he, List.drop_length]; rfl
      rw [this] at q
      exact q
  | dict _ => simp [isDict] at hvd
  | _ => simp only [F__law_leads, sSeq, sIf, sRet, sRetN, sNext, sSetF, sSetN, sOwn, sExpr, sUnpF, sUnpN, sPar, sApp, sExt, sPutD, sAugF, sAugN, sFor, fVar, fC, fBin, fChain, fAnd, fOr, fNot, fIf, fTB, fTru, fAndT, fOrT, fNotT, fNil, fCons, fTup, fLst, fCall, fIsi, fSl, fNo, fPart, fNeg, fRev, fCallF, fLc, fRng1, fRng2, fSeq, fEnum, fJoin, fDictK, fDictT, vN, vF, startS, asB, asI, truD, isDict, isT, seqD, ownL, ownD, frAt, okM, exL, vw, oRev, List.map_cons, List.map_nil, List.length_cons, List.length_nil, List.replicate, List.cons_append, List.nil_append, List.append_nil, List.getElem?_cons_zero, List.getElem?_cons_succ, List.set_cons_zero, List.set_cons_succ, Option.map_some, Option.map_none, Option.bind_some, Option.bind_none, Sl.dat, Sl.frz, Nat.sub_self, Nat.reduceSub, Nat.reduceAdd, Bool.not_true, Bool.not_false, Bool.false_eq_true, if_true, if_false, reduceCtorEq, Nat.reduceLeDiff, true_and, cut_at, cut_to, cut_from, cut_fromA, Nat.zero_le, and_true, decide_true, setS, List.foldl_cons, List.foldl_nil, setE, wipeE, List.foldl_append, decide_false, Int.natCast_one, Int.natCast_zero, Int.cast_ofNat_Int, Int.reduceEq, oEqS, oNeS, oEqI, oNeI, oLtS, oLtI, oLeI, oGtI, oGeI, oAddS, oAddI', oAddT, oAddL, oLenS, oLenT, oLenL, oSlS, oSlT, oSlL, oSub, oTuple, oIx0, oIx1, oMulS, oMulI, oFdivI, oIsB, oIsntB, oIsN, oIsntN, isNone, endD, optD] at q ⊢; exact q
end K68
set_option Elab.async false
set_option linter.all false
set_option maxRecDepth 100000
set_option maxHeartbeats 4000000
set_option autoImplicit false
namespace K68
open PySem L2 T2
/-! ### the plain way -/
def firstAt (w : Wo) (p : Nat) : Nat → List Rule → Option Nat
  | _, [] => none
  | k, r :: R => if stands w p r.1 = true then some k else firstAt w p (k + 1) R
theorem firstAt_cons (w : Wo) (p k : Nat) (r : Rule) (R : List Rule) : firstAt w p k (r :: R) = if stands w p r.1 = true then some k else firstAt w p (k + 1) R := rfl
def plainStep (R : List Rule) (w : Wo) : Option Stp := (List.range w.length).findSome? fun p => (firstAt w p 0 R).map fun k => (k, p)
def optS : Option Stp → D
  | some s => stD s
  | none => .none
theorem find_range {β : Type} (f : Nat → Option β) {n i : Nat} {b : β} (hi : i < n) (h : f i = some b) (h0 : ∀ j, j < i → f j = none) : (List.range n).findSome? f = some b := by
  obtain ⟨k, rfl⟩ := Nat.le.dest (show i + 1 ≤ n from hi)
  rw [List.range_add, List.range_succ, List.findSome?_append, List.findSome?_append]
  have : (List.range i).findSome? f = none := by
    rw [List.findSome?_eq_none_iff]
    intro j hj
    exact h0 j (List.mem_range.mp hj)
  rw [this]
  simp [h]
theorem find_range_none {β : Type} (f : Nat → Option β) {n : Nat} (h0 : ∀ j, j < n → f j = none) : (List.range n).findSome? f = none := by
  rw [List.findSome?_eq_none_iff]
  intro j hj
  exact h0 j (List.mem_range.mp hj)
def sp_plain_step : QSp := fun ds Q => ∃ (R : List Rule) (w : Wo), ds = [rsD R, sD w] ∧ Good R ∧ R.length ≤ 1000 ∧ w.length ≤ 1000 ∧ Q (optS (plainStep R w))
theorem p_plain_step : Pure 6 sp_plain_step F_plain_step := by
  rintro ds Q ⟨R, w, rfl, hg, hR, hw, q⟩
  simp only [F_plain_step, sSeq, sIf, sRet, sRetN, sNext, sSetF, sSetN, sOwn, sExpr, sUnpF, sUnpN, sPar, sApp, sExt, sPutD, sAugF, sAugN, sFor, fVar, fC, fBin, fChain, fAnd, fOr, fNot, fIf, fTB, fTru, fAndT, fOrT, fNotT, fNil, fCons, fTup, fLst, fCall, fIsi, fSl, fNo, fPart, fNeg, fRev, fCallF, fLc, fRng1, fRng2, fSeq, fEnum, fJoin, fDictK, fDictT, vN, vF, startS, asB, asI, truD, isDict, isT, seqD, ownL, ownD, frAt, okM, exL, vw, oRev, List.map_cons, List.map_nil, List.length_cons, List.length_nil, List.replicate, List.cons_append, List.nil_append, List.append_nil, List.getElem?_cons_zero, List.getElem?_cons_succ, List.set_cons_zero, List.set_cons_succ, Option.map_some, Option.map_none, Option.bind_some, Option.bind_none, Sl.dat, Sl.frz, Nat.sub_self, Nat.reduceSub, Nat.reduceAdd, Bool.not_true, Bool.not_false, Bool.false_eq_true, if_true, if_false, reduceCtorEq, Nat.reduceLeDiff, true_and, cut_at, cut_to, cut_from, cut_fromA, Nat.zero_le, and_true, decide_true, setS, List.foldl_cons, List.foldl_nil, setE, wipeE, List.foldl_append, decide_false, Int.natCast_one, Int.natCast_zero, Int.cast_ofNat_Int, Int.reduceEq, oEqS, oNeS, oEqI, oNeI, oLtS, oLtI, oLeI, oGtI, oGeI, oAddS, oAddI', oAddT, oAddL, oLenS, oLenT, oLenL, oSlS, oSlT, oSlL, oSub, oTuple, oIx0, oIx1, oMulS, oMulI, oFdivI, oIsB, oIsntB, oIsN, oIsntN, isNone, natsD_range]
  refine ⟨⟨by omega, by omega⟩, ?_⟩
  refine qFor_inv (fun i env => ∃ a b c d, env = [some (.fr (rsD R)), some (.fr (sD w)), a, b, c, d] ∧ ∀ p, p < i → firstAt w p 0 R = none) ⟨_, _, _, _, rfl, fun _ h => absurd h (Nat.not_lt_zero _)⟩ ?_ ?_
  · rintro i x env hx ⟨a, b, c, d, rfl, hn⟩
    obtain ⟨hi, rfl⟩ := List.getElem?_eq_some_iff.mp hx
    rw [List.length_range] at hi
    rw [List.getElem_range]
    refine ⟨_, rfl, fun K hK => ?_⟩
    simp only [sSeq, sIf, sRet, sRetN, sNext, sSetF, sSetN, sOwn, sExpr, sUnpF, sUnpN, sPar, sApp, sExt, sPutD, sAugF, sAugN, sFor, fVar, fC, fBin, fChain, fAnd, fOr, fNot, fIf, fTB, fTru, fAndT, fOrT, fNotT, fNil, fCons, fTup, fLst, fCall, fIsi, fSl, fNo, fPart, fNeg, fRev, fCallF, fLc, fRng1, fRng2, fSeq, fEnum, fJoin, fDictK, fDictT, vN, vF, startS, asB, asI, truD, isDict, isT, seqD, ownL, ownD, frAt, okM, exL, vw, oRev, List.map_cons, List.map_nil, List.length_cons, List.length_nil, List.replicate, List.cons_append, List.nil_append, List.append_nil, List.getElem?_cons_zero, List.getElem?_cons_succ, List.set_cons_zero, List.set_cons_succ, Option.map_some, Option.map_none, Option.bind_some, Option.bind_none, Sl.dat, Sl.frz, Nat.sub_self, Nat.reduceSub, Nat.reduceAdd, Bool.not_true, Bool.not_false, Bool.false_eq_true, if_true, if_false, reduceCtorEq, Nat.reduceLeDiff, true_and, cut_at, cut_to, cut_from, cut_fromA, Nat.zero_le, and_true, decide_true, setS, List.foldl_cons, List.foldl_nil, setE, wipeE, List.foldl_append, decide_false, Int.natCast_one, Int.natCast_zero, Int.cast_ofNat_Int, Int.reduceEq, oEqS, oNeS, oEqI, oNeI, oLtS, oLtI, oLeI, oGtI, oGeI, oAddS, oAddI', oAddT, oAddL, oLenS, oLenT, oLenL, oSlS, oSlT, oSlL, oSub, oTuple, oIx0, oIx1, oMulS, oMulI, oFdivI, oIsB, oIsntB, oIsN, oIsntN, isNone, en_rs]
    refine qFor_inv (fun k env => ∃ b c d, env = [some (.fr (rsD R)), some (.fr (sD w)), some (.fr (.int (i : Int))), b, c, d] ∧ firstAt w i 0 R = firstAt w i k (R.drop k)) ⟨_, _, _, rfl, rfl⟩ ?_ ?_
    · rintro k x env hx ⟨b, c, d, rfl, hk⟩
      rw [List.getElem?_zipIdx] at hx
      cases hr : R[k]? with
      | none => rw [hr] at hx; cases hx
      | some r =>
        rw [hr] at hx
        cases hx
        obtain ⟨hkl, e⟩ := List.getElem?_eq_some_iff.mp hr
        rw [List.drop_eq_getElem_cons hkl, e, firstAt_cons] at hk
        refine ⟨_, rfl, fun K2 hK2 => ?_⟩
        simp only [sSeq, sIf, sRet, sRetN, sNext, sSetF, sSetN, sOwn, sExpr, sUnpF, sUnpN, sPar, sApp, sExt, sPutD, sAugF, sAugN, sFor, fVar, fC, fBin, fChain, fAnd, fOr, fNot, fIf, fTB, fTru, fAndT, fOrT, fNotT, fNil, fCons, fTup, fLst, fCall, fIsi, fSl, fNo, fPart, fNeg, fRev, fCallF, fLc, fRng1, fRng2, fSeq, fEnum, fJoin, fDictK, fDictT, vN, vF, startS, asB, asI, truD, isDict, isT, seqD, ownL, ownD, frAt, okM, exL, vw, oRev, List.map_cons, List.map_nil, List.length_cons, List.length_nil, List.replicate, List.cons_append, List.nil_append, List.append_nil, List.getElem?_cons_zero, List.getElem?_cons_succ, List.set_cons_zero, List.set_cons_succ, Option.map_some, Option.map_none, Option.bind_some, Option.bind_none, Sl.dat, Sl.frz, Nat.sub_self, Nat.reduceSub, Nat.reduceAdd, Bool.not_true, Bool.not_false, Bool.false_eq_true, if_true, if_false, reduceCtorEq, Nat.reduceLeDiff, true_and, cut_at, cut_to, cut_from, cut_fromA, Nat.zero_le, and_true, decide_true, setS, List.foldl_cons, List.foldl_nil, setE, wipeE, List.foldl_append, decide_false, Int.natCast_one, Int.natCast_zero, Int.cast_ofNat_Int, Int.reduceEq, oEqS, oNeS, oEqI, oNeI, oLtS, oLtI, oLeI, oGtI, oGeI, oAddS, oAddI', oAddT, oAddL, oLenS, oLenT, oLenL, oSlS, oSlT, oSlL, oSub, oTuple, oIx0, oIx1, oMulS, oMulI, oFdivI, oIsB, oIsntB, oIsN, oIsntN, isNone, Nat.zero_add]
        show (if stands w i r.1 = true then _ else _)
        cases hs : stands w i r.1 with
        | true =>
          rw [hs, if_pos rfl] at hk
          simp only [sSeq, sIf, sRet, sRetN, sNext, sSetF, sSetN, sOwn, sExpr, sUnpF, sUnpN, sPar, sApp, sExt, sPutD, sAugF, sAugN, sFor, fVar, fC, fBin, fChain, fAnd, fOr, fNot, fIf, fTB, fTru, fAndT, fOrT, fNotT, fNil, fCons, fTup, fLst, fCall, fIsi, fSl, fNo, fPart, fNeg, fRev, fCallF, fLc, fRng1, fRng2, fSeq, fEnum, fJoin, fDictK, fDictT, vN, vF, startS, asB, asI, truD, isDict, isT, seqD, ownL, ownD, frAt, okM, exL, vw, oRev, List.map_cons, List.map_nil, List.length_cons, List.length_nil, List.replicate, List.cons_append, List.nil_append, List.append_nil, List.getElem?_cons_zero, List.getElem?_cons_succ, List.set_cons_zero, List.set_cons_succ, Option.map_some, Option.map_none, Option.bind_some, Option.bind_none, Sl.dat, Sl.frz, Nat.sub_self, Nat.reduceSub, Nat.reduceAdd, Bool.not_true, Bool.not_false, Bool.false_eq_true, if_true, if_false, reduceCtorEq, Nat.reduceLeDiff, true_and, cut_at, cut_to, cut_from, cut_fromA, Nat.zero_le, and_true, decide_true, setS, List.foldl_cons, List.foldl_nil, setE, wipeE, List.foldl_append, decide_false, Int.natCast_one, Int.natCast_zero, Int.cast_ofNat_Int, Int.reduceEq, oEqS, oNeS, oEqI, oNeI, oLtS, oLtI, oLeI, oGtI, oGeI, oAddS, oAddI', oAddT, oAddL, oLenS, oLenT, oLenL, oSlS, oSlT, oSlL, oSub, oTuple, oIx0, oIx1, oMulS, oMulI, oFdivI, oIsB, oIsntB, oIsN, oIsntN, isNone]
          have : plainStep R w = some (k, i) := find_range _ hi (by rw [hk]; rfl) fun j hj => by rw [hn j hj]; rfl
          rw [this] at q
          exact q
        | false =>
          rw [hs, if_neg (by decide)] at hk
          simp only [sSeq, sIf, sRet, sRetN, sNext, sSetF, sSetN, sOwn, sExpr, sUnpF, sUnpN, sPar, sApp, sExt, sPutD, sAugF, sAugN, sFor, fVar, fC, fBin, fChain, fAnd, fOr, fNot, fIf, fTB, fTru, fAndT, fOrT, fNotT, fNil, fCons, fTup, fLst, fCall, fIsi, fSl, fNo, fPart, fNeg, fRev, fCallF, fLc, fRng1, fRng2, fSeq, fEnum, fJoin, fDictK, fDictT, vN, vF, startS, asB, asI, truD, isDict, isT, seqD, ownL, ownD, frAt, okM, exL, vw, oRev, List.map_cons, List.map_nil, List.length_cons, List.length_nil, List.replicate, List.cons_append, List.nil_append, List.append_nil, List.getElem?_cons_zero, List.getElem?_cons_succ, List.set_cons_zero, List.set_cons_succ, Option.map_some, Option.map_none, Option.bind_some, Option.bind_none, Sl.dat, Sl.frz, Nat.sub_self, Nat.reduceSub, Nat.reduceAdd, Bool.not_true, Bool.not_false, Bool.false_eq_true, if_true, if_false, reduceCtorEq, Nat.reduceLeDiff, true_and, cut_at, cut_to, cut_from, cut_fromA, Nat.zero_le, and_true, decide_true, setS, List.foldl_cons, List.foldl_nil, setE, wipeE, List.foldl_append, decide_false, Int.natCast_one, Int.natCast_zero, Int.cast_ofNat_Int, Int.reduceEq, oEqS, oNeS, oEqI, oNeI, oLtS, oLtI, oLeI, oGtI, oGeI, oAddS, oAddI', oAddT, oAddL, oLenS, oLenT, oLenL, oSlS, oSlT, oSlL, oSub, oTuple, oIx0, oIx1, oMulS, oMulI, oFdivI, oIsB, oIsntB, oIsN, oIsntN, isNone]
          exact hK2 _ ⟨_, _, _, rfl, hk⟩
    · rintro env ⟨b, c, d, rfl, hk⟩
      refine hK _ ⟨_, _, _, _, rfl, fun p hp => ?_⟩
      by_cases h : p = i
      · subst h
        rw [hk, List.length_zipIdx, List.drop_length]
        rfl
      · exact hn p (by omega)
  · rintro env ⟨a, b, c, d, rfl, hn⟩
    simp only [sSeq, sIf, sRet, sRetN, sNext, sSetF, sSetN, sOwn, sExpr, sUnpF, sUnpN, sPar, sApp, sExt, sPutD, sAugF, sAugN, sFor, fVar, fC, fBin, fChain, fAnd, fOr, fNot, fIf, fTB, fTru, fAndT, fOrT, fNotT, fNil, fCons, fTup, fLst, fCall, fIsi, fSl, fNo, fPart, fNeg, fRev, fCallF, fLc, fRng1, fRng2, fSeq, fEnum, fJoin, fDictK, fDictT, vN, vF, startS, asB, asI, truD, isDict, isT, seqD, ownL, ownD, frAt, okM, exL, vw, oRev, List.map_cons, List.map_nil, List.length_cons, List.length_nil, List.replicate, List.cons_append, List.nil_append, List.append_nil, List.getElem?_cons_zero, List.getElem?_cons_succ, List.set_cons_zero, List.set_cons_succ, Option.map_some, Option.map_none, Option.bind_some, Option.bind_none, Sl.dat, Sl.frz, Nat.sub_self, Nat.reduceSub, Nat.reduceAdd, Bool.not_true, Bool.not_false, Bool.false_eq_true, if_true, if_false, reduceCtorEq, Nat.reduceLeDiff, true_and, cut_at, cut_to, cut_from, cut_fromA, Nat.zero_le, and_true, decide_true, setS, List.foldl_cons, List.foldl_nil, setE, wipeE, List.foldl_append, decide_false, Int.natCast_one, Int.natCast_zero, Int.cast_ofNat_Int, Int.reduceEq, oEqS, oNeS, oEqI, oNeI, oLtS, oLtI, oLeI, oGtI, oGeI, oAddS, oAddI', oAddT, oAddL, oLenS, oLenT, oLenL, oSlS, oSlT, oSlL, oSub, oTuple, oIx0, oIx1, oMulS, oMulI, oFdivI, oIsB, oIsntB, oIsN, oIsntN, isNone]
    have : plainStep R w = none := find_range_none _ fun j hj => by rw [hn j (by rw [List.length_range]; exact hj)]; rfl
    rw [this] at q
    exact q
/-! the run of plain steps -/
inductive Run (R : List Rule) : Wo → List Stp → Wo → Prop
  | stop {w : Wo} : plainStep R w = none → Run R w [] w
  | step {w u : Wo} {s : Stp} {ss : List Stp} : plainStep R w = some s → Run R (rwS R w s) ss u → Run R w (s :: ss) u
theorem firstAt_some {w : Wo} {p : Nat} : ∀ {R : List Rule} {k n : Nat}, firstAt w p k R = some n → k ≤ n ∧ ∃ r, R[n - k]? = some r ∧ stands w p r.1 = true ∧ ∀ j r', j < n - k → R[j]? = some r' → stands w p r'.1 = false
  | [], _, _, h => by cases h
  | x :: R, k, n, h => by
    rw [firstAt_cons] at h
    cases hs : stands w p x.1 with
    | true =>
      rw [hs, if_pos rfl] at h
      cases h
      exact ⟨Nat.le_refl _, x, by simp, hs, fun j r' hj => by omega⟩
    | false =>
      rw [hs, if_neg (by decide)] at h
      obtain ⟨h1, r, h2, h3, h4⟩ := firstAt_some h
      refine ⟨by omega, r, ?_, h3, fun j r' hj e => ?_⟩
      · rw [show n - k = (n - (k + 1)) + 1 by omega]; simpa using h2
      · cases j with
        | zero => simp at e; subst e; exact hs
        | succ j => exact h4 j r' (by omega) (by simpa using e)
theorem plain_ok {R : List Rule} {w : Wo} {s : Stp} (hg : Good R) (h : plainStep R w = some s) : okStep R w s = true := by
  unfold plainStep at h
  obtain ⟨p, hp, h⟩ := List.exists_of_findSome?_eq_some h
  cases hf : firstAt w p 0 R with
  | none => rw [hf] at h; cases h
  | some k =>
    rw [hf] at h
    cases h
    obtain ⟨_, r, h2, h3, _⟩ := firstAt_some hf
    unfold okStep
    simp only [Nat.sub_zero] at h2
    simp only [h2, h3, Bool.and_true, decide_eq_true_eq]
    rcases stands_le h3 with h4 | h4
    · exact h4
    · have := (hg.at_ h2).2.2
      rw [h4] at this
      simp at this
theorem okStep_at {R : List Rule} {w : Wo} {s : Stp} (h : okStep R w s = true) : ∃ r, R[s.1]? = some r ∧ s.2 + r.1.length ≤ w.length ∧ stands w s.2 r.1 = true := by
  unfold okStep at h
  cases hr : R[s.1]? with
  | none => simp only [hr] at h; cases h
  | some r =>
    simp only [hr] at h
    rw [Bool.and_eq_true, decide_eq_true_eq] at h
    exact ⟨r, rfl, h⟩
theorem rwS_len {R : List Rule} {w : Wo} {s : Stp} (hg : Good R) (h : okStep R w s = true) : (rwS R w s).length ≤ w.length := by
  obtain ⟨r, hr, h1, _⟩ := okStep_at h
  have := (hg.at_ hr).1
  have := rwr_len h1
  unfold rwS
  simp only [hr]
  omega
def sp_plain (mk : Wo → List Stp → D) : QSp := fun ds Q => ∃ (R : List Rule) (w u : Wo) (ss : List Stp), ds = [rsD R, sD w] ∧ Good R ∧ R.length ≤ 1000 ∧ w.length ≤ 1000 ∧ Run R w ss u ∧ ss.length ≤ 1000000 ∧ Q (mk u ss)
theorem Run.go {R : List Rule} {w u : Wo} {ss : List Stp} (h : Run R w ss u) : (ss = [] ∧ plainStep R w = none ∧ u = w) ∨ ∃ s rest, ss = s :: rest ∧ plainStep R w = some s ∧ Run R (rwS R w s) rest u := by
  cases h with
  | stop h => exact .inl ⟨rfl, h, rfl⟩
  | step h1 h2 => exact .inr ⟨_, _, rfl, h1, h2⟩
theorem sp_after_of {R : List Rule} {w : Wo} {s : Stp} {Q : D → Prop} (hg : Good R) (hw : w.length ≤ 1000) (ho : okStep R w s = true) (q : Q (sD (rwS R w s))) : sp_after [rsD R, sD w, stD s] Q := by
  obtain ⟨r, hr, h1, h2⟩ := okStep_at ho
  have := hg.at_ hr
  refine ⟨R, w, s.1, s.2, r, rfl, hr, hw, this.2.1, by omega, ?_⟩
  unfold rwS at q
  simp only [hr] at q
  exact q
theorem isNone_st (s : Stp) : isNone (stD s) = false := rfl
theorem st_plain {x : D} : True := trivial
theorem p_plain_end : Pure 3 (sp_plain fun u _ => sD u) (F_plain_end sp_after sp_plain_step) := by
  rintro ds Q ⟨R, w, u, ss, rfl, hg, hR, hw, hr, hl, q⟩
  simp only [F_plain_end, sSeq, sIf, sRet, sRetN, sNext, sSetF, sSetN, sOwn, sExpr, sUnpF, sUnpN, sPar, sApp, sExt, sPutD, sAugF, sAugN, sFor, fVar, fC, fBin, fChain, fAnd, fOr, fNot, fIf, fTB, fTru, fAndT, fOrT, fNotT, fNil, fCons, fTup, fLst, fCall, fIsi, fSl, fNo, fPart, fNeg, fRev, fCallF, fLc, fRng1, fRng2, fSeq, fEnum, fJoin, fDictK, fDictT, vN, vF, startS, asB, asI, truD, isDict, isT, seqD, ownL, ownD, frAt, okM, exL, vw, oRev, List.map_cons, List.map_nil, List.length_cons, List.length_nil, List.replicate, List.cons_append, List.nil_append, List.append_nil, List.getElem?_cons_zero, List.getElem?_cons_succ, List.set_cons_zero, List.set_cons_succ, Option.map_some, Option.map_none, Option.bind_some, Option.bind_none, Sl.dat, Sl.frz, Nat.sub_self, Nat.reduceSub, Nat.reduceAdd, Bool.not_true, Bool.not_false, Bool.false_eq_true, if_true, if_false, reduceCtorEq, Nat.reduceLeDiff, true_and, cut_at, cut_to, cut_from, cut_fromA, Nat.zero_le, and_true, decide_true, setS, List.foldl_cons, List.foldl_nil, setE, wipeE, List.foldl_append, decide_false, Int.natCast_one, Int.natCast_zero, Int.cast_ofNat_Int, Int.reduceEq, oEqS, oNeS, oEqI, oNeI, oLtS, oLtI, oLeI, oGtI, oGeI, oAddS, oAddI', oAddT, oAddL, oLenS, oLenT, oLenL, oSlS, oSlT, oSlL, oSub, oTuple, oIx0, oIx1, oMulS, oMulI, oFdivI, oIsB, oIsntB, oIsN, oIsntN, isNone]
  refine ⟨R, w, rfl, hg, hR, hw, ?_⟩
  refine sWhile_idx (fun n env => ∃ w' rest, env = [some (.fr (rsD R)), some (.fr (sD w')), some (.fr (optS (plainStep R w')))] ∧ w'.length ≤ 1000 ∧ Run R w' rest u ∧ rest.length = n) ss.length ⟨w, ss, rfl, hw, hr, rfl⟩ ?_
  rintro n env ⟨w', rest, rfl, hw', hr', rfl⟩ K hK
  rcases hr'.go with ⟨rfl, hp, rfl⟩ | ⟨s, rest, rfl, hp, hr2⟩
  · simp only [sSeq, sIf, sRet, sRetN, sNext, sSetF, sSetN, sOwn, sExpr, sUnpF, sUnpN, sPar, sApp, sExt, sPutD, sAugF, sAugN, sFor, fVar, fC, fBin, fChain, fAnd, fOr, fNot, fIf, fTB, fTru, fAndT, fOrT, fNotT, fNil, fCons, fTup, fLst, fCall, fIsi, fSl, fNo, fPart, fNeg, fRev, fCallF, fLc, fRng1, fRng2, fSeq, fEnum, fJoin, fDictK, fDictT, vN, vF, startS, asB, asI, truD, isDict, isT, seqD, ownL, ownD, frAt, okM, exL, vw, oRev, List.map_cons, List.map_nil, List.length_cons, List.length_nil, List.replicate, List.cons_append, List.nil_append, List.append_nil, List.getElem?_cons_zero, List.getElem?_cons_succ, List.set_cons_zero, List.set_cons_succ, Option.map_some, Option.map_none, Option.bind_some, Option.bind_none, Sl.dat, Sl.frz, Nat.sub_self, Nat.reduceSub, Nat.reduceAdd, Bool.not_true, Bool.not_false, Bool.false_eq_true, if_true, if_false, reduceCtorEq, Nat.reduceLeDiff, true_and, cut_at, cut_to, cut_from, cut_fromA, Nat.zero_le, and_true, decide_true, setS, List.foldl_cons, List.foldl_nil, setE, wipeE, List.foldl_append, decide_false, Int.natCast_one, Int.natCast_zero, Int.cast_ofNat_Int, Int.reduceEq, oEqS, oNeS, oEqI, oNeI, oLtS, oLtI, oLeI, oGtI, oGeI, oAddS, oAddI', oAddT, oAddL, oLenS, oLenT, oLenL, oSlS, oSlT, oSlL, oSub, oTuple, oIx0, oIx1, oMulS, oMulI, oFdivI, oIsB, oIsntB, oIsN, oIsntN, isNone, oIsnt, hp, optS, isNone]
    exact q
  · have ho := plain_ok hg hp
    simp only [sSeq, sIf, sRet, sRetN, sNext, sSetF, sSetN, sOwn, sExpr, sUnpF, sUnpN, sPar, sApp, sExt, sPutD, sAugF, sAugN, sFor, fVar, fC, fBin, fChain, fAnd, fOr, fNot, fIf, fTB, fTru, fAndT, fOrT, fNotT, fNil, fCons, fTup, fLst, fCall, fIsi, fSl, fNo, fPart, fNeg, fRev, fCallF, fLc, fRng1, fRng2, fSeq, fEnum, fJoin, fDictK, fDictT, vN, vF, startS, asB, asI, truD, isDict, isT, seqD, ownL, ownD, frAt, okM, exL, vw, oRev, List.map_cons, List.map_nil, List.length_cons, List.length_nil, List.replicate, List.cons_append, List.nil_append, List.append_nil, List.getElem?_cons_zero, List.getElem?_cons_succ, List.set_cons_zero, List.set_cons_succ, Option.map_some, Option.map_none, Option.bind_some, Option.bind_none, Sl.dat, Sl.frz, Nat.sub_self, Nat.reduceSub, Nat.reduceAdd, Bool.not_true, Bool.not_false, Bool.false_eq_true, if_true, if_false, reduceCtorEq, Nat.reduceLeDiff, true_and, cut_at, cut_to, cut_from, cut_fromA, Nat.zero_le, and_true, decide_true, setS, List.foldl_cons, List.foldl_nil, setE, wipeE, List.foldl_append, decide_false, Int.natCast_one, Int.natCast_zero, Int.cast_ofNat_Int, Int.reduceEq, oEqS, oNeS, oEqI, oNeI, oLtS, oLtI, oLeI, oGtI, oGeI, oAddS, oAddI', oAddT, oAddL, oLenS, oLenT, oLenL, oSlS, oSlT, oSlL, oSub, oTuple, oIx0, oIx1, oMulS, oMulI, oFdivI, oIsB, oIsntB, oIsN, oIsntN, isNone, oIsnt, hp, optS, isNone]
    refine sp_after_of hg hw' ho ?_
    have hl2 := rwS_len hg ho
    refine ⟨R, _, rfl, hg, hR, by omega, ?_⟩
    exact hK rest.length _ (by simp) ⟨_, rest, rfl, by omega, hr2, rfl⟩
theorem p_plain_way : Pure 4 (sp_plain fun _ ss => .tuple (ss.map stD)) (F_plain_way sp_after sp_plain_step) := by
  rintro ds Q ⟨R, w, u, ss, rfl, hg, hR, hw, hr, hl, q⟩
  simp only [F_plain_way, sSeq, sIf, sRet, sRetN, sNext, sSetF, sSetN, sOwn, sExpr, sUnpF, sUnpN, sPar, sApp, sExt, sPutD, sAugF, sAugN, sFor, fVar, fC, fBin, fChain, fAnd, fOr, fNot, fIf, fTB, fTru, fAndT, fOrT, fNotT, fNil, fCons, fTup, fLst, fCall, fIsi, fSl, fNo, fPart, fNeg, fRev, fCallF, fLc, fRng1, fRng2, fSeq, fEnum, fJoin, fDictK, fDictT, vN, vF, startS, asB, asI, truD, isDict, isT, seqD, ownL, ownD, frAt, okM, exL, vw, oRev, List.map_cons, List.map_nil, List.length_cons, List.length_nil, List.replicate, List.cons_append, List.nil_append, List.append_nil, List.getElem?_cons_zero, List.getElem?_cons_succ, List.set_cons_zero, List.set_cons_succ, Option.map_some, Option.map_none, Option.bind_some, Option.bind_none, Sl.dat, Sl.frz, Nat.sub_self, Nat.reduceSub, Nat.reduceAdd, Bool.not_true, Bool.not_false, Bool.false_eq_true, if_true, if_false, reduceCtorEq, Nat.reduceLeDiff, true_and, cut_at, cut_to, cut_from, cut_fromA, Nat.zero_le, and_true, decide_true, setS, List.foldl_cons, List.foldl_nil, setE, wipeE, List.foldl_append, decide_false, Int.natCast_one, Int.natCast_zero, Int.cast_ofNat_Int, Int.reduceEq, oEqS, oNeS, oEqI, oNeI, oLtS, oLtI, oLeI, oGtI, oGeI, oAddS, oAddI', oAddT, oAddL, oLenS, oLenT, oLenL, oSlS, oSlT, oSlL, oSub, oTuple, oIx0, oIx1, oMulS, oMulI, oFdivI, oIsB, oIsntB, oIsN, oIsntN, isNone]
  refine ⟨R, w, rfl, hg, hR, hw, ?_⟩
  refine sWhile_idx (fun n env => ∃ w' done rest, env = [some (.fr (rsD R)), some (.fr (sD w')), some (.fr (.tuple (done.map stD))), some (.fr (optS (plainStep R w')))] ∧ w'.length ≤ 1000 ∧ Run R w' rest u ∧ rest.length = n ∧ done ++ rest = ss) ss.length ⟨w, [], ss, rfl, hw, hr, rfl, rfl⟩ ?_
  rintro n env ⟨w', done, rest, rfl, hw', hr', rfl, hds⟩ K hK
  rcases hr'.go with ⟨rfl, hp, rfl⟩ | ⟨s, rest, rfl, hp, hr2⟩
  · simp only [sSeq, sIf, sRet, sRetN, sNext, sSetF, sSetN, sOwn, sExpr, sUnpF, sUnpN, sPar, sApp, sExt, sPutD, sAugF, sAugN, sFor, fVar, fC, fBin, fChain, fAnd, fOr, fNot, fIf, fTB, fTru, fAndT, fOrT, fNotT, fNil, fCons, fTup, fLst, fCall, fIsi, fSl, fNo, fPart, fNeg, fRev, fCallF, fLc, fRng1, fRng2, fSeq, fEnum, fJoin, fDictK, fDictT, vN, vF, startS, asB, asI, truD, isDict, isT, seqD, ownL, ownD, frAt, okM, exL, vw, oRev, List.map_cons, List.map_nil, List.length_cons, List.length_nil, List.replicate, List.cons_append, List.nil_append, List.append_nil, List.getElem?_cons_zero, List.getElem?_cons_succ, List.set_cons_zero, List.set_cons_succ, Option.map_some, Option.map_none, Option.bind_some, Option.bind_none, Sl.dat, Sl.frz, Nat.sub_self, Nat.reduceSub, Nat.reduceAdd, Bool.not_true, Bool.not_false, Bool.false_eq_true, if_true, if_false, reduceCtorEq, Nat.reduceLeDiff, true_and, cut_at, cut_to, cut_from, cut_fromA, Nat.zero_le, and_true, decide_true, setS, List.foldl_cons, List.foldl_nil, setE, wipeE, List.foldl_append, decide_false, Int.natCast_one, Int.natCast_zero, Int.cast_ofNat_Int, Int.reduceEq, oEqS, oNeS, oEqI, oNeI, oLtS, oLtI, oLeI, oGtI, oGeI, oAddS, oAddI', oAddT, oAddL, oLenS, oLenT, oLenL, oSlS, oSlT, oSlL, oSub, oTuple, oIx0, oIx1, oMulS, oMulI, oFdivI, oIsB, oIsntB, oIsN, oIsntN, isNone, oIsnt, hp, optS, isNone]
    rw [List.append_nil] at hds
    rw [hds]
    exact q
  · have ho := plain_ok hg hp
    have hlen : done.length + 1 ≤ 1000000 := by
      have := congrArg List.length hds
      rw [List.length_append, List.length_cons] at this
      omega
    simp only [sSeq, sIf, sRet, sRetN, sNext, sSetF, sSetN, sOwn, sExpr, sUnpF, sUnpN, sPar, sApp, sExt, sPutD, sAugF, sAugN, sFor, fVar, fC, fBin, fChain, fAnd, fOr, fNot, fIf, fTB, fTru, fAndT, fOrT, fNotT, fNil, fCons, fTup, fLst, fCall, fIsi, fSl, fNo, fPart, fNeg, fRev, fCallF, fLc, fRng1, fRng2, fSeq, fEnum, fJoin, fDictK, fDictT, vN, vF, startS, asB, asI, truD, isDict, isT, seqD, ownL, ownD, frAt, okM, exL, vw, oRev, List.map_cons, List.map_nil, List.length_cons, List.length_nil, List.replicate, List.cons_append, List.nil_append, List.append_nil, List.getElem?_cons_zero, List.getElem?_cons_succ, List.set_cons_zero, List.set_cons_succ, Option.map_some, Option.map_none, Option.bind_some, Option.bind_none, Sl.dat, Sl.frz, Nat.sub_self, Nat.reduceSub, Nat.reduceAdd, Bool.not_true, Bool.not_false, Bool.false_eq_true, if_true, if_false, reduceCtorEq, Nat.reduceLeDiff, true_and, cut_at, cut_to, cut_from, cut_fromA, Nat.zero_le, and_true, decide_true, setS, List.foldl_cons, List.foldl_nil, setE, wipeE, List.foldl_append, decide_false, Int.natCast_one, Int.natCast_zero, Int.cast_ofNat_Int, Int.reduceEq, oEqS, oNeS, oEqI, oNeI, oLtS, oLtI, oLeI, oGtI, oGeI, oAddS, oAddI', oAddT, oAddL, oLenS, oLenT, oLenL, oSlS, oSlT, oSlL, oSub, oTuple, oIx0, oIx1, oMulS, oMulI, oFdivI, oIsB, oIsntB, oIsN, oIsntN, isNone, oIsnt, hp, optS, isNone, oAddI, oAddT]
    refine ⟨by rw [List.length_map]; omega, ?_⟩
    refine sp_after_of hg hw' ho ?_
    have hl2 := rwS_len hg ho
    refine ⟨R, _, rfl, hg, hR, by omega, ?_⟩
    refine hK rest.length _ (by simp) ⟨_, done ++ [s], rest, ?_, by omega, hr2, rfl, by simpa using hds⟩
    simp
/-! the law's own plain step: least place, then least rule -/
theorem plain_none {R : List Rule} {w : Wo} (hg : Good R) : plainStep R w = none ↔ steps R w = [] := by
  constructor
  · intro h
    cases hs : steps R w with
    | nil => rfl
    | cons s l =>
      have hm : s ∈ steps R w := by rw [hs]; exact List.mem_cons_self
      obtain ⟨r, hr, h1, h2⟩ := okStep_at (mem_steps.mp hm)
      have hgr := hg.at_ hr
      unfold plainStep at h
      rw [List.findSome?_eq_none_iff] at h
      have := h s.2 (List.mem_range.mpr (by omega))
      rw [Option.map_eq_none_iff] at this
      have key : ∀ (R : List Rule) (k : Nat), firstAt w s.2 k R = none → ∀ r ∈ R, stands w s.2 r.1 = false := by
        intro R
        induction R with
        | nil => intro k _ r hr; cases hr
        | cons x R ih =>
          intro k h r hr
          rw [firstAt_cons] at h
          cases hx : stands w s.2 x.1 with
          | true => rw [hx, if_pos rfl] at h; cases h
          | false =>
            rw [hx, if_neg (by decide)] at h
            rcases List.mem_cons.mp hr with rfl | hr
            · exact hx
            · exact ih _ h r hr
      rw [key R 0 this r (List.mem_of_getElem? hr)] at h2
      cases h2
  · intro h
    cases hp : plainStep R w with
    | none => rfl
    | some s =>
      have := mem_steps.mpr (plain_ok hg hp)
      rw [h] at this
      cases this
theorem plain_least {R : List Rule} {w : Wo} {s : Stp} (hg : Good R) (h : plainStep R w = some s) : ∀ t ∈ steps R w, s.2 < t.2 ∨ (s.2 = t.2 ∧ s.1 ≤ t.1) := by
  intro t ht
  obtain ⟨r, hr, h1, h2⟩ := okStep_at (mem_steps.mp ht)
  have hgr := hg.at_ hr
  unfold plainStep at h
  by_cases hlt : t.2 < s.2
  · exfalso
    -- t's place is earlier: something would be found there
    have : (List.range w.length).findSome? (fun p => (firstAt w p 0 R).map fun k => (k, p)) = some s := h
    obtain ⟨l1, a, l2, e1, e2, e3⟩ := List.findSome?_eq_some_iff.mp this
    cases hf : firstAt w a 0 R with
    | none => rw [hf] at e2; cases e2
    | some k =>
      rw [hf] at e2
      cases e2
      have hmem : t.2 ∈ l1 := by
        have hr1 : List.range w.length = l1 ++ a :: l2 := e1
        have hpos : a = l1.length := by
          have h1 : (List.range w.length)[l1.length]? = some a := by rw [hr1]; simp
          rw [List.getElem?_eq_some_iff] at h1
          obtain ⟨_, h1⟩ := h1
          simpa using h1.symm
        have h2 : (List.range w.length)[t.2]? = some t.2 := by
          rw [List.getElem?_range (by omega)]
        rw [hr1, List.getElem?_append_left (by simp at hlt; omega)] at h2
        exact List.mem_of_getElem? h2
      have := e3 _ hmem
      rw [Option.map_eq_none_iff] at this
      have key : ∀ (R : List Rule) (k : Nat), firstAt w t.2 k R = none → ∀ r ∈ R, stands w t.2 r.1 = false := by
        intro R
        induction R with
        | nil => intro k _ r hr; cases hr
        | cons x R ih =>
          intro k h r hr
          rw [firstAt_cons] at h
          cases hx : stands w t.2 x.1 with
          | true => rw [hx, if_pos rfl] at h; cases h
          | false =>
            rw [hx, if_neg (by decide)] at h
            rcases List.mem_cons.mp hr with rfl | hr
            · exact hx
            · exact ih _ h r hr
      rw [key R 0 this r (List.mem_of_getElem? hr)] at h2
      cases h2
  · by_cases heq : s.2 = t.2
    · refine .inr ⟨heq, ?_⟩
      obtain ⟨p, hp, e⟩ := List.exists_of_findSome?_eq_some h
      cases hf : firstAt w p 0 R with
      | none => rw [hf] at e; cases e
      | some k =>
        rw [hf] at e
        cases e
        obtain ⟨_, r', _, _, h4⟩ := firstAt_some hf
        simp only at heq ⊢
        by_cases hk : k ≤ t.1
        · exact hk
        · have := h4 t.1 r (by omega) hr
          rw [heq] at this
          rw [this] at h2
          cases h2
    · exact .inl (by omega)
theorem min_pl {x : D} {xs : List D} {m : Int} {ns : List Int} (h : x :: xs = (m :: ns).map PyData.int) : PySem.W.minD x xs = .int (ns.foldl min m) := by
  simp only [List.map_cons, List.cons.injEq] at h
  rw [h.1, h.2, PySem.W.minD_ints]
theorem foldl_min {m : Int} : ∀ {ns : List Int} {z : Int}, (∀ n ∈ ns, m ≤ n) → m ≤ z → (m = z ∨ m ∈ ns) → ns.foldl min z = m
  | [], z, _, h1, h2 => by
    rcases h2 with h2 | h2
    · exact h2.symm
    · cases h2
  | n :: ns, z, h, h1, h2 => by
    rw [List.foldl_cons]
    have hn := h n List.mem_cons_self
    refine foldl_min (fun k hk => h k (List.mem_cons_of_mem _ hk)) (by omega) ?_
    rcases h2 with h2 | h2
    · left; omega
    · rcases List.mem_cons.mp h2 with h2 | h2
      · left; omega
      · exact .inr h2
theorem minD_st {s : Stp} : ∀ {l : List Stp} {z : Stp}, (∀ t ∈ l, s.1 ≤ t.1 ∧ s.2 = t.2) → (s.1 ≤ z.1 ∧ s.2 = z.2) → (s = z ∨ s ∈ l) → PySem.W.minD (stD z) (l.map stD) = stD s
  | [], z, _, h1, h2 => by
    rcases h2 with h2 | h2
    · rw [h2]; rfl
    · cases h2
  | n :: l, z, h, h1, h2 => by
    have e : PySem.W.minD (stD z) ((n :: l).map stD) = PySem.W.minD (if PySem.W.dataLt (stD n) (stD z) = true then stD n else stD z) (l.map stD) := rfl
    have hn := h n List.mem_cons_self
    rw [e, PySem.W.dataLt_ii]
    by_cases hlt : n.1 < z.1
    · rw [if_pos (by simp; left; omega)]
      refine minD_st (fun k hk => h k (List.mem_cons_of_mem _ hk)) hn ?_
      rcases h2 with h2 | h2
      · subst h2; omega
      · rcases List.mem_cons.mp h2 with h2 | h2
        · exact .inl h2
        · exact .inr h2
    · rw [if_neg (by simp; omega)]
      refine minD_st (fun k hk => h k (List.mem_cons_of_mem _ hk)) h1 ?_
      rcases h2 with h2 | h2
      · exact .inl h2
      · rcases List.mem_cons.mp h2 with h2 | h2
        · subst h2
          exact .inl (Prod.ext (by omega) (by omega))
        · exact .inr h2
theorem alike_sts (l : List Stp) : PySem.W.AlikeAll (l.map stD) := by
  refine ⟨fun x hx y hy => ?_, fun x hx => ?_⟩
  · obtain ⟨a, _, rfl⟩ := List.mem_map.mp hx
    obtain ⟨b, _, rfl⟩ := List.mem_map.mp hy
    simp [PySem.W.alike, PySem.W.alikeAll]
  · obtain ⟨a, _, rfl⟩ := List.mem_map.mp hx
    simp
theorem alike_is (l : List Nat) : PySem.W.AlikeAll (l.map fun n : Nat => PyData.int (n : Int)) := by
  refine ⟨fun x hx y hy => ?_, fun x hx => ?_⟩
  · obtain ⟨a, _, rfl⟩ := List.mem_map.mp hx
    obtain ⟨b, _, rfl⟩ := List.mem_map.mp hy
    simp [PySem.W.alike]
  · obtain ⟨a, _, rfl⟩ := List.mem_map.mp hx
    simp
theorem plain_sts (l : List Stp) : PyData.plainAll (l.map stD) = true := plainAll_of fun x hx => by obtain ⟨r, _, rfl⟩ := List.mem_map.mp hx; exact plain_st r
theorem depth_sts (l : List Stp) : PyData.depthAll (l.map stD) ≤ 1 := depthAll_of fun x hx => by obtain ⟨r, _, rfl⟩ := List.mem_map.mp hx; simp [PyData.depth, PyData.depthAll]
theorem oMin_sts {l : List Stp} {s : Stp} {Q : D → Prop} (hs : s ∈ l) (h : ∀ t ∈ l, s.1 ≤ t.1 ∧ s.2 = t.2) (q : Q (stD s)) : oMin [.list (l.map stD)] Q := by
  cases l with
  | nil => cases hs
  | cons z l =>
    refine ⟨⟨plain_sts (z :: l), alike_sts (z :: l), Nat.le_trans (depth_sts (z :: l)) (by decide)⟩, ?_⟩
    rw [minD_st (fun t ht => h t (List.mem_cons_of_mem _ ht)) (h z List.mem_cons_self) (by
      rcases List.mem_cons.mp hs with h | h
      · exact .inl h
      · exact .inr h)]
    exact q
theorem oMin_is {l : List Nat} {m : Nat} {Q : D → Prop} (hm : m ∈ l) (h : ∀ t ∈ l, m ≤ t) (q : Q (.int (m : Int))) : oMin [.list (l.map fun n : Nat => PyData.int (n : Int))] Q := by
  cases l with
  | nil => cases hm
  | cons z l =>
    refine ⟨⟨plainAll_of fun x hx => by obtain ⟨r, _, rfl⟩ := List.mem_map.mp (show x ∈ (z :: l).map fun n : Nat => PyData.int (n : Int) from hx); rfl, alike_is (z :: l), depthAll_of fun x hx => by obtain ⟨r, _, rfl⟩ := List.mem_map.mp (show x ∈ (z :: l).map fun n : Nat => PyData.int (n : Int) from hx); exact Nat.zero_le _⟩, ?_⟩
    have e : (l.map fun n : Nat => PyData.int (n : Int)) = (l.map fun n : Nat => (n : Int)).map PyData.int := by rw [List.map_map]; rfl
    rw [e, PySem.W.minD_ints, foldl_min (m := (m : Int))]
    · exact q
    · intro n hn
      obtain ⟨k, hk, rfl⟩ := List.mem_map.mp hn
      have := h k (List.mem_cons_of_mem _ hk)
      omega
    · have := h z List.mem_cons_self
      omega
    · rcases List.mem_cons.mp hm with h | h
      · left; omega
      · exact .inr (List.mem_map.mpr ⟨m, h, rfl⟩)
theorem p__law_plain : Pure 6 (sp_plain fun u ss => .tuple [.tuple (ss.map stD), sD u]) (F__law_plain sp_after (sp_steps .list)) := by
  rintro ds Q ⟨R, w, u, ss, rfl, hg, hR, hw, hr, hl, q⟩
  simp only [F__law_plain, sSeq, sIf, sRet, sRetN, sNext, sSetF, sSetN, sOwn, sExpr, sUnpF, sUnpN, sPar, sApp, sExt, sPutD, sAugF, sAugN, sFor, fVar, fC, fBin, fChain, fAnd, fOr, fNot, fIf, fTB, fTru, fAndT, fOrT, fNotT, fNil, fCons, fTup, fLst, fCall, fIsi, fSl, fNo, fPart, fNeg, fRev, fCallF, fLc, fRng1, fRng2, fSeq, fEnum, fJoin, fDictK, fDictT, vN, vF, startS, asB, asI, truD, isDict, isT, seqD, ownL, ownD, frAt, okM, exL, vw, oRev, List.map_cons, List.map_nil, List.length_cons, List.length_nil, List.replicate, List.cons_append, List.nil_append, List.append_nil, List.getElem?_cons_zero, List.getElem?_cons_succ, List.set_cons_zero, List.set_cons_succ, Option.map_some, Option.map_none, Option.bind_some, Option.bind_none, Sl.dat, Sl.frz, Nat.sub_self, Nat.reduceSub, Nat.reduceAdd, Bool.not_true, Bool.not_false, Bool.false_eq_true, if_true, if_false, reduceCtorEq, Nat.reduceLeDiff, true_and, cut_at, cut_to, cut_from, cut_fromA, Nat.zero_le, and_true, decide_true, setS, List.foldl_cons, List.foldl_nil, setE, wipeE, List.foldl_append, decide_false, Int.natCast_one, Int.natCast_zero, Int.cast_ofNat_Int, Int.reduceEq, oEqS, oNeS, oEqI, oNeI, oLtS, oLtI, oLeI, oGtI, oGeI, oAddS, oAddI', oAddT, oAddL, oLenS, oLenT, oLenL, oSlS, oSlT, oSlL, oSub, oTuple, oIx0, oIx1, oMulS, oMulI, oFdivI, oIsB, oIsntB, oIsN, oIsntN, isNone]
  refine sWhile_idx (fun n env => ∃ w' done rest a b c, env = [some (.fr (rsD R)), some (.fr (sD w')), some (.fr (.tuple (done.map stD))), a, b, c] ∧ w'.length ≤ 1000 ∧ Run R w' rest u ∧ rest.length = n ∧ done ++ rest = ss) ss.length ⟨w, [], ss, _, _, _, rfl, hw, hr, rfl, rfl⟩ ?_
  rintro n env ⟨w', done, rest, a, b, c, rfl, hw', hr', rfl, hds⟩ K hK
  simp only [sSeq, sIf, sRet, sRetN, sNext, sSetF, sSetN, sOwn, sExpr, sUnpF, sUnpN, sPar, sApp, sExt, sPutD, sAugF, sAugN, sFor, fVar, fC, fBin, fChain, fAnd, fOr, fNot, fIf, fTB, fTru, fAndT, fOrT, fNotT, fNil, fCons, fTup, fLst, fCall, fIsi, fSl, fNo, fPart, fNeg, fRev, fCallF, fLc, fRng1, fRng2, fSeq, fEnum, fJoin, fDictK, fDictT, vN, vF, startS, asB, asI, truD, isDict, isT, seqD, ownL, ownD, frAt, okM, exL, vw, oRev, List.map_cons, List.map_nil, List.length_cons, List.length_nil, List.replicate, List.cons_append, List.nil_append, List.append_nil, List.getElem?_cons_zero, List.getElem?_cons_succ, List.set_cons_zero, List.set_cons_succ, Option.map_some, Option.map_none, Option.bind_some, Option.bind_none, Sl.dat, Sl.frz, Nat.sub_self, Nat.reduceSub, Nat.reduceAdd, Bool.not_true, Bool.not_false, Bool.false_eq_true, if_true, if_false, reduceCtorEq, Nat.reduceLeDiff, true_and, cut_at, cut_to, cut_from, cut_fromA, Nat.zero_le, and_true, decide_true, setS, List.foldl_cons, List.foldl_nil, setE, wipeE, List.foldl_append, decide_false, Int.natCast_one, Int.natCast_zero, Int.cast_ofNat_Int, Int.reduceEq, oEqS, oNeS, oEqI, oNeI, oLtS, oLtI, oLeI, oGtI, oGeI, oAddS, oAddI', oAddT, oAddL, oLenS, oLenT, oLenL, oSlS, oSlT, oSlL, oSub, oTuple, oIx0, oIx1, oMulS, oMulI, oFdivI, oIsB, oIsntB, oIsN, oIsntN, isNone]
  refine ⟨R, w', rfl, hg, hR, hw', ?_⟩
  refine oEq_ok (b := (steps R w').isEmpty) (plain_sts _) rfl (by simp [PyData.depth, PyData.depthAll]) (by cases steps R w' <;> simp [PyData.eqv, PyData.eqvAll]) ?_
  rcases hr'.go with ⟨rfl, hp, rfl⟩ | ⟨s, rest, rfl, hp, hr2⟩
  · rw [(plain_none hg).mp hp]
    simp only [sSeq, sIf, sRet, sRetN, sNext, sSetF, sSetN, sOwn, sExpr, sUnpF, sUnpN, sPar, sApp, sExt, sPutD, sAugF, sAugN, sFor, fVar, fC, fBin, fChain, fAnd, fOr, fNot, fIf, fTB, fTru, fAndT, fOrT, fNotT, fNil, fCons, fTup, fLst, fCall, fIsi, fSl, fNo, fPart, fNeg, fRev, fCallF, fLc, fRng1, fRng2, fSeq, fEnum, fJoin, fDictK, fDictT, vN, vF, startS, asB, asI, truD, isDict, isT, seqD, ownL, ownD, frAt, okM, exL, vw, oRev, List.map_cons, List.map_nil, List.length_cons, List.length_nil, List.replicate, List.cons_append, List.nil_append, List.append_nil, List.getElem?_cons_zero, List.getElem?_cons_succ, List.set_cons_zero, List.set_cons_succ, Option.map_some, Option.map_none, Option.bind_some, Option.bind_none, Sl.dat, Sl.frz, Nat.sub_self, Nat.reduceSub, Nat.reduceAdd, Bool.not_true, Bool.not_false, Bool.false_eq_true, if_true, if_false, reduceCtorEq, Nat.reduceLeDiff, true_and, cut_at, cut_to, cut_from, cut_fromA, Nat.zero_le, and_true, decide_true, setS, List.foldl_cons, List.foldl_nil, setE, wipeE, List.foldl_append, decide_false, Int.natCast_one, Int.natCast_zero, Int.cast_ofNat_Int, Int.reduceEq, oEqS, oNeS, oEqI, oNeI, oLtS, oLtI, oLeI, oGtI, oGeI, oAddS, oAddI', oAddT, oAddL, oLenS, oLenT, oLenL, oSlS, oSlT, oSlL, oSub, oTuple, oIx0, oIx1, oMulS, oMulI, oFdivI, oIsB, oIsntB, oIsN, oIsntN, isNone, List.isEmpty_nil]
    rw [List.append_nil] at hds
    rw [hds]
    exact q
  · have hne : (steps R w').isEmpty = false := by
      cases hs : steps R w' with
      | nil => rw [(plain_none hg).mpr hs] at hp; cases hp
      | cons _ _ => rfl
    rw [hne]
    have ho := plain_ok hg hp
    have hsm := mem_steps.mpr ho
    have hle := plain_least hg hp
    have hlen : done.length + 1 ≤ 1000000 := by
      have := congrArg List.length hds
      rw [List.length_append, List.length_cons] at this
      omega
    simp only [sSeq, sIf, sRet, sRetN, sNext, sSetF, sSetN, sOwn, sExpr, sUnpF, sUnpN, sPar, sApp, sExt, sPutD, sAugF, sAugN, sFor, fVar, fC, fBin, fChain, fAnd, fOr, fNot, fIf, fTB, fTru, fAndT, fOrT, fNotT, fNil, fCons, fTup, fLst, fCall, fIsi, fSl, fNo, fPart, fNeg, fRev, fCallF, fLc, fRng1, fRng2, fSeq, fEnum, fJoin, fDictK, fDictT, vN, vF, startS, asB, asI, truD, isDict, isT, seqD, ownL, ownD, frAt, okM, exL, vw, oRev, List.map_cons, List.map_nil, List.length_cons, List.length_nil, List.replicate, List.cons_append, List.nil_append, List.append_nil, List.getElem?_cons_zero, List.getElem?_cons_succ, List.set_cons_zero, List.set_cons_succ, Option.map_some, Option.map_none, Option.bind_some, Option.bind_none, Sl.dat, Sl.frz, Nat.sub_self, Nat.reduceSub, Nat.reduceAdd, Bool.not_true, Bool.not_false, Bool.false_eq_true, if_true, if_false, reduceCtorEq, Nat.reduceLeDiff, true_and, cut_at, cut_to, cut_from, cut_fromA, Nat.zero_le, and_true, decide_true, setS, List.foldl_cons, List.foldl_nil, setE, wipeE, List.foldl_append, decide_false, Int.natCast_one, Int.natCast_zero, Int.cast_ofNat_Int, Int.reduceEq, oEqS, oNeS, oEqI, oNeI, oLtS, oLtI, oLeI, oGtI, oGeI, oAddS, oAddI', oAddT, oAddL, oLenS, oLenT, oLenL, oSlS, oSlT, oSlL, oSub, oTuple, oIx0, oIx1, oMulS, oMulI, oFdivI, oIsB, oIsntB, oIsN, oIsntN, isNone]
    refine qComp_map (fun t => .int (t.2 : Int)) (fun t _ => ⟨_, rfl, fun Q' q' => ?_⟩) ?_
    · simp only [sSeq, sIf, sRet, sRetN, sNext, sSetF, sSetN, sOwn, sExpr, sUnpF, sUnpN, sPar, sApp, sExt, sPutD, sAugF, sAugN, sFor, fVar, fC, fBin, fChain, fAnd, fOr, fNot, fIf, fTB, fTru, fAndT, fOrT, fNotT, fNil, fCons, fTup, fLst, fCall, fIsi, fSl, fNo, fPart, fNeg, fRev, fCallF, fLc, fRng1, fRng2, fSeq, fEnum, fJoin, fDictK, fDictT, vN, vF, startS, asB, asI, truD, isDict, isT, seqD, ownL, ownD, frAt, okM, exL, vw, oRev, List.map_cons, List.map_nil, List.length_cons, List.length_nil, List.replicate, List.cons_append, List.nil_append, List.append_nil, List.getElem?_cons_zero, List.getElem?_cons_succ, List.set_cons_zero, List.set_cons_succ, Option.map_some, Option.map_none, Option.bind_some, Option.bind_none, Sl.dat, Sl.frz, Nat.sub_self, Nat.reduceSub, Nat.reduceAdd, Bool.not_true, Bool.not_false, Bool.false_eq_true, if_true, if_false, reduceCtorEq, Nat.reduceLeDiff, true_and, cut_at, cut_to, cut_from, cut_fromA, Nat.zero_le, and_true, decide_true, setS, List.foldl_cons, List.foldl_nil, setE, wipeE, List.foldl_append, decide_false, Int.natCast_one, Int.natCast_zero, Int.cast_ofNat_Int, Int.reduceEq, oEqS, oNeS, oEqI, oNeI, oLtS, oLtI, oLeI, oGtI, oGeI, oAddS, oAddI', oAddT, oAddL, oLenS, oLenT, oLenL, oSlS, oSlT, oSlL, oSub, oTuple, oIx0, oIx1, oMulS, oMulI, oFdivI, oIsB, oIsntB, oIsN, oIsntN, isNone]; exact q'
    simp only [sSeq, sIf, sRet, sRetN, sNext, sSetF, sSetN, sOwn, sExpr, sUnpF, sUnpN, sPar, sApp, sExt, sPutD, sAugF, sAugN, sFor, fVar, fC, fBin, fChain, fAnd, fOr, fNot, fIf, fTB, fTru, fAndT, fOrT, fNotT, fNil, fCons, fTup, fLst, fCall, fIsi, fSl, fNo, fPart, fNeg, fRev, fCallF, fLc, fRng1, fRng2, fSeq, fEnum, fJoin, fDictK, fDictT, vN, vF, startS, asB, asI, truD, isDict, isT, seqD, ownL, ownD, frAt, okM, exL, vw, oRev, List.map_cons, List.map_nil, List.length_cons, List.length_nil, List.replicate, List.cons_append, List.nil_append, List.append_nil, List.getElem?_cons_zero, List.getElem?_cons_succ, List.set_cons_zero, List.set_cons_succ, Option.map_some, Option.map_none, Option.bind_some, Option.bind_none, Sl.dat, Sl.frz, Nat.sub_self, Nat.reduceSub, Nat.reduceAdd, Bool.not_true, Bool.not_false, Bool.false_eq_true, if_true, if_false, reduceCtorEq, Nat.reduceLeDiff, true_and, cut_at, cut_to, cut_from, cut_fromA, Nat.zero_le, and_true, decide_true, setS, List.foldl_cons, List.foldl_nil, setE, wipeE, List.foldl_append, decide_false, Int.natCast_one, Int.natCast_zero, Int.cast_ofNat_Int, Int.reduceEq, oEqS, oNeS, oEqI, oNeI, oLtS, oLtI, oLeI, oGtI, oGeI, oAddS, oAddI', oAddT, oAddL, oLenS, oLenT, oLenL, oSlS, oSlT, oSlL, oSub, oTuple, oIx0, oIx1, oMulS, oMulI, oFdivI, oIsB, oIsntB, oIsN, oIsntN, isNone]
    have e1 : ((steps R w').map fun t => PyData.int (t.2 : Int)) = ((steps R w').map fun t => t.2).map fun n : Nat => PyData.int (n : Int) := by rw [List.map_map]; rfl
    rw [e1]
    refine oMin_is (m := s.2) (List.mem_map.mpr ⟨s, hsm, rfl⟩) (fun t ht => ?_) ?_
    · obtain ⟨x, hx, rfl⟩ := List.mem_map.mp ht
      have := hle x hx
      omega
    refine qComp_filter (fun t => decide (t.2 = s.2)) stD (fun t _ => ⟨_, rfl, fun Q' q' => ?_, fun _ Q' q' => ?_⟩) ?_
    · simp only [sSeq, sIf, sRet, sRetN, sNext, sSetF, sSetN, sOwn, sExpr, sUnpF, sUnpN, sPar, sApp, sExt, sPutD, sAugF, sAugN, sFor, fVar, fC, fBin, fChain, fAnd, fOr, fNot, fIf, fTB, fTru, fAndT, fOrT, fNotT, fNil, fCons, fTup, fLst, fCall, fIsi, fSl, fNo, fPart, fNeg, fRev, fCallF, fLc, fRng1, fRng2, fSeq, fEnum, fJoin, fDictK, fDictT, vN, vF, startS, asB, asI, truD, isDict, isT, seqD, ownL, ownD, frAt, okM, exL, vw, oRev, List.map_cons, List.map_nil, List.length_cons, List.length_nil, List.replicate, List.cons_append, List.nil_append, List.append_nil, List.getElem?_cons_zero, List.getElem?_cons_succ, List.set_cons_zero, List.set_cons_succ, Option.map_some, Option.map_none, Option.bind_some, Option.bind_none, Sl.dat, Sl.frz, Nat.sub_self, Nat.reduceSub, Nat.reduceAdd, Bool.not_true, Bool.not_false, Bool.false_eq_true, if_true, if_false, reduceCtorEq, Nat.reduceLeDiff, true_and, cut_at, cut_to, cut_from, cut_fromA, Nat.zero_le, and_true, decide_true, setS, List.foldl_cons, List.foldl_nil, setE, wipeE, List.foldl_append, decide_false, Int.natCast_one, Int.natCast_zero, Int.cast_ofNat_Int, Int.reduceEq, oEqS, oNeS, oEqI, oNeI, oLtS, oLtI, oLeI, oGtI, oGeI, oAddS, oAddI', oAddT, oAddL, oLenS, oLenT, oLenL, oSlS, oSlT, oSlL, oSub, oTuple, oIx0, oIx1, oMulS, oMulI, oFdivI, oIsB, oIsntB, oIsN, oIsntN, isNone]
      have : (decide ((t.2 : Int) = (s.2 : Int))) = decide (t.2 = s.2) := by
        rw [Bool.eq_iff_iff, decide_eq_true_eq, decide_eq_true_eq]; omega
      rw [this]
      exact q'
    · simp only [sSeq, sIf, sRet, sRetN, sNext, sSetF, sSetN, sOwn, sExpr, sUnpF, sUnpN, sPar, sApp, sExt, sPutD, sAugF, sAugN, sFor, fVar, fC, fBin, fChain, fAnd, fOr, fNot, fIf, fTB, fTru, fAndT, fOrT, fNotT, fNil, fCons, fTup, fLst, fCall, fIsi, fSl, fNo, fPart, fNeg, fRev, fCallF, fLc, fRng1, fRng2, fSeq, fEnum, fJoin, fDictK, fDictT, vN, vF, startS, asB, asI, truD, isDict, isT, seqD, ownL, ownD, frAt, okM, exL, vw, oRev, List.map_cons, List.map_nil, List.length_cons, List.length_nil, List.replicate, List.cons_append, List.nil_append, List.append_nil, List.getElem?_cons_zero, List.getElem?_cons_succ, List.set_cons_zero, List.set_cons_succ, Option.map_some, Option.map_none, Option.bind_some, Option.bind_none, Sl.dat, Sl.frz, Nat.sub_self, Nat.reduceSub, Nat.reduceAdd, Bool.not_true, Bool.not_false, Bool.false_eq_true, if_true, if_false, reduceCtorEq, Nat.reduceLeDiff, true_and, cut_at, cut_to, cut_from, cut_fromA, Nat.zero_le, and_true, decide_true, setS, List.foldl_cons, List.foldl_nil, setE, wipeE, List.foldl_append, decide_false, Int.natCast_one, Int.natCast_zero, Int.cast_ofNat_Int, Int.reduceEq, oEqS, oNeS, oEqI, oNeI, oLtS, oLtI, oLeI, oGtI, oGeI, oAddS, oAddI', oAddT, oAddL, oLenS, oLenT, oLenL, oSlS, oSlT, oSlL, oSub, oTuple, oIx0, oIx1, oMulS, oMulI, oFdivI, oIsB, oIsntB, oIsN, oIsntN, isNone]; exact q'
    simp only [sSeq, sIf, sRet, sRetN, sNext, sSetF, sSetN, sOwn, sExpr, sUnpF, sUnpN, sPar, sApp, sExt, sPutD, sAugF, sAugN, sFor, fVar, fC, fBin, fChain, fAnd, fOr, fNot, fIf, fTB, fTru, fAndT, fOrT, fNotT, fNil, fCons, fTup, fLst, fCall, fIsi, fSl, fNo, fPart, fNeg, fRev, fCallF, fLc, fRng1, fRng2, fSeq, fEnum, fJoin, fDictK, fDictT, vN, vF, startS, asB, asI, truD, isDict, isT, seqD, ownL, ownD, frAt, okM, exL, vw, oRev, List.map_cons, List.map_nil, List.length_cons, List.length_nil, List.replicate, List.cons_append, List.nil_append, List.append_nil, List.getElem?_cons_zero, List.getElem?_cons_succ, List.set_cons_zero, List.set_cons_succ, Option.map_some, Option.map_none, Option.bind_some, Option.bind_none, Sl.dat, Sl.frz, Nat.sub_self, Nat.reduceSub, Nat.reduceAdd, Bool.not_true, Bool.not_false, Bool.false_eq_true, if_true, if_false, reduceCtorEq, Nat.reduceLeDiff, true_and, cut_at, cut_to, cut_from, cut_fromA, Nat.zero_le, and_true, decide_true, setS, List.foldl_cons, List.foldl_nil, setE, wipeE, List.foldl_append, decide_false, Int.natCast_one, Int.natCast_zero, Int.cast_ofNat_Int, Int.reduceEq, oEqS, oNeS, oEqI, oNeI, oLtS, oLtI, oLeI, oGtI, oGeI, oAddS, oAddI', oAddT, oAddL, oLenS, oLenT, oLenL, oSlS, oSlT, oSlL, oSub, oTuple, oIx0, oIx1, oMulS, oMulI, oFdivI, oIsB, oIsntB, oIsN, oIsntN, isNone]
    refine oMin_sts (s := s) (List.mem_filter.mpr ⟨hsm, by simp⟩) (fun t ht => ?_) ?_
    · have h1 := List.mem_filter.mp ht
      have := hle t h1.1
      have := of_decide_eq_true h1.2
      omega
    refine ⟨by rw [List.length_map]; omega, ?_⟩
    refine sp_after_of hg hw' ho ?_
    have hfl : flat (.tuple (done.map stD ++ [stD s])) = true := by
      have : ∀ l : List Stp, flat.flatAll (l.map stD) = true := by
        intro l
        induction l with
        | nil => rfl
        | cons x l ih => rw [List.map_cons, flat.flatAll, ih]; rfl
      have h := this (done ++ [s])
      rw [List.map_append] at h
      exact h
    have hl2 := rwS_len hg ho
    have e9 : done.map stD ++ [stD s] = (done ++ [s]).map stD := by simp
    refine ⟨hfl, rfl, ?_⟩
    rw [e9]
    exact hK rest.length _ (by simp) ⟨_, done ++ [s], rest, _, _, _, rfl, by omega, hr2, rfl, by simpa using hds⟩
end K68
set_option Elab.async false
set_option linter.all false
set_option maxRecDepth 100000
set_option maxHeartbeats 4000000
set_option autoImplicit false
namespace K68
open PySem L2 T2
/-! ### the same twice -/
mutual
def wide : D → Bool
  | .tuple xs => decide (xs.length ≤ 16000000) && wideAll xs
  | .list xs => decide (xs.length ≤ 16000000) && wideAll xs
  | _ => true
def wideAll : List D → Bool
  | [] => true
  | x :: xs => wide x && wideAll xs
end
def sp_same (n : Nat) : QSp := fun ds Q => ∃ d : D, ds = [d, d] ∧ d.plain = true ∧ d.depth < n ∧ wide d = true ∧ Q (.bool true)
theorem wide_at : ∀ {xs : List D} {i : Nat} {d : D}, wideAll xs = true → xs[i]? = some d → wide d = true
  | [], _, _, _, e => by simp at e
  | x :: xs, 0, d, h, e => by
    rw [wideAll, Bool.and_eq_true] at h
    simp at e; subst e; exact h.1
  | x :: xs, i + 1, d, h, e => by
    rw [wideAll, Bool.and_eq_true] at h
    exact wide_at h.2 (by simpa using e)
theorem depth_at : ∀ {xs : List D} {i : Nat} {d : D}, xs[i]? = some d → d.depth ≤ PyData.depthAll xs
  | [], _, _, e => by simp at e
  | x :: xs, 0, d, e => by
    simp at e; subst e
    rw [PyData.depthAll]; omega
  | x :: xs, i + 1, d, e => by
    have := depth_at (xs := xs) (i := i) (d := d) (by simpa using e)
    rw [PyData.depthAll]; omega
theorem all_true (n : Nat) : oAll [.list ((List.range n).map fun _ => .bool true)] = fun Q => oAll [.list ((List.range n).map fun _ => .bool true)] Q := rfl
theorem oAll_true {n : Nat} {Q : D → Prop} (q : Q (.bool true)) : oAll [.list ((List.range n).map fun _ => .bool true)] Q := by
  refine ⟨(List.range n).map fun _ => true, by rw [List.map_map]; rfl, ?_⟩
  have : ((List.range n).map fun _ => true).all id = true := by simp
  rw [this]
  exact q
theorem p__law_same (n : Nat) : Pure 3 (sp_same (n + 1)) (F__law_same (sp_same n)) := by
  rintro ds Q ⟨d, rfl, hd, hn, hw, q⟩
  have hdd := plain_dict hd
  cases d with
  | tuple xs =>
    have hp : PyData.plainAll xs = true := by simpa [PyData.plain] using hd
    have hw1 : xs.length ≤ 16000000 ∧ wideAll xs = true := by simpa [wide] using hw
    simp only [F__law_same, sSeq, sIf, sRet, sRetN, sNext, sSetF, sSetN, sOwn, sExpr, sUnpF, sUnpN, sPar, sApp, sExt, sPutD, sAugF, sAugN, sFor, fVar, fC, fBin, fChain, fAnd, fOr, fNot, fIf, fTB, fTru, fAndT, fOrT, fNotT, fNil, fCons, fTup, fLst, fCall, fIsi, fSl, fNo, fPart, fNeg, fRev, fCallF, fLc, fRng1, fRng2, fSeq, fEnum, fJoin, fDictK, fDictT, vN, vF, startS, asB, asI, truD, isDict, isT, seqD, ownL, ownD, frAt, okM, exL, vw, oRev, List.map_cons, List.map_nil, List.length_cons, List.length_nil, List.replicate, List.cons_append, List.nil_append, List.append_nil, List.getElem?_cons_zero, List.getElem?_cons_succ, List.set_cons_zero, List.set_cons_succ, Option.map_some, Option.map_none, Option.bind_some, Option.bind_none, Sl.dat, Sl.frz, Nat.sub_self, Nat.reduceSub, Nat.reduceAdd, Bool.not_true, Bool.not_false, Bool.false_eq_true, if_true, if_false, reduceCtorEq, Nat.reduceLeDiff, true_and, cut_at, cut_to, cut_from, cut_fromA, Nat.zero_le, and_true, decide_true, setS, List.foldl_cons, List.foldl_nil, setE, wipeE, List.foldl_append, decide_false, Int.natCast_one, Int.natCast_zero, Int.cast_ofNat_Int, Int.reduceEq, oEqS, oNeS, oEqI, oNeI, oLtS, oLtI, oLeI, oGtI, oGeI, oAddS, oAddI', oAddT, oAddL, oLenS, oLenT, oLenL, oSlS, oSlT, oSlL, oSub, oTuple, oIx0, oIx1, oMulS, oMulI, oFdivI, oIsB, oIsntB, oIsN, oIsntN, isNone, natsD_range]
    refine ⟨⟨by omega, by omega⟩, ?_⟩
    refine qComp_map (fun _ => .bool true) (fun i hi => ⟨_, rfl, fun Q' q' => ?_⟩) ?_
    · have hi := List.mem_range.mp hi
      have e : xs[i]? = some xs[i] := List.getElem?_eq_getElem hi
      simp only [sSeq, sIf, sRet, sRetN, sNext, sSetF, sSetN, sOwn, sExpr, sUnpF, sUnpN, sPar, sApp, sExt, sPutD, sAugF, sAugN, sFor, fVar, fC, fBin, fChain, fAnd, fOr, fNot, fIf, fTB, fTru, fAndT, fOrT, fNotT, fNil, fCons, fTup, fLst, fCall, fIsi, fSl, fNo, fPart, fNeg, fRev, fCallF, fLc, fRng1, fRng2, fSeq, fEnum, fJoin, fDictK, fDictT, vN, vF, startS, asB, asI, truD, isDict, isT, seqD, ownL, ownD, frAt, okM, exL, vw, oRev, List.map_cons, List.map_nil, List.length_cons, List.length_nil, List.replicate, List.cons_append, List.nil_append, List.append_nil, List.getElem?_cons_zero, List.getElem?_cons_succ, List.set_cons_zero, List.set_cons_succ, Option.map_some, Option.map_none, Option.bind_some, Option.bind_none, Sl.dat, Sl.frz, Nat.sub_self, Nat.reduceSub, Nat.reduceAdd, Bool.not_true, Bool.not_false, Bool.false_eq_true, if_true, if_false, reduceCtorEq, Nat.reduceLeDiff, true_and, cut_at, cut_to, cut_from, cut_fromA, Nat.zero_le, and_true, decide_true, setS, List.foldl_cons, List.foldl_nil, setE, wipeE, List.foldl_append, decide_false, Int.natCast_one, Int.natCast_zero, Int.cast_ofNat_Int, Int.reduceEq, oEqS, oNeS, oEqI, oNeI, oLtS, oLtI, oLeI, oGtI, oGeI, oAddS, oAddI', oAddT, oAddL, oLenS, oLenT, oLenL, oSlS, oSlT, oSlL, oSub, oTuple, oIx0, oIx1, oMulS, oMulI, oFdivI, oIsB, oIsntB, oIsN, oIsntN, isNone, oIxT e]
      refine ⟨xs[i], rfl, plain_at hp e, ?_, wide_at hw1.2 e, q'⟩
      have := depth_at e
      rw [PyData.depth] at hn
      omega
    · simp only [sSeq, sIf, sRet, sRetN, sNext, sSetF, sSetN, sOwn, sExpr, sUnpF, sUnpN, sPar, sApp, sExt, sPutD, sAugF, sAugN, sFor, fVar, fC, fBin, fChain, fAnd, fOr, fNot, fIf, fTB, fTru, fAndT, fOrT, fNotT, fNil, fCons, fTup, fLst, fCall, fIsi, fSl, fNo, fPart, fNeg, fRev, fCallF, fLc, fRng1, fRng2, fSeq, fEnum, fJoin, fDictK, fDictT, vN, vF, startS, asB, asI, truD, isDict, isT, seqD, ownL, ownD, frAt, okM, exL, vw, oRev, List.map_cons, List.map_nil, List.length_cons, List.length_nil, List.replicate, List.cons_append, List.nil_append, List.append_nil, List.getElem?_cons_zero, List.getElem?_cons_succ, List.set_cons_zero, List.set_cons_succ, Option.map_some, Option.map_none, Option.bind_some, Option.bind_none, Sl.dat, Sl.frz, Nat.sub_self, Nat.reduceSub, Nat.reduceAdd, Bool.not_true, Bool.not_false, Bool.false_eq_true, if_true, if_false, reduceCtorEq, Nat.reduceLeDiff, true_and, cut_at, cut_to, cut_from, cut_fromA, Nat.zero_le, and_true, decide_true, setS, List.foldl_cons, List.foldl_nil, setE, wipeE, List.foldl_append, decide_false, Int.natCast_one, Int.natCast_zero, Int.cast_ofNat_Int, Int.reduceEq, oEqS, oNeS, oEqI, oNeI, oLtS, oLtI, oLeI, oGtI, oGeI, oAddS, oAddI', oAddT, oAddL, oLenS, oLenT, oLenL, oSlS, oSlT, oSlL, oSub, oTuple, oIx0, oIx1, oMulS, oMulI, oFdivI, oIsB, oIsntB, oIsN, oIsntN, isNone]
      exact oAll_true q
  | list xs =>
    have hp : PyData.plainAll xs = true := by simpa [PyData.plain] using hd
    have hw1 : xs.length ≤ 16000000 ∧ wideAll xs = true := by simpa [wide] using hw
    simp only [F__law_same, sSeq, sIf, sRet, sRetN, sNext, sSetF, sSetN, sOwn, sExpr, sUnpF, sUnpN, sPar, sApp, sExt, sPutD, sAugF, sAugN, sFor, fVar, fC, fBin, fChain, fAnd, fOr, fNot, fIf, fTB, fTru, fAndT, fOrT, fNotT, fNil, fCons, fTup, fLst, fCall, fIsi, fSl, fNo, fPart, fNeg, fRev, fCallF, fLc, fRng1, fRng2, fSeq, fEnum, fJoin, fDictK, fDictT, vN, vF, startS, asB, asI, truD, isDict, isT, seqD, ownL, ownD, frAt, okM, exL, vw, oRev, List.map_cons, List.map_nil, List.length_cons, List.length_nil, List.replicate, List.cons_append, List.nil_append, List.append_nil, List.getElem?_cons_zero, List.getElem?_cons_succ, List.set_cons_zero, List.set_cons_succ, Option.map_some, Option.map_none, Option.bind_some, Option.bind_none, Sl.dat, Sl.frz, Nat.sub_self, Nat.reduceSub, Nat.reduceAdd, Bool.not_true, Bool.not_false, Bool.false_eq_true, if_true, if_false, reduceCtorEq, Nat.reduceLeDiff, true_and, cut_at, cut_to, cut_from, cut_fromA, Nat.zero_le, and_true, decide_true, setS, List.foldl_cons, List.foldl_nil, setE, wipeE, List.foldl_append, decide_false, Int.natCast_one, Int.natCast_zero, Int.cast_ofNat_Int, Int.reduceEq, oEqS, oNeS, oEqI, oNeI, oLtS, oLtI, oLeI, oGtI, oGeI, oAddS, oAddI', oAddT, oAddL, oLenS, oLenT, oLenL, oSlS, oSlT, oSlL, oSub, oTuple, oIx0, oIx1, oMulS, oMulI, oFdivI, oIsB, oIsntB, oIsN, oIsntN, isNone, natsD_range]
    refine ⟨⟨by omega, by omega⟩, ?_⟩
    refine qComp_map (fun _ => .bool true) (fun i hi => ⟨_, rfl, fun Q' q' => ?_⟩) ?_
    · have hi := List.mem_range.mp hi
      have e : xs[i]? = some xs[i] := List.getElem?_eq_getElem hi
      simp only [sSeq, sIf, sRet, sRetN, sNext, sSetF, sSetN, sOwn, sExpr, sUnpF, sUnpN, sPar, sApp, sExt, sPutD, sAugF, sAugN, sFor, fVar, fC, fBin, fChain, fAnd, fOr, fNot, fIf, fTB, fTru, fAndT, fOrT, fNotT, fNil, fCons, fTup, fLst, fCall, fIsi, fSl, fNo, fPart, fNeg, fRev, fCallF, fLc, fRng1, fRng2, fSeq, fEnum, fJoin, fDictK, fDictT, vN, vF, startS, asB, asI, truD, isDict, isT, seqD, ownL, ownD, frAt, okM, exL, vw, oRev, List.map_cons, List.map_nil, List.length_cons, List.length_nil, List.replicate, List.cons_append, List.nil_append, List.append_nil, List.getElem?_cons_zero, List.getElem?_cons_succ, List.set_cons_zero, List.set_cons_succ, Option.map_some, Option.map_none, Option.bind_some, Option.bind_none, Sl.dat, Sl.frz, Nat.sub_self, Nat.reduceSub, Nat.reduceAdd, Bool.not_true, Bool.not_false, Bool.false_eq_true, if_true, if_false, reduceCtorEq, Nat.reduceLeDiff, true_and, cut_at, cut_to, cut_from, cut_fromA, Nat.zero_le, and_true, decide_true, setS, List.foldl_cons, List.foldl_nil, setE, wipeE, List.foldl_append, decide_false, Int.natCast_one, Int.natCast_zero, Int.cast_ofNat_Int, Int.reduceEq, oEqS, oNeS, oEqI, oNeI, oLtS, oLtI, oLeI, oGtI, oGeI, oAddS, oAddI', oAddT, oAddL, oLenS, oLenT, oLenL, oSlS, oSlT, oSlL, oSub, oTuple, oIx0, oIx1, oMulS, oMulI, oFdivI, oIsB, oIsntB, oIsN, oIsntN, isNone, oIxL e]
      refine ⟨xs[i], rfl, plain_at hp e, ?_, wide_at hw1.2 e, q'⟩
      have := depth_at e
      rw [PyData.depth] at hn
      omega
    · simp only [sSeq, sIf, sRet, sRetN, sNext, sSetF, sSetN, sOwn, sExpr, sUnpF, sUnpN, sPar, sApp, sExt, sPutD, sAugF, sAugN, sFor, fVar, fC, fBin, fChain, fAnd, fOr, fNot, fIf, fTB, fTru, fAndT, fOrT, fNotT, fNil, fCons, fTup, fLst, fCall, fIsi, fSl, fNo, fPart, fNeg, fRev, fCallF, fLc, fRng1, fRng2, fSeq, fEnum, fJoin, fDictK, fDictT, vN, vF, startS, asB, asI, truD, isDict, isT, seqD, ownL, ownD, frAt, okM, exL, vw, oRev, List.map_cons, List.map_nil, List.length_cons, List.length_nil, List.replicate, List.cons_append, List.nil_append, List.append_nil, List.getElem?_cons_zero, List.getElem?_cons_succ, List.set_cons_zero, List.set_cons_succ, Option.map_some, Option.map_none, Option.bind_some, Option.bind_none, Sl.dat, Sl.frz, Nat.sub_self, Nat.reduceSub, Nat.reduceAdd, Bool.not_true, Bool.not_false, Bool.false_eq_true, if_true, if_false, reduceCtorEq, Nat.reduceLeDiff, true_and, cut_at, cut_to, cut_from, cut_fromA, Nat.zero_le, and_true, decide_true, setS, List.foldl_cons, List.foldl_nil, setE, wipeE, List.foldl_append, decide_false, Int.natCast_one, Int.natCast_zero, Int.cast_ofNat_Int, Int.reduceEq, oEqS, oNeS, oEqI, oNeI, oLtS, oLtI, oLeI, oGtI, oGeI, oAddS, oAddI', oAddT, oAddL, oLenS, oLenT, oLenL, oSlS, oSlT, oSlL, oSub, oTuple, oIx0, oIx1, oMulS, oMulI, oFdivI, oIsB, oIsntB, oIsN, oIsntN, isNone]
      exact oAll_true q
  | dict _ => simp [isDict] at hdd
  | none => simp only [F__law_same, sSeq, sIf, sRet, sRetN, sNext, sSetF, sSetN, sOwn, sExpr, sUnpF, sUnpN, sPar, sApp, sExt, sPutD, sAugF, sAugN, sFor, fVar, fC, fBin, fChain, fAnd, fOr, fNot, fIf, fTB, fTru, fAndT, fOrT, fNotT, fNil, fCons, fTup, fLst, fCall, fIsi, fSl, fNo, fPart, fNeg, fRev, fCallF, fLc, fRng1, fRng2, fSeq, fEnum, fJoin, fDictK, fDictT, vN, vF, startS, asB, asI, truD, isDict, isT, seqD, ownL, ownD, frAt, okM, exL, vw, oRev, List.map_cons, List.map_nil, List.length_cons, List.length_nil, List.replicate, List.cons_append, List.nil_append, List.append_nil, List.getElem?_cons_zero, List.getElem?_cons_succ, List.set_cons_zero, List.set_cons_succ, Option.map_some, Option.map_none, Option.bind_some, Option.bind_none, Sl.dat, Sl.frz, Nat.sub_self, Nat.reduceSub, Nat.reduceAdd, Bool.not_true, Bool.not_false, Bool.false_eq_true, if_true, if_false, reduceCtorEq, Nat.reduceLeDiff, true_and, cut_at, cut_to, cut_from, cut_fromA, Nat.zero_le, and_true, decide_true, setS, List.foldl_cons, List.foldl_nil, setE, wipeE, List.foldl_append, decide_false, Int.natCast_one, Int.natCast_zero, Int.cast_ofNat_Int, Int.reduceEq, oEqS, oNeS, oEqI, oNeI, oLtS, oLtI, oLeI, oGtI, oGeI, oAddS, oAddI', oAddT, oAddL, oLenS, oLenT, oLenL, oSlS, oSlT, oSlL, oSub, oTuple, oIx0, oIx1, oMulS, oMulI, oFdivI, oIsB, oIsntB, oIsN, oIsntN, isNone, oIs, isNone]; exact q
  | bool b =>
    simp only [F__law_same, sSeq, sIf, sRet, sRetN, sNext, sSetF, sSetN, sOwn, sExpr, sUnpF, sUnpN, sPar, sApp, sExt, sPutD, sAugF, sAugN, sFor, fVar, fC, fBin, fChain, fAnd, fOr, fNot, fIf, fTB, fTru, fAndT, fOrT, fNotT, fNil, fCons, fTup, fLst, fCall, fIsi, fSl, fNo, fPart, fNeg, fRev, fCallF, fLc, fRng1, fRng2, fSeq, fEnum, fJoin, fDictK, fDictT, vN, vF, startS, asB, asI, truD, isDict, isT, seqD, ownL, ownD, frAt, okM, exL, vw, oRev, List.map_cons, List.map_nil, List.length_cons, List.length_nil, List.replicate, List.cons_append, List.nil_append, List.append_nil, List.getElem?_cons_zero, List.getElem?_cons_succ, List.set_cons_zero, List.set_cons_succ, Option.map_some, Option.map_none, Option.bind_some, Option.bind_none, Sl.dat, Sl.frz, Nat.sub_self, Nat.reduceSub, Nat.reduceAdd, Bool.not_true, Bool.not_false, Bool.false_eq_true, if_true, if_false, reduceCtorEq, Nat.reduceLeDiff, true_and, cut_at, cut_to, cut_from, cut_fromA, Nat.zero_le, and_true, decide_true, setS, List.foldl_cons, List.foldl_nil, setE, wipeE, List.foldl_append, decide_false, Int.natCast_one, Int.natCast_zero, Int.cast_ofNat_Int, Int.reduceEq, oEqS, oNeS, oEqI, oNeI, oLtS, oLtI, oLeI, oGtI, oGeI, oAddS, oAddI', oAddT, oAddL, oLenS, oLenT, oLenL, oSlS, oSlT, oSlL, oSub, oTuple, oIx0, oIx1, oMulS, oMulI, oFdivI, oIsB, oIsntB, oIsN, oIsntN, isNone]
    exact oEq_ok rfl rfl (Nat.zero_le _) (eqv_self _ rfl) q
  | int b => simp only [F__law_same, sSeq, sIf, sRet, sRetN, sNext, sSetF, sSetN, sOwn, sExpr, sUnpF, sUnpN, sPar, sApp, sExt, sPutD, sAugF, sAugN, sFor, fVar, fC, fBin, fChain, fAnd, fOr, fNot, fIf, fTB, fTru, fAndT, fOrT, fNotT, fNil, fCons, fTup, fLst, fCall, fIsi, fSl, fNo, fPart, fNeg, fRev, fCallF, fLc, fRng1, fRng2, fSeq, fEnum, fJoin, fDictK, fDictT, vN, vF, startS, asB, asI, truD, isDict, isT, seqD, ownL, ownD, frAt, okM, exL, vw, oRev, List.map_cons, List.map_nil, List.length_cons, List.length_nil, List.replicate, List.cons_append, List.nil_append, List.append_nil, List.getElem?_cons_zero, List.getElem?_cons_succ, List.set_cons_zero, List.set_cons_succ, Option.map_some, Option.map_none, Option.bind_some, Option.bind_none, Sl.dat, Sl.frz, Nat.sub_self, Nat.reduceSub, Nat.reduceAdd, Bool.not_true, Bool.not_false, Bool.false_eq_true, if_true, if_false, reduceCtorEq, Nat.reduceLeDiff, true_and, cut_at, cut_to, cut_from, cut_fromA, Nat.zero_le, and_true, decide_true, setS, List.foldl_cons, List.foldl_nil, setE, wipeE, List.foldl_append, decide_false, Int.natCast_one, Int.natCast_zero, Int.cast_ofNat_Int, Int.reduceEq, oEqS, oNeS, oEqI, oNeI, oLtS, oLtI, oLeI, oGtI, oGeI, oAddS, oAddI', oAddT, oAddL, oLenS, oLenT, oLenL, oSlS, oSlT, oSlL, oSub, oTuple, oIx0, oIx1, oMulS, oMulI, oFdivI, oIsB, oIsntB, oIsN, oIsntN, isNone]; exact q
  | str b =>
    simp only [F__law_same, sSeq, sIf, sRet, sRetN, sNext, sSetF, sSetN, sOwn, sExpr, sUnpF, sUnpN, sPar, sApp, sExt, sPutD, sAugF, sAugN, sFor, fVar, fC, fBin, fChain, fAnd, fOr, fNot, fIf, fTB, fTru, fAndT, fOrT, fNotT, fNil, fCons, fTup, fLst, fCall, fIsi, fSl, fNo, fPart, fNeg, fRev, fCallF, fLc, fRng1, fRng2, fSeq, fEnum, fJoin, fDictK, fDictT, vN, vF, startS, asB, asI, truD, isDict, isT, seqD, ownL, ownD, frAt, okM, exL, vw, oRev, List.map_cons, List.map_nil, List.length_cons, List.length_nil, List.replicate, List.cons_append, List.nil_append, List.append_nil, List.getElem?_cons_zero, List.getElem?_cons_succ, List.set_cons_zero, List.set_cons_succ, Option.map_some, Option.map_none, Option.bind_some, Option.bind_none, Sl.dat, Sl.frz, Nat.sub_self, Nat.reduceSub, Nat.reduceAdd, Bool.not_true, Bool.not_false, Bool.false_eq_true, if_true, if_false, reduceCtorEq, Nat.reduceLeDiff, true_and, cut_at, cut_to, cut_from, cut_fromA, Nat.zero_le, and_true, decide_true, setS, List.foldl_cons, List.foldl_nil, setE, wipeE, List.foldl_append, decide_false, Int.natCast_one, Int.natCast_zero, Int.cast_ofNat_Int, Int.reduceEq, oEqS, oNeS, oEqI, oNeI, oLtS, oLtI, oLeI, oGtI, oGeI, oAddS, oAddI', oAddT, oAddL, oLenS, oLenT, oLenL, oSlS, oSlT, oSlL, oSub, oTuple, oIx0, oIx1, oMulS, oMulI, oFdivI, oIsB, oIsntB, oIsN, oIsntN, isNone]
    exact oEq_ok rfl rfl (Nat.zero_le _) (eqv_self _ rfl) q

/-! ### words, rules: what has form -/
def az (c : Nat) : Bool := isSub [c] [97, 98, 99, 100, 101, 102, 103, 104, 105, 106, 107, 108, 109, 110, 111, 112, 113, 114, 115, 116, 117, 118, 119, 120, 121, 122]
def isWo (w : Wo) : Bool := decide (w.length ≤ 60) && w.all az
def isWord : D → Bool
  | .str x => isWo x.cps.toList
  | _ => false
def sp_is_word : QSp := fun ds Q => ∃ d : D, ds = [d] ∧ d.plain = true ∧ Q (.bool (isWord d))
theorem oIn_str (c : Nat) (w : Wo) (Q : D → Prop) : oIn (sD [c]) (sD w) Q = Q (.bool (isSub [c] w)) := by
  unfold oIn
  exact propext ⟨fun ⟨x, e, q⟩ => by injection e with e; subst e; exact q, fun q => ⟨_, rfl, q⟩⟩
theorem oAll_map {α : Type} {xs : List α} {f : α → Bool} {Q : D → Prop} (q : Q (.bool (xs.all f))) : oAll [.list (xs.map fun x => .bool (f x))] Q := by
  refine ⟨xs.map f, by rw [List.map_map]; rfl, ?_⟩
  have : (xs.map f).all id = xs.all f := by simp [List.all_map]
  rw [this]
  exact q
theorem p_is_word : Pure 2 sp_is_word F_is_word := by
  rintro ds Q ⟨d, rfl, hd, q⟩
  have hdd := plain_dict hd
  cases d with
  | str x =>
    obtain ⟨w, rfl⟩ : ∃ w : Wo, x = ⟨w.toArray⟩ := ⟨x.cps.toList, by cases x; rfl⟩
    simp only [F_is_word, sSeq, sIf, sRet, sRetN, sNext, sSetF, sSetN, sOwn, sExpr, sUnpF, sUnpN, sPar, sApp, sExt, sPutD, sAugF, sAugN, sFor, fVar, fC, fBin, fChain, fAnd, fOr, fNot, fIf, fTB, fTru, fAndT, fOrT, fNotT, fNil, fCons, fTup, fLst, fCall, fIsi, fSl, fNo, fPart, fNeg, fRev, fCallF, fLc, fRng1, fRng2, fSeq, fEnum, fJoin, fDictK, fDictT, vN, vF, startS, asB, asI, truD, isDict, isT, seqD, ownL, ownD, frAt, okM, exL, vw, oRev, List.map_cons, List.map_nil, List.length_cons, List.length_nil, List.replicate, List.cons_append, List.nil_append, List.append_nil, List.getElem?_cons_zero, List.getElem?_cons_succ, List.set_cons_zero, List.set_cons_succ, Option.map_some, Option.map_none, Option.bind_some, Option.bind_none, Sl.dat, Sl.frz, Nat.sub_self, Nat.reduceSub, Nat.reduceAdd, Bool.not_true, Bool.not_false, Bool.false_eq_true, if_true, if_false, reduceCtorEq, Nat.reduceLeDiff, true_and, cut_at, cut_to, cut_from, cut_fromA, Nat.zero_le, and_true, decide_true, setS, List.foldl_cons, List.foldl_nil, setE, wipeE, List.foldl_append, decide_false, Int.natCast_one, Int.natCast_zero, Int.cast_ofNat_Int, Int.reduceEq, oEqS, oNeS, oEqI, oNeI, oLtS, oLtI, oLeI, oGtI, oGeI, oAddS, oAddI', oAddT, oAddL, oLenS, oLenT, oLenL, oSlS, oSlT, oSlL, oSub, oTuple, oIx0, oIx1, oMulS, oMulI, oFdivI, oIsB, oIsntB, oIsN, oIsntN, isNone, signsD]
    have q' : Q (.bool (isWo w)) := q
    unfold isWo at q'
    by_cases h : (w.length : Int) ≤ 60
    · have h2 : w.length ≤ 60 := by omega
      simp only [h, h2, sSeq, sIf, sRet, sRetN, sNext, sSetF, sSetN, sOwn, sExpr, sUnpF, sUnpN, sPar, sApp, sExt, sPutD, sAugF, sAugN, sFor, fVar, fC, fBin, fChain, fAnd, fOr, fNot, fIf, fTB, fTru, fAndT, fOrT, fNotT, fNil, fCons, fTup, fLst, fCall, fIsi, fSl, fNo, fPart, fNeg, fRev, fCallF, fLc, fRng1, fRng2, fSeq, fEnum, fJoin, fDictK, fDictT, vN, vF, startS, asB, asI, truD, isDict, isT, seqD, ownL, ownD, frAt, okM, exL, vw, oRev, List.map_cons, List.map_nil, List.length_cons, List.length_nil, List.replicate, List.cons_append, List.nil_append, List.append_nil, List.getElem?_cons_zero, List.getElem?_cons_succ, List.set_cons_zero, List.set_cons_succ, Option.map_some, Option.map_none, Option.bind_some, Option.bind_none, Sl.dat, Sl.frz, Nat.sub_self, Nat.reduceSub, Nat.reduceAdd, Bool.not_true, Bool.not_false, Bool.false_eq_true, if_true, if_false, reduceCtorEq, Nat.reduceLeDiff, true_and, cut_at, cut_to, cut_from, cut_fromA, Nat.zero_le, and_true, decide_true, setS, List.foldl_cons, List.foldl_nil, setE, wipeE, List.foldl_append, decide_false, Int.natCast_one, Int.natCast_zero, Int.cast_ofNat_Int, Int.reduceEq, oEqS, oNeS, oEqI, oNeI, oLtS, oLtI, oLeI, oGtI, oGeI, oAddS, oAddI', oAddT, oAddL, oLenS, oLenT, oLenL, oSlS, oSlT, oSlL, oSub, oTuple, oIx0, oIx1, oMulS, oMulI, oFdivI, oIsB, oIsntB, oIsN, oIsntN, isNone, Bool.true_and] at q' ⊢
      refine qComp_map (fun c => .bool (az c)) (fun c _ => ⟨_, rfl, fun Q' q' => ?_⟩) ?_
      · simp only [sSeq, sIf, sRet, sRetN, sNext, sSetF, sSetN, sOwn, sExpr, sUnpF, sUnpN, sPar, sApp, sExt, sPutD, sAugF, sAugN, sFor, fVar, fC, fBin, fChain, fAnd, fOr, fNot, fIf, fTB, fTru, fAndT, fOrT, fNotT, fNil, fCons, fTup, fLst, fCall, fIsi, fSl, fNo, fPart, fNeg, fRev, fCallF, fLc, fRng1, fRng2, fSeq, fEnum, fJoin, fDictK, fDictT, vN, vF, startS, asB, asI, truD, isDict, isT, seqD, ownL, ownD, frAt, okM, exL, vw, oRev, List.map_cons, List.map_nil, List.length_cons, List.length_nil, List.replicate, List.cons_append, List.nil_append, List.append_nil, List.getElem?_cons_zero, List.getElem?_cons_succ, List.set_cons_zero, List.set_cons_succ, Option.map_some, Option.map_none, Option.bind_some, Option.bind_none, Sl.dat, Sl.frz, Nat.sub_self, Nat.reduceSub, Nat.reduceAdd, Bool.not_true, Bool.not_false, Bool.false_eq_true, if_true, if_false, reduceCtorEq, Nat.reduceLeDiff, true_and, cut_at, cut_to, cut_from, cut_fromA, Nat.zero_le, and_true, decide_true, setS, List.foldl_cons, List.foldl_nil, setE, wipeE, List.foldl_append, decide_false, Int.natCast_one, Int.natCast_zero, Int.cast_ofNat_Int, Int.reduceEq, oEqS, oNeS, oEqI, oNeI, oLtS, oLtI, oLeI, oGtI, oGeI, oAddS, oAddI', oAddT, oAddL, oLenS, oLenT, oLenL, oSlS, oSlT, oSlL, oSub, oTuple, oIx0, oIx1, oMulS, oMulI, oFdivI, oIsB, oIsntB, oIsN, oIsntN, isNone, oIn_str]; exact q'
      · simp only [sSeq, sIf, sRet, sRetN, sNext, sSetF, sSetN, sOwn, sExpr, sUnpF, sUnpN, sPar, sApp, sExt, sPutD, sAugF, sAugN, sFor, fVar, fC, fBin, fChain, fAnd, fOr, fNot, fIf, fTB, fTru, fAndT, fOrT, fNotT, fNil, fCons, fTup, fLst, fCall, fIsi, fSl, fNo, fPart, fNeg, fRev, fCallF, fLc, fRng1, fRng2, fSeq, fEnum, fJoin, fDictK, fDictT, vN, vF, startS, asB, asI, truD, isDict, isT, seqD, ownL, ownD, frAt, okM, exL, vw, oRev, List.map_cons, List.map_nil, List.length_cons, List.length_nil, List.replicate, List.cons_append, List.nil_append, List.append_nil, List.getElem?_cons_zero, List.getElem?_cons_succ, List.set_cons_zero, List.set_cons_succ, Option.map_some, Option.map_none, Option.bind_some, Option.bind_none, Sl.dat, Sl.frz, Nat.sub_self, Nat.reduceSub, Nat.reduceAdd, Bool.not_true, Bool.not_false, Bool.false_eq_true, if_true, if_false, reduceCtorEq, Nat.reduceLeDiff, true_and, cut_at, cut_to, cut_from, cut_fromA, Nat.zero_le, and_true, decide_true, setS, List.foldl_cons, List.foldl_nil, setE, wipeE, List.foldl_append, decide_false, Int.natCast_one, Int.natCast_zero, Int.cast_ofNat_Int, Int.reduceEq, oEqS, oNeS, oEqI, oNeI, oLtS, oLtI, oLeI, oGtI, oGeI, oAddS, oAddI', oAddT, oAddL, oLenS, oLenT, oLenL, oSlS, oSlT, oSlL, oSub, oTuple, oIx0, oIx1, oMulS, oMulI, oFdivI, oIsB, oIsntB, oIsN, oIsntN, isNone]; exact oAll_map q'
    · have h2 : ¬ w.length ≤ 60 := by omega
      simp only [h, h2, sSeq, sIf, sRet, sRetN, sNext, sSetF, sSetN, sOwn, sExpr, sUnpF, sUnpN, sPar, sApp, sExt, sPutD, sAugF, sAugN, sFor, fVar, fC, fBin, fChain, fAnd, fOr, fNot, fIf, fTB, fTru, fAndT, fOrT, fNotT, fNil, fCons, fTup, fLst, fCall, fIsi, fSl, fNo, fPart, fNeg, fRev, fCallF, fLc, fRng1, fRng2, fSeq, fEnum, fJoin, fDictK, fDictT, vN, vF, startS, asB, asI, truD, isDict, isT, seqD, ownL, ownD, frAt, okM, exL, vw, oRev, List.map_cons, List.map_nil, List.length_cons, List.length_nil, List.replicate, List.cons_append, List.nil_append, List.append_nil, List.getElem?_cons_zero, List.getElem?_cons_succ, List.set_cons_zero, List.set_cons_succ, Option.map_some, Option.map_none, Option.bind_some, Option.bind_none, Sl.dat, Sl.frz, Nat.sub_self, Nat.reduceSub, Nat.reduceAdd, Bool.not_true, Bool.not_false, Bool.false_eq_true, if_true, if_false, reduceCtorEq, Nat.reduceLeDiff, true_and, cut_at, cut_to, cut_from, cut_fromA, Nat.zero_le, and_true, decide_true, setS, List.foldl_cons, List.foldl_nil, setE, wipeE, List.foldl_append, decide_false, Int.natCast_one, Int.natCast_zero, Int.cast_ofNat_Int, Int.reduceEq, oEqS, oNeS, oEqI, oNeI, oLtS, oLtI, oLeI, oGtI, oGeI, oAddS, oAddI', oAddT, oAddL, oLenS, oLenT, oLenL, oSlS, oSlT, oSlL, oSub, oTuple, oIx0, oIx1, oMulS, oMulI, oFdivI, oIsB, oIsntB, oIsN, oIsntN, isNone, Bool.false_and] at q' ⊢
      exact q'
  | dict _ => simp [isDict] at hdd
  | _ => simp only [F_is_word, sSeq, sIf, sRet, sRetN, sNext, sSetF, sSetN, sOwn, sExpr, sUnpF, sUnpN, sPar, sApp, sExt, sPutD, sAugF, sAugN, sFor, fVar, fC, fBin, fChain, fAnd, fOr, fNot, fIf, fTB, fTru, fAndT, fOrT, fNotT, fNil, fCons, fTup, fLst, fCall, fIsi, fSl, fNo, fPart, fNeg, fRev, fCallF, fLc, fRng1, fRng2, fSeq, fEnum, fJoin, fDictK, fDictT, vN, vF, startS, asB, asI, truD, isDict, isT, seqD, ownL, ownD, frAt, okM, exL, vw, oRev, List.map_cons, List.map_nil, List.length_cons, List.length_nil, List.replicate, List.cons_append, List.nil_append, List.append_nil, List.getElem?_cons_zero, List.getElem?_cons_succ, List.set_cons_zero, List.set_cons_succ, Option.map_some, Option.map_none, Option.bind_some, Option.bind_none, Sl.dat, Sl.frz, Nat.sub_self, Nat.reduceSub, Nat.reduceAdd, Bool.not_true, Bool.not_false, Bool.false_eq_true, if_true, if_false, reduceCtorEq, Nat.reduceLeDiff, true_and, cut_at, cut_to, cut_from, cut_fromA, Nat.zero_le, and_true, decide_true, setS, List.foldl_cons, List.foldl_nil, setE, wipeE, List.foldl_append, decide_false, Int.natCast_one, Int.natCast_zero, Int.cast_ofNat_Int, Int.reduceEq, oEqS, oNeS, oEqI, oNeI, oLtS, oLtI, oLeI, oGtI, oGeI, oAddS, oAddI', oAddT, oAddL, oLenS, oLenT, oLenL, oSlS, oSlT, oSlL, oSub, oTuple, oIx0, oIx1, oMulS, oMulI, oFdivI, oIsB, oIsntB, oIsN, oIsntN, isNone, isWord] at q ⊢; exact q
/-- a rule that has form -/
def isRu (r : Rule) : Bool := isWo r.1 && isWo r.2 && decide (1 ≤ r.1.length) && decide (r.1.length ≤ 12) && wlt r.2 r.1
def ruOf : D → Option Rule
  | .tuple [.str x, .str y] => some (x.cps.toList, y.cps.toList)
  | _ => none
def isRuleD (d : D) : Bool := match ruOf d with
  | some r => isRu r
  | none => false
theorem ruOf_eq {d : D} {r : Rule} (h : ruOf d = some r) : d = ruD r := by
  unfold ruOf at h
  split at h
  · rename_i x y
    cases h
    cases x; cases y; rfl
  · cases h
theorem ruOf_ru (r : Rule) : ruOf (ruD r) = some r := rfl
def sp_is_rule : QSp := fun ds Q => ∃ d : D, ds = [d] ∧ d.plain = true ∧ Q (.bool (isRuleD d))
theorem p_is_rule : Pure 1 sp_is_rule (F_is_rule sp_wlt sp_is_word) := by
  rintro ds Q ⟨d, rfl, hd, q⟩
  have hdd := plain_dict hd
  cases d with
  | tuple xs =>
    match xs with
    | [] => simp only [F_is_rule, sSeq, sIf, sRet, sRetN, sNext, sSetF, sSetN, sOwn, sExpr, sUnpF, sUnpN, sPar, sApp, sExt, sPutD, sAugF, sAugN, sFor, fVar, fC, fBin, fChain, fAnd, fOr, fNot, fIf, fTB, fTru, fAndT, fOrT, fNotT, fNil, fCons, fTup, fLst, fCall, fIsi, fSl, fNo, fPart, fNeg, fRev, fCallF, fLc, fRng1, fRng2, fSeq, fEnum, fJoin, fDictK, fDictT, vN, vF, startS, asB, asI, truD, isDict, isT, seqD, ownL, ownD, frAt, okM, exL, vw, oRev, List.map_cons, List.map_nil, List.length_cons, List.length_nil, List.replicate, List.cons_append, List.nil_append, List.append_nil, List.getElem?_cons_zero, List.getElem?_cons_succ, List.set_cons_zero, List.set_cons_succ, Option.map_some, Option.map_none, Option.bind_some, Option.bind_none, Sl.dat, Sl.frz, Nat.sub_self, Nat.reduceSub, Nat.reduceAdd, Bool.not_true, Bool.not_false, Bool.false_eq_true, if_true, if_false, reduceCtorEq, Nat.reduceLeDiff, true_and, cut_at, cut_to, cut_from, cut_fromA, Nat.zero_le, and_true, decide_true, setS, List.foldl_cons, List.foldl_nil, setE, wipeE, List.foldl_append, decide_false, Int.natCast_one, Int.natCast_zero, Int.cast_ofNat_Int, Int.reduceEq, oEqS, oNeS, oEqI, oNeI, oLtS, oLtI, oLeI, oGtI, oGeI, oAddS, oAddI', oAddT, oAddL, oLenS, oLenT, oLenL, oSlS, oSlT, oSlL, oSub, oTuple, oIx0, oIx1, oMulS, oMulI, oFdivI, oIsB, oIsntB, oIsN, oIsntN, isNone]; exact q
    | [x] =>
      have hf : isRuleD (.tuple [x]) = false := by cases x <;> rfl
      rw [hf] at q
      simp only [F_is_rule, sSeq, sIf, sRet, sRetN, sNext, sSetF, sSetN, sOwn, sExpr, sUnpF, sUnpN, sPar, sApp, sExt, sPutD, sAugF, sAugN, sFor, fVar, fC, fBin, fChain, fAnd, fOr, fNot, fIf, fTB, fTru, fAndT, fOrT, fNotT, fNil, fCons, fTup, fLst, fCall, fIsi, fSl, fNo, fPart, fNeg, fRev, fCallF, fLc, fRng1, fRng2, fSeq, fEnum, fJoin, fDictK, fDictT, vN, vF, startS, asB, asI, truD, isDict, isT, seqD, ownL, ownD, frAt, okM, exL, vw, oRev, List.map_cons, List.map_nil, List.length_cons, List.length_nil, List.replicate, List.cons_append, List.nil_append, List.append_nil, List.getElem?_cons_zero, List.getElem?_cons_succ, List.set_cons_zero, List.set_cons_succ, Option.map_some, Option.map_none, Option.bind_some, Option.bind_none, Sl.dat, Sl.frz, Nat.sub_self, Nat.reduceSub, Nat.reduceAdd, Bool.not_true, Bool.not_false, Bool.false_eq_true, if_true, if_false, reduceCtorEq, Nat.reduceLeDiff, true_and, cut_at, cut_to, cut_from, cut_fromA, Nat.zero_le, and_true, decide_true, setS, List.foldl_cons, List.foldl_nil, setE, wipeE, List.foldl_append, decide_false, Int.natCast_one, Int.natCast_zero, Int.cast_ofNat_Int, Int.reduceEq, oEqS, oNeS, oEqI, oNeI, oLtS, oLtI, oLeI, oGtI, oGeI, oAddS, oAddI', oAddT, oAddL, oLenS, oLenT, oLenL, oSlS, oSlT, oSlL, oSub, oTuple, oIx0, oIx1, oMulS, oMulI, oFdivI, oIsB, oIsntB, oIsN, oIsntN, isNone]
      exact q
    | x :: y :: z :: xs =>
      have : ¬ (((xs.length + 1 + 1 + 1 : Nat) : Int) = 2) := by omega
      have hf : isRuleD (.tuple (x :: y :: z :: xs)) = false := by simp [isRuleD, ruOf]
      rw [hf] at q
      simp only [F_is_rule, sSeq, sIf, sRet, sRetN, sNext, sSetF, sSetN, sOwn, sExpr, sUnpF, sUnpN, sPar, sApp, sExt, sPutD, sAugF, sAugN, sFor, fVar, fC, fBin, fChain, fAnd, fOr, fNot, fIf, fTB, fTru, fAndT, fOrT, fNotT, fNil, fCons, fTup, fLst, fCall, fIsi, fSl, fNo, fPart, fNeg, fRev, fCallF, fLc, fRng1, fRng2, fSeq, fEnum, fJoin, fDictK, fDictT, vN, vF, startS, asB, asI, truD, isDict, isT, seqD, ownL, ownD, frAt, okM, exL, vw, oRev, List.map_cons, List.map_nil, List.length_cons, List.length_nil, List.replicate, List.cons_append, List.nil_append, List.append_nil, List.getElem?_cons_zero, List.getElem?_cons_succ, List.set_cons_zero, List.set_cons_succ, Option.map_some, Option.map_none, Option.bind_some, Option.bind_none, Sl.dat, Sl.frz, Nat.sub_self, Nat.reduceSub, Nat.reduceAdd, Bool.not_true, Bool.not_false, Bool.false_eq_true, if_true, if_false, reduceCtorEq, Nat.reduceLeDiff, true_and, cut_at, cut_to, cut_from, cut_fromA, Nat.zero_le, and_true, decide_true, setS, List.foldl_cons, List.foldl_nil, setE, wipeE, List.foldl_append, decide_false, Int.natCast_one, Int.natCast_zero, Int.cast_ofNat_Int, Int.reduceEq, oEqS, oNeS, oEqI, oNeI, oLtS, oLtI, oLeI, oGtI, oGeI, oAddS, oAddI', oAddT, oAddL, oLenS, oLenT, oLenL, oSlS, oSlT, oSlL, oSub, oTuple, oIx0, oIx1, oMulS, oMulI, oFdivI, oIsB, oIsntB, oIsN, oIsntN, isNone, this]
      exact q
    | [x, y] =>
      have hp : x.plain = true ∧ y.plain = true := by simpa [PyData.plain, PyData.plainAll] using hd
      simp only [F_is_rule, sSeq, sIf, sRet, sRetN, sNext, sSetF, sSetN, sOwn, sExpr, sUnpF, sUnpN, sPar, sApp, sExt, sPutD, sAugF, sAugN, sFor, fVar, fC, fBin, fChain, fAnd, fOr, fNot, fIf, fTB, fTru, fAndT, fOrT, fNotT, fNil, fCons, fTup, fLst, fCall, fIsi, fSl, fNo, fPart, fNeg, fRev, fCallF, fLc, fRng1, fRng2, fSeq, fEnum, fJoin, fDictK, fDictT, vN, vF, startS, asB, asI, truD, isDict, isT, seqD, ownL, ownD, frAt, okM, exL, vw, oRev, List.map_cons, List.map_nil, List.length_cons, List.length_nil, List.replicate, List.cons_append, List.nil_append, List.append_nil, List.getElem?_cons_zero, List.getElem?_cons_succ, List.set_cons_zero, List.set_cons_succ, Option.map_some, Option.map_none, Option.bind_some, Option.bind_none, Sl.dat, Sl.frz, Nat.sub_self, Nat.reduceSub, Nat.reduceAdd, Bool.not_true, Bool.not_false, Bool.false_eq_true, if_true, if_false, reduceCtorEq, Nat.reduceLeDiff, true_and, cut_at, cut_to, cut_from, cut_fromA, Nat.zero_le, and_true, decide_true, setS, List.foldl_cons, List.foldl_nil, setE, wipeE, List.foldl_append, decide_false, Int.natCast_one, Int.natCast_zero, Int.cast_ofNat_Int, Int.reduceEq, oEqS, oNeS, oEqI, oNeI, oLtS, oLtI, oLeI, oGtI, oGeI, oAddS, oAddI', oAddT, oAddL, oLenS, oLenT, oLenL, oSlS, oSlT, oSlL, oSub, oTuple, oIx0, oIx1, oMulS, oMulI, oFdivI, oIsB, oIsntB, oIsN, oIsntN, isNone]
      refine ⟨x, rfl, hp.1, ?_⟩
      cases h1 : isWord x with
      | false =>
        have hf : isRuleD (.tuple [x, y]) = false := by
          cases x <;> cases y <;> simp [isRuleD, ruOf, isRu]
          simp only [isWord] at h1
          rw [h1]; simp
        rw [hf] at q
        simp only [sSeq, sIf, sRet, sRetN, sNext, sSetF, sSetN, sOwn, sExpr, sUnpF, sUnpN, sPar, sApp, sExt, sPutD, sAugF, sAugN, sFor, fVar, fC, fBin, fChain, fAnd, fOr, fNot, fIf, fTB, fTru, fAndT, fOrT, fNotT, fNil, fCons, fTup, fLst, fCall, fIsi, fSl, fNo, fPart, fNeg, fRev, fCallF, fLc, fRng1, fRng2, fSeq, fEnum, fJoin, fDictK, fDictT, vN, vF, startS, asB, asI, truD, isDict, isT, seqD, ownL, ownD, frAt, okM, exL, vw, oRev, List.map_cons, List.map_nil, List.length_cons, List.length_nil, List.replicate, List.cons_append, List.nil_append, List.append_nil, List.getElem?_cons_zero, List.getElem?_cons_succ, List.set_cons_zero, List.set_cons_succ, Option.map_some, Option.map_none, Option.bind_some, Option.bind_none, Sl.dat, Sl.frz, Nat.sub_self, Nat.reduceSub, Nat.reduceAdd, Bool.not_true, Bool.not_false, Bool.false_eq_true, if_true, if_false, reduceCtorEq, Nat.reduceLeDiff, true_and, cut_at, cut_to, cut_from, cut_fromA, Nat.zero_le, and_true, decide_true, setS, List.foldl_cons, List.foldl_nil, setE, wipeE, List.foldl_append, decide_false, Int.natCast_one, Int.natCast_zero, Int.cast_ofNat_Int, Int.reduceEq, oEqS, oNeS, oEqI, oNeI, oLtS, oLtI, oLeI, oGtI, oGeI, oAddS, oAddI', oAddT, oAddL, oLenS, oLenT, oLenL, oSlS, oSlT, oSlL, oSub, oTuple, oIx0, oIx1, oMulS, oMulI, oFdivI, oIsB, oIsntB, oIsN, oIsntN, isNone]
        exact q
      | true =>
        simp only [sSeq, sIf, sRet, sRetN, sNext, sSetF, sSetN, sOwn, sExpr, sUnpF, sUnpN, sPar, sApp, sExt, sPutD, sAugF, sAugN, sFor, fVar, fC, fBin, fChain, fAnd, fOr, fNot, fIf, fTB, fTru, fAndT, fOrT, fNotT, fNil, fCons, fTup, fLst, fCall, fIsi, fSl, fNo, fPart, fNeg, fRev, fCallF, fLc, fRng1, fRng2, fSeq, fEnum, fJoin, fDictK, fDictT, vN, vF, startS, asB, asI, truD, isDict, isT, seqD, ownL, ownD, frAt, okM, exL, vw, oRev, List.map_cons, List.map_nil, List.length_cons, List.length_nil, List.replicate, List.cons_append, List.nil_append, List.append_nil, List.getElem?_cons_zero, List.getElem?_cons_succ, List.set_cons_zero, List.set_cons_succ, Option.map_some, Option.map_none, Option.bind_some, Option.bind_none, Sl.dat, Sl.frz, Nat.sub_self, Nat.reduceSub, Nat.reduceAdd, Bool.not_true, Bool.not_false, Bool.false_eq_true, if_true, if_false, reduceCtorEq, Nat.reduceLeDiff, true_and, cut_at, cut_to, cut_from, cut_fromA, Nat.zero_le, and_true, decide_true, setS, List.foldl_cons, List.foldl_nil, setE, wipeE, List.foldl_append, decide_false, Int.natCast_one, Int.natCast_zero, Int.cast_ofNat_Int, Int.reduceEq, oEqS, oNeS, oEqI, oNeI, oLtS, oLtI, oLeI, oGtI, oGeI, oAddS, oAddI', oAddT, oAddL, oLenS, oLenT, oLenL, oSlS, oSlT, oSlL, oSub, oTuple, oIx0, oIx1, oMulS, oMulI, oFdivI, oIsB, oIsntB, oIsN, oIsntN, isNone]
        refine ⟨y, rfl, hp.2, ?_⟩
        cases h2 : isWord y with
        | false =>
          have hf : isRuleD (.tuple [x, y]) = false := by
            cases x <;> cases y <;> simp [isRuleD, ruOf, isRu]
            simp only [isWord] at h2
            intro _ z
            rw [h2] at z
            cases z
          rw [hf] at q
          simp only [sSeq, sIf, sRet, sRetN, sNext, sSetF, sSetN, sOwn, sExpr, sUnpF, sUnpN, sPar, sApp, sExt, sPutD, sAugF, sAugN, sFor, fVar, fC, fBin, fChain, fAnd, fOr, fNot, fIf, fTB, fTru, fAndT, fOrT, fNotT, fNil, fCons, fTup, fLst, fCall, fIsi, fSl, fNo, fPart, fNeg, fRev, fCallF, fLc, fRng1, fRng2, fSeq, fEnum, fJoin, fDictK, fDictT, vN, vF, startS, asB, asI, truD, isDict, isT, seqD, ownL, ownD, frAt, okM, exL, vw, oRev, List.map_cons, List.map_nil, List.length_cons, List.length_nil, List.replicate, List.cons_append, List.nil_append, List.append_nil, List.getElem?_cons_zero, List.getElem?_cons_succ, List.set_cons_zero, List.set_cons_succ, Option.map_some, Option.map_none, Option.bind_some, Option.bind_none, Sl.dat, Sl.frz, Nat.sub_self, Nat.reduceSub, Nat.reduceAdd, Bool.not_true, Bool.not_false, Bool.false_eq_true, if_true, if_false, reduceCtorEq, Nat.reduceLeDiff, true_and, cut_at, cut_to, cut_from, cut_fromA, Nat.zero_le, and_true, decide_true, setS, List.foldl_cons, List.foldl_nil, setE, wipeE, List.foldl_append, decide_false, Int.natCast_one, Int.natCast_zero, Int.cast_ofNat_Int, Int.reduceEq, oEqS, oNeS, oEqI, oNeI, oLtS, oLtI, oLeI, oGtI, oGeI, oAddS, oAddI', oAddT, oAddL, oLenS, oLenT, oLenL, oSlS, oSlT, oSlL, oSub, oTuple, oIx0, oIx1, oMulS, oMulI, oFdivI, oIsB, oIsntB, oIsN, oIsntN, isNone]
          exact q
        | true =>
          cases x with
          | str x =>
            cases y with
            | str y =>
              obtain ⟨u, rfl⟩ : ∃ w : Wo, x = ⟨w.toArray⟩ := ⟨x.cps.toList, by cases x; rfl⟩
              obtain ⟨v, rfl⟩ : ∃ w : Wo, y = ⟨w.toArray⟩ := ⟨y.cps.toList, by cases y; rfl⟩
              have h1' : isWo u = true := h1
              have h2' : isWo v = true := h2
              have q' : Q (.bool (isRu (u, v))) := q
              unfold isRu at q'
              simp only [h1', h2', Bool.true_and] at q'
              simp only [sSeq, sIf, sRet, sRetN, sNext, sSetF, sSetN, sOwn, sExpr, sUnpF, sUnpN, sPar, sApp, sExt, sPutD, sAugF, sAugN, sFor, fVar, fC, fBin, fChain, fAnd, fOr, fNot, fIf, fTB, fTru, fAndT, fOrT, fNotT, fNil, fCons, fTup, fLst, fCall, fIsi, fSl, fNo, fPart, fNeg, fRev, fCallF, fLc, fRng1, fRng2, fSeq, fEnum, fJoin, fDictK, fDictT, vN, vF, startS, asB, asI, truD, isDict, isT, seqD, ownL, ownD, frAt, okM, exL, vw, oRev, List.map_cons, List.map_nil, List.length_cons, List.length_nil, List.replicate, List.cons_append, List.nil_append, List.append_nil, List.getElem?_cons_zero, List.getElem?_cons_succ, List.set_cons_zero, List.set_cons_succ, Option.map_some, Option.map_none, Option.bind_some, Option.bind_none, Sl.dat, Sl.frz, Nat.sub_self, Nat.reduceSub, Nat.reduceAdd, Bool.not_true, Bool.not_false, Bool.false_eq_true, if_true, if_false, reduceCtorEq, Nat.reduceLeDiff, true_and, cut_at, cut_to, cut_from, cut_fromA, Nat.zero_le, and_true, decide_true, setS, List.foldl_cons, List.foldl_nil, setE, wipeE, List.foldl_append, decide_false, Int.natCast_one, Int.natCast_zero, Int.cast_ofNat_Int, Int.reduceEq, oEqS, oNeS, oEqI, oNeI, oLtS, oLtI, oLeI, oGtI, oGeI, oAddS, oAddI', oAddT, oAddL, oLenS, oLenT, oLenL, oSlS, oSlT, oSlL, oSub, oTuple, oIx0, oIx1, oMulS, oMulI, oFdivI, oIsB, oIsntB, oIsN, oIsntN, isNone]
              by_cases ha : (1 : Int) ≤ u.length
              · have ha' : 1 ≤ u.length := by omega
                by_cases hb : (u.length : Int) ≤ 12
                · have hb' : u.length ≤ 12 := by omega
                  simp only [ha, hb, ha', hb', sSeq, sIf, sRet, sRetN, sNext, sSetF, sSetN, sOwn, sExpr, sUnpF, sUnpN, sPar, sApp, sExt, sPutD, sAugF, sAugN, sFor, fVar, fC, fBin, fChain, fAnd, fOr, fNot, fIf, fTB, fTru, fAndT, fOrT, fNotT, fNil, fCons, fTup, fLst, fCall, fIsi, fSl, fNo, fPart, fNeg, fRev, fCallF, fLc, fRng1, fRng2, fSeq, fEnum, fJoin, fDictK, fDictT, vN, vF, startS, asB, asI, truD, isDict, isT, seqD, ownL, ownD, frAt, okM, exL, vw, oRev, List.map_cons, List.map_nil, List.length_cons, List.length_nil, List.replicate, List.cons_append, List.nil_append, List.append_nil, List.getElem?_cons_zero, List.getElem?_cons_succ, List.set_cons_zero, List.set_cons_succ, Option.map_some, Option.map_none, Option.bind_some, Option.bind_none, Sl.dat, Sl.frz, Nat.sub_self, Nat.reduceSub, Nat.reduceAdd, Bool.not_true, Bool.not_false, Bool.false_eq_true, if_true, if_false, reduceCtorEq, Nat.reduceLeDiff, true_and, cut_at, cut_to, cut_from, cut_fromA, Nat.zero_le, and_true, decide_true, setS, List.foldl_cons, List.foldl_nil, setE, wipeE, List.foldl_append, decide_false, Int.natCast_one, Int.natCast_zero, Int.cast_ofNat_Int, Int.reduceEq, oEqS, oNeS, oEqI, oNeI, oLtS, oLtI, oLeI, oGtI, oGeI, oAddS, oAddI', oAddT, oAddL, oLenS, oLenT, oLenL, oSlS, oSlT, oSlL, oSub, oTuple, oIx0, oIx1, oMulS, oMulI, oFdivI, oIsB, oIsntB, oIsN, oIsntN, isNone, Bool.true_and] at q' ⊢
                  exact ⟨v, u, rfl, q'⟩
                · have hb' : ¬ u.length ≤ 12 := by omega
                  simp only [ha, hb, ha', hb', sSeq, sIf, sRet, sRetN, sNext, sSetF, sSetN, sOwn, sExpr, sUnpF, sUnpN, sPar, sApp, sExt, sPutD, sAugF, sAugN, sFor, fVar, fC, fBin, fChain, fAnd, fOr, fNot, fIf, fTB, fTru, fAndT, fOrT, fNotT, fNil, fCons, fTup, fLst, fCall, fIsi, fSl, fNo, fPart, fNeg, fRev, fCallF, fLc, fRng1, fRng2, fSeq, fEnum, fJoin, fDictK, fDictT, vN, vF, startS, asB, asI, truD, isDict, isT, seqD, ownL, ownD, frAt, okM, exL, vw, oRev, List.map_cons, List.map_nil, List.length_cons, List.length_nil, List.replicate, List.cons_append, List.nil_append, List.append_nil, List.getElem?_cons_zero, List.getElem?_cons_succ, List.set_cons_zero, List.set_cons_succ, Option.map_some, Option.map_none, Option.bind_some, Option.bind_none, Sl.dat, Sl.frz, Nat.sub_self, Nat.reduceSub, Nat.reduceAdd, Bool.not_true, Bool.not_false, Bool.false_eq_true, if_true, if_false, reduceCtorEq, Nat.reduceLeDiff, true_and, cut_at, cut_to, cut_from, cut_fromA, Nat.zero_le, and_true, decide_true, setS, List.foldl_cons, List.foldl_nil, setE, wipeE, List.foldl_append, decide_false, Int.natCast_one, Int.natCast_zero, Int.cast_ofNat_Int, Int.reduceEq, oEqS, oNeS, oEqI, oNeI, oLtS, oLtI, oLeI, oGtI, oGeI, oAddS, oAddI', oAddT, oAddL, oLenS, oLenT, oLenL, oSlS, oSlT, oSlL, oSub, oTuple, oIx0, oIx1, oMulS, oMulI, oFdivI, oIsB, oIsntB, oIsN, oIsntN, isNone, Bool.true_and, Bool.false_and] at q' ⊢
                  exact q'
              · have ha' : ¬ 1 ≤ u.length := by omega
                simp only [ha, ha', sSeq, sIf, sRet, sRetN, sNext, sSetF, sSetN, sOwn, sExpr, sUnpF, sUnpN, sPar, sApp, sExt, sPutD, sAugF, sAugN, sFor, fVar, fC, fBin, fChain, fAnd, fOr, fNot, fIf, fTB, fTru, fAndT, fOrT, fNotT, fNil, fCons, fTup, fLst, fCall, fIsi, fSl, fNo, fPart, fNeg, fRev, fCallF, fLc, fRng1, fRng2, fSeq, fEnum, fJoin, fDictK, fDictT, vN, vF, startS, asB, asI, truD, isDict, isT, seqD, ownL, ownD, frAt, okM, exL, vw, oRev, List.map_cons, List.map_nil, List.length_cons, List.length_nil, List.replicate, List.cons_append, List.nil_append, List.append_nil, List.getElem?_cons_zero, List.getElem?_cons_succ, List.set_cons_zero, List.set_cons_succ, Option.map_some, Option.map_none, Option.bind_some, Option.bind_none, Sl.dat, Sl.frz, Nat.sub_self, Nat.reduceSub, Nat.reduceAdd, Bool.not_true, Bool.not_false, Bool.false_eq_true, if_true, if_false, reduceCtorEq, Nat.reduceLeDiff, true_and, cut_at, cut_to, cut_from, cut_fromA, Nat.zero_le, and_true, decide_true, setS, List.foldl_cons, List.foldl_nil, setE, wipeE, List.foldl_append, decide_false, Int.natCast_one, Int.natCast_zero, Int.cast_ofNat_Int, Int.reduceEq, oEqS, oNeS, oEqI, oNeI, oLtS, oLtI, oLeI, oGtI, oGeI, oAddS, oAddI', oAddT, oAddL, oLenS, oLenT, oLenL, oSlS, oSlT, oSlL, oSub, oTuple, oIx0, oIx1, oMulS, oMulI, oFdivI, oIsB, oIsntB, oIsN, oIsntN, isNone, Bool.false_and] at q' ⊢
                exact q'
            | _ => simp [isWord] at h2
          | _ => simp [isWord] at h1
  | dict _ => simp [isDict] at hdd
  | _ => simp only [F_is_rule, sSeq, sIf, sRet, sRetN, sNext, sSetF, sSetN, sOwn, sExpr, sUnpF, sUnpN, sPar, sApp, sExt, sPutD, sAugF, sAugN, sFor, fVar, fC, fBin, fChain, fAnd, fOr, fNot, fIf, fTB, fTru, fAndT, fOrT, fNotT, fNil, fCons, fTup, fLst, fCall, fIsi, fSl, fNo, fPart, fNeg, fRev, fCallF, fLc, fRng1, fRng2, fSeq, fEnum, fJoin, fDictK, fDictT, vN, vF, startS, asB, asI, truD, isDict, isT, seqD, ownL, ownD, frAt, okM, exL, vw, oRev, List.map_cons, List.map_nil, List.length_cons, List.length_nil, List.replicate, List.cons_append, List.nil_append, List.append_nil, List.getElem?_cons_zero, List.getElem?_cons_succ, List.set_cons_zero, List.set_cons_succ, Option.map_some, Option.map_none, Option.bind_some, Option.bind_none, Sl.dat, Sl.frz, Nat.sub_self, Nat.reduceSub, Nat.reduceAdd, Bool.not_true, Bool.not_false, Bool.false_eq_true, if_true, if_false, reduceCtorEq, Nat.reduceLeDiff, true_and, cut_at, cut_to, cut_from, cut_fromA, Nat.zero_le, and_true, decide_true, setS, List.foldl_cons, List.foldl_nil, setE, wipeE, List.foldl_append, decide_false, Int.natCast_one, Int.natCast_zero, Int.cast_ofNat_Int, Int.reduceEq, oEqS, oNeS, oEqI, oNeI, oLtS, oLtI, oLeI, oGtI, oGeI, oAddS, oAddI', oAddT, oAddL, oLenS, oLenT, oLenL, oSlS, oSlT, oSlL, oSub, oTuple, oIx0, oIx1, oMulS, oMulI, oFdivI, oIsB, oIsntB, oIsN, oIsntN, isNone]; exact q
end K68
set_option Elab.async false
set_option linter.all false
set_option maxRecDepth 100000
set_option maxHeartbeats 4000000
set_option autoImplicit false
namespace K68
open PySem L2 T2
/-! ### the order of rules -/
def rlt (a b : Rule) : Bool := if a.1 = b.1 then decide (a.2 < b.2) else decide (a.1 < b.1)
theorem lt_ru (a b : Rule) : PySem.W.dataLt (ruD a) (ruD b) = rlt a b := by
  rw [PySem.W.dataLt_pair (by simp [PySem.W.alike]) (by simp [PySem.W.alike]), PySem.W.dataLt_str, PySem.W.dataLt_str, eqv_sD, eqv_sD]
  unfold rlt
  by_cases h1 : a.1 = b.1
  · by_cases h2 : a.2 = b.2
    · simp [h1, h2, List.lt_irrefl]
    · simp [h1, h2]
  · simp [h1]
theorem rlt_irr (a : Rule) : rlt a a = false := by simp [rlt, List.lt_irrefl]
theorem rlt_trans {a b c : Rule} (h1 : rlt a b = true) (h2 : rlt b c = true) : rlt a c = true := by
  unfold rlt at *
  by_cases e1 : a.1 = b.1 <;> by_cases e2 : b.1 = c.1
  · rw [if_pos e1] at h1; rw [if_pos e2] at h2; rw [if_pos (e1.trans e2)]
    exact decide_eq_true (List.lt_trans (of_decide_eq_true h1) (of_decide_eq_true h2))
  · rw [if_neg e2] at h2; rw [e1, if_neg e2]; exact h2
  · rw [if_neg e1] at h1; rw [← e2, if_neg e1]; exact h1
  · rw [if_neg e1] at h1; rw [if_neg e2] at h2
    have h3 := List.lt_trans (of_decide_eq_true h1) (of_decide_eq_true h2)
    have : a.1 ≠ c.1 := fun z => by rw [z] at h3; exact List.lt_irrefl _ h3
    rw [if_neg this]
    exact decide_eq_true h3
theorem wo_tri (u v : Wo) : u < v ∨ u = v ∨ v < u := by
  by_cases h1 : u < v
  · exact .inl h1
  · by_cases h2 : v < u
    · exact .inr (.inr h2)
    · exact .inr (.inl (List.le_antisymm (List.not_lt.mp h2) (List.not_lt.mp h1)))
theorem rlt_tri (a b : Rule) : rlt a b = true ∨ a = b ∨ rlt b a = true := by
  unfold rlt
  by_cases e : a.1 = b.1
  · rw [if_pos e, if_pos e.symm]
    rcases wo_tri a.2 b.2 with h | h | h
    · exact .inl (decide_eq_true h)
    · exact .inr (.inl (Prod.ext e h))
    · exact .inr (.inr (decide_eq_true h))
  · rw [if_neg e, if_neg (fun z => e z.symm)]
    rcases wo_tri a.1 b.1 with h | h | h
    · exact .inl (decide_eq_true h)
    · exact absurd h e
    · exact .inr (.inr (decide_eq_true h))
theorem rlt_asym {a b : Rule} (h : rlt a b = true) : rlt b a = false := by
  cases h2 : rlt b a with
  | false => rfl
  | true => have := rlt_trans h h2; rw [rlt_irr] at this; cases this
/-- strictly upwards -/
def ascR (R : List Rule) : Bool := (List.range (R.length - 1)).all fun k => match R[k]?, R[k + 1]? with
  | some a, some b => rlt a b
  | _, _ => false
abbrev Up (R : List Rule) : Prop := R.Pairwise fun a b => rlt a b = true
theorem asc_up {R : List Rule} (h : Up R) : ascR R = true := by
  unfold ascR
  rw [List.all_eq_true]
  intro k hk
  have hk := List.mem_range.mp hk
  rw [List.getElem?_eq_getElem (show k < R.length by omega), List.getElem?_eq_getElem (show k + 1 < R.length by omega)]
  exact List.pairwise_iff_getElem.mp h k (k + 1) _ _ (by omega)
theorem asc_no {R : List Rule} {k : Nat} {a b : Rule} (h1 : R[k]? = some a) (h2 : R[k + 1]? = some b) (h : rlt a b = false) : ascR R = false := by
  unfold ascR
  rw [List.all_eq_false]
  have := (List.getElem?_eq_some_iff.mp h2).1
  exact ⟨k, List.mem_range.mpr (by omega), by rw [h1, h2]; simp [h]⟩
def sp_asc : QSp := fun ds Q => ∃ R : List Rule, ds = [rsD R] ∧ R.length ≤ 1000 ∧ Q (.bool (ascR R))
theorem ru_ok (a b : Rule) : cOk (ruD a) (ruD b) := ⟨plain_ru a, plain_ru b, by simp [PySem.W.alike, PySem.W.alikeAll], by simp, by simp [PyData.depth, PyData.depthAll]⟩
theorem p_is_ascending : Pure 2 sp_asc F_is_ascending := by
  rintro ds Q ⟨R, rfl, hR, q⟩
  simp only [F_is_ascending, sSeq, sIf, sRet, sRetN, sNext, sSetF, sSetN, sOwn, sExpr, sUnpF, sUnpN, sPar, sApp, sExt, sPutD, sAugF, sAugN, sFor, fVar, fC, fBin, fChain, fAnd, fOr, fNot, fIf, fTB, fTru, fAndT, fOrT, fNotT, fNil, fCons, fTup, fLst, fCall, fIsi, fSl, fNo, fPart, fNeg, fRev, fCallF, fLc, fRng1, fRng2, fSeq, fEnum, fJoin, fDictK, fDictT, vN, vF, startS, asB, asI, truD, isDict, isT, seqD, ownL, ownD, frAt, okM, exL, vw, oRev, List.map_cons, List.map_nil, List.length_cons, List.length_nil, List.replicate, List.cons_append, List.nil_append, List.append_nil, List.getElem?_cons_zero, List.getElem?_cons_succ, List.set_cons_zero, List.set_cons_succ, Option.map_some, Option.map_none, Option.bind_some, Option.bind_none, Sl.dat, Sl.frz, Nat.sub_self, Nat.reduceSub, Nat.reduceAdd, Bool.not_true, Bool.not_false, Bool.false_eq_true, if_true, if_false, reduceCtorEq, Nat.reduceLeDiff, true_and, cut_at, cut_to, cut_from, cut_fromA, Nat.zero_le, and_true, decide_true, setS, List.foldl_cons, List.foldl_nil, setE, wipeE, List.foldl_append, decide_false, Int.natCast_one, Int.natCast_zero, Int.cast_ofNat_Int, Int.reduceEq, oEqS, oNeS, oEqI, oNeI, oLtS, oLtI, oLeI, oGtI, oGeI, oAddS, oAddI', oAddT, oAddL, oLenS, oLenT, oLenL, oSlS, oSlT, oSlL, oSub, oTuple, oIx0, oIx1, oMulS, oMulI, oFdivI, oIsB, oIsntB, oIsN, oIsntN, isNone, List.length_map]
  refine ⟨by omega, ?_⟩
  have e : ((R.length : Int) - 1).toNat = R.length - 1 := by omega
  rw [e, natsD0]
  refine qComp_map (fun k => .bool (match R[k]?, R[k + 1]? with
    | some a, some b => rlt a b
    | _, _ => false)) (fun k hk => ⟨_, rfl, fun Q' q' => ?_⟩) ?_
  · have hk := List.mem_range.mp hk
    have e1 : R[k]? = some R[k] := List.getElem?_eq_getElem (by omega)
    have e2 : R[k + 1]? = some (R[k + 1]'(by omega)) := List.getElem?_eq_getElem (by omega)
    rw [e1, e2] at q'
    simp only [sSeq, sIf, sRet, sRetN, sNext, sSetF, sSetN, sOwn, sExpr, sUnpF, sUnpN, sPar, sApp, sExt, sPutD, sAugF, sAugN, sFor, fVar, fC, fBin, fChain, fAnd, fOr, fNot, fIf, fTB, fTru, fAndT, fOrT, fNotT, fNil, fCons, fTup, fLst, fCall, fIsi, fSl, fNo, fPart, fNeg, fRev, fCallF, fLc, fRng1, fRng2, fSeq, fEnum, fJoin, fDictK, fDictT, vN, vF, startS, asB, asI, truD, isDict, isT, seqD, ownL, ownD, frAt, okM, exL, vw, oRev, List.map_cons, List.map_nil, List.length_cons, List.length_nil, List.replicate, List.cons_append, List.nil_append, List.append_nil, List.getElem?_cons_zero, List.getElem?_cons_succ, List.set_cons_zero, List.set_cons_succ, Option.map_some, Option.map_none, Option.bind_some, Option.bind_none, Sl.dat, Sl.frz, Nat.sub_self, Nat.reduceSub, Nat.reduceAdd, Bool.not_true, Bool.not_false, Bool.false_eq_true, if_true, if_false, reduceCtorEq, Nat.reduceLeDiff, true_and, cut_at, cut_to, cut_from, cut_fromA, Nat.zero_le, and_true, decide_true, setS, List.foldl_cons, List.foldl_nil, setE, wipeE, List.foldl_append, decide_false, Int.natCast_one, Int.natCast_zero, Int.cast_ofNat_Int, Int.reduceEq, oEqS, oNeS, oEqI, oNeI, oLtS, oLtI, oLeI, oGtI, oGeI, oAddS, oAddI', oAddT, oAddL, oLenS, oLenT, oLenL, oSlS, oSlT, oSlL, oSub, oTuple, oIx0, oIx1, oMulS, oMulI, oFdivI, oIsB, oIsntB, oIsN, oIsntN, isNone, oIxT (rs_at e1), oIxT1 (rs_at e2)]
    exact ⟨ru_ok _ _, by rw [lt_ru]; exact q'⟩
  · simp only [sSeq, sIf, sRet, sRetN, sNext, sSetF, sSetN, sOwn, sExpr, sUnpF, sUnpN, sPar, sApp, sExt, sPutD, sAugF, sAugN, sFor, fVar, fC, fBin, fChain, fAnd, fOr, fNot, fIf, fTB, fTru, fAndT, fOrT, fNotT, fNil, fCons, fTup, fLst, fCall, fIsi, fSl, fNo, fPart, fNeg, fRev, fCallF, fLc, fRng1, fRng2, fSeq, fEnum, fJoin, fDictK, fDictT, vN, vF, startS, asB, asI, truD, isDict, isT, seqD, ownL, ownD, frAt, okM, exL, vw, oRev, List.map_cons, List.map_nil, List.length_cons, List.length_nil, List.replicate, List.cons_append, List.nil_append, List.append_nil, List.getElem?_cons_zero, List.getElem?_cons_succ, List.set_cons_zero, List.set_cons_succ, Option.map_some, Option.map_none, Option.bind_some, Option.bind_none, Sl.dat, Sl.frz, Nat.sub_self, Nat.reduceSub, Nat.reduceAdd, Bool.not_true, Bool.not_false, Bool.false_eq_true, if_true, if_false, reduceCtorEq, Nat.reduceLeDiff, true_and, cut_at, cut_to, cut_from, cut_fromA, Nat.zero_le, and_true, decide_true, setS, List.foldl_cons, List.foldl_nil, setE, wipeE, List.foldl_append, decide_false, Int.natCast_one, Int.natCast_zero, Int.cast_ofNat_Int, Int.reduceEq, oEqS, oNeS, oEqI, oNeI, oLtS, oLtI, oLeI, oGtI, oGeI, oAddS, oAddI', oAddT, oAddL, oLenS, oLenT, oLenL, oSlS, oSlT, oSlL, oSub, oTuple, oIx0, oIx1, oMulS, oMulI, oFdivI, oIsB, oIsntB, oIsN, oIsntN, isNone]
    exact oAll_map q
/-! ### are_rules -/
def areRules : D → Bool
  | .tuple ds => decide (ds.length ≤ 24) && ds.all isRuleD && ascR (ds.filterMap ruOf)
  | _ => false
theorem all_ru : ∀ {ds : List D}, ds.all isRuleD = true → ds = (ds.filterMap ruOf).map ruD
  | [], _ => rfl
  | d :: ds, h => by
    rw [List.all_cons, Bool.and_eq_true] at h
    have h1 := h.1
    unfold isRuleD at h1
    cases e : ruOf d with
    | none => rw [e] at h1; cases h1
    | some r =>
      rw [List.filterMap_cons, e, List.map_cons, ← ruOf_eq e, ← all_ru h.2]
theorem fm_ru (R : List Rule) : (R.map ruD).filterMap ruOf = R := by
  rw [List.filterMap_map]
  have : (ruOf ∘ ruD) = some := by funext r; rfl
  rw [this, List.filterMap_some]
def sp_are : QSp := fun ds Q => ∃ d : D, ds = [d] ∧ d.plain = true ∧ Q (.bool (areRules d))
theorem p_are_rules : Pure 2 sp_are (F_are_rules sp_asc sp_is_rule) := by
  rintro ds Q ⟨d, rfl, hd, q⟩
  have hdd := plain_dict hd
  cases d with
  | tuple xs =>
    have hp : PyData.plainAll xs = true := by simpa [PyData.plain] using hd
    simp only [F_are_rules, sSeq, sIf, sRet, sRetN, sNext, sSetF, sSetN, sOwn, sExpr, sUnpF, sUnpN, sPar, sApp, sExt, sPutD, sAugF, sAugN, sFor, fVar, fC, fBin, fChain, fAnd, fOr, fNot, fIf, fTB, fTru, fAndT, fOrT, fNotT, fNil, fCons, fTup, fLst, fCall, fIsi, fSl, fNo, fPart, fNeg, fRev, fCallF, fLc, fRng1, fRng2, fSeq, fEnum, fJoin, fDictK, fDictT, vN, vF, startS, asB, asI, truD, isDict, isT, seqD, ownL, ownD, frAt, okM, exL, vw, oRev, List.map_cons, List.map_nil, List.length_cons, List.length_nil, List.replicate, List.cons_append, List.nil_append, List.append_nil, List.getElem?_cons_zero, List.getElem?_cons_succ, List.set_cons_zero, List.set_cons_succ, Option.map_some, Option.map_none, Option.bind_some, Option.bind_none, Sl.dat, Sl.frz, Nat.sub_self, Nat.reduceSub, Nat.reduceAdd, Bool.not_true, Bool.not_false, Bool.false_eq_true, if_true, if_false, reduceCtorEq, Nat.reduceLeDiff, true_and, cut_at, cut_to, cut_from, cut_fromA, Nat.zero_le, and_true, decide_true, setS, List.foldl_cons, List.foldl_nil, setE, wipeE, List.foldl_append, decide_false, Int.natCast_one, Int.natCast_zero, Int.cast_ofNat_Int, Int.reduceEq, oEqS, oNeS, oEqI, oNeI, oLtS, oLtI, oLeI, oGtI, oGeI, oAddS, oAddI', oAddT, oAddL, oLenS, oLenT, oLenL, oSlS, oSlT, oSlL, oSub, oTuple, oIx0, oIx1, oMulS, oMulI, oFdivI, oIsB, oIsntB, oIsN, oIsntN, isNone]
    unfold areRules at q
    by_cases h : xs.length ≤ 24
    · have h2 : ¬ ((24 : Int) < xs.length) := by omega
      simp only [h, h2, sSeq, sIf, sRet, sRetN, sNext, sSetF, sSetN, sOwn, sExpr, sUnpF, sUnpN, sPar, sApp, sExt, sPutD, sAugF, sAugN, sFor, fVar, fC, fBin, fChain, fAnd, fOr, fNot, fIf, fTB, fTru, fAndT, fOrT, fNotT, fNil, fCons, fTup, fLst, fCall, fIsi, fSl, fNo, fPart, fNeg, fRev, fCallF, fLc, fRng1, fRng2, fSeq, fEnum, fJoin, fDictK, fDictT, vN, vF, startS, asB, asI, truD, isDict, isT, seqD, ownL, ownD, frAt, okM, exL, vw, oRev, List.map_cons, List.map_nil, List.length_cons, List.length_nil, List.replicate, List.cons_append, List.nil_append, List.append_nil, List.getElem?_cons_zero, List.getElem?_cons_succ, List.set_cons_zero, List.set_cons_succ, Option.map_some, Option.map_none, Option.bind_some, Option.bind_none, Sl.dat, Sl.frz, Nat.sub_self, Nat.reduceSub, Nat.reduceAdd, Bool.not_true, Bool.not_false, Bool.false_eq_true, if_true, if_false, reduceCtorEq, Nat.reduceLeDiff, true_and, cut_at, cut_to, cut_from, cut_fromA, Nat.zero_le, and_true, decide_true, setS, List.foldl_cons, List.foldl_nil, setE, wipeE, List.foldl_append, decide_false, Int.natCast_one, Int.natCast_zero, Int.cast_ofNat_Int, Int.reduceEq, oEqS, oNeS, oEqI, oNeI, oLtS, oLtI, oLeI, oGtI, oGeI, oAddS, oAddI', oAddT, oAddL, oLenS, oLenT, oLenL, oSlS, oSlT, oSlL, oSub, oTuple, oIx0, oIx1, oMulS, oMulI, oFdivI, oIsB, oIsntB, oIsN, oIsntN, isNone, Bool.true_and] at q ⊢
      refine qComp_ids (fun d => .bool (isRuleD d)) (fun d hd => ⟨_, rfl, fun Q' q' => ?_⟩) ?_
      · simp only [sSeq, sIf, sRet, sRetN, sNext, sSetF, sSetN, sOwn, sExpr, sUnpF, sUnpN, sPar, sApp, sExt, sPutD, sAugF, sAugN, sFor, fVar, fC, fBin, fChain, fAnd, fOr, fNot, fIf, fTB, fTru, fAndT, fOrT, fNotT, fNil, fCons, fTup, fLst, fCall, fIsi, fSl, fNo, fPart, fNeg, fRev, fCallF, fLc, fRng1, fRng2, fSeq, fEnum, fJoin, fDictK, fDictT, vN, vF, startS, asB, asI, truD, isDict, isT, seqD, ownL, ownD, frAt, okM, exL, vw, oRev, List.map_cons, List.map_nil, List.length_cons, List.length_nil, List.replicate, List.cons_append, List.nil_append, List.append_nil, List.getElem?_cons_zero, List.getElem?_cons_succ, List.set_cons_zero, List.set_cons_succ, Option.map_some, Option.map_none, Option.bind_some, Option.bind_none, Sl.dat, Sl.frz, Nat.sub_self, Nat.reduceSub, Nat.reduceAdd, Bool.not_true, Bool.not_false, Bool.false_eq_true, if_true, if_false, reduceCtorEq, Nat.reduceLeDiff, true_and, cut_at, cut_to, cut_from, cut_fromA, Nat.zero_le, and_true, decide_true, setS, List.foldl_cons, List.foldl_nil, setE, wipeE, List.foldl_append, decide_false, Int.natCast_one, Int.natCast_zero, Int.cast_ofNat_Int, Int.reduceEq, oEqS, oNeS, oEqI, oNeI, oLtS, oLtI, oLeI, oGtI, oGeI, oAddS, oAddI', oAddT, oAddL, oLenS, oLenT, oLenL, oSlS, oSlT, oSlL, oSub, oTuple, oIx0, oIx1, oMulS, oMulI, oFdivI, oIsB, oIsntB, oIsN, oIsntN, isNone]
        exact ⟨d, rfl, plain_mem hp hd, q'⟩
      · simp only [sSeq, sIf, sRet, sRetN, sNext, sSetF, sSetN, sOwn, sExpr, sUnpF, sUnpN, sPar, sApp, sExt, sPutD, sAugF, sAugN, sFor, fVar, fC, fBin, fChain, fAnd, fOr, fNot, fIf, fTB, fTru, fAndT, fOrT, fNotT, fNil, fCons, fTup, fLst, fCall, fIsi, fSl, fNo, fPart, fNeg, fRev, fCallF, fLc, fRng1, fRng2, fSeq, fEnum, fJoin, fDictK, fDictT, vN, vF, startS, asB, asI, truD, isDict, isT, seqD, ownL, ownD, frAt, okM, exL, vw, oRev, List.map_cons, List.map_nil, List.length_cons, List.length_nil, List.replicate, List.cons_append, List.nil_append, List.append_nil, List.getElem?_cons_zero, List.getElem?_cons_succ, List.set_cons_zero, List.set_cons_succ, Option.map_some, Option.map_none, Option.bind_some, Option.bind_none, Sl.dat, Sl.frz, Nat.sub_self, Nat.reduceSub, Nat.reduceAdd, Bool.not_true, Bool.not_false, Bool.false_eq_true, if_true, if_false, reduceCtorEq, Nat.reduceLeDiff, true_and, cut_at, cut_to, cut_from, cut_fromA, Nat.zero_le, and_true, decide_true, setS, List.foldl_cons, List.foldl_nil, setE, wipeE, List.foldl_append, decide_false, Int.natCast_one, Int.natCast_zero, Int.cast_ofNat_Int, Int.reduceEq, oEqS, oNeS, oEqI, oNeI, oLtS, oLtI, oLeI, oGtI, oGeI, oAddS, oAddI', oAddT, oAddL, oLenS, oLenT, oLenL, oSlS, oSlT, oSlL, oSub, oTuple, oIx0, oIx1, oMulS, oMulI, oFdivI, oIsB, oIsntB, oIsN, oIsntN, isNone]
        refine oAll_map ?_
        cases ha : xs.all isRuleD with
        | false =>
          rw [ha, Bool.false_and] at q
          simp only [sSeq, sIf, sRet, sRetN, sNext, sSetF, sSetN, sOwn, sExpr, sUnpF, sUnpN, sPar, sApp, sExt, sPutD, sAugF, sAugN, sFor, fVar, fC, fBin, fChain, fAnd, fOr, fNot, fIf, fTB, fTru, fAndT, fOrT, fNotT, fNil, fCons, fTup, fLst, fCall, fIsi, fSl, fNo, fPart, fNeg, fRev, fCallF, fLc, fRng1, fRng2, fSeq, fEnum, fJoin, fDictK, fDictT, vN, vF, startS, asB, asI, truD, isDict, isT, seqD, ownL, ownD, frAt, okM, exL, vw, oRev, List.map_cons, List.map_nil, List.length_cons, List.length_nil, List.replicate, List.cons_append, List.nil_append, List.append_nil, List.getElem?_cons_zero, List.getElem?_cons_succ, List.set_cons_zero, List.set_cons_succ, Option.map_some, Option.map_none, Option.bind_some, Option.bind_none, Sl.dat, Sl.frz, Nat.sub_self, Nat.reduceSub, Nat.reduceAdd, Bool.not_true, Bool.not_false, Bool.false_eq_true, if_true, if_false, reduceCtorEq, Nat.reduceLeDiff, true_and, cut_at, cut_to, cut_from, cut_fromA, Nat.zero_le, and_true, decide_true, setS, List.foldl_cons, List.foldl_nil, setE, wipeE, List.foldl_append, decide_false, Int.natCast_one, Int.natCast_zero, Int.cast_ofNat_Int, Int.reduceEq, oEqS, oNeS, oEqI, oNeI, oLtS, oLtI, oLeI, oGtI, oGeI, oAddS, oAddI', oAddT, oAddL, oLenS, oLenT, oLenL, oSlS, oSlT, oSlL, oSub, oTuple, oIx0, oIx1, oMulS, oMulI, oFdivI, oIsB, oIsntB, oIsN, oIsntN, isNone]
          exact q
        | true =>
          rw [ha, Bool.true_and] at q
          simp only [sSeq, sIf, sRet, sRetN, sNext, sSetF, sSetN, sOwn, sExpr, sUnpF, sUnpN, sPar, sApp, sExt, sPutD, sAugF, sAugN, sFor, fVar, fC, fBin, fChain, fAnd, fOr, fNot, fIf, fTB, fTru, fAndT, fOrT, fNotT, fNil, fCons, fTup, fLst, fCall, fIsi, fSl, fNo, fPart, fNeg, fRev, fCallF, fLc, fRng1, fRng2, fSeq, fEnum, fJoin, fDictK, fDictT, vN, vF, startS, asB, asI, truD, isDict, isT, seqD, ownL, ownD, frAt, okM, exL, vw, oRev, List.map_cons, List.map_nil, List.length_cons, List.length_nil, List.replicate, List.cons_append, List.nil_append, List.append_nil, List.getElem?_cons_zero, List.getElem?_cons_succ, List.set_cons_zero, List.set_cons_succ, Option.map_some, Option.map_none, Option.bind_some, Option.bind_none, Sl.dat, Sl.frz, Nat.sub_self, Nat.reduceSub, Nat.reduceAdd, Bool.not_true, Bool.not_false, Bool.false_eq_true, if_true, if_false, reduceCtorEq, Nat.reduceLeDiff, true_and, cut_at, cut_to, cut_from, cut_fromA, Nat.zero_le, and_true, decide_true, setS, List.foldl_cons, List.foldl_nil, setE, wipeE, List.foldl_append, decide_false, Int.natCast_one, Int.natCast_zero, Int.cast_ofNat_Int, Int.reduceEq, oEqS, oNeS, oEqI, oNeI, oLtS, oLtI, oLeI, oGtI, oGeI, oAddS, oAddI', oAddT, oAddL, oLenS, oLenT, oLenL, oSlS, oSlT, oSlL, oSub, oTuple, oIx0, oIx1, oMulS, oMulI, oFdivI, oIsB, oIsntB, oIsN, oIsntN, isNone]
          have e := all_ru ha
          have hl : (xs.filterMap ruOf).length ≤ 1000 := Nat.le_trans (List.length_filterMap_le _ _) (by omega)
          refine ⟨xs.filterMap ruOf, ?_, hl, q⟩
          rw [show rsD (xs.filterMap ruOf) = .tuple xs by rw [rsD, ← e]]
    · have h2 : ((24 : Int) < xs.length) := by omega
      simp only [h, h2, sSeq, sIf, sRet, sRetN, sNext, sSetF, sSetN, sOwn, sExpr, sUnpF, sUnpN, sPar, sApp, sExt, sPutD, sAugF, sAugN, sFor, fVar, fC, fBin, fChain, fAnd, fOr, fNot, fIf, fTB, fTru, fAndT, fOrT, fNotT, fNil, fCons, fTup, fLst, fCall, fIsi, fSl, fNo, fPart, fNeg, fRev, fCallF, fLc, fRng1, fRng2, fSeq, fEnum, fJoin, fDictK, fDictT, vN, vF, startS, asB, asI, truD, isDict, isT, seqD, ownL, ownD, frAt, okM, exL, vw, oRev, List.map_cons, List.map_nil, List.length_cons, List.length_nil, List.replicate, List.cons_append, List.nil_append, List.append_nil, List.getElem?_cons_zero, List.getElem?_cons_succ, List.set_cons_zero, List.set_cons_succ, Option.map_some, Option.map_none, Option.bind_some, Option.bind_none, Sl.dat, Sl.frz, Nat.sub_self, Nat.reduceSub, Nat.reduceAdd, Bool.not_true, Bool.not_false, Bool.false_eq_true, if_true, if_false, reduceCtorEq, Nat.reduceLeDiff, true_and, cut_at, cut_to, cut_from, cut_fromA, Nat.zero_le, and_true, decide_true, setS, List.foldl_cons, List.foldl_nil, setE, wipeE, List.foldl_append, decide_false, Int.natCast_one, Int.natCast_zero, Int.cast_ofNat_Int, Int.reduceEq, oEqS, oNeS, oEqI, oNeI, oLtS, oLtI, oLeI, oGtI, oGeI, oAddS, oAddI', oAddT, oAddL, oLenS, oLenT, oLenL, oSlS, oSlT, oSlL, oSub, oTuple, oIx0, oIx1, oMulS, oMulI, oFdivI, oIsB, oIsntB, oIsN, oIsntN, isNone, Bool.false_and] at q ⊢
      exact q
  | dict _ => simp [isDict] at hdd
  | _ => simp only [F_are_rules, sSeq, sIf, sRet, sRetN, sNext, sSetF, sSetN, sOwn, sExpr, sUnpF, sUnpN, sPar, sApp, sExt, sPutD, sAugF, sAugN, sFor, fVar, fC, fBin, fChain, fAnd, fOr, fNot, fIf, fTB, fTru, fAndT, fOrT, fNotT, fNil, fCons, fTup, fLst, fCall, fIsi, fSl, fNo, fPart, fNeg, fRev, fCallF, fLc, fRng1, fRng2, fSeq, fEnum, fJoin, fDictK, fDictT, vN, vF, startS, asB, asI, truD, isDict, isT, seqD, ownL, ownD, frAt, okM, exL, vw, oRev, List.map_cons, List.map_nil, List.length_cons, List.length_nil, List.replicate, List.cons_append, List.nil_append, List.append_nil, List.getElem?_cons_zero, List.getElem?_cons_succ, List.set_cons_zero, List.set_cons_succ, Option.map_some, Option.map_none, Option.bind_some, Option.bind_none, Sl.dat, Sl.frz, Nat.sub_self, Nat.reduceSub, Nat.reduceAdd, Bool.not_true, Bool.not_false, Bool.false_eq_true, if_true, if_false, reduceCtorEq, Nat.reduceLeDiff, true_and, cut_at, cut_to, cut_from, cut_fromA, Nat.zero_le, and_true, decide_true, setS, List.foldl_cons, List.foldl_nil, setE, wipeE, List.foldl_append, decide_false, Int.natCast_one, Int.natCast_zero, Int.cast_ofNat_Int, Int.reduceEq, oEqS, oNeS, oEqI, oNeI, oLtS, oLtI, oLeI, oGtI, oGeI, oAddS, oAddI', oAddT, oAddL, oLenS, oLenT, oLenL, oSlS, oSlT, oSlL, oSub, oTuple, oIx0, oIx1, oMulS, oMulI, oFdivI, oIsB, oIsntB, oIsN, oIsntN, isNone, areRules] at q ⊢; exact q
theorem are_ok {R : List Rule} (h1 : R.length ≤ 24) (h2 : ∀ r ∈ R, isRu r = true) (h3 : Up R) : areRules (rsD R) = true := by
  show (decide ((R.map ruD).length ≤ 24) && (R.map ruD).all isRuleD && ascR ((R.map ruD).filterMap ruOf)) = true
  rw [fm_ru, asc_up h3, List.length_map, decide_eq_true h1, Bool.and_true, Bool.true_and, List.all_eq_true]
  intro x hx
  obtain ⟨r, hr, rfl⟩ := List.mem_map.mp hx
  exact h2 r hr
/-! ### drawn words, drawn rules -/
def Over (L : Wo) (w : Wo) : Prop := ∀ c ∈ w, c ∈ L
def sp_word : QSp := fun ds Q => ∃ (most : Int) (L : Wo), ds = [boxD, .int most, sD L] ∧ 0 ≤ most ∧ most ≤ 1000 ∧ 1 ≤ L.length ∧ L.length ≤ 1000 ∧ ∀ w : Wo, (w.length : Int) ≤ most → Over L w → Q (sD w)
theorem joinW_ones : ∀ w : Wo, joinW [] (w.map fun c => [c]) = w
  | [] => rfl
  | [c] => rfl
  | c :: d :: w => by
    have := joinW_ones (d :: w)
    show [c] ++ [] ++ joinW [] ((d :: w).map fun c => [c]) = _
    rw [this]; rfl
theorem ones_of {L : Wo} : ∀ {ys : List D}, (∀ y ∈ ys, ∃ c ∈ L, y = sD [c]) → ∃ w : Wo, ys = (w.map fun c => [c]).map sD ∧ Over L w ∧ w.length = ys.length
  | [], _ => ⟨[], rfl, (fun c h => by cases h), rfl⟩
  | y :: ys, h => by
    obtain ⟨c, hc, rfl⟩ := h y List.mem_cons_self
    obtain ⟨w, e, ho, hl⟩ := ones_of fun y hy => h y (List.mem_cons_of_mem _ hy)
    refine ⟨c :: w, by rw [e]; rfl, fun x hx => ?_, by rw [List.length_cons, List.length_cons, hl]⟩
    rcases List.mem_cons.mp hx with rfl | hx
    · exact hc
    · exact ho x hx
theorem sum_ones : ∀ w : Wo, ((w.map fun c => [c]).map List.length).sum = w.length
  | [] => rfl
  | c :: w => by
    have := sum_ones w
    rw [List.map_cons, List.map_cons, List.sum_cons, this]
    simp; omega
theorem p__law_word : Pure 4 sp_word (F__law_word sp_draw) := by
  rintro ds Q ⟨most, L, rfl, h0, h1, hL, hL2, q⟩
  simp only [F__law_word, sSeq, sIf, sRet, sRetN, sNext, sSetF, sSetN, sOwn, sExpr, sUnpF, sUnpN, sPar, sApp, sExt, sPutD, sAugF, sAugN, sFor, fVar, fC, fBin, fChain, fAnd, fOr, fNot, fIf, fTB, fTru, fAndT, fOrT, fNotT, fNil, fCons, fTup, fLst, fCall, fIsi, fSl, fNo, fPart, fNeg, fRev, fCallF, fLc, fRng1, fRng2, fSeq, fEnum, fJoin, fDictK, fDictT, vN, vF, startS, asB, asI, truD, isDict, isT, seqD, ownL, ownD, frAt, okM, exL, vw, oRev, List.map_cons, List.map_nil, List.length_cons, List.length_nil, List.replicate, List.cons_append, List.nil_append, List.append_nil, List.getElem?_cons_zero, List.getElem?_cons_succ, List.set_cons_zero, List.set_cons_succ, Option.map_some, Option.map_none, Option.bind_some, Option.bind_none, Sl.dat, Sl.frz, Nat.sub_self, Nat.reduceSub, Nat.reduceAdd, Bool.not_true, Bool.not_false, Bool.false_eq_true, if_true, if_false, reduceCtorEq, Nat.reduceLeDiff, true_and, cut_at, cut_to, cut_from, cut_fromA, Nat.zero_le, and_true, decide_true, setS, List.foldl_cons, List.foldl_nil, setE, wipeE, List.foldl_append, decide_false, Int.natCast_one, Int.natCast_zero, Int.cast_ofNat_Int, Int.reduceEq, oEqS, oNeS, oEqI, oNeI, oLtS, oLtI, oLeI, oGtI, oGeI, oAddS, oAddI', oAddT, oAddL, oLenS, oLenT, oLenL, oSlS, oSlT, oSlL, oSub, oTuple, oIx0, oIx1, oMulS, oMulI, oFdivI, oIsB, oIsntB, oIsN, oIsntN, isNone]
  refine ⟨⟨_, rfl⟩, _, rfl, ⟨by omega, by omega⟩, fun n hn0 hn1 => ?_⟩
  simp only [sSeq, sIf, sRet, sRetN, sNext, sSetF, sSetN, sOwn, sExpr, sUnpF, sUnpN, sPar, sApp, sExt, sPutD, sAugF, sAugN, sFor, fVar, fC, fBin, fChain, fAnd, fOr, fNot, fIf, fTB, fTru, fAndT, fOrT, fNotT, fNil, fCons, fTup, fLst, fCall, fIsi, fSl, fNo, fPart, fNeg, fRev, fCallF, fLc, fRng1, fRng2, fSeq, fEnum, fJoin, fDictK, fDictT, vN, vF, startS, asB, asI, truD, isDict, isT, seqD, ownL, ownD, frAt, okM, exL, vw, oRev, List.map_cons, List.map_nil, List.length_cons, List.length_nil, List.replicate, List.cons_append, List.nil_append, List.append_nil, List.getElem?_cons_zero, List.getElem?_cons_succ, List.set_cons_zero, List.set_cons_succ, Option.map_some, Option.map_none, Option.bind_some, Option.bind_none, Sl.dat, Sl.frz, Nat.sub_self, Nat.reduceSub, Nat.reduceAdd, Bool.not_true, Bool.not_false, Bool.false_eq_true, if_true, if_false, reduceCtorEq, Nat.reduceLeDiff, true_and, cut_at, cut_to, cut_from, cut_fromA, Nat.zero_le, and_true, decide_true, setS, List.foldl_cons, List.foldl_nil, setE, wipeE, List.foldl_append, decide_false, Int.natCast_one, Int.natCast_zero, Int.cast_ofNat_Int, Int.reduceEq, oEqS, oNeS, oEqI, oNeI, oLtS, oLtI, oLeI, oGtI, oGeI, oAddS, oAddI', oAddT, oAddL, oLenS, oLenT, oLenL, oSlS, oSlT, oSlL, oSub, oTuple, oIx0, oIx1, oMulS, oMulI, oFdivI, oIsB, oIsntB, oIsN, oIsntN, isNone]
  refine ⟨by omega, ?_⟩
  rw [natsD0]
  refine qComp_any (fun y => ∃ c ∈ L, y = sD [c]) (fun x _ => ⟨_, rfl, fun Q' q' => ?_⟩) fun ys hl hys => ?_
  · simp only [sSeq, sIf, sRet, sRetN, sNext, sSetF, sSetN, sOwn, sExpr, sUnpF, sUnpN, sPar, sApp, sExt, sPutD, sAugF, sAugN, sFor, fVar, fC, fBin, fChain, fAnd, fOr, fNot, fIf, fTB, fTru, fAndT, fOrT, fNotT, fNil, fCons, fTup, fLst, fCall, fIsi, fSl, fNo, fPart, fNeg, fRev, fCallF, fLc, fRng1, fRng2, fSeq, fEnum, fJoin, fDictK, fDictT, vN, vF, startS, asB, asI, truD, isDict, isT, seqD, ownL, ownD, frAt, okM, exL, vw, oRev, List.map_cons, List.map_nil, List.length_cons, List.length_nil, List.replicate, List.cons_append, List.nil_append, List.append_nil, List.getElem?_cons_zero, List.getElem?_cons_succ, List.set_cons_zero, List.set_cons_succ, Option.map_some, Option.map_none, Option.bind_some, Option.bind_none, Sl.dat, Sl.frz, Nat.sub_self, Nat.reduceSub, Nat.reduceAdd, Bool.not_true, Bool.not_false, Bool.false_eq_true, if_true, if_false, reduceCtorEq, Nat.reduceLeDiff, true_and, cut_at, cut_to, cut_from, cut_fromA, Nat.zero_le, and_true, decide_true, setS, List.foldl_cons, List.foldl_nil, setE, wipeE, List.foldl_append, decide_false, Int.natCast_one, Int.natCast_zero, Int.cast_ofNat_Int, Int.reduceEq, oEqS, oNeS, oEqI, oNeI, oLtS, oLtI, oLeI, oGtI, oGeI, oAddS, oAddI', oAddT, oAddL, oLenS, oLenT, oLenL, oSlS, oSlT, oSlL, oSub, oTuple, oIx0, oIx1, oMulS, oMulI, oFdivI, oIsB, oIsntB, oIsN, oIsntN, isNone]
    refine ⟨_, rfl, ⟨by omega, by omega⟩, fun k hk0 hk1 => ?_⟩
    obtain ⟨m, rfl⟩ : ∃ m : Nat, k = (m : Int) := ⟨k.toNat, by omega⟩
    have hm : m < L.length := by omega
    exact oIxS (List.getElem?_eq_getElem hm) (q' _ ⟨L[m], List.getElem_mem hm, rfl⟩)
  · simp only [sSeq, sIf, sRet, sRetN, sNext, sSetF, sSetN, sOwn, sExpr, sUnpF, sUnpN, sPar, sApp, sExt, sPutD, sAugF, sAugN, sFor, fVar, fC, fBin, fChain, fAnd, fOr, fNot, fIf, fTB, fTru, fAndT, fOrT, fNotT, fNil, fCons, fTup, fLst, fCall, fIsi, fSl, fNo, fPart, fNeg, fRev, fCallF, fLc, fRng1, fRng2, fSeq, fEnum, fJoin, fDictK, fDictT, vN, vF, startS, asB, asI, truD, isDict, isT, seqD, ownL, ownD, frAt, okM, exL, vw, oRev, List.map_cons, List.map_nil, List.length_cons, List.length_nil, List.replicate, List.cons_append, List.nil_append, List.append_nil, List.getElem?_cons_zero, List.getElem?_cons_succ, List.set_cons_zero, List.set_cons_succ, Option.map_some, Option.map_none, Option.bind_some, Option.bind_none, Sl.dat, Sl.frz, Nat.sub_self, Nat.reduceSub, Nat.reduceAdd, Bool.not_true, Bool.not_false, Bool.false_eq_true, if_true, if_false, reduceCtorEq, Nat.reduceLeDiff, true_and, cut_at, cut_to, cut_from, cut_fromA, Nat.zero_le, and_true, decide_true, setS, List.foldl_cons, List.foldl_nil, setE, wipeE, List.foldl_append, decide_false, Int.natCast_one, Int.natCast_zero, Int.cast_ofNat_Int, Int.reduceEq, oEqS, oNeS, oEqI, oNeI, oLtS, oLtI, oLeI, oGtI, oGeI, oAddS, oAddI', oAddT, oAddL, oLenS, oLenT, oLenL, oSlS, oSlT, oSlL, oSub, oTuple, oIx0, oIx1, oMulS, oMulI, oFdivI, oIsB, oIsntB, oIsN, oIsntN, isNone]
    obtain ⟨w, e, ho, hwl⟩ := ones_of hys
    rw [List.length_range] at hl
    refine ⟨[], w.map fun c => [c], rfl, .inl (by rw [e]), ?_, ?_⟩
    · rw [sum_ones]; simp; omega
    · rw [joinW_ones]
      exact q w (by omega) ho
end K68
set_option Elab.async false
set_option linter.all false
set_option maxRecDepth 100000
set_option maxHeartbeats 4000000
set_option autoImplicit false
namespace K68
open PySem L2 T2
/-! ### drawn rules -/
abbrev keyV (r : Rule) : D × D := (ruD r, .bool true)
theorem eqv_ru (a b : Rule) : PyData.eqv (ruD a) (ruD b) = decide (a = b) := by
  rw [Bool.eq_iff_iff, eqv_nb _ _ (nb_ru a) (nb_ru b), decide_eq_true_eq]
  exact ⟨ruD_inj, fun h => by rw [h]⟩
def insR (S : List Rule) (r : Rule) : List Rule := if r ∈ S then S else S ++ [r]
theorem put_ins (S : List Rule) (r : Rule) : putD (S.map keyV) (ruD r) (.bool true) = (insR S r).map keyV := by
  unfold putD insR
  have e : ((S.map keyV).any fun p => PyData.eqv p.1 (ruD r)) = decide (r ∈ S) := by
    rw [List.any_map, Bool.eq_iff_iff, List.any_eq_true, decide_eq_true_eq]
    constructor
    · rintro ⟨x, hx, h⟩
      have h : PyData.eqv (ruD x) (ruD r) = true := h
      rw [eqv_ru, decide_eq_true_eq] at h
      exact h ▸ hx
    · intro h
      exact ⟨r, h, by show PyData.eqv (ruD r) (ruD r) = true; rw [eqv_ru]; simp⟩
  rw [e]
  by_cases h : r ∈ S
  · rw [if_pos (decide_eq_true h), if_pos h, List.map_map]
    apply List.map_congr_left
    intro x _
    show (if PyData.eqv (ruD x) (ruD r) = true then (ruD x, PyData.bool true) else (ruD x, PyData.bool true)) = _
    split <;> rfl
  · rw [if_neg (by simp [h]), if_neg h, List.map_append]; rfl
theorem ins_nodup {S : List Rule} (h : S.Nodup) (r : Rule) : (insR S r).Nodup := by
  unfold insR
  split
  · exact h
  · rw [List.nodup_append]
    refine ⟨h, by simp, fun a ha b hb => ?_⟩
    rw [List.mem_singleton.mp hb]
    intro z
    subst z
    contradiction
theorem ins_mem {S : List Rule} {r x : Rule} (h : x ∈ insR S r) : x ∈ S ∨ x = r := by
  unfold insR at h
  split at h
  · exact .inl h
  · rcases List.mem_append.mp h with h | h
    · exact .inl h
    · exact .inr (List.mem_singleton.mp h)
theorem ins_len (S : List Rule) (r : Rule) : (insR S r).length ≤ S.length + 1 := by
  unfold insR
  split
  · omega
  · simp
/-- sorted: strictly upwards -/
def rle (a b : Rule) : Bool := !rlt b a
noncomputable def srt (S : List Rule) : List Rule := S.mergeSort rle
theorem srt_perm (S : List Rule) : (srt S).Perm S := List.mergeSort_perm _ _
theorem rle_trans (a b c : Rule) (h1 : rle a b = true) (h2 : rle b c = true) : rle a c = true := by
  unfold rle at *
  simp only [Bool.not_eq_true'] at *
  cases h : rlt c a with
  | false => rfl
  | true =>
    rcases rlt_tri a b with h3 | h3 | h3
    · have := rlt_trans h h3
      rw [this] at h2; cases h2
    · subst h3; rw [h] at h2; cases h2
    · rw [h3] at h1; cases h1
theorem rle_total (a b : Rule) : (rle a b || rle b a) = true := by
  unfold rle
  rcases rlt_tri a b with h | h | h
  · rw [rlt_asym h]; rfl
  · subst h; rw [rlt_irr]; rfl
  · rw [rlt_asym h]; simp
theorem srt_le (S : List Rule) : (srt S).Pairwise fun a b => rle a b = true := List.pairwise_mergeSort rle_trans rle_total S
theorem srt_up {S : List Rule} (h : S.Nodup) : Up (srt S) := by
  have h1 := srt_le S
  have h2 : (srt S).Nodup := (srt_perm S).nodup_iff.mpr h
  have := List.pairwise_and_iff.mpr ⟨h1, h2⟩
  refine this.imp fun {a b} ⟨x, y⟩ => ?_
  unfold rle at x
  rcases rlt_tri a b with h | h | h
  · exact h
  · exact absurd h y
  · rw [h] at x; cases x
theorem srt_uniq {S T : List Rule} (hp : T.Perm S) (h : Up T) : srt S = T := by
  refine List.Perm.eq_of_pairwise (le := fun a b => rle a b = true) (fun a b _ _ h1 h2 => ?_) (srt_le S) (h.imp fun {a b} x => by unfold rle; rw [rlt_asym x]; rfl) ((srt_perm S).trans hp.symm)
  unfold rle at h1 h2
  rcases rlt_tri a b with h | h | h
  · rw [h] at h2; cases h2
  · exact h
  · rw [h] at h1; cases h1
theorem sortD_ru (S : List Rule) : sortD (S.map ruD) = (srt S).map ruD := by
  unfold sortD srt
  symm
  apply List.map_mergeSort
  intro a _ b _
  rw [PySem.W.dataLe_eq]
  show rle a b = !PySem.W.dataLt (ruD b) (ruD a)
  rw [lt_ru]; rfl
theorem allOk_ru (S : List Rule) : allOk (S.map ruD) := by
  refine ⟨fun d hd => ?_, fun d hd d' hd' => ?_, .inl fun d hd => ?_⟩
  · obtain ⟨r, _, rfl⟩ := List.mem_map.mp hd
    exact ⟨plain_ru r, by simp [PyData.depth, PyData.depthAll]⟩
  · obtain ⟨r, _, rfl⟩ := List.mem_map.mp hd
    obtain ⟨r', _, rfl⟩ := List.mem_map.mp hd'
    exact (ru_ok r r').2.2.1
  · obtain ⟨r, _, rfl⟩ := List.mem_map.mp hd
    exact ⟨_, _, rfl⟩
structure Drawn (L : Wo) (long : Nat) (r : Rule) : Prop where
  ru : isRu r = true
  o1 : Over L r.1
  o2 : Over L r.2
  l1 : r.1.length ≤ long
  l2 : r.2.length ≤ long
def sp_rules : QSp := fun ds Q => ∃ (most long : Nat) (L : Wo), ds = [boxD, .int most, .int long, sD L] ∧ most ≤ 24 ∧ 1 ≤ long ∧ long ≤ 12 ∧ 1 ≤ L.length ∧ L.length ≤ 1000 ∧ (∀ c ∈ L, az c = true) ∧
  ∀ R : List Rule, Up R → R.length ≤ most → (∀ r ∈ R, Drawn L long r) → Q (rsD R)
theorem isWo_of {L w : Wo} (hL : ∀ c ∈ L, az c = true) (h : Over L w) (hl : w.length ≤ 60) : isWo w = true := by
  unfold isWo
  rw [decide_eq_true hl, Bool.true_and, List.all_eq_true]
  exact fun c hc => hL c (h c hc)
theorem p__law_rules : Pure 8 sp_rules (F__law_rules sp_wlt sp_draw sp_word) := by
  rintro ds Q ⟨most, long, L, rfl, h1, h2, h3, h4, h5, hL, q⟩
  simp only [F__law_rules, sSeq, sIf, sRet, sRetN, sNext, sSetF, sSetN, sOwn, sExpr, sUnpF, sUnpN, sPar, sApp, sExt, sPutD, sAugF, sAugN, sFor, fVar, fC, fBin, fChain, fAnd, fOr, fNot, fIf, fTB, fTru, fAndT, fOrT, fNotT, fNil, fCons, fTup, fLst, fCall, fIsi, fSl, fNo, fPart, fNeg, fRev, fCallF, fLc, fRng1, fRng2, fSeq, fEnum, fJoin, fDictK, fDictT, vN, vF, startS, asB, asI, truD, isDict, isT, seqD, ownL, ownD, frAt, okM, exL, vw, oRev, List.map_cons, List.map_nil, List.length_cons, List.length_nil, List.replicate, List.cons_append, List.nil_append, List.append_nil, List.getElem?_cons_zero, List.getElem?_cons_succ, List.set_cons_zero, List.set_cons_succ, Option.map_some, Option.map_none, Option.bind_some, Option.bind_none, Sl.dat, Sl.frz, Nat.sub_self, Nat.reduceSub, Nat.reduceAdd, Bool.not_true, Bool.not_false, Bool.false_eq_true, if_true, if_false, reduceCtorEq, Nat.reduceLeDiff, true_and, cut_at, cut_to, cut_from, cut_fromA, Nat.zero_le, and_true, decide_true, setS, List.foldl_cons, List.foldl_nil, setE, wipeE, List.foldl_append, decide_false, Int.natCast_one, Int.natCast_zero, Int.cast_ofNat_Int, Int.reduceEq, oEqS, oNeS, oEqI, oNeI, oLtS, oLtI, oLeI, oGtI, oGeI, oAddS, oAddI', oAddT, oAddL, oLenS, oLenT, oLenL, oSlS, oSlT, oSlL, oSub, oTuple, oIx0, oIx1, oMulS, oMulI, oFdivI, oIsB, oIsntB, oIsN, oIsntN, isNone]
  refine ⟨_, rfl, ⟨by omega, by omega⟩, fun n hn0 hn1 => ?_⟩
  simp only [sSeq, sIf, sRet, sRetN, sNext, sSetF, sSetN, sOwn, sExpr, sUnpF, sUnpN, sPar, sApp, sExt, sPutD, sAugF, sAugN, sFor, fVar, fC, fBin, fChain, fAnd, fOr, fNot, fIf, fTB, fTru, fAndT, fOrT, fNotT, fNil, fCons, fTup, fLst, fCall, fIsi, fSl, fNo, fPart, fNeg, fRev, fCallF, fLc, fRng1, fRng2, fSeq, fEnum, fJoin, fDictK, fDictT, vN, vF, startS, asB, asI, truD, isDict, isT, seqD, ownL, ownD, frAt, okM, exL, vw, oRev, List.map_cons, List.map_nil, List.length_cons, List.length_nil, List.replicate, List.cons_append, List.nil_append, List.append_nil, List.getElem?_cons_zero, List.getElem?_cons_succ, List.set_cons_zero, List.set_cons_succ, Option.map_some, Option.map_none, Option.bind_some, Option.bind_none, Sl.dat, Sl.frz, Nat.sub_self, Nat.reduceSub, Nat.reduceAdd, Bool.not_true, Bool.not_false, Bool.false_eq_true, if_true, if_false, reduceCtorEq, Nat.reduceLeDiff, true_and, cut_at, cut_to, cut_from, cut_fromA, Nat.zero_le, and_true, decide_true, setS, List.foldl_cons, List.foldl_nil, setE, wipeE, List.foldl_append, decide_false, Int.natCast_one, Int.natCast_zero, Int.cast_ofNat_Int, Int.reduceEq, oEqS, oNeS, oEqI, oNeI, oLtS, oLtI, oLeI, oGtI, oGeI, oAddS, oAddI', oAddT, oAddL, oLenS, oLenT, oLenL, oSlS, oSlT, oSlL, oSub, oTuple, oIx0, oIx1, oMulS, oMulI, oFdivI, oIsB, oIsntB, oIsN, oIsntN, isNone]
  refine ⟨by omega, ?_⟩
  rw [natsD0]
  refine qFor_inv (fun i env => ∃ (S : List Rule) (a b c : Option Sl), env = [some (.fr boxD), some (.fr (.int (most : Int))), some (.fr (.int (long : Int))), some (.fr (sD L)), some (.ow (dTD (S.map keyV))), a, b, c] ∧ S.Nodup ∧ S.length ≤ i ∧ ∀ r ∈ S, Drawn L long r) ⟨[], _, _, _, rfl, List.nodup_nil, Nat.le_refl _, fun _ h => nomatch h⟩ ?_ ?_
  · rintro i x env hx ⟨S, a, b, c, rfl, hnd, hlen, hall⟩
    have hi : i < n.toNat := by
      have := (List.getElem?_eq_some_iff.mp hx).1
      rwa [List.length_range] at this
    refine ⟨_, rfl, fun K hK => ?_⟩
    simp only [sSeq, sIf, sRet, sRetN, sNext, sSetF, sSetN, sOwn, sExpr, sUnpF, sUnpN, sPar, sApp, sExt, sPutD, sAugF, sAugN, sFor, fVar, fC, fBin, fChain, fAnd, fOr, fNot, fIf, fTB, fTru, fAndT, fOrT, fNotT, fNil, fCons, fTup, fLst, fCall, fIsi, fSl, fNo, fPart, fNeg, fRev, fCallF, fLc, fRng1, fRng2, fSeq, fEnum, fJoin, fDictK, fDictT, vN, vF, startS, asB, asI, truD, isDict, isT, seqD, ownL, ownD, frAt, okM, exL, vw, oRev, List.map_cons, List.map_nil, List.length_cons, List.length_nil, List.replicate, List.cons_append, List.nil_append, List.append_nil, List.getElem?_cons_zero, List.getElem?_cons_succ, List.set_cons_zero, List.set_cons_succ, Option.map_some, Option.map_none, Option.bind_some, Option.bind_none, Sl.dat, Sl.frz, Nat.sub_self, Nat.reduceSub, Nat.reduceAdd, Bool.not_true, Bool.not_false, Bool.false_eq_true, if_true, if_false, reduceCtorEq, Nat.reduceLeDiff, true_and, cut_at, cut_to, cut_from, cut_fromA, Nat.zero_le, and_true, decide_true, setS, List.foldl_cons, List.foldl_nil, setE, wipeE, List.foldl_append, decide_false, Int.natCast_one, Int.natCast_zero, Int.cast_ofNat_Int, Int.reduceEq, oEqS, oNeS, oEqI, oNeI, oLtS, oLtI, oLeI, oGtI, oGeI, oAddS, oAddI', oAddT, oAddL, oLenS, oLenT, oLenL, oSlS, oSlT, oSlL, oSub, oTuple, oIx0, oIx1, oMulS, oMulI, oFdivI, oIsB, oIsntB, oIsN, oIsntN, isNone]
    refine ⟨_, rfl, ⟨by omega, by omega⟩, fun k hk0 hk1 => ?_⟩
    obtain ⟨m, rfl⟩ : ∃ m : Nat, k = (m : Int) := ⟨k.toNat, by omega⟩
    have hm : m < L.length := by omega
    refine oIxS (List.getElem?_eq_getElem hm) ?_
    refine ⟨_, L, rfl, by omega, by omega, h4, h5, fun u hu ho => ?_⟩
    refine ⟨by simp; omega, ?_⟩
    refine ⟨_, L, rfl, by omega, by omega, h4, h5, fun v hv ho2 => ?_⟩
    simp only [sSeq, sIf, sRet, sRetN, sNext, sSetF, sSetN, sOwn, sExpr, sUnpF, sUnpN, sPar, sApp, sExt, sPutD, sAugF, sAugN, sFor, fVar, fC, fBin, fChain, fAnd, fOr, fNot, fIf, fTB, fTru, fAndT, fOrT, fNotT, fNil, fCons, fTup, fLst, fCall, fIsi, fSl, fNo, fPart, fNeg, fRev, fCallF, fLc, fRng1, fRng2, fSeq, fEnum, fJoin, fDictK, fDictT, vN, vF, startS, asB, asI, truD, isDict, isT, seqD, ownL, ownD, frAt, okM, exL, vw, oRev, List.map_cons, List.map_nil, List.length_cons, List.length_nil, List.replicate, List.cons_append, List.nil_append, List.append_nil, List.getElem?_cons_zero, List.getElem?_cons_succ, List.set_cons_zero, List.set_cons_succ, Option.map_some, Option.map_none, Option.bind_some, Option.bind_none, Sl.dat, Sl.frz, Nat.sub_self, Nat.reduceSub, Nat.reduceAdd, Bool.not_true, Bool.not_false, Bool.false_eq_true, if_true, if_false, reduceCtorEq, Nat.reduceLeDiff, true_and, cut_at, cut_to, cut_from, cut_fromA, Nat.zero_le, and_true, decide_true, setS, List.foldl_cons, List.foldl_nil, setE, wipeE, List.foldl_append, decide_false, Int.natCast_one, Int.natCast_zero, Int.cast_ofNat_Int, Int.reduceEq, oEqS, oNeS, oEqI, oNeI, oLtS, oLtI, oLeI, oGtI, oGeI, oAddS, oAddI', oAddT, oAddL, oLenS, oLenT, oLenL, oSlS, oSlT, oSlL, oSub, oTuple, oIx0, oIx1, oMulS, oMulI, oFdivI, oIsB, oIsntB, oIsN, oIsntN, isNone]
    refine ⟨v, L[m] :: u, rfl, ?_⟩
    cases hw : wlt v (L[m] :: u) with
    | false =>
      simp only [sSeq, sIf, sRet, sRetN, sNext, sSetF, sSetN, sOwn, sExpr, sUnpF, sUnpN, sPar, sApp, sExt, sPutD, sAugF, sAugN, sFor, fVar, fC, fBin, fChain, fAnd, fOr, fNot, fIf, fTB, fTru, fAndT, fOrT, fNotT, fNil, fCons, fTup, fLst, fCall, fIsi, fSl, fNo, fPart, fNeg, fRev, fCallF, fLc, fRng1, fRng2, fSeq, fEnum, fJoin, fDictK, fDictT, vN, vF, startS, asB, asI, truD, isDict, isT, seqD, ownL, ownD, frAt, okM, exL, vw, oRev, List.map_cons, List.map_nil, List.length_cons, List.length_nil, List.replicate, List.cons_append, List.nil_append, List.append_nil, List.getElem?_cons_zero, List.getElem?_cons_succ, List.set_cons_zero, List.set_cons_succ, Option.map_some, Option.map_none, Option.bind_some, Option.bind_none, Sl.dat, Sl.frz, Nat.sub_self, Nat.reduceSub, Nat.reduceAdd, Bool.not_true, Bool.not_false, Bool.false_eq_true, if_true, if_false, reduceCtorEq, Nat.reduceLeDiff, true_and, cut_at, cut_to, cut_from, cut_fromA, Nat.zero_le, and_true, decide_true, setS, List.foldl_cons, List.foldl_nil, setE, wipeE, List.foldl_append, decide_false, Int.natCast_one, Int.natCast_zero, Int.cast_ofNat_Int, Int.reduceEq, oEqS, oNeS, oEqI, oNeI, oLtS, oLtI, oLeI, oGtI, oGeI, oAddS, oAddI', oAddT, oAddL, oLenS, oLenT, oLenL, oSlS, oSlT, oSlL, oSub, oTuple, oIx0, oIx1, oMulS, oMulI, oFdivI, oIsB, oIsntB, oIsN, oIsntN, isNone]
      exact hK _ ⟨S, _, _, _, rfl, hnd, by omega, hall⟩
    | true =>
      simp only [sSeq, sIf, sRet, sRetN, sNext, sSetF, sSetN, sOwn, sExpr, sUnpF, sUnpN, sPar, sApp, sExt, sPutD, sAugF, sAugN, sFor, fVar, fC, fBin, fChain, fAnd, fOr, fNot, fIf, fTB, fTru, fAndT, fOrT, fNotT, fNil, fCons, fTup, fLst, fCall, fIsi, fSl, fNo, fPart, fNeg, fRev, fCallF, fLc, fRng1, fRng2, fSeq, fEnum, fJoin, fDictK, fDictT, vN, vF, startS, asB, asI, truD, isDict, isT, seqD, ownL, ownD, frAt, okM, exL, vw, oRev, List.map_cons, List.map_nil, List.length_cons, List.length_nil, List.replicate, List.cons_append, List.nil_append, List.append_nil, List.getElem?_cons_zero, List.getElem?_cons_succ, List.set_cons_zero, List.set_cons_succ, Option.map_some, Option.map_none, Option.bind_some, Option.bind_none, Sl.dat, Sl.frz, Nat.sub_self, Nat.reduceSub, Nat.reduceAdd, Bool.not_true, Bool.not_false, Bool.false_eq_true, if_true, if_false, reduceCtorEq, Nat.reduceLeDiff, true_and, cut_at, cut_to, cut_from, cut_fromA, Nat.zero_le, and_true, decide_true, setS, List.foldl_cons, List.foldl_nil, setE, wipeE, List.foldl_append, decide_false, Int.natCast_one, Int.natCast_zero, Int.cast_ofNat_Int, Int.reduceEq, oEqS, oNeS, oEqI, oNeI, oLtS, oLtI, oLeI, oGtI, oGeI, oAddS, oAddI', oAddT, oAddL, oLenS, oLenT, oLenL, oSlS, oSlT, oSlL, oSub, oTuple, oIx0, oIx1, oMulS, oMulI, oFdivI, oIsB, oIsntB, oIsN, oIsntN, isNone, ownD, withD, dicD, keyFor, tOf, ksOf, kOf, Option.isSome, List.length_map]
      refine ⟨by omega, ?_⟩
      have hd : Drawn L long (L[m] :: u, v) := by
        have hou : Over L (L[m] :: u) := fun c hc => by
          rcases List.mem_cons.mp hc with rfl | hc
          · exact List.getElem_mem hm
          · exact ho c hc
        have hl : (L[m] :: u).length ≤ long := by simp; omega
        have hlv : v.length ≤ long := by omega
        refine ⟨?_, hou, ho2, hl, hlv⟩
        show (isWo (L[m] :: u) && isWo v && decide (1 ≤ (L[m] :: u).length) && decide ((L[m] :: u).length ≤ 12) && wlt v (L[m] :: u)) = true
        rw [isWo_of hL hou (by omega), isWo_of hL ho2 (by omega), hw, decide_eq_true (show 1 ≤ (L[m] :: u).length by simp), decide_eq_true (show (L[m] :: u).length ≤ 12 by omega)]
        rfl
      have e := put_ins S (L[m] :: u, v)
      have e2 : mkD true (putD (S.map keyV) (.tuple [sD (L[m] :: u), sD v]) (.bool true)) = dTD ((insR S (L[m] :: u, v)).map keyV) := by
        rw [← e]; rfl
      rw [e2]
      refine hK _ ⟨insR S (L[m] :: u, v), _, _, _, rfl, ins_nodup hnd _, Nat.le_trans (ins_len _ _) (by omega), fun r hr => ?_⟩
      rcases ins_mem hr with hr | rfl
      · exact hall r hr
      · exact hd
  · rintro env ⟨S, a, b, c, rfl, hnd, hlen, hall⟩
    rw [List.length_range] at hlen
    simp only [sSeq, sIf, sRet, sRetN, sNext, sSetF, sSetN, sOwn, sExpr, sUnpF, sUnpN, sPar, sApp, sExt, sPutD, sAugF, sAugN, sFor, fVar, fC, fBin, fChain, fAnd, fOr, fNot, fIf, fTB, fTru, fAndT, fOrT, fNotT, fNil, fCons, fTup, fLst, fCall, fIsi, fSl, fNo, fPart, fNeg, fRev, fCallF, fLc, fRng1, fRng2, fSeq, fEnum, fJoin, fDictK, fDictT, vN, vF, startS, asB, asI, truD, isDict, isT, seqD, ownL, ownD, frAt, okM, exL, vw, oRev, List.map_cons, List.map_nil, List.length_cons, List.length_nil, List.replicate, List.cons_append, List.nil_append, List.append_nil, List.getElem?_cons_zero, List.getElem?_cons_succ, List.set_cons_zero, List.set_cons_succ, Option.map_some, Option.map_none, Option.bind_some, Option.bind_none, Sl.dat, Sl.frz, Nat.sub_self, Nat.reduceSub, Nat.reduceAdd, Bool.not_true, Bool.not_false, Bool.false_eq_true, if_true, if_false, reduceCtorEq, Nat.reduceLeDiff, true_and, cut_at, cut_to, cut_from, cut_fromA, Nat.zero_le, and_true, decide_true, setS, List.foldl_cons, List.foldl_nil, setE, wipeE, List.foldl_append, decide_false, Int.natCast_one, Int.natCast_zero, Int.cast_ofNat_Int, Int.reduceEq, oEqS, oNeS, oEqI, oNeI, oLtS, oLtI, oLeI, oGtI, oGeI, oAddS, oAddI', oAddT, oAddL, oLenS, oLenT, oLenL, oSlS, oSlT, oSlL, oSub, oTuple, oIx0, oIx1, oMulS, oMulI, oFdivI, oIsB, oIsntB, oIsN, oIsntN, isNone, oSortedD, withD, dicD]
    have e : (S.map keyV).map (·.1) = S.map ruD := by rw [List.map_map]; rfl
    rw [e]
    refine ⟨allOk_ru S, fun p hp => ?_, by rw [List.length_map]; omega, ?_⟩
    · obtain ⟨r, hr, rfl⟩ := List.mem_map.mp hp
      have hd := hall r hr
      have := hd.l1
      have := hd.l2
      show (decide (2 ≤ 16000000) && ([sD r.1, sD r.2].all fun d => match d with
        | .str x => decide (x.cps.toList.length ≤ 16000000)
        | _ => true)) = true
      simp
      omega
    · rw [sortD_ru]
      refine q (srt S) (srt_up hnd) ?_ fun r hr => hall r ((srt_perm S).mem_iff.mp hr)
      rw [(srt_perm S).length_eq]
      omega
end K68
set_option Elab.async false
set_option linter.all false
set_option maxRecDepth 100000
set_option maxHeartbeats 4000000
set_option autoImplicit false
namespace K68
open PySem L2 T2
/-! ### rules with something wrong -/
theorem no_rule {ds : List D} {d : D} (h : d ∈ ds) (hd : isRuleD d = false) : areRules (.tuple ds) = false := by
  show (decide (ds.length ≤ 24) && ds.all isRuleD && ascR (ds.filterMap ruOf)) = false
  have : ds.all isRuleD = false := by
    rw [List.all_eq_false]
    exact ⟨d, h, by rw [hd]; decide⟩
  rw [this]; simp
theorem no_asc {R : List Rule} (h : ascR R = false) : areRules (rsD R) = false := by
  show (decide ((R.map ruD).length ≤ 24) && (R.map ruD).all isRuleD && ascR ((R.map ruD).filterMap ruOf)) = false
  rw [fm_ru, h]; simp
def odds : List D := [.tuple [sD [97], sD [97]], .tuple [sD [97], sD [98]], .tuple [sD [], sD []], .tuple [sD [97], sD [97, 97]], .tuple [sD (List.replicate (13 : Int).toNat [97]).flatten, sD []], .tuple [sD [65], sD []], .tuple [sD [97], .none], .tuple [sD [97]], .tuple [sD [97], sD [], sD []], .none, sD [97, 98], .tuple [sD [97, 98], sD [98, 97]]]
theorem odds_ok : (odds.all fun d => !isRuleD d && d.plain) = true := by decide +kernel
theorem odds_at {n : Nat} (h : n < 12) : ∃ d, odds[n]? = some d ∧ isRuleD d = false ∧ d.plain = true := by
  have hl : n < odds.length := h
  have := List.all_eq_true.mp odds_ok _ (List.getElem_mem hl)
  rw [Bool.and_eq_true, Bool.not_eq_true'] at this
  exact ⟨odds[n], List.getElem?_eq_getElem hl, this⟩
def sp_bad : QSp := fun ds Q => ∃ R : List Rule, ds = [boxD, rsD R] ∧ R.length ≤ 24 ∧ Up R ∧ ∀ d : D, d.plain = true → areRules d = false → Q d
theorem plain_tup {xs : List D} : (PyData.tuple xs).plain = PyData.plainAll xs := by rw [PyData.plain]
theorem plainAll_app : ∀ {xs ys : List D}, PyData.plainAll xs = true → PyData.plainAll ys = true → PyData.plainAll (xs ++ ys) = true
  | [], _, _, h => h
  | x :: xs, ys, h, h2 => by
    rw [PyData.plainAll, Bool.and_eq_true] at h
    rw [List.cons_append, PyData.plainAll, h.1, plainAll_app h.2 h2]; rfl
theorem plainAll_sub {xs ys : List D} (h : PyData.plainAll xs = true) (hs : ∀ y ∈ ys, y ∈ xs) : PyData.plainAll ys = true := plainAll_of fun y hy => plain_mem h (hs y hy)
theorem plain_rus (R : List Rule) : PyData.plainAll (R.map ruD) = true := plainAll_of fun x hx => by obtain ⟨r, _, rfl⟩ := List.mem_map.mp hx; exact plain_ru r
theorem p__law_bad : Pure 6 sp_bad (F__law_bad sp_draw) := by
  rintro ds Q ⟨R, rfl, hR, hup, q⟩
  simp only [F__law_bad, sSeq, sIf, sRet, sRetN, sNext, sSetF, sSetN, sOwn, sExpr, sUnpF, sUnpN, sPar, sApp, sExt, sPutD, sAugF, sAugN, sFor, fVar, fC, fBin, fChain, fAnd, fOr, fNot, fIf, fTB, fTru, fAndT, fOrT, fNotT, fNil, fCons, fTup, fLst, fCall, fIsi, fSl, fNo, fPart, fNeg, fRev, fCallF, fLc, fRng1, fRng2, fSeq, fEnum, fJoin, fDictK, fDictT, vN, vF, startS, asB, asI, truD, isDict, isT, seqD, ownL, ownD, frAt, okM, exL, vw, oRev, List.map_cons, List.map_nil, List.length_cons, List.length_nil, List.replicate, List.cons_append, List.nil_append, List.append_nil, List.getElem?_cons_zero, List.getElem?_cons_succ, List.set_cons_zero, List.set_cons_succ, Option.map_some, Option.map_none, Option.bind_some, Option.bind_none, Sl.dat, Sl.frz, Nat.sub_self, Nat.reduceSub, Nat.reduceAdd, Bool.not_true, Bool.not_false, Bool.false_eq_true, if_true, if_false, reduceCtorEq, Nat.reduceLeDiff, true_and, cut_at, cut_to, cut_from, cut_fromA, Nat.zero_le, and_true, decide_true, setS, List.foldl_cons, List.foldl_nil, setE, wipeE, List.foldl_append, decide_false, Int.natCast_one, Int.natCast_zero, Int.cast_ofNat_Int, Int.reduceEq, oEqS, oNeS, oEqI, oNeI, oLtS, oLtI, oLeI, oGtI, oGeI, oAddS, oAddI', oAddT, oAddL, oLenS, oLenT, oLenL, oSlS, oSlT, oSlL, oSub, oTuple, oIx0, oIx1, oMulS, oMulI, oFdivI, oIsB, oIsntB, oIsN, oIsntN, isNone, List.length_map]
  refine ⟨by decide, by decide, by decide, ?_⟩
  refine ⟨_, rfl, ⟨by omega, by omega⟩, fun a ha0 ha1 => ?_⟩
  obtain ⟨n, rfl⟩ : ∃ n : Nat, a = (n : Int) := ⟨a.toNat, by omega⟩
  refine ⟨_, rfl, ⟨by omega, by omega⟩, fun b hb0 hb1 => ?_⟩
  obtain ⟨m, rfl⟩ : ∃ m : Nat, b = (m : Int) := ⟨b.toNat, by omega⟩
  obtain ⟨one, e1, e2, e3⟩ := odds_at (show m < 12 by omega)
  show oIx (.list odds) (.int (m : Int)) _
  rw [oIxL e1]
  simp only [sSeq, sIf, sRet, sRetN, sNext, sSetF, sSetN, sOwn, sExpr, sUnpF, sUnpN, sPar, sApp, sExt, sPutD, sAugF, sAugN, sFor, fVar, fC, fBin, fChain, fAnd, fOr, fNot, fIf, fTB, fTru, fAndT, fOrT, fNotT, fNil, fCons, fTup, fLst, fCall, fIsi, fSl, fNo, fPart, fNeg, fRev, fCallF, fLc, fRng1, fRng2, fSeq, fEnum, fJoin, fDictK, fDictT, vN, vF, startS, asB, asI, truD, isDict, isT, seqD, ownL, ownD, frAt, okM, exL, vw, oRev, List.map_cons, List.map_nil, List.length_cons, List.length_nil, List.replicate, List.cons_append, List.nil_append, List.append_nil, List.getElem?_cons_zero, List.getElem?_cons_succ, List.set_cons_zero, List.set_cons_succ, Option.map_some, Option.map_none, Option.bind_some, Option.bind_none, Sl.dat, Sl.frz, Nat.sub_self, Nat.reduceSub, Nat.reduceAdd, Bool.not_true, Bool.not_false, Bool.false_eq_true, if_true, if_false, reduceCtorEq, Nat.reduceLeDiff, true_and, cut_at, cut_to, cut_from, cut_fromA, Nat.zero_le, and_true, decide_true, setS, List.foldl_cons, List.foldl_nil, setE, wipeE, List.foldl_append, decide_false, Int.natCast_one, Int.natCast_zero, Int.cast_ofNat_Int, Int.reduceEq, oEqS, oNeS, oEqI, oNeI, oLtS, oLtI, oLeI, oGtI, oGeI, oAddS, oAddI', oAddT, oAddL, oLenS, oLenT, oLenL, oSlS, oSlT, oSlL, oSub, oTuple, oIx0, oIx1, oMulS, oMulI, oFdivI, oIsB, oIsntB, oIsN, oIsntN, isNone, List.length_map]
  have hcut : cut (R.map ruD) (some ((n : Int) + 1)) none = (R.map ruD).drop (n + 1) := cut_from _ (n + 1)
  simp only [hcut]
  have s1 := List.length_take (i := n) (l := R.map ruD)
  have s2 := List.length_drop (i := n) (l := R.map ruD)
  have s3 := List.length_drop (i := n + 1) (l := R.map ruD)
  rw [List.length_map] at s1 s2 s3
  refine ⟨by omega, by rw [List.length_append, s1, s2]; simp; omega, by omega, by rw [List.length_append, s1, s3]; simp; omega, ?_⟩
  refine oNe_ok (b := R.isEmpty) (plain_rs R) rfl (by simp [PyData.depth, PyData.depthAll]) (by cases R <;> simp [PyData.eqv, PyData.eqvAll]) ?_
  have one_bad : ∀ xs ys : List D, areRules (.tuple (xs ++ [one] ++ ys)) = false := fun xs ys => no_rule (d := one) (by simp) e2
  have pl : ∀ xs ys : List D, (∀ x ∈ xs, x ∈ R.map ruD) → (∀ x ∈ ys, x ∈ R.map ruD) → (PyData.tuple (xs ++ [one] ++ ys)).plain = true := fun xs ys h1 h2 => by
    rw [plain_tup]
    exact plainAll_app (plainAll_app (plainAll_sub (plain_rus R) h1) (by rw [PyData.plainAll, e3]; rfl)) (plainAll_sub (plain_rus R) h2)
  have fin : ∀ x3 x4 : D, (x3.plain = true ∧ areRules x3 = false) → (x4.plain = true ∧ areRules x4 = false) → ∀ k : Int, 0 ≤ k → k < 8 →
      oIx (.list [.tuple ((R.map ruD).take n ++ [one] ++ (R.map ruD).drop n), .tuple ((R.map ruD).take n ++ [one] ++ (R.map ruD).drop (n + 1)), x3, x4, .none, sD [114, 117, 108, 101, 115], .tuple [one], .tuple [.tuple [sD [97], sD []], .tuple [sD [97], sD []]]]) (.int k) Q := by
    intro x3 x4 h3 h4 k hk0 hk1
    obtain ⟨j, rfl⟩ : ∃ j : Nat, k = (j : Int) := ⟨k.toNat, by omega⟩
    have hj : j < 8 := by omega
    match j, hj with
    | 0, _ => rw [oIxL rfl]; exact q _ (pl _ _ (fun _ h => List.mem_of_mem_take h) (fun _ h => List.mem_of_mem_drop h)) (one_bad _ _)
    | 1, _ => rw [oIxL rfl]; exact q _ (pl _ _ (fun _ h => List.mem_of_mem_take h) (fun _ h => List.mem_of_mem_drop h)) (one_bad _ _)
    | 2, _ => rw [oIxL rfl]; exact q _ h3.1 h3.2
    | 3, _ => rw [oIxL rfl]; exact q _ h4.1 h4.2
    | 4, _ => rw [oIxL rfl]; exact q _ rfl rfl
    | 5, _ => rw [oIxL rfl]; exact q _ rfl rfl
    | 6, _ => rw [oIxL rfl]; exact q _ (by rw [plain_tup, PyData.plainAll, e3]; rfl) (no_rule (d := one) (by simp) e2)
    | 7, _ => rw [oIxL rfl]; exact q _ rfl (no_asc (R := [([97], []), ([97], [])]) (by decide))
  have h4 : (1 : Int) < R.length → (PyData.tuple (R.map ruD).reverse).plain = true ∧ areRules (.tuple (R.map ruD).reverse) = false := by
    intro h
    refine ⟨?_, ?_⟩
    · rw [plain_tup]
      exact plainAll_sub (plain_rus R) fun y hy => List.mem_reverse.mp hy
    · rw [← List.map_reverse]
      refine no_asc ?_
      have hl : 2 ≤ R.length := by omega
      have g1 : R.reverse[0]? = some (R[R.length - 1]'(by omega)) := by rw [List.getElem?_reverse (by omega)]; exact List.getElem?_eq_getElem (by omega)
      have g2 : R.reverse[0 + 1]? = some (R[R.length - 1 - 1]'(by omega)) := by rw [List.getElem?_reverse (by omega)]; exact List.getElem?_eq_getElem (by omega)
      exact asc_no g1 g2 (rlt_asym (List.pairwise_iff_getElem.mp hup _ _ (by omega) (by omega) (by omega)))
  have h5 : ∀ x3 : D, (x3.plain = true ∧ areRules x3 = false) → (if decide ((1 : Int) < R.length) = true then
      sp_draw [boxD, PyData.int 8] fun y => oIx (.list [.tuple ((R.map ruD).take n ++ [one] ++ (R.map ruD).drop n), .tuple ((R.map ruD).take n ++ [one] ++ (R.map ruD).drop (n + 1)), x3, .tuple (R.map ruD).reverse, .none, sD [114, 117, 108, 101, 115], .tuple [one], .tuple [.tuple [sD [97], sD []], .tuple [sD [97], sD []]]]) y fun d => Q d
      else sp_draw [boxD, PyData.int 8] fun y => oIx (.list [.tuple ((R.map ruD).take n ++ [one] ++ (R.map ruD).drop n), .tuple ((R.map ruD).take n ++ [one] ++ (R.map ruD).drop (n + 1)), x3, .int 5, .none, sD [114, 117, 108, 101, 115], .tuple [one], .tuple [.tuple [sD [97], sD []], .tuple [sD [97], sD []]]]) y fun d => Q d) := by
    intro x3 h3
    by_cases h : (1 : Int) < R.length
    · rw [if_pos (decide_eq_true h)]
      exact ⟨_, rfl, ⟨by decide, by decide⟩, fun k hk0 hk1 => fin _ _ h3 (h4 h) k hk0 hk1⟩
    · rw [if_neg (by simpa using h)]
      exact ⟨_, rfl, ⟨by decide, by decide⟩, fun k hk0 hk1 => fin _ _ h3 ⟨rfl, rfl⟩ k hk0 hk1⟩
  cases hRe : R.isEmpty with
  | true =>
    simp only [sSeq, sIf, sRet, sRetN, sNext, sSetF, sSetN, sOwn, sExpr, sUnpF, sUnpN, sPar, sApp, sExt, sPutD, sAugF, sAugN, sFor, fVar, fC, fBin, fChain, fAnd, fOr, fNot, fIf, fTB, fTru, fAndT, fOrT, fNotT, fNil, fCons, fTup, fLst, fCall, fIsi, fSl, fNo, fPart, fNeg, fRev, fCallF, fLc, fRng1, fRng2, fSeq, fEnum, fJoin, fDictK, fDictT, vN, vF, startS, asB, asI, truD, isDict, isT, seqD, ownL, ownD, frAt, okM, exL, vw, oRev, List.map_cons, List.map_nil, List.length_cons, List.length_nil, List.replicate, List.cons_append, List.nil_append, List.append_nil, List.getElem?_cons_zero, List.getElem?_cons_succ, List.set_cons_zero, List.set_cons_succ, Option.map_some, Option.map_none, Option.bind_some, Option.bind_none, Sl.dat, Sl.frz, Nat.sub_self, Nat.reduceSub, Nat.reduceAdd, Bool.not_true, Bool.not_false, Bool.false_eq_true, if_true, if_false, reduceCtorEq, Nat.reduceLeDiff, true_and, cut_at, cut_to, cut_from, cut_fromA, Nat.zero_le, and_true, decide_true, setS, List.foldl_cons, List.foldl_nil, setE, wipeE, List.foldl_append, decide_false, Int.natCast_one, Int.natCast_zero, Int.cast_ofNat_Int, Int.reduceEq, oEqS, oNeS, oEqI, oNeI, oLtS, oLtI, oLeI, oGtI, oGeI, oAddS, oAddI', oAddT, oAddL, oLenS, oLenT, oLenL, oSlS, oSlT, oSlL, oSub, oTuple, oIx0, oIx1, oMulS, oMulI, oFdivI, oIsB, oIsntB, oIsN, oIsntN, isNone]
    exact h5 _ ⟨rfl, rfl⟩
  | false =>
    simp only [sSeq, sIf, sRet, sRetN, sNext, sSetF, sSetN, sOwn, sExpr, sUnpF, sUnpN, sPar, sApp, sExt, sPutD, sAugF, sAugN, sFor, fVar, fC, fBin, fChain, fAnd, fOr, fNot, fIf, fTB, fTru, fAndT, fOrT, fNotT, fNil, fCons, fTup, fLst, fCall, fIsi, fSl, fNo, fPart, fNeg, fRev, fCallF, fLc, fRng1, fRng2, fSeq, fEnum, fJoin, fDictK, fDictT, vN, vF, startS, asB, asI, truD, isDict, isT, seqD, ownL, ownD, frAt, okM, exL, vw, oRev, List.map_cons, List.map_nil, List.length_cons, List.length_nil, List.replicate, List.cons_append, List.nil_append, List.append_nil, List.getElem?_cons_zero, List.getElem?_cons_succ, List.set_cons_zero, List.set_cons_succ, Option.map_some, Option.map_none, Option.bind_some, Option.bind_none, Sl.dat, Sl.frz, Nat.sub_self, Nat.reduceSub, Nat.reduceAdd, Bool.not_true, Bool.not_false, Bool.false_eq_true, if_true, if_false, reduceCtorEq, Nat.reduceLeDiff, true_and, cut_at, cut_to, cut_from, cut_fromA, Nat.zero_le, and_true, decide_true, setS, List.foldl_cons, List.foldl_nil, setE, wipeE, List.foldl_append, decide_false, Int.natCast_one, Int.natCast_zero, Int.cast_ofNat_Int, Int.reduceEq, oEqS, oNeS, oEqI, oNeI, oLtS, oLtI, oLeI, oGtI, oGeI, oAddS, oAddI', oAddT, oAddL, oLenS, oLenT, oLenL, oSlS, oSlT, oSlL, oSub, oTuple, oIx0, oIx1, oMulS, oMulI, oFdivI, oIsB, oIsntB, oIsN, oIsntN, isNone, Int.reduceNeg, List.length_map]
    have hl : 1 ≤ R.length := by
      cases R with
      | nil => cases hRe
      | cons _ _ => simp
    refine ⟨by rw [cut_last, List.length_drop, List.length_map]; omega, ?_⟩
    refine h5 _ ⟨?_, ?_⟩
    · rw [plain_tup, cut_last]
      exact plainAll_app (plain_rus R) (plainAll_sub (plain_rus R) fun y hy => List.mem_of_mem_drop hy)
    · rw [cut_last, ← List.map_drop, ← List.map_append]
      refine no_asc ?_
      have g0 : (R.map ruD).length = R.length := List.length_map _
      rw [g0]
      have g1 : (R ++ R.drop (R.length - 1))[R.length - 1]? = some (R[R.length - 1]'(by omega)) := by
        rw [List.getElem?_append_left (by omega)]; exact List.getElem?_eq_getElem (by omega)
      have g2 : (R ++ R.drop (R.length - 1))[R.length - 1 + 1]? = some (R[R.length - 1]'(by omega)) := by
        rw [List.getElem?_append_right (by omega), List.getElem?_drop, show R.length - 1 + (R.length - 1 + 1 - R.length) = R.length - 1 by omega]
        exact List.getElem?_eq_getElem (by omega)
      exact asc_no g1 g2 (rlt_irr _)
end K68
set_option Elab.async false
set_option linter.all false
set_option maxRecDepth 100000
set_option maxHeartbeats 4000000
set_option autoImplicit false
namespace K68
open PySem L2 T2
/-! ### bent ways -/
def sp_bent : QSp := fun ds Q => ∃ ss : List Stp, ds = [boxD, .tuple (ss.map stD)] ∧ ss.length ≤ 1000000 ∧ ∀ d : D, d.plain = true → Q d
theorem sts_sub {ss : List Stp} {ys : List D} (hs : ∀ y ∈ ys, y ∈ ss.map stD) : PyData.plainAll ys = true := plainAll_sub (plain_sts ss) hs
theorem drop_sts (ss : List Stp) (n : Nat) : (ss.map stD).drop n = (ss.drop n).map stD := List.map_drop.symm
theorem p__law_bent : Pure 5 sp_bent (F__law_bent sp_draw) := by
  rintro ds Q ⟨ss, rfl, hl, q⟩
  simp only [F__law_bent, xKBin2, xKBin1, eBin, xKTB, eTB, xKTru, eTru, xKAndT, eAndT, xKOrT, eOrT, xKNotT, eNotT, xKAnd2, xKAnd, eAnd, xKOr2, xKOr, eOr, xKNot2, xKNot, eNot, xKIf, eIf, xKCh5, xKCh4, xKCh3, xKCh2, xKCh1, eChain, negI_int, xKNeg, eNeg, xKCons2, xKCons, eCons, xKTup, eTup, xKLst, eLst, prtI_int, xKPart, ePart, xKSl3, xKSl2, xKSl1, eSl, xKCall, eCall, xKCallF, eCallF, xKIsi, eIsi, xKR1, xKR0, eRng1, xKRj, xKRi, xKRy, xKRx, eRng2, xKSeq, eSeq, xKEn2, xKEn, eEnum, xKLc2, xKLc, eLc, xKRev, eRev, xKJ2, xKJ, eJoin, xKRet, eRet, xKSIf, eSIf, xKExpr, eExpr, xKSetF, eSetF, xKSetN, eSetN, xKFor, eFor, xKUnp, eUnpF, xKUnpN, eUnpN, xKPar2, xKPar, ePar, xKOwn, eOwn, xKApp2, xKApp, eApp, xKExt3, xKExt2, xKExt, eExt, xKAug3, xKAug2, xKAug, eAugF, xKAugN2, xKAugN, eAugN, sSeq, sNext, sRetN, fVar, fC, fNil, fNo, fDictK, fDictT, vN, vF, startS, asB, asI, truD, isDict, isT, seqD, ownL, ownD, frAt, okM, exL, vw, oRev, fYes, ↓reduceIte, List.map_cons, List.map_nil, List.length_cons, List.length_nil, List.replicate, List.cons_append, List.nil_append, List.append_nil, List.getElem?_cons_zero, List.getElem?_cons_succ, List.set_cons_zero, List.set_cons_succ, Option.map_some, Option.map_none, Option.bind_some, Option.bind_none, Sl.dat, Sl.frz, Nat.sub_self, Nat.reduceSub, Nat.reduceAdd, Bool.not_true, Bool.not_false, Bool.false_eq_true, if_true, if_false, reduceCtorEq, Nat.reduceLeDiff, true_and, cut_at, cut_to, cut_from, cut_fromA, Nat.zero_le, and_true, decide_true, setS, List.foldl_cons, List.foldl_nil, setE, wipeE, List.foldl_append, decide_false, Int.natCast_one, Int.natCast_zero, Int.cast_ofNat_Int, Int.reduceEq, oEqS, oNeS, oEqI, oNeI, oLtS, oLtI, oLeI, oGtI, oGeI, oAddS, oAddI', oAddT, oAddL, oLenS, oLenT, oLenL, oSlS, oSlT, oSlL, oSub, oTuple, oIx0, oIx1, oMulS, oMulI, oFdivI, oIsB, oIsntB, oIsN, oIsntN, isNone, List.length_map]
  refine ⟨_, rfl, ⟨by omega, by omega⟩, fun a ha0 ha1 => ?_⟩
  obtain ⟨n, rfl⟩ : ∃ n : Nat, a = (n : Int) := ⟨a.toNat, by omega⟩
  have hcut : cut (ss.map stD) (some ((n : Int) + 1)) none = (ss.map stD).drop (n + 1) := cut_from _ (n + 1)
  simp only [xKBin2, xKBin1, eBin, xKTB, eTB, xKTru, eTru, xKAndT, eAndT, xKOrT, eOrT, xKNotT, eNotT, xKAnd2, xKAnd, eAnd, xKOr2, xKOr, eOr, xKNot2, xKNot, eNot, xKIf, eIf, xKCh5, xKCh4, xKCh3, xKCh2, xKCh1, eChain, negI_int, xKNeg, eNeg, xKCons2, xKCons, eCons, xKTup, eTup, xKLst, eLst, prtI_int, xKPart, ePart, xKSl3, xKSl2, xKSl1, eSl, xKCall, eCall, xKCallF, eCallF, xKIsi, eIsi, xKR1, xKR0, eRng1, xKRj, xKRi, xKRy, xKRx, eRng2, xKSeq, eSeq, xKEn2, xKEn, eEnum, xKLc2, xKLc, eLc, xKRev, eRev, xKJ2, xKJ, eJoin, xKRet, eRet, xKSIf, eSIf, xKExpr, eExpr, xKSetF, eSetF, xKSetN, eSetN, xKFor, eFor, xKUnp, eUnpF, xKUnpN, eUnpN, xKPar2, xKPar, ePar, xKOwn, eOwn, xKApp2, xKApp, eApp, xKExt3, xKExt2, xKExt, eExt, xKAug3, xKAug2, xKAug, eAugF, xKAugN2, xKAugN, eAugN, sSeq, sNext, sRetN, fVar, fC, fNil, fNo, fDictK, fDictT, vN, vF, startS, asB, asI, truD, isDict, isT, seqD, ownL, ownD, frAt, okM, exL, vw, oRev, fYes, ↓reduceIte, List.map_cons, List.map_nil, List.length_cons, List.length_nil, List.replicate, List.cons_append, List.nil_append, List.append_nil, List.getElem?_cons_zero, List.getElem?_cons_succ, List.set_cons_zero, List.set_cons_succ, Option.map_some, Option.map_none, Option.bind_some, Option.bind_none, Sl.dat, Sl.frz, Nat.sub_self, Nat.reduceSub, Nat.reduceAdd, Bool.not_true, Bool.not_false, Bool.false_eq_true, if_true, if_false, reduceCtorEq, Nat.reduceLeDiff, true_and, cut_at, cut_to, cut_from, cut_fromA, Nat.zero_le, and_true, decide_true, setS, List.foldl_cons, List.foldl_nil, setE, wipeE, List.foldl_append, decide_false, Int.natCast_one, Int.natCast_zero, Int.cast_ofNat_Int, Int.reduceEq, oEqS, oNeS, oEqI, oNeI, oLtS, oLtI, oLeI, oGtI, oGeI, oAddS, oAddI', oAddT, oAddL, oLenS, oLenT, oLenL, oSlS, oSlT, oSlL, oSub, oTuple, oIx0, oIx1, oMulS, oMulI, oFdivI, oIsB, oIsntB, oIsN, oIsntN, isNone, hcut, Int.reduceNeg, cut_last]
  have s1 := List.length_take (i := n) (l := ss.map stD)
  have s2 := List.length_drop (i := n) (l := ss.map stD)
  have s3 := List.length_drop (i := n + 1) (l := ss.map stD)
  have s4 := List.length_drop (i := (ss.map stD).length - 1) (l := ss.map stD)
  rw [List.length_map] at s1 s2 s3 s4
  simp only [List.length_map]
  refine ⟨by rw [s1, s3]; omega, by rw [s4]; omega, ?_⟩
  refine ⟨_, rfl, ⟨by decide, by decide⟩, fun b hb0 hb1 => ?_⟩
  refine ⟨_, rfl, ⟨by decide, by decide⟩, fun c hc0 hc1 => ?_⟩
  simp only [xKBin2, xKBin1, eBin, xKTB, eTB, xKTru, eTru, xKAndT, eAndT, xKOrT, eOrT, xKNotT, eNotT, xKAnd2, xKAnd, eAnd, xKOr2, xKOr, eOr, xKNot2, xKNot, eNot, xKIf, eIf, xKCh5, xKCh4, xKCh3, xKCh2, xKCh1, eChain, negI_int, xKNeg, eNeg, xKCons2, xKCons, eCons, xKTup, eTup, xKLst, eLst, prtI_int, xKPart, ePart, xKSl3, xKSl2, xKSl1, eSl, xKCall, eCall, xKCallF, eCallF, xKIsi, eIsi, xKR1, xKR0, eRng1, xKRj, xKRi, xKRy, xKRx, eRng2, xKSeq, eSeq, xKEn2, xKEn, eEnum, xKLc2, xKLc, eLc, xKRev, eRev, xKJ2, xKJ, eJoin, xKRet, eRet, xKSIf, eSIf, xKExpr, eExpr, xKSetF, eSetF, xKSetN, eSetN, xKFor, eFor, xKUnp, eUnpF, xKUnpN, eUnpN, xKPar2, xKPar, ePar, xKOwn, eOwn, xKApp2, xKApp, eApp, xKExt3, xKExt2, xKExt, eExt, xKAug3, xKAug2, xKAug, eAugF, xKAugN2, xKAugN, eAugN, sSeq, sNext, sRetN, fVar, fC, fNil, fNo, fDictK, fDictT, vN, vF, startS, asB, asI, truD, isDict, isT, seqD, ownL, ownD, frAt, okM, exL, vw, oRev, fYes, ↓reduceIte, List.map_cons, List.map_nil, List.length_cons, List.length_nil, List.replicate, List.cons_append, List.nil_append, List.append_nil, List.getElem?_cons_zero, List.getElem?_cons_succ, List.set_cons_zero, List.set_cons_succ, Option.map_some, Option.map_none, Option.bind_some, Option.bind_none, Sl.dat, Sl.frz, Nat.sub_self, Nat.reduceSub, Nat.reduceAdd, Bool.not_true, Bool.not_false, Bool.false_eq_true, if_true, if_false, reduceCtorEq, Nat.reduceLeDiff, true_and, cut_at, cut_to, cut_from, cut_fromA, Nat.zero_le, and_true, decide_true, setS, List.foldl_cons, List.foldl_nil, setE, wipeE, List.foldl_append, decide_false, Int.natCast_one, Int.natCast_zero, Int.cast_ofNat_Int, Int.reduceEq, oEqS, oNeS, oEqI, oNeI, oLtS, oLtI, oLeI, oGtI, oGeI, oAddS, oAddI', oAddT, oAddL, oLenS, oLenT, oLenL, oSlS, oSlT, oSlL, oSub, oTuple, oIx0, oIx1, oMulS, oMulI, oFdivI, oIsB, oIsntB, oIsN, oIsntN, isNone, List.length_map]
  refine ⟨by rw [s1]; omega, by rw [List.length_append, s1, s2]; simp; omega, by omega, by omega, by omega, ?_⟩
  rw [drop_sts ss n]
  refine qComp_map (fun s => .tuple [.int (s.2 : Int), .int (s.1 : Int)]) (fun s _ => ⟨_, rfl, fun Q' q' => ?_⟩) ?_
  · simp only [xKBin2, xKBin1, eBin, xKTB, eTB, xKTru, eTru, xKAndT, eAndT, xKOrT, eOrT, xKNotT, eNotT, xKAnd2, xKAnd, eAnd, xKOr2, xKOr, eOr, xKNot2, xKNot, eNot, xKIf, eIf, xKCh5, xKCh4, xKCh3, xKCh2, xKCh1, eChain, negI_int, xKNeg, eNeg, xKCons2, xKCons, eCons, xKTup, eTup, xKLst, eLst, prtI_int, xKPart, ePart, xKSl3, xKSl2, xKSl1, eSl, xKCall, eCall, xKCallF, eCallF, xKIsi, eIsi, xKR1, xKR0, eRng1, xKRj, xKRi, xKRy, xKRx, eRng2, xKSeq, eSeq, xKEn2, xKEn, eEnum, xKLc2, xKLc, eLc, xKRev, eRev, xKJ2, xKJ, eJoin, xKRet, eRet, xKSIf, eSIf, xKExpr, eExpr, xKSetF, eSetF, xKSetN, eSetN, xKFor, eFor, xKUnp, eUnpF, xKUnpN, eUnpN, xKPar2, xKPar, ePar, xKOwn, eOwn, xKApp2, xKApp, eApp, xKExt3, xKExt2, xKExt, eExt, xKAug3, xKAug2, xKAug, eAugF, xKAugN2, xKAugN, eAugN, sSeq, sNext, sRetN, fVar, fC, fNil, fNo, fDictK, fDictT, vN, vF, startS, asB, asI, truD, isDict, isT, seqD, ownL, ownD, frAt, okM, exL, vw, oRev, fYes, ↓reduceIte, List.map_cons, List.map_nil, List.length_cons, List.length_nil, List.replicate, List.cons_append, List.nil_append, List.append_nil, List.getElem?_cons_zero, List.getElem?_cons_succ, List.set_cons_zero, List.set_cons_succ, Option.map_some, Option.map_none, Option.bind_some, Option.bind_none, Sl.dat, Sl.frz, Nat.sub_self, Nat.reduceSub, Nat.reduceAdd, Bool.not_true, Bool.not_false, Bool.false_eq_true, if_true, if_false, reduceCtorEq, Nat.reduceLeDiff, true_and, cut_at, cut_to, cut_from, cut_fromA, Nat.zero_le, and_true, decide_true, setS, List.foldl_cons, List.foldl_nil, setE, wipeE, List.foldl_append, decide_false, Int.natCast_one, Int.natCast_zero, Int.cast_ofNat_Int, Int.reduceEq, oEqS, oNeS, oEqI, oNeI, oLtS, oLtI, oLeI, oGtI, oGeI, oAddS, oAddI', oAddT, oAddL, oLenS, oLenT, oLenL, oSlS, oSlT, oSlL, oSub, oTuple, oIx0, oIx1, oMulS, oMulI, oFdivI, oIsB, oIsntB, oIsN, oIsntN, isNone]; exact q'
  simp only [xKBin2, xKBin1, eBin, xKTB, eTB, xKTru, eTru, xKAndT, eAndT, xKOrT, eOrT, xKNotT, eNotT, xKAnd2, xKAnd, eAnd, xKOr2, xKOr, eOr, xKNot2, xKNot, eNot, xKIf, eIf, xKCh5, xKCh4, xKCh3, xKCh2, xKCh1, eChain, negI_int, xKNeg, eNeg, xKCons2, xKCons, eCons, xKTup, eTup, xKLst, eLst, prtI_int, xKPart, ePart, xKSl3, xKSl2, xKSl1, eSl, xKCall, eCall, xKCallF, eCallF, xKIsi, eIsi, xKR1, xKR0, eRng1, xKRj, xKRi, xKRy, xKRx, eRng2, xKSeq, eSeq, xKEn2, xKEn, eEnum, xKLc2, xKLc, eLc, xKRev, eRev, xKJ2, xKJ, eJoin, xKRet, eRet, xKSIf, eSIf, xKExpr, eExpr, xKSetF, eSetF, xKSetN, eSetN, xKFor, eFor, xKUnp, eUnpF, xKUnpN, eUnpN, xKPar2, xKPar, ePar, xKOwn, eOwn, xKApp2, xKApp, eApp, xKExt3, xKExt2, xKExt, eExt, xKAug3, xKAug2, xKAug, eAugF, xKAugN2, xKAugN, eAugN, sSeq, sNext, sRetN, fVar, fC, fNil, fNo, fDictK, fDictT, vN, vF, startS, asB, asI, truD, isDict, isT, seqD, ownL, ownD, frAt, okM, exL, vw, oRev, fYes, ↓reduceIte, List.map_cons, List.map_nil, List.length_cons, List.length_nil, List.replicate, List.cons_append, List.nil_append, List.append_nil, List.getElem?_cons_zero, List.getElem?_cons_succ, List.set_cons_zero, List.set_cons_succ, Option.map_some, Option.map_none, Option.bind_some, Option.bind_none, Sl.dat, Sl.frz, Nat.sub_self, Nat.reduceSub, Nat.reduceAdd, Bool.not_true, Bool.not_false, Bool.false_eq_true, if_true, if_false, reduceCtorEq, Nat.reduceLeDiff, true_and, cut_at, cut_to, cut_from, cut_fromA, Nat.zero_le, and_true, decide_true, setS, List.foldl_cons, List.foldl_nil, setE, wipeE, List.foldl_append, decide_false, Int.natCast_one, Int.natCast_zero, Int.cast_ofNat_Int, Int.reduceEq, oEqS, oNeS, oEqI, oNeI, oLtS, oLtI, oLeI, oGtI, oGeI, oAddS, oAddI', oAddT, oAddL, oLenS, oLenT, oLenL, oSlS, oSlT, oSlL, oSub, oTuple, oIx0, oIx1, oMulS, oMulI, oFdivI, oIsB, oIsntB, oIsN, oIsntN, isNone, List.length_map, List.length_drop]
  refine ⟨by rw [s1]; omega, ?_⟩
  refine ⟨_, rfl, ⟨by decide, by decide⟩, fun k hk0 hk1 => ?_⟩
  obtain ⟨j, rfl⟩ : ∃ j : Nat, k = (j : Int) := ⟨k.toNat, by omega⟩
  have hj : j < 12 := by omega
  have tk : ∀ m, PyData.plainAll ((ss.map stD).take m) = true := fun m => sts_sub fun y hy => List.mem_of_mem_take hy
  have dp : ∀ m, PyData.plainAll ((ss.map stD).drop m) = true := fun m => sts_sub fun y hy => List.mem_of_mem_drop hy
  simp only [xKBin2, xKBin1, eBin, xKTB, eTB, xKTru, eTru, xKAndT, eAndT, xKOrT, eOrT, xKNotT, eNotT, xKAnd2, xKAnd, eAnd, xKOr2, xKOr, eOr, xKNot2, xKNot, eNot, xKIf, eIf, xKCh5, xKCh4, xKCh3, xKCh2, xKCh1, eChain, negI_int, xKNeg, eNeg, xKCons2, xKCons, eCons, xKTup, eTup, xKLst, eLst, prtI_int, xKPart, ePart, xKSl3, xKSl2, xKSl1, eSl, xKCall, eCall, xKCallF, eCallF, xKIsi, eIsi, xKR1, xKR0, eRng1, xKRj, xKRi, xKRy, xKRx, eRng2, xKSeq, eSeq, xKEn2, xKEn, eEnum, xKLc2, xKLc, eLc, xKRev, eRev, xKJ2, xKJ, eJoin, xKRet, eRet, xKSIf, eSIf, xKExpr, eExpr, xKSetF, eSetF, xKSetN, eSetN, xKFor, eFor, xKUnp, eUnpF, xKUnpN, eUnpN, xKPar2, xKPar, ePar, xKOwn, eOwn, xKApp2, xKApp, eApp, xKExt3, xKExt2, xKExt, eExt, xKAug3, xKAug2, xKAug, eAugF, xKAugN2, xKAugN, eAugN, sSeq, sNext, sRetN, fVar, fC, fNil, fNo, fDictK, fDictT, vN, vF, startS, asB, asI, truD, isDict, isT, seqD, ownL, ownD, frAt, okM, exL, vw, oRev, fYes, ↓reduceIte, List.map_cons, List.map_nil, List.length_cons, List.length_nil, List.replicate, List.cons_append, List.nil_append, List.append_nil, List.getElem?_cons_zero, List.getElem?_cons_succ, List.set_cons_zero, List.set_cons_succ, Option.map_some, Option.map_none, Option.bind_some, Option.bind_none, Sl.dat, Sl.frz, Nat.sub_self, Nat.reduceSub, Nat.reduceAdd, Bool.not_true, Bool.not_false, Bool.false_eq_true, if_true, if_false, reduceCtorEq, Nat.reduceLeDiff, true_and, cut_at, cut_to, cut_from, cut_fromA, Nat.zero_le, and_true, decide_true, setS, List.foldl_cons, List.foldl_nil, setE, wipeE, List.foldl_append, decide_false, Int.natCast_one, Int.natCast_zero, Int.cast_ofNat_Int, Int.reduceEq, oEqS, oNeS, oEqI, oNeI, oLtS, oLtI, oLeI, oGtI, oGeI, oAddS, oAddI', oAddT, oAddL, oLenS, oLenT, oLenL, oSlS, oSlT, oSlL, oSub, oTuple, oIx0, oIx1, oMulS, oMulI, oFdivI, oIsB, oIsntB, oIsN, oIsntN, isNone]
  match j, hj with
  | 0, _ => rw [oIxL rfl]; exact q _ (by rw [plain_tup]; exact plain_sts ss)
  | 1, _ => rw [oIxL rfl]; exact q _ (by rw [plain_tup]; exact plainAll_app (tk _) (dp _))
  | 2, _ => rw [oIxL rfl]; exact q _ (by rw [plain_tup]; exact sts_sub fun y hy => List.mem_reverse.mp hy)
  | 3, _ => rw [oIxL rfl]; exact q _ (by rw [plain_tup]; exact plainAll_app (plain_sts ss) (dp _))
  | 4, _ => rw [oIxL rfl]; exact q _ (by rw [plain_tup]; exact plainAll_app (plainAll_app (tk _) rfl) (by rw [← drop_sts]; exact dp _))
  | 5, _ => rw [oIxL rfl]; exact q _ rfl
  | 6, _ => rw [oIxL rfl]; exact q _ rfl
  | 7, _ => rw [oIxL rfl]; exact q _ (by rw [plain_tup]; exact plainAll_app (plain_sts ss) rfl)
  | 8, _ => rw [oIxL rfl]; exact q _ (by rw [plain_tup]; exact plainAll_app (plain_sts ss) rfl)
  | 9, _ => rw [oIxL rfl]; exact q _ (by rw [plain_tup]; exact plainAll_app (plain_sts ss) rfl)
  | 10, _ => rw [oIxL rfl]; exact q _ (by
      rw [plain_tup]
      refine plainAll_app (tk _) (plainAll_of fun x hx => ?_)
      obtain ⟨s, _, rfl⟩ := List.mem_map.mp hx
      rfl)
  | 11, _ => rw [oIxL rfl]; exact q _ rfl
end K68
set_option Elab.async false
set_option linter.all false
set_option maxRecDepth 100000
set_option maxHeartbeats 4000000
set_option autoImplicit false
namespace K68
open PySem L2 T2
/-! ### why the plain way ends -/
def num (w : Wo) : Nat := w.foldl (fun a c => a * 4 + (c - 96)) 0
theorem num_go (w : Wo) : ∀ a : Nat, w.foldl (fun a c => a * 4 + (c - 96)) a = a * 4 ^ w.length + num w := by
  unfold num
  induction w with
  | nil => intro a; simp
  | cons c w ih =>
    intro a
    rw [List.foldl_cons, List.foldl_cons, ih, ih (0 * 4 + (c - 96)), List.length_cons, Nat.pow_succ]
    simp only [Nat.zero_mul, Nat.zero_add]
    rw [Nat.add_mul, Nat.mul_assoc, Nat.mul_comm 4 (4 ^ w.length), Nat.add_assoc]
theorem num_cons (c : Nat) (w : Wo) : num (c :: w) = (c - 96) * 4 ^ w.length + num w := by
  unfold num
  rw [List.foldl_cons, num_go]
  simp [num]
theorem num_app (u v : Wo) : num (u ++ v) = num u * 4 ^ v.length + num v := by
  unfold num
  rw [List.foldl_append, num_go]
  rfl
abbrev Ab (w : Wo) : Prop := ∀ c ∈ w, 97 ≤ c ∧ c ≤ 99
theorem num_lt : ∀ {w : Wo}, Ab w → num w < 4 ^ w.length
  | [], _ => by simp [num]
  | c :: w, h => by
    have ih := num_lt (w := w) fun x hx => h x (List.mem_cons_of_mem _ hx)
    have hc := h c List.mem_cons_self
    rw [num_cons, List.length_cons, Nat.pow_succ]
    have : (c - 96) * 4 ^ w.length ≤ 3 * 4 ^ w.length := Nat.mul_le_mul_right _ (by omega)
    omega
theorem num_ge {c : Nat} {w : Wo} (h : Ab (c :: w)) : 4 ^ w.length ≤ num (c :: w) := by
  have hc := h c List.mem_cons_self
  rw [num_cons]
  have : 1 * 4 ^ w.length ≤ (c - 96) * 4 ^ w.length := Nat.mul_le_mul_right _ (by omega)
  omega
theorem num_lex : ∀ {u v : Wo}, u.length = v.length → Ab u → Ab v → u < v → num u < num v
  | [], [], _, _, _, h => absurd h (List.lt_irrefl _)
  | [], _ :: _, h, _, _, _ => by simp at h
  | _ :: _, [], h, _, _, _ => by simp at h
  | a :: u, b :: v, hl, hu, hv, h => by
    have hl' : u.length = v.length := by simpa using hl
    rw [num_cons, num_cons, hl']
    have hu' := num_lt (w := u) fun x hx => hu x (List.mem_cons_of_mem _ hx)
    have ha := hu a List.mem_cons_self
    have hb := hv b List.mem_cons_self
    rw [hl'] at hu'
    rcases List.cons_lt_cons_iff.mp h with h | ⟨e, h'⟩
    · have h2 : (a - 96 + 1) * 4 ^ v.length ≤ (b - 96) * 4 ^ v.length := Nat.mul_le_mul_right _ (by omega)
      rw [Nat.add_mul, Nat.one_mul] at h2
      omega
    · have := num_lex hl' (fun x hx => hu x (List.mem_cons_of_mem _ hx)) (fun x hx => hv x (List.mem_cons_of_mem _ hx)) h'
      rw [e]
      omega
theorem num_wlt {u v : Wo} (hu : Ab u) (hv : Ab v) (h : wlt u v = true) : num u < num v := by
  unfold wlt at h
  rw [Bool.or_eq_true, Bool.and_eq_true, decide_eq_true_eq, decide_eq_true_eq, decide_eq_true_eq] at h
  rcases h with h | ⟨h1, h2⟩
  · cases v with
    | nil => simp at h
    | cons c v =>
      have h1 := num_lt hu
      have h2 := num_ge hv
      have h3 : 4 ^ u.length ≤ 4 ^ v.length := Nat.pow_le_pow_right (by decide) (by simp at h; omega)
      omega
  · exact num_lex h1 hu hv h2
theorem wlt_len {u v : Wo} (h : wlt u v = true) : u.length ≤ v.length := by
  unfold wlt at h
  rw [Bool.or_eq_true, Bool.and_eq_true, decide_eq_true_eq, decide_eq_true_eq, decide_eq_true_eq] at h
  omega
theorem split_at {w : Wo} {p : Nat} {l : Wo} (h1 : p + l.length ≤ w.length) (h2 : stands w p l = true) : w = w.take p ++ (l ++ w.drop (p + l.length)) := by
  have e := of_decide_eq_true h2
  have : w.drop p = l ++ w.drop (p + l.length) := by
    rw [← e]
    simp only [List.length_take, List.length_drop]
    rw [show p + min l.length (w.length - p) = p + l.length by omega, ← List.drop_drop, List.take_append_drop]
  rw [← this, List.take_append_drop]
theorem num_step {w : Wo} {p : Nat} {r : Rule} (h1 : p + r.1.length ≤ w.length) (h2 : stands w p r.1 = true) (hl : r.2.length ≤ r.1.length) (hn : num r.2 < num r.1) : num (rwr w p r) < num w := by
  have e := split_at h1 h2
  have e2 : rwr w p r = w.take p ++ (r.2 ++ w.drop (p + r.1.length)) := by unfold rwr; rw [List.append_assoc]
  rw [e2]
  generalize hA : w.take p = A at *
  generalize hB : w.drop (p + r.1.length) = B at *
  rw [e, num_app, num_app, num_app, num_app, List.length_append, List.length_append]
  have h3 : num A * 4 ^ (r.2.length + B.length) ≤ num A * 4 ^ (r.1.length + B.length) := Nat.mul_le_mul_left _ (Nat.pow_le_pow_right (by decide) (by omega))
  have h4 : num r.2 * 4 ^ B.length < num r.1 * 4 ^ B.length := Nat.mul_lt_mul_of_pos_right hn (Nat.pow_pos (by decide))
  omega
theorem run_ex {R : List Rule} (hg : Good R) (m : Wo → Nat) (I : Wo → Prop) (h : ∀ w s, I w → okStep R w s = true → I (rwS R w s) ∧ m (rwS R w s) < m w) : ∀ {w : Wo}, I w → ∃ ss u, Run R w ss u ∧ ss.length ≤ m w := by
  intro w
  induction hn : m w using Nat.strongRecOn generalizing w with
  | ind n ih =>
    intro hI
    cases hp : plainStep R w with
    | none => exact ⟨[], w, .stop hp, Nat.zero_le _⟩
    | some s =>
      obtain ⟨h1, h2⟩ := h w s hI (plain_ok hg hp)
      obtain ⟨ss, u, hr, hl⟩ := ih (m (rwS R w s)) (by omega) rfl h1
      exact ⟨s :: ss, u, .step hp hr, by rw [List.length_cons]; omega⟩
/-- rules as they are drawn over three letters -/
structure Fit (R : List Rule) : Prop where
  ru : ∀ r ∈ R, isRu r = true
  ab : ∀ r ∈ R, Ab r.1 ∧ Ab r.2
  len : R.length ≤ 24
theorem isRu_of {r : Rule} (h : isRu r = true) : 1 ≤ r.1.length ∧ r.1.length ≤ 12 ∧ wlt r.2 r.1 = true := by
  unfold isRu at h
  rw [Bool.and_eq_true, Bool.and_eq_true, Bool.and_eq_true, decide_eq_true_eq, decide_eq_true_eq] at h
  exact ⟨h.1.1.2, h.1.2, h.2⟩
theorem Fit.good {R : List Rule} (h : Fit R) : Good R := fun r hr => by
  obtain ⟨h1, h2, h3⟩ := isRu_of (h.ru r hr)
  have := wlt_len h3
  exact ⟨this, by omega, h1⟩
theorem ab_rwS {R : List Rule} {w : Wo} {s : Stp} (hf : Fit R) (hw : Ab w) (h : okStep R w s = true) : Ab (rwS R w s) := by
  obtain ⟨r, hr, h1, h2⟩ := okStep_at h
  unfold rwS
  simp only [hr]
  unfold rwr
  intro c hc
  rcases List.mem_append.mp hc with hc | hc
  · rcases List.mem_append.mp hc with hc | hc
    · exact hw c (List.mem_of_mem_take hc)
    · exact (hf.ab r (List.mem_of_getElem? hr)).2 c hc
  · exact hw c (List.mem_of_mem_drop hc)
theorem run_short {R : List Rule} (hf : Fit R) {w : Wo} (hw : Ab w) (hl : w.length ≤ 7) : ∃ ss u, Run R w ss u ∧ ss.length ≤ 1000000 := by
  obtain ⟨ss, u, h1, h2⟩ := run_ex hf.good num Ab (fun w s hw ho => by
    refine ⟨ab_rwS hf hw ho, ?_⟩
    obtain ⟨r, hr, h1, h2⟩ := okStep_at ho
    have hm := List.mem_of_getElem? hr
    obtain ⟨h3, h4, h5⟩ := isRu_of (hf.ru r hm)
    unfold rwS
    simp only [hr]
    exact num_step h1 h2 (wlt_len h5) (num_wlt (hf.ab r hm).2 (hf.ab r hm).1 h5)) hw
  have h3 := num_lt hw
  have h4 : 4 ^ w.length ≤ 4 ^ 7 := Nat.pow_le_pow_right (by decide) hl
  exact ⟨ss, u, h1, by omega⟩
theorem run_down {R : List Rule} (hf : Fit R) (hd : ∀ r ∈ R, r.2.length < r.1.length) {w : Wo} (hl : w.length ≤ 1000000) : ∃ ss u, Run R w ss u ∧ ss.length ≤ 1000000 := by
  obtain ⟨ss, u, h1, h2⟩ := run_ex hf.good List.length (fun _ => True) (fun w s _ ho => by
    refine ⟨trivial, ?_⟩
    obtain ⟨r, hr, h1, h2⟩ := okStep_at ho
    have := hd r (List.mem_of_getElem? hr)
    have := rwr_len h1
    unfold rwS
    simp only [hr]
    omega) trivial (w := w)
  exact ⟨ss, u, h1, by omega⟩
end K68
set_option Elab.async false
set_option linter.all false
set_option maxRecDepth 100000
set_option maxHeartbeats 4000000
set_option autoImplicit false
namespace K68
open PySem L2 T2
/-! ### the law -/
abbrev spWay : QSp := sp_plain fun _ ss => .tuple (ss.map stD)
abbrev spEnd : QSp := sp_plain fun u _ => sD u
abbrev spPlain : QSp := sp_plain fun u ss => .tuple [.tuple (ss.map stD), sD u]
structure Jn (R : List Rule) (w : Wo) : Prop where
  fit : Fit R
  ab : Ab w
  len : w.length ≤ 30
  or : w.length ≤ 7 ∨ ∀ r ∈ R, r.2.length < r.1.length
theorem Jn.run {R : List Rule} {w : Wo} (h : Jn R w) : ∃ ss u, Run R w ss u ∧ ss.length ≤ 1000000 := by
  rcases h.or with h1 | h1
  · exact run_short h.fit h.ab h1
  · exact run_down h.fit h1 (by have := h.len; omega)
theorem Jn.next {R : List Rule} {w : Wo} {s : Stp} (h : Jn R w) (ho : okStep R w s = true) : Jn R (rwS R w s) := by
  have hl := rwS_len h.fit.good ho
  refine ⟨h.fit, ab_rwS h.fit h.ab ho, by have := h.len; omega, ?_⟩
  rcases h.or with h1 | h1
  · exact .inl (by omega)
  · exact .inr h1
theorem same_sts {Q : D → Prop} {l : List Stp} (hl : l.length ≤ 16000000) (q : Q (.bool true)) : sp_same 8 [.tuple (l.map stD), .tuple (l.map stD)] Q := by
  refine ⟨_, rfl, by rw [plain_tup]; exact plain_sts l, ?_, ?_, q⟩
  · rw [PyData.depth]
    have := depth_sts l
    omega
  · have hw : ∀ l : List Stp, wideAll (l.map stD) = true := by
      intro l
      induction l with
      | nil => rfl
      | cons x l ih => rw [List.map_cons, wideAll, ih]; rfl
    rw [wide, List.length_map, decide_eq_true hl, hw]; rfl
theorem same_b {Q : D → Prop} {b : Bool} (q : Q (.bool true)) : sp_same 8 [.bool b, .bool b] Q := ⟨_, rfl, rfl, by simp [PyData.depth], rfl, q⟩
theorem same_w {Q : D → Prop} {w : Wo} (q : Q (.bool true)) : sp_same 8 [sD w, sD w] Q := ⟨_, rfl, rfl, by simp [PyData.depth], rfl, q⟩
theorem steps_len {R : List Rule} {w : Wo} (h : Jn R w) : (steps R w).length ≤ 16000000 := by
  have h1 := stepsFrom_len w R 0
  have h2 := h.fit.len
  have h3 := h.len
  have : R.length * (w.length + 1) ≤ 24 * 31 := Nat.mul_le_mul h2 (by omega)
  unfold steps
  omega
theorem p_loop {R : List Rule} {w : Wo} (J : Jn R w) {D' : DE} (hD : D'.rt (.bool true)) (a e2 e4 e6 e7 e8 e9 e10 e11 e12 e13 e14 e15 e16 : Option Sl) :
    sSeq (F_law_8 sp_after sp_bad sp_bent sp_draw (sp_end endD) spPlain sp_rules (sp_same 8) (sp_steps .list) sp_word sp_after sp_are sp_is_end sp_is_way spEnd spWay (sp_steps .tuple))
      (F_law_9 sp_after sp_bad sp_bent sp_draw (sp_end endD) spPlain sp_rules (sp_same 8) (sp_steps .list) sp_word sp_after sp_are sp_is_end sp_is_way spEnd spWay (sp_steps .tuple)) D'
      [a, some (.fr boxD), e2, some (.fr (rsD R)), e4, some (.fr (sD w)), e6, e7, e8, e9, e10, e11, e12, e13, e14, e15, e16] := by
  simp only [F_law_8, F_law_9, xKBin2, xKBin1, eBin, xKTB, eTB, xKTru, eTru, xKAndT, eAndT, xKOrT, eOrT, xKNotT, eNotT, xKAnd2, xKAnd, eAnd, xKOr2, xKOr, eOr, xKNot2, xKNot, eNot, xKIf, eIf, xKCh5, xKCh4, xKCh3, xKCh2, xKCh1, eChain, negI_int, xKNeg, eNeg, xKCons2, xKCons, eCons, xKTup, eTup, xKLst, eLst, prtI_int, xKPart, ePart, xKSl3, xKSl2, xKSl1, eSl, xKCall, eCall, xKCallF, eCallF, xKIsi, eIsi, xKR1, xKR0, eRng1, xKRj, xKRi, xKRy, xKRx, eRng2, xKSeq, eSeq, xKEn2, xKEn, eEnum, xKLc2, xKLc, eLc, xKRev, eRev, xKJ2, xKJ, eJoin, xKRet, eRet, xKSIf, eSIf, xKExpr, eExpr, xKSetF, eSetF, xKSetN, eSetN, xKFor, eFor, xKUnp, eUnpF, xKUnpN, eUnpN, xKPar2, xKPar, ePar, xKOwn, eOwn, xKApp2, xKApp, eApp, xKExt3, xKExt2, xKExt, eExt, xKAug3, xKAug2, xKAug, eAugF, xKAugN2, xKAugN, eAugN, sSeq, sNext, sRetN, fVar, fC, fNil, fNo, fDictK, fDictT, vN, vF, startS, asB, asI, truD, isDict, isT, seqD, ownL, ownD, frAt, okM, exL, vw, oRev, fYes, ↓reduceIte, List.map_cons, List.map_nil, List.length_cons, List.length_nil, List.replicate, List.cons_append, List.nil_append, List.append_nil, List.getElem?_cons_zero, List.getElem?_cons_succ, List.set_cons_zero, List.set_cons_succ, Option.map_some, Option.map_none, Option.bind_some, Option.bind_none, Sl.dat, Sl.frz, Nat.sub_self, Nat.reduceSub, Nat.reduceAdd, Bool.not_true, Bool.not_false, Bool.false_eq_true, if_true, if_false, reduceCtorEq, Nat.reduceLeDiff, true_and, cut_at, cut_to, cut_from, cut_fromA, Nat.zero_le, and_true, decide_true, setS, List.foldl_cons, List.foldl_nil, setE, wipeE, List.foldl_append, decide_false, Int.natCast_one, Int.natCast_zero, Int.cast_ofNat_Int, Int.reduceEq, oEqS, oNeS, oEqI, oNeI, oLtS, oLtI, oLeI, oGtI, oGeI, oAddS, oAddI', oAddT, oAddL, oLenS, oLenT, oLenL, oSlS, oSlT, oSlL, oSub, oTuple, oIx0, oIx1, oMulS, oMulI, oFdivI, oIsB, oIsntB, oIsN, oIsntN, isNone]
  refine ⟨by decide, ?_⟩
  rw [show ((4 : Int)).toNat = 4 from rfl, natsD0]
  refine qFor_inv (fun i env => ∃ (w : Wo) (e6 e7 e8 e9 e10 e11 e12 e13 e14 e15 e16 : Option Sl), env = [a, some (.fr boxD), e2, some (.fr (rsD R)), e4, some (.fr (sD w)), e6, e7, e8, e9, e10, e11, e12, e13, e14, e15, e16] ∧ Jn R w)
    ⟨w, _, _, _, _, _, _, _, _, _, _, _, rfl, J⟩ ?_ ?_
  · rintro i x env hx ⟨w, e6, e7, e8, e9, e10, e11, e12, e13, e14, e15, e16, rfl, J⟩
    have hg := J.fit.good
    have hR : R.length ≤ 1000 := by have := J.fit.len; omega
    have hw : w.length ≤ 1000 := by have := J.len; omega
    have hsl := steps_len J
    refine ⟨_, rfl, fun K hK => ?_⟩
    simp only [xKBin2, xKBin1, eBin, xKTB, eTB, xKTru, eTru, xKAndT, eAndT, xKOrT, eOrT, xKNotT, eNotT, xKAnd2, xKAnd, eAnd, xKOr2, xKOr, eOr, xKNot2, xKNot, eNot, xKIf, eIf, xKCh5, xKCh4, xKCh3, xKCh2, xKCh1, eChain, negI_int, xKNeg, eNeg, xKCons2, xKCons, eCons, xKTup, eTup, xKLst, eLst, prtI_int, xKPart, ePart, xKSl3, xKSl2, xKSl1, eSl, xKCall, eCall, xKCallF, eCallF, xKIsi, eIsi, xKR1, xKR0, eRng1, xKRj, xKRi, xKRy, xKRx, eRng2, xKSeq, eSeq, xKEn2, xKEn, eEnum, xKLc2, xKLc, eLc, xKRev, eRev, xKJ2, xKJ, eJoin, xKRet, eRet, xKSIf, eSIf, xKExpr, eExpr, xKSetF, eSetF, xKSetN, eSetN, xKFor, eFor, xKUnp, eUnpF, xKUnpN, eUnpN, xKPar2, xKPar, ePar, xKOwn, eOwn, xKApp2, xKApp, eApp, xKExt3, xKExt2, xKExt, eExt, xKAug3, xKAug2, xKAug, eAugF, xKAugN2, xKAugN, eAugN, sSeq, sNext, sRetN, fVar, fC, fNil, fNo, fDictK, fDictT, vN, vF, startS, asB, asI, truD, isDict, isT, seqD, ownL, ownD, frAt, okM, exL, vw, oRev, fYes, ↓reduceIte, List.map_cons, List.map_nil, List.length_cons, List.length_nil, List.replicate, List.cons_append, List.nil_append, List.append_nil, List.getElem?_cons_zero, List.getElem?_cons_succ, List.set_cons_zero, List.set_cons_succ, Option.map_some, Option.map_none, Option.bind_some, Option.bind_none, Sl.dat, Sl.frz, Nat.sub_self, Nat.reduceSub, Nat.reduceAdd, Bool.not_true, Bool.not_false, Bool.false_eq_true, if_true, if_false, reduceCtorEq, Nat.reduceLeDiff, true_and, cut_at, cut_to, cut_from, cut_fromA, Nat.zero_le, and_true, decide_true, setS, List.foldl_cons, List.foldl_nil, setE, wipeE, List.foldl_append, decide_false, Int.natCast_one, Int.natCast_zero, Int.cast_ofNat_Int, Int.reduceEq, oEqS, oNeS, oEqI, oNeI, oLtS, oLtI, oLeI, oGtI, oGeI, oAddS, oAddI', oAddT, oAddL, oLenS, oLenT, oLenL, oSlS, oSlT, oSlL, oSub, oTuple, oIx0, oIx1, oMulS, oMulI, oFdivI, oIsB, oIsntB, oIsN, oIsntN, isNone]
    refine ⟨R, w, rfl, hg, hR, hw, ?_⟩
    simp only [xKBin2, xKBin1, eBin, xKTB, eTB, xKTru, eTru, xKAndT, eAndT, xKOrT, eOrT, xKNotT, eNotT, xKAnd2, xKAnd, eAnd, xKOr2, xKOr, eOr, xKNot2, xKNot, eNot, xKIf, eIf, xKCh5, xKCh4, xKCh3, xKCh2, xKCh1, eChain, negI_int, xKNeg, eNeg, xKCons2, xKCons, eCons, xKTup, eTup, xKLst, eLst, prtI_int, xKPart, ePart, xKSl3, xKSl2, xKSl1, eSl, xKCall, eCall, xKCallF, eCallF, xKIsi, eIsi, xKR1, xKR0, eRng1, xKRj, xKRi, xKRy, xKRx, eRng2, xKSeq, eSeq, xKEn2, xKEn, eEnum, xKLc2, xKLc, eLc, xKRev, eRev, xKJ2, xKJ, eJoin, xKRet, eRet, xKSIf, eSIf, xKExpr, eExpr, xKSetF, eSetF, xKSetN, eSetN, xKFor, eFor, xKUnp, eUnpF, xKUnpN, eUnpN, xKPar2, xKPar, ePar, xKOwn, eOwn, xKApp2, xKApp, eApp, xKExt3, xKExt2, xKExt, eExt, xKAug3, xKAug2, xKAug, eAugF, xKAugN2, xKAugN, eAugN, sSeq, sNext, sRetN, fVar, fC, fNil, fNo, fDictK, fDictT, vN, vF, startS, asB, asI, truD, isDict, isT, seqD, ownL, ownD, frAt, okM, exL, vw, oRev, fYes, ↓reduceIte, List.map_cons, List.map_nil, List.length_cons, List.length_nil, List.replicate, List.cons_append, List.nil_append, List.append_nil, List.getElem?_cons_zero, List.getElem?_cons_succ, List.set_cons_zero, List.set_cons_succ, Option.map_some, Option.map_none, Option.bind_some, Option.bind_none, Sl.dat, Sl.frz, Nat.sub_self, Nat.reduceSub, Nat.reduceAdd, Bool.not_true, Bool.not_false, Bool.false_eq_true, if_true, if_false, reduceCtorEq, Nat.reduceLeDiff, true_and, cut_at, cut_to, cut_from, cut_fromA, Nat.zero_le, and_true, decide_true, setS, List.foldl_cons, List.foldl_nil, setE, wipeE, List.foldl_append, decide_false, Int.natCast_one, Int.natCast_zero, Int.cast_ofNat_Int, Int.reduceEq, oEqS, oNeS, oEqI, oNeI, oLtS, oLtI, oLeI, oGtI, oGeI, oAddS, oAddI', oAddT, oAddL, oLenS, oLenT, oLenL, oSlS, oSlT, oSlL, oSub, oTuple, oIx0, oIx1, oMulS, oMulI, oFdivI, oIsB, oIsntB, oIsN, oIsntN, isNone]
    refine ⟨R, w, rfl, hg, hR, hw, ?_⟩
    simp only [xKBin2, xKBin1, eBin, xKTB, eTB, xKTru, eTru, xKAndT, eAndT, xKOrT, eOrT, xKNotT, eNotT, xKAnd2, xKAnd, eAnd, xKOr2, xKOr, eOr, xKNot2, xKNot, eNot, xKIf, eIf, xKCh5, xKCh4, xKCh3, xKCh2, xKCh1, eChain, negI_int, xKNeg, eNeg, xKCons2, xKCons, eCons, xKTup, eTup, xKLst, eLst, prtI_int, xKPart, ePart, xKSl3, xKSl2, xKSl1, eSl, xKCall, eCall, xKCallF, eCallF, xKIsi, eIsi, xKR1, xKR0, eRng1, xKRj, xKRi, xKRy, xKRx, eRng2, xKSeq, eSeq, xKEn2, xKEn, eEnum, xKLc2, xKLc, eLc, xKRev, eRev, xKJ2, xKJ, eJoin, xKRet, eRet, xKSIf, eSIf, xKExpr, eExpr, xKSetF, eSetF, xKSetN, eSetN, xKFor, eFor, xKUnp, eUnpF, xKUnpN, eUnpN, xKPar2, xKPar, ePar, xKOwn, eOwn, xKApp2, xKApp, eApp, xKExt3, xKExt2, xKExt, eExt, xKAug3, xKAug2, xKAug, eAugF, xKAugN2, xKAugN, eAugN, sSeq, sNext, sRetN, fVar, fC, fNil, fNo, fDictK, fDictT, vN, vF, startS, asB, asI, truD, isDict, isT, seqD, ownL, ownD, frAt, okM, exL, vw, oRev, fYes, ↓reduceIte, List.map_cons, List.map_nil, List.length_cons, List.length_nil, List.replicate, List.cons_append, List.nil_append, List.append_nil, List.getElem?_cons_zero, List.getElem?_cons_succ, List.set_cons_zero, List.set_cons_succ, Option.map_some, Option.map_none, Option.bind_some, Option.bind_none, Sl.dat, Sl.frz, Nat.sub_self, Nat.reduceSub, Nat.reduceAdd, Bool.not_true, Bool.not_false, Bool.false_eq_true, if_true, if_false, reduceCtorEq, Nat.reduceLeDiff, true_and, cut_at, cut_to, cut_from, cut_fromA, Nat.zero_le, and_true, decide_true, setS, List.foldl_cons, List.foldl_nil, setE, wipeE, List.foldl_append, decide_false, Int.natCast_one, Int.natCast_zero, Int.cast_ofNat_Int, Int.reduceEq, oEqS, oNeS, oEqI, oNeI, oLtS, oLtI, oLeI, oGtI, oGeI, oAddS, oAddI', oAddT, oAddL, oLenS, oLenT, oLenL, oSlS, oSlT, oSlL, oSub, oTuple, oIx0, oIx1, oMulS, oMulI, oFdivI, oIsB, oIsntB, oIsN, oIsntN, isNone]
    refine same_sts hsl ?_
    simp only [xKBin2, xKBin1, eBin, xKTB, eTB, xKTru, eTru, xKAndT, eAndT, xKOrT, eOrT, xKNotT, eNotT, xKAnd2, xKAnd, eAnd, xKOr2, xKOr, eOr, xKNot2, xKNot, eNot, xKIf, eIf, xKCh5, xKCh4, xKCh3, xKCh2, xKCh1, eChain, negI_int, xKNeg, eNeg, xKCons2, xKCons, eCons, xKTup, eTup, xKLst, eLst, prtI_int, xKPart, ePart, xKSl3, xKSl2, xKSl1, eSl, xKCall, eCall, xKCallF, eCallF, xKIsi, eIsi, xKR1, xKR0, eRng1, xKRj, xKRi, xKRy, xKRx, eRng2, xKSeq, eSeq, xKEn2, xKEn, eEnum, xKLc2, xKLc, eLc, xKRev, eRev, xKJ2, xKJ, eJoin, xKRet, eRet, xKSIf, eSIf, xKExpr, eExpr, xKSetF, eSetF, xKSetN, eSetN, xKFor, eFor, xKUnp, eUnpF, xKUnpN, eUnpN, xKPar2, xKPar, ePar, xKOwn, eOwn, xKApp2, xKApp, eApp, xKExt3, xKExt2, xKExt, eExt, xKAug3, xKAug2, xKAug, eAugF, xKAugN2, xKAugN, eAugN, sSeq, sNext, sRetN, fVar, fC, fNil, fNo, fDictK, fDictT, vN, vF, startS, asB, asI, truD, isDict, isT, seqD, ownL, ownD, frAt, okM, exL, vw, oRev, fYes, ↓reduceIte, List.map_cons, List.map_nil, List.length_cons, List.length_nil, List.replicate, List.cons_append, List.nil_append, List.append_nil, List.getElem?_cons_zero, List.getElem?_cons_succ, List.set_cons_zero, List.set_cons_succ, Option.map_some, Option.map_none, Option.bind_some, Option.bind_none, Sl.dat, Sl.frz, Nat.sub_self, Nat.reduceSub, Nat.reduceAdd, Bool.not_true, Bool.not_false, Bool.false_eq_true, if_true, if_false, reduceCtorEq, Nat.reduceLeDiff, true_and, cut_at, cut_to, cut_from, cut_fromA, Nat.zero_le, and_true, decide_true, setS, List.foldl_cons, List.foldl_nil, setE, wipeE, List.foldl_append, decide_false, Int.natCast_one, Int.natCast_zero, Int.cast_ofNat_Int, Int.reduceEq, oEqS, oNeS, oEqI, oNeI, oLtS, oLtI, oLeI, oGtI, oGeI, oAddS, oAddI', oAddT, oAddL, oLenS, oLenT, oLenL, oSlS, oSlT, oSlL, oSub, oTuple, oIx0, oIx1, oMulS, oMulI, oFdivI, oIsB, oIsntB, oIsN, oIsntN, isNone]
    refine ⟨R, w, rfl, hg, hR, hw, ?_⟩
    simp only [xKBin2, xKBin1, eBin, xKTB, eTB, xKTru, eTru, xKAndT, eAndT, xKOrT, eOrT, xKNotT, eNotT, xKAnd2, xKAnd, eAnd, xKOr2, xKOr, eOr, xKNot2, xKNot, eNot, xKIf, eIf, xKCh5, xKCh4, xKCh3, xKCh2, xKCh1, eChain, negI_int, xKNeg, eNeg, xKCons2, xKCons, eCons, xKTup, eTup, xKLst, eLst, prtI_int, xKPart, ePart, xKSl3, xKSl2, xKSl1, eSl, xKCall, eCall, xKCallF, eCallF, xKIsi, eIsi, xKR1, xKR0, eRng1, xKRj, xKRi, xKRy, xKRx, eRng2, xKSeq, eSeq, xKEn2, xKEn, eEnum, xKLc2, xKLc, eLc, xKRev, eRev, xKJ2, xKJ, eJoin, xKRet, eRet, xKSIf, eSIf, xKExpr, eExpr, xKSetF, eSetF, xKSetN, eSetN, xKFor, eFor, xKUnp, eUnpF, xKUnpN, eUnpN, xKPar2, xKPar, ePar, xKOwn, eOwn, xKApp2, xKApp, eApp, xKExt3, xKExt2, xKExt, eExt, xKAug3, xKAug2, xKAug, eAugF, xKAugN2, xKAugN, eAugN, sSeq, sNext, sRetN, fVar, fC, fNil, fNo, fDictK, fDictT, vN, vF, startS, asB, asI, truD, isDict, isT, seqD, ownL, ownD, frAt, okM, exL, vw, oRev, fYes, ↓reduceIte, List.map_cons, List.map_nil, List.length_cons, List.length_nil, List.replicate, List.cons_append, List.nil_append, List.append_nil, List.getElem?_cons_zero, List.getElem?_cons_succ, List.set_cons_zero, List.set_cons_succ, Option.map_some, Option.map_none, Option.bind_some, Option.bind_none, Sl.dat, Sl.frz, Nat.sub_self, Nat.reduceSub, Nat.reduceAdd, Bool.not_true, Bool.not_false, Bool.false_eq_true, if_true, if_false, reduceCtorEq, Nat.reduceLeDiff, true_and, cut_at, cut_to, cut_from, cut_fromA, Nat.zero_le, and_true, decide_true, setS, List.foldl_cons, List.foldl_nil, setE, wipeE, List.foldl_append, decide_false, Int.natCast_one, Int.natCast_zero, Int.cast_ofNat_Int, Int.reduceEq, oEqS, oNeS, oEqI, oNeI, oLtS, oLtI, oLeI, oGtI, oGeI, oAddS, oAddI', oAddT, oAddL, oLenS, oLenT, oLenL, oSlS, oSlT, oSlL, oSub, oTuple, oIx0, oIx1, oMulS, oMulI, oFdivI, oIsB, oIsntB, oIsN, oIsntN, isNone]
    refine oEq_ok (b := (steps R w).isEmpty) (plain_sts _) rfl (by simp [PyData.depth, PyData.depthAll]) (by cases steps R w <;> simp [PyData.eqv, PyData.eqvAll]) ?_
    simp only [xKBin2, xKBin1, eBin, xKTB, eTB, xKTru, eTru, xKAndT, eAndT, xKOrT, eOrT, xKNotT, eNotT, xKAnd2, xKAnd, eAnd, xKOr2, xKOr, eOr, xKNot2, xKNot, eNot, xKIf, eIf, xKCh5, xKCh4, xKCh3, xKCh2, xKCh1, eChain, negI_int, xKNeg, eNeg, xKCons2, xKCons, eCons, xKTup, eTup, xKLst, eLst, prtI_int, xKPart, ePart, xKSl3, xKSl2, xKSl1, eSl, xKCall, eCall, xKCallF, eCallF, xKIsi, eIsi, xKR1, xKR0, eRng1, xKRj, xKRi, xKRy, xKRx, eRng2, xKSeq, eSeq, xKEn2, xKEn, eEnum, xKLc2, xKLc, eLc, xKRev, eRev, xKJ2, xKJ, eJoin, xKRet, eRet, xKSIf, eSIf, xKExpr, eExpr, xKSetF, eSetF, xKSetN, eSetN, xKFor, eFor, xKUnp, eUnpF, xKUnpN, eUnpN, xKPar2, xKPar, ePar, xKOwn, eOwn, xKApp2, xKApp, eApp, xKExt3, xKExt2, xKExt, eExt, xKAug3, xKAug2, xKAug, eAugF, xKAugN2, xKAugN, eAugN, sSeq, sNext, sRetN, fVar, fC, fNil, fNo, fDictK, fDictT, vN, vF, startS, asB, asI, truD, isDict, isT, seqD, ownL, ownD, frAt, okM, exL, vw, oRev, fYes, ↓reduceIte, List.map_cons, List.map_nil, List.length_cons, List.length_nil, List.replicate, List.cons_append, List.nil_append, List.append_nil, List.getElem?_cons_zero, List.getElem?_cons_succ, List.set_cons_zero, List.set_cons_succ, Option.map_some, Option.map_none, Option.bind_some, Option.bind_none, Sl.dat, Sl.frz, Nat.sub_self, Nat.reduceSub, Nat.reduceAdd, Bool.not_true, Bool.not_false, Bool.false_eq_true, if_true, if_false, reduceCtorEq, Nat.reduceLeDiff, true_and, cut_at, cut_to, cut_from, cut_fromA, Nat.zero_le, and_true, decide_true, setS, List.foldl_cons, List.foldl_nil, setE, wipeE, List.foldl_append, decide_false, Int.natCast_one, Int.natCast_zero, Int.cast_ofNat_Int, Int.reduceEq, oEqS, oNeS, oEqI, oNeI, oLtS, oLtI, oLeI, oGtI, oGeI, oAddS, oAddI', oAddT, oAddL, oLenS, oLenT, oLenL, oSlS, oSlT, oSlL, oSub, oTuple, oIx0, oIx1, oMulS, oMulI, oFdivI, oIsB, oIsntB, oIsN, oIsntN, isNone]
    refine same_b ?_
    simp only [xKBin2, xKBin1, eBin, xKTB, eTB, xKTru, eTru, xKAndT, eAndT, xKOrT, eOrT, xKNotT, eNotT, xKAnd2, xKAnd, eAnd, xKOr2, xKOr, eOr, xKNot2, xKNot, eNot, xKIf, eIf, xKCh5, xKCh4, xKCh3, xKCh2, xKCh1, eChain, negI_int, xKNeg, eNeg, xKCons2, xKCons, eCons, xKTup, eTup, xKLst, eLst, prtI_int, xKPart, ePart, xKSl3, xKSl2, xKSl1, eSl, xKCall, eCall, xKCallF, eCallF, xKIsi, eIsi, xKR1, xKR0, eRng1, xKRj, xKRi, xKRy, xKRx, eRng2, xKSeq, eSeq, xKEn2, xKEn, eEnum, xKLc2, xKLc, eLc, xKRev, eRev, xKJ2, xKJ, eJoin, xKRet, eRet, xKSIf, eSIf, xKExpr, eExpr, xKSetF, eSetF, xKSetN, eSetN, xKFor, eFor, xKUnp, eUnpF, xKUnpN, eUnpN, xKPar2, xKPar, ePar, xKOwn, eOwn, xKApp2, xKApp, eApp, xKExt3, xKExt2, xKExt, eExt, xKAug3, xKAug2, xKAug, eAugF, xKAugN2, xKAugN, eAugN, sSeq, sNext, sRetN, fVar, fC, fNil, fNo, fDictK, fDictT, vN, vF, startS, asB, asI, truD, isDict, isT, seqD, ownL, ownD, frAt, okM, exL, vw, oRev, fYes, ↓reduceIte, List.map_cons, List.map_nil, List.length_cons, List.length_nil, List.replicate, List.cons_append, List.nil_append, List.append_nil, List.getElem?_cons_zero, List.getElem?_cons_succ, List.set_cons_zero, List.set_cons_succ, Option.map_some, Option.map_none, Option.bind_some, Option.bind_none, Sl.dat, Sl.frz, Nat.sub_self, Nat.reduceSub, Nat.reduceAdd, Bool.not_true, Bool.not_false, Bool.false_eq_true, if_true, if_false, reduceCtorEq, Nat.reduceLeDiff, true_and, cut_at, cut_to, cut_from, cut_fromA, Nat.zero_le, and_true, decide_true, setS, List.foldl_cons, List.foldl_nil, setE, wipeE, List.foldl_append, decide_false, Int.natCast_one, Int.natCast_zero, Int.cast_ofNat_Int, Int.reduceEq, oEqS, oNeS, oEqI, oNeI, oLtS, oLtI, oLeI, oGtI, oGeI, oAddS, oAddI', oAddT, oAddL, oLenS, oLenT, oLenL, oSlS, oSlT, oSlL, oSub, oTuple, oIx0, oIx1, oMulS, oMulI, oFdivI, oIsB, oIsntB, oIsN, oIsntN, isNone]
    obtain ⟨ss, u, hrun, hss⟩ := J.run
    refine ⟨R, w, u, ss, rfl, hg, hR, hw, hrun, hss, ?_⟩
    simp only [xKBin2, xKBin1, eBin, xKTB, eTB, xKTru, eTru, xKAndT, eAndT, xKOrT, eOrT, xKNotT, eNotT, xKAnd2, xKAnd, eAnd, xKOr2, xKOr, eOr, xKNot2, xKNot, eNot, xKIf, eIf, xKCh5, xKCh4, xKCh3, xKCh2, xKCh1, eChain, negI_int, xKNeg, eNeg, xKCons2, xKCons, eCons, xKTup, eTup, xKLst, eLst, prtI_int, xKPart, ePart, xKSl3, xKSl2, xKSl1, eSl, xKCall, eCall, xKCallF, eCallF, xKIsi, eIsi, xKR1, xKR0, eRng1, xKRj, xKRi, xKRy, xKRx, eRng2, xKSeq, eSeq, xKEn2, xKEn, eEnum, xKLc2, xKLc, eLc, xKRev, eRev, xKJ2, xKJ, eJoin, xKRet, eRet, xKSIf, eSIf, xKExpr, eExpr, xKSetF, eSetF, xKSetN, eSetN, xKFor, eFor, xKUnp, eUnpF, xKUnpN, eUnpN, xKPar2, xKPar, ePar, xKOwn, eOwn, xKApp2, xKApp, eApp, xKExt3, xKExt2, xKExt, eExt, xKAug3, xKAug2, xKAug, eAugF, xKAugN2, xKAugN, eAugN, sSeq, sNext, sRetN, fVar, fC, fNil, fNo, fDictK, fDictT, vN, vF, startS, asB, asI, truD, isDict, isT, seqD, ownL, ownD, frAt, okM, exL, vw, oRev, fYes, ↓reduceIte, List.map_cons, List.map_nil, List.length_cons, List.length_nil, List.replicate, List.cons_append, List.nil_append, List.append_nil, List.getElem?_cons_zero, List.getElem?_cons_succ, List.set_cons_zero, List.set_cons_succ, Option.map_some, Option.map_none, Option.bind_some, Option.bind_none, Sl.dat, Sl.frz, Nat.sub_self, Nat.reduceSub, Nat.reduceAdd, Bool.not_true, Bool.not_false, Bool.false_eq_true, if_true, if_false, reduceCtorEq, Nat.reduceLeDiff, true_and, cut_at, cut_to, cut_from, cut_fromA, Nat.zero_le, and_true, decide_true, setS, List.foldl_cons, List.foldl_nil, setE, wipeE, List.foldl_append, decide_false, Int.natCast_one, Int.natCast_zero, Int.cast_ofNat_Int, Int.reduceEq, oEqS, oNeS, oEqI, oNeI, oLtS, oLtI, oLeI, oGtI, oGeI, oAddS, oAddI', oAddT, oAddL, oLenS, oLenT, oLenL, oSlS, oSlT, oSlL, oSub, oTuple, oIx0, oIx1, oMulS, oMulI, oFdivI, oIsB, oIsntB, oIsN, oIsntN, isNone]
    refine ⟨_, rfl, ?_⟩
    simp only [xKBin2, xKBin1, eBin, xKTB, eTB, xKTru, eTru, xKAndT, eAndT, xKOrT, eOrT, xKNotT, eNotT, xKAnd2, xKAnd, eAnd, xKOr2, xKOr, eOr, xKNot2, xKNot, eNot, xKIf, eIf, xKCh5, xKCh4, xKCh3, xKCh2, xKCh1, eChain, negI_int, xKNeg, eNeg, xKCons2, xKCons, eCons, xKTup, eTup, xKLst, eLst, prtI_int, xKPart, ePart, xKSl3, xKSl2, xKSl1, eSl, xKCall, eCall, xKCallF, eCallF, xKIsi, eIsi, xKR1, xKR0, eRng1, xKRj, xKRi, xKRy, xKRx, eRng2, xKSeq, eSeq, xKEn2, xKEn, eEnum, xKLc2, xKLc, eLc, xKRev, eRev, xKJ2, xKJ, eJoin, xKRet, eRet, xKSIf, eSIf, xKExpr, eExpr, xKSetF, eSetF, xKSetN, eSetN, xKFor, eFor, xKUnp, eUnpF, xKUnpN, eUnpN, xKPar2, xKPar, ePar, xKOwn, eOwn, xKApp2, xKApp, eApp, xKExt3, xKExt2, xKExt, eExt, xKAug3, xKAug2, xKAug, eAugF, xKAugN2, xKAugN, eAugN, sSeq, sNext, sRetN, fVar, fC, fNil, fNo, fDictK, fDictT, vN, vF, startS, asB, asI, truD, isDict, isT, seqD, ownL, ownD, frAt, okM, exL, vw, oRev, fYes, ↓reduceIte, List.map_cons, List.map_nil, List.length_cons, List.length_nil, List.replicate, List.cons_append, List.nil_append, List.append_nil, List.getElem?_cons_zero, List.getElem?_cons_succ, List.set_cons_zero, List.set_cons_succ, Option.map_some, Option.map_none, Option.bind_some, Option.bind_none, Sl.dat, Sl.frz, Nat.sub_self, Nat.reduceSub, Nat.reduceAdd, Bool.not_true, Bool.not_false, Bool.false_eq_true, if_true, if_false, reduceCtorEq, Nat.reduceLeDiff, true_and, cut_at, cut_to, cut_from, cut_fromA, Nat.zero_le, and_true, decide_true, setS, List.foldl_cons, List.foldl_nil, setE, wipeE, List.foldl_append, decide_false, Int.natCast_one, Int.natCast_zero, Int.cast_ofNat_Int, Int.reduceEq, oEqS, oNeS, oEqI, oNeI, oLtS, oLtI, oLeI, oGtI, oGeI, oAddS, oAddI', oAddT, oAddL, oLenS, oLenT, oLenL, oSlS, oSlT, oSlL, oSub, oTuple, oIx0, oIx1, oMulS, oMulI, oFdivI, oIsB, oIsntB, oIsN, oIsntN, isNone]
    refine ⟨R, w, u, ss, rfl, hg, hR, hw, hrun, hss, ?_⟩
    simp only [xKBin2, xKBin1, eBin, xKTB, eTB, xKTru, eTru, xKAndT, eAndT, xKOrT, eOrT, xKNotT, eNotT, xKAnd2, xKAnd, eAnd, xKOr2, xKOr, eOr, xKNot2, xKNot, eNot, xKIf, eIf, xKCh5, xKCh4, xKCh3, xKCh2, xKCh1, eChain, negI_int, xKNeg, eNeg, xKCons2, xKCons, eCons, xKTup, eTup, xKLst, eLst, prtI_int, xKPart, ePart, xKSl3, xKSl2, xKSl1, eSl, xKCall, eCall, xKCallF, eCallF, xKIsi, eIsi, xKR1, xKR0, eRng1, xKRj, xKRi, xKRy, xKRx, eRng2, xKSeq, eSeq, xKEn2, xKEn, eEnum, xKLc2, xKLc, eLc, xKRev, eRev, xKJ2, xKJ, eJoin, xKRet, eRet, xKSIf, eSIf, xKExpr, eExpr, xKSetF, eSetF, xKSetN, eSetN, xKFor, eFor, xKUnp, eUnpF, xKUnpN, eUnpN, xKPar2, xKPar, ePar, xKOwn, eOwn, xKApp2, xKApp, eApp, xKExt3, xKExt2, xKExt, eExt, xKAug3, xKAug2, xKAug, eAugF, xKAugN2, xKAugN, eAugN, sSeq, sNext, sRetN, fVar, fC, fNil, fNo, fDictK, fDictT, vN, vF, startS, asB, asI, truD, isDict, isT, seqD, ownL, ownD, frAt, okM, exL, vw, oRev, fYes, ↓reduceIte, List.map_cons, List.map_nil, List.length_cons, List.length_nil, List.replicate, List.cons_append, List.nil_append, List.append_nil, List.getElem?_cons_zero, List.getElem?_cons_succ, List.set_cons_zero, List.set_cons_succ, Option.map_some, Option.map_none, Option.bind_some, Option.bind_none, Sl.dat, Sl.frz, Nat.sub_self, Nat.reduceSub, Nat.reduceAdd, Bool.not_true, Bool.not_false, Bool.false_eq_true, if_true, if_false, reduceCtorEq, Nat.reduceLeDiff, true_and, cut_at, cut_to, cut_from, cut_fromA, Nat.zero_le, and_true, decide_true, setS, List.foldl_cons, List.foldl_nil, setE, wipeE, List.foldl_append, decide_false, Int.natCast_one, Int.natCast_zero, Int.cast_ofNat_Int, Int.reduceEq, oEqS, oNeS, oEqI, oNeI, oLtS, oLtI, oLeI, oGtI, oGeI, oAddS, oAddI', oAddT, oAddL, oLenS, oLenT, oLenL, oSlS, oSlT, oSlL, oSub, oTuple, oIx0, oIx1, oMulS, oMulI, oFdivI, oIsB, oIsntB, oIsN, oIsntN, isNone]
    refine same_sts (by omega) ?_
    simp only [xKBin2, xKBin1, eBin, xKTB, eTB, xKTru, eTru, xKAndT, eAndT, xKOrT, eOrT, xKNotT, eNotT, xKAnd2, xKAnd, eAnd, xKOr2, xKOr, eOr, xKNot2, xKNot, eNot, xKIf, eIf, xKCh5, xKCh4, xKCh3, xKCh2, xKCh1, eChain, negI_int, xKNeg, eNeg, xKCons2, xKCons, eCons, xKTup, eTup, xKLst, eLst, prtI_int, xKPart, ePart, xKSl3, xKSl2, xKSl1, eSl, xKCall, eCall, xKCallF, eCallF, xKIsi, eIsi, xKR1, xKR0, eRng1, xKRj, xKRi, xKRy, xKRx, eRng2, xKSeq, eSeq, xKEn2, xKEn, eEnum, xKLc2, xKLc, eLc, xKRev, eRev, xKJ2, xKJ, eJoin, xKRet, eRet, xKSIf, eSIf, xKExpr, eExpr, xKSetF, eSetF, xKSetN, eSetN, xKFor, eFor, xKUnp, eUnpF, xKUnpN, eUnpN, xKPar2, xKPar, ePar, xKOwn, eOwn, xKApp2, xKApp, eApp, xKExt3, xKExt2, xKExt, eExt, xKAug3, xKAug2, xKAug, eAugF, xKAugN2, xKAugN, eAugN, sSeq, sNext, sRetN, fVar, fC, fNil, fNo, fDictK, fDictT, vN, vF, startS, asB, asI, truD, isDict, isT, seqD, ownL, ownD, frAt, okM, exL, vw, oRev, fYes, ↓reduceIte, List.map_cons, List.map_nil, List.length_cons, List.length_nil, List.replicate, List.cons_append, List.nil_append, List.append_nil, List.getElem?_cons_zero, List.getElem?_cons_succ, List.set_cons_zero, List.set_cons_succ, Option.map_some, Option.map_none, Option.bind_some, Option.bind_none, Sl.dat, Sl.frz, Nat.sub_self, Nat.reduceSub, Nat.reduceAdd, Bool.not_true, Bool.not_false, Bool.false_eq_true, if_true, if_false, reduceCtorEq, Nat.reduceLeDiff, true_and, cut_at, cut_to, cut_from, cut_fromA, Nat.zero_le, and_true, decide_true, setS, List.foldl_cons, List.foldl_nil, setE, wipeE, List.foldl_append, decide_false, Int.natCast_one, Int.natCast_zero, Int.cast_ofNat_Int, Int.reduceEq, oEqS, oNeS, oEqI, oNeI, oLtS, oLtI, oLeI, oGtI, oGeI, oAddS, oAddI', oAddT, oAddL, oLenS, oLenT, oLenL, oSlS, oSlT, oSlL, oSub, oTuple, oIx0, oIx1, oMulS, oMulI, oFdivI, oIsB, oIsntB, oIsN, oIsntN, isNone]
    refine ⟨R, w, u, ss, rfl, hg, hR, hw, hrun, hss, ?_⟩
    simp only [xKBin2, xKBin1, eBin, xKTB, eTB, xKTru, eTru, xKAndT, eAndT, xKOrT, eOrT, xKNotT, eNotT, xKAnd2, xKAnd, eAnd, xKOr2, xKOr, eOr, xKNot2, xKNot, eNot, xKIf, eIf, xKCh5, xKCh4, xKCh3, xKCh2, xKCh1, eChain, negI_int, xKNeg, eNeg, xKCons2, xKCons, eCons, xKTup, eTup, xKLst, eLst, prtI_int, xKPart, ePart, xKSl3, xKSl2, xKSl1, eSl, xKCall, eCall, xKCallF, eCallF, xKIsi, eIsi, xKR1, xKR0, eRng1, xKRj, xKRi, xKRy, xKRx, eRng2, xKSeq, eSeq, xKEn2, xKEn, eEnum, xKLc2, xKLc, eLc, xKRev, eRev, xKJ2, xKJ, eJoin, xKRet, eRet, xKSIf, eSIf, xKExpr, eExpr, xKSetF, eSetF, xKSetN, eSetN, xKFor, eFor, xKUnp, eUnpF, xKUnpN, eUnpN, xKPar2, xKPar, ePar, xKOwn, eOwn, xKApp2, xKApp, eApp, xKExt3, xKExt2, xKExt, eExt, xKAug3, xKAug2, xKAug, eAugF, xKAugN2, xKAugN, eAugN, sSeq, sNext, sRetN, fVar, fC, fNil, fNo, fDictK, fDictT, vN, vF, startS, asB, asI, truD, isDict, isT, seqD, ownL, ownD, frAt, okM, exL, vw, oRev, fYes, ↓reduceIte, List.map_cons, List.map_nil, List.length_cons, List.length_nil, List.replicate, List.cons_append, List.nil_append, List.append_nil, List.getElem?_cons_zero, List.getElem?_cons_succ, List.set_cons_zero, List.set_cons_succ, Option.map_some, Option.map_none, Option.bind_some, Option.bind_none, Sl.dat, Sl.frz, Nat.sub_self, Nat.reduceSub, Nat.reduceAdd, Bool.not_true, Bool.not_false, Bool.false_eq_true, if_true, if_false, reduceCtorEq, Nat.reduceLeDiff, true_and, cut_at, cut_to, cut_from, cut_fromA, Nat.zero_le, and_true, decide_true, setS, List.foldl_cons, List.foldl_nil, setE, wipeE, List.foldl_append, decide_false, Int.natCast_one, Int.natCast_zero, Int.cast_ofNat_Int, Int.reduceEq, oEqS, oNeS, oEqI, oNeI, oLtS, oLtI, oLeI, oGtI, oGeI, oAddS, oAddI', oAddT, oAddL, oLenS, oLenT, oLenL, oSlS, oSlT, oSlL, oSub, oTuple, oIx0, oIx1, oMulS, oMulI, oFdivI, oIsB, oIsntB, oIsN, oIsntN, isNone]
    refine same_w ?_
    simp only [xKBin2, xKBin1, eBin, xKTB, eTB, xKTru, eTru, xKAndT, eAndT, xKOrT, eOrT, xKNotT, eNotT, xKAnd2, xKAnd, eAnd, xKOr2, xKOr, eOr, xKNot2, xKNot, eNot, xKIf, eIf, xKCh5, xKCh4, xKCh3, xKCh2, xKCh1, eChain, negI_int, xKNeg, eNeg, xKCons2, xKCons, eCons, xKTup, eTup, xKLst, eLst, prtI_int, xKPart, ePart, xKSl3, xKSl2, xKSl1, eSl, xKCall, eCall, xKCallF, eCallF, xKIsi, eIsi, xKR1, xKR0, eRng1, xKRj, xKRi, xKRy, xKRx, eRng2, xKSeq, eSeq, xKEn2, xKEn, eEnum, xKLc2, xKLc, eLc, xKRev, eRev, xKJ2, xKJ, eJoin, xKRet, eRet, xKSIf, eSIf, xKExpr, eExpr, xKSetF, eSetF, xKSetN, eSetN, xKFor, eFor, xKUnp, eUnpF, xKUnpN, eUnpN, xKPar2, xKPar, ePar, xKOwn, eOwn, xKApp2, xKApp, eApp, xKExt3, xKExt2, xKExt, eExt, xKAug3, xKAug2, xKAug, eAugF, xKAugN2, xKAugN, eAugN, sSeq, sNext, sRetN, fVar, fC, fNil, fNo, fDictK, fDictT, vN, vF, startS, asB, asI, truD, isDict, isT, seqD, ownL, ownD, frAt, okM, exL, vw, oRev, fYes, ↓reduceIte, List.map_cons, List.map_nil, List.length_cons, List.length_nil, List.replicate, List.cons_append, List.nil_append, List.append_nil, List.getElem?_cons_zero, List.getElem?_cons_succ, List.set_cons_zero, List.set_cons_succ, Option.map_some, Option.map_none, Option.bind_some, Option.bind_none, Sl.dat, Sl.frz, Nat.sub_self, Nat.reduceSub, Nat.reduceAdd, Bool.not_true, Bool.not_false, Bool.false_eq_true, if_true, if_false, reduceCtorEq, Nat.reduceLeDiff, true_and, cut_at, cut_to, cut_from, cut_fromA, Nat.zero_le, and_true, decide_true, setS, List.foldl_cons, List.foldl_nil, setE, wipeE, List.foldl_append, decide_false, Int.natCast_one, Int.natCast_zero, Int.cast_ofNat_Int, Int.reduceEq, oEqS, oNeS, oEqI, oNeI, oLtS, oLtI, oLeI, oGtI, oGeI, oAddS, oAddI', oAddT, oAddL, oLenS, oLenT, oLenL, oSlS, oSlT, oSlL, oSub, oTuple, oIx0, oIx1, oMulS, oMulI, oFdivI, oIsB, oIsntB, oIsN, oIsntN, isNone]
    refine ⟨by decide, ?_⟩
    rw [show ((5 : Int)).toNat = 5 from rfl, natsD0]
    refine qComp_any (fun y => y.plain = true) (fun x _ => ⟨_, rfl, fun Q' q' => ?_⟩) fun ys hl hys => ?_
    · simp only [xKBin2, xKBin1, eBin, xKTB, eTB, xKTru, eTru, xKAndT, eAndT, xKOrT, eOrT, xKNotT, eNotT, xKAnd2, xKAnd, eAnd, xKOr2, xKOr, eOr, xKNot2, xKNot, eNot, xKIf, eIf, xKCh5, xKCh4, xKCh3, xKCh2, xKCh1, eChain, negI_int, xKNeg, eNeg, xKCons2, xKCons, eCons, xKTup, eTup, xKLst, eLst, prtI_int, xKPart, ePart, xKSl3, xKSl2, xKSl1, eSl, xKCall, eCall, xKCallF, eCallF, xKIsi, eIsi, xKR1, xKR0, eRng1, xKRj, xKRi, xKRy, xKRx, eRng2, xKSeq, eSeq, xKEn2, xKEn, eEnum, xKLc2, xKLc, eLc, xKRev, eRev, xKJ2, xKJ, eJoin, xKRet, eRet, xKSIf, eSIf, xKExpr, eExpr, xKSetF, eSetF, xKSetN, eSetN, xKFor, eFor, xKUnp, eUnpF, xKUnpN, eUnpN, xKPar2, xKPar, ePar, xKOwn, eOwn, xKApp2, xKApp, eApp, xKExt3, xKExt2, xKExt, eExt, xKAug3, xKAug2, xKAug, eAugF, xKAugN2, xKAugN, eAugN, sSeq, sNext, sRetN, fVar, fC, fNil, fNo, fDictK, fDictT, vN, vF, startS, asB, asI, truD, isDict, isT, seqD, ownL, ownD, frAt, okM, exL, vw, oRev, fYes, ↓reduceIte, List.map_cons, List.map_nil, List.length_cons, List.length_nil, List.replicate, List.cons_append, List.nil_append, List.append_nil, List.getElem?_cons_zero, List.getElem?_cons_succ, List.set_cons_zero, List.set_cons_succ, Option.map_some, Option.map_none, Option.bind_some, Option.bind_none, Sl.dat, Sl.frz, Nat.sub_self, Nat.reduceSub, Nat.reduceAdd, Bool.not_true, Bool.not_false, Bool.false_eq_true, if_true, if_false, reduceCtorEq, Nat.reduceLeDiff, true_and, cut_at, cut_to, cut_from, cut_fromA, Nat.zero_le, and_true, decide_true, setS, List.foldl_cons, List.foldl_nil, setE, wipeE, List.foldl_append, decide_false, Int.natCast_one, Int.natCast_zero, Int.cast_ofNat_Int, Int.reduceEq, oEqS, oNeS, oEqI, oNeI, oLtS, oLtI, oLeI, oGtI, oGeI, oAddS, oAddI', oAddT, oAddL, oLenS, oLenT, oLenL, oSlS, oSlT, oSlL, oSub, oTuple, oIx0, oIx1, oMulS, oMulI, oFdivI, oIsB, oIsntB, oIsN, oIsntN, isNone]
      exact ⟨ss, rfl, hss, fun d hd => q' d hd⟩
    simp only [xKBin2, xKBin1, eBin, xKTB, eTB, xKTru, eTru, xKAndT, eAndT, xKOrT, eOrT, xKNotT, eNotT, xKAnd2, xKAnd, eAnd, xKOr2, xKOr, eOr, xKNot2, xKNot, eNot, xKIf, eIf, xKCh5, xKCh4, xKCh3, xKCh2, xKCh1, eChain, negI_int, xKNeg, eNeg, xKCons2, xKCons, eCons, xKTup, eTup, xKLst, eLst, prtI_int, xKPart, ePart, xKSl3, xKSl2, xKSl1, eSl, xKCall, eCall, xKCallF, eCallF, xKIsi, eIsi, xKR1, xKR0, eRng1, xKRj, xKRi, xKRy, xKRx, eRng2, xKSeq, eSeq, xKEn2, xKEn, eEnum, xKLc2, xKLc, eLc, xKRev, eRev, xKJ2, xKJ, eJoin, xKRet, eRet, xKSIf, eSIf, xKExpr, eExpr, xKSetF, eSetF, xKSetN, eSetN, xKFor, eFor, xKUnp, eUnpF, xKUnpN, eUnpN, xKPar2, xKPar, ePar, xKOwn, eOwn, xKApp2, xKApp, eApp, xKExt3, xKExt2, xKExt, eExt, xKAug3, xKAug2, xKAug, eAugF, xKAugN2, xKAugN, eAugN, sSeq, sNext, sRetN, fVar, fC, fNil, fNo, fDictK, fDictT, vN, vF, startS, asB, asI, truD, isDict, isT, seqD, ownL, ownD, frAt, okM, exL, vw, oRev, fYes, ↓reduceIte, List.map_cons, List.map_nil, List.length_cons, List.length_nil, List.replicate, List.cons_append, List.nil_append, List.append_nil, List.getElem?_cons_zero, List.getElem?_cons_succ, List.set_cons_zero, List.set_cons_succ, Option.map_some, Option.map_none, Option.bind_some, Option.bind_none, Sl.dat, Sl.frz, Nat.sub_self, Nat.reduceSub, Nat.reduceAdd, Bool.not_true, Bool.not_false, Bool.false_eq_true, if_true, if_false, reduceCtorEq, Nat.reduceLeDiff, true_and, cut_at, cut_to, cut_from, cut_fromA, Nat.zero_le, and_true, decide_true, setS, List.foldl_cons, List.foldl_nil, setE, wipeE, List.foldl_append, decide_false, Int.natCast_one, Int.natCast_zero, Int.cast_ofNat_Int, Int.reduceEq, oEqS, oNeS, oEqI, oNeI, oLtS, oLtI, oLeI, oGtI, oGeI, oAddS, oAddI', oAddT, oAddL, oLenS, oLenT, oLenL, oSlS, oSlT, oSlL, oSub, oTuple, oIx0, oIx1, oMulS, oMulI, oFdivI, oIsB, oIsntB, oIsN, oIsntN, isNone]
    rw [List.length_range] at hl
    refine ⟨by omega, ?_⟩
    have hpap : ∀ y ∈ PyData.tuple (ss.map stD) :: ys, y.plain = true := fun y hy => by
      rcases List.mem_cons.mp hy with rfl | hy
      · rw [plain_tup]; exact plain_sts ss
      · exact hys y hy
    refine qFor_ids (fun i env => ∃ e9 e12, env = [a, some (.fr boxD), e2, some (.fr (rsD R)), e4, some (.fr (sD w)), some (.fr (.int (x : Int))), some (.fr (.list ((steps R w).map stD))), some (.fr (.list (.tuple (ss.map stD) :: ys))), e9, some (.fr (.tuple (ss.map stD))), some (.fr (sD u)), e12, e13, e14, e15, e16]) ⟨_, _, rfl⟩ ?_ ?_
    · rintro i v env hv ⟨e9, e12, rfl⟩
      have hvp := hpap v (List.mem_of_getElem? hv)
      refine ⟨_, rfl, fun K2 hK2 => ?_⟩
      simp only [xKBin2, xKBin1, eBin, xKTB, eTB, xKTru, eTru, xKAndT, eAndT, xKOrT, eOrT, xKNotT, eNotT, xKAnd2, xKAnd, eAnd, xKOr2, xKOr, eOr, xKNot2, xKNot, eNot, xKIf, eIf, xKCh5, xKCh4, xKCh3, xKCh2, xKCh1, eChain, negI_int, xKNeg, eNeg, xKCons2, xKCons, eCons, xKTup, eTup, xKLst, eLst, prtI_int, xKPart, ePart, xKSl3, xKSl2, xKSl1, eSl, xKCall, eCall, xKCallF, eCallF, xKIsi, eIsi, xKR1, xKR0, eRng1, xKRj, xKRi, xKRy, xKRx, eRng2, xKSeq, eSeq, xKEn2, xKEn, eEnum, xKLc2, xKLc, eLc, xKRev, eRev, xKJ2, xKJ, eJoin, xKRet, eRet, xKSIf, eSIf, xKExpr, eExpr, xKSetF, eSetF, xKSetN, eSetN, xKFor, eFor, xKUnp, eUnpF, xKUnpN, eUnpN, xKPar2, xKPar, ePar, xKOwn, eOwn, xKApp2, xKApp, eApp, xKExt3, xKExt2, xKExt, eExt, xKAug3, xKAug2, xKAug, eAugF, xKAugN2, xKAugN, eAugN, sSeq, sNext, sRetN, fVar, fC, fNil, fNo, fDictK, fDictT, vN, vF, startS, asB, asI, truD, isDict, isT, seqD, ownL, ownD, frAt, okM, exL, vw, oRev, fYes, ↓reduceIte, List.map_cons, List.map_nil, List.length_cons, List.length_nil, List.replicate, List.cons_append, List.nil_append, List.append_nil, List.getElem?_cons_zero, List.getElem?_cons_succ, List.set_cons_zero, List.set_cons_succ, Option.map_some, Option.map_none, Option.bind_some, Option.bind_none, Sl.dat, Sl.frz, Nat.sub_self, Nat.reduceSub, Nat.reduceAdd, Bool.not_true, Bool.not_false, Bool.false_eq_true, if_true, if_false, reduceCtorEq, Nat.reduceLeDiff, true_and, cut_at, cut_to, cut_from, cut_fromA, Nat.zero_le, and_true, decide_true, setS, List.foldl_cons, List.foldl_nil, setE, wipeE, List.foldl_append, decide_false, Int.natCast_one, Int.natCast_zero, Int.cast_ofNat_Int, Int.reduceEq, oEqS, oNeS, oEqI, oNeI, oLtS, oLtI, oLeI, oGtI, oGeI, oAddS, oAddI', oAddT, oAddL, oLenS, oLenT, oLenL, oSlS, oSlT, oSlL, oSub, oTuple, oIx0, oIx1, oMulS, oMulI, oFdivI, oIsB, oIsntB, oIsN, oIsntN, isNone]
      refine ⟨R, w, v, rfl, hg, hR, hw, hvp, ?_⟩
      simp only [xKBin2, xKBin1, eBin, xKTB, eTB, xKTru, eTru, xKAndT, eAndT, xKOrT, eOrT, xKNotT, eNotT, xKAnd2, xKAnd, eAnd, xKOr2, xKOr, eOr, xKNot2, xKNot, eNot, xKIf, eIf, xKCh5, xKCh4, xKCh3, xKCh2, xKCh1, eChain, negI_int, xKNeg, eNeg, xKCons2, xKCons, eCons, xKTup, eTup, xKLst, eLst, prtI_int, xKPart, ePart, xKSl3, xKSl2, xKSl1, eSl, xKCall, eCall, xKCallF, eCallF, xKIsi, eIsi, xKR1, xKR0, eRng1, xKRj, xKRi, xKRy, xKRx, eRng2, xKSeq, eSeq, xKEn2, xKEn, eEnum, xKLc2, xKLc, eLc, xKRev, eRev, xKJ2, xKJ, eJoin, xKRet, eRet, xKSIf, eSIf, xKExpr, eExpr, xKSetF, eSetF, xKSetN, eSetN, xKFor, eFor, xKUnp, eUnpF, xKUnpN, eUnpN, xKPar2, xKPar, ePar, xKOwn, eOwn, xKApp2, xKApp, eApp, xKExt3, xKExt2, xKExt, eExt, xKAug3, xKAug2, xKAug, eAugF, xKAugN2, xKAugN, eAugN, sSeq, sNext, sRetN, fVar, fC, fNil, fNo, fDictK, fDictT, vN, vF, startS, asB, asI, truD, isDict, isT, seqD, ownL, ownD, frAt, okM, exL, vw, oRev, fYes, ↓reduceIte, List.map_cons, List.map_nil, List.length_cons, List.length_nil, List.replicate, List.cons_append, List.nil_append, List.append_nil, List.getElem?_cons_zero, List.getElem?_cons_succ, List.set_cons_zero, List.set_cons_succ, Option.map_some, Option.map_none, Option.bind_some, Option.bind_none, Sl.dat, Sl.frz, Nat.sub_self, Nat.reduceSub, Nat.reduceAdd, Bool.not_true, Bool.not_false, Bool.false_eq_true, if_true, if_false, reduceCtorEq, Nat.reduceLeDiff, true_and, cut_at, cut_to, cut_from, cut_fromA, Nat.zero_le, and_true, decide_true, setS, List.foldl_cons, List.foldl_nil, setE, wipeE, List.foldl_append, decide_false, Int.natCast_one, Int.natCast_zero, Int.cast_ofNat_Int, Int.reduceEq, oEqS, oNeS, oEqI, oNeI, oLtS, oLtI, oLeI, oGtI, oGeI, oAddS, oAddI', oAddT, oAddL, oLenS, oLenT, oLenL, oSlS, oSlT, oSlL, oSub, oTuple, oIx0, oIx1, oMulS, oMulI, oFdivI, oIsB, oIsntB, oIsN, oIsntN, isNone]
      refine ⟨R, w, u, v, rfl, hg, hR, hw, hvp, ?_⟩
      simp only [xKBin2, xKBin1, eBin, xKTB, eTB, xKTru, eTru, xKAndT, eAndT, xKOrT, eOrT, xKNotT, eNotT, xKAnd2, xKAnd, eAnd, xKOr2, xKOr, eOr, xKNot2, xKNot, eNot, xKIf, eIf, xKCh5, xKCh4, xKCh3, xKCh2, xKCh1, eChain, negI_int, xKNeg, eNeg, xKCons2, xKCons, eCons, xKTup, eTup, xKLst, eLst, prtI_int, xKPart, ePart, xKSl3, xKSl2, xKSl1, eSl, xKCall, eCall, xKCallF, eCallF, xKIsi, eIsi, xKR1, xKR0, eRng1, xKRj, xKRi, xKRy, xKRx, eRng2, xKSeq, eSeq, xKEn2, xKEn, eEnum, xKLc2, xKLc, eLc, xKRev, eRev, xKJ2, xKJ, eJoin, xKRet, eRet, xKSIf, eSIf, xKExpr, eExpr, xKSetF, eSetF, xKSetN, eSetN, xKFor, eFor, xKUnp, eUnpF, xKUnpN, eUnpN, xKPar2, xKPar, ePar, xKOwn, eOwn, xKApp2, xKApp, eApp, xKExt3, xKExt2, xKExt, eExt, xKAug3, xKAug2, xKAug, eAugF, xKAugN2, xKAugN, eAugN, sSeq, sNext, sRetN, fVar, fC, fNil, fNo, fDictK, fDictT, vN, vF, startS, asB, asI, truD, isDict, isT, seqD, ownL, ownD, frAt, okM, exL, vw, oRev, fYes, ↓reduceIte, List.map_cons, List.map_nil, List.length_cons, List.length_nil, List.replicate, List.cons_append, List.nil_append, List.append_nil, List.getElem?_cons_zero, List.getElem?_cons_succ, List.set_cons_zero, List.set_cons_succ, Option.map_some, Option.map_none, Option.bind_some, Option.bind_none, Sl.dat, Sl.frz, Nat.sub_self, Nat.reduceSub, Nat.reduceAdd, Bool.not_true, Bool.not_false, Bool.false_eq_true, if_true, if_false, reduceCtorEq, Nat.reduceLeDiff, true_and, cut_at, cut_to, cut_from, cut_fromA, Nat.zero_le, and_true, decide_true, setS, List.foldl_cons, List.foldl_nil, setE, wipeE, List.foldl_append, decide_false, Int.natCast_one, Int.natCast_zero, Int.cast_ofNat_Int, Int.reduceEq, oEqS, oNeS, oEqI, oNeI, oLtS, oLtI, oLeI, oGtI, oGeI, oAddS, oAddI', oAddT, oAddL, oLenS, oLenT, oLenL, oSlS, oSlT, oSlL, oSub, oTuple, oIx0, oIx1, oMulS, oMulI, oFdivI, oIsB, oIsntB, oIsN, oIsntN, isNone]
      refine oEq_ok (plain_opt _) rfl (by simp [PyData.depth]) (eqv_opt _ _) ?_
      simp only [xKBin2, xKBin1, eBin, xKTB, eTB, xKTru, eTru, xKAndT, eAndT, xKOrT, eOrT, xKNotT, eNotT, xKAnd2, xKAnd, eAnd, xKOr2, xKOr, eOr, xKNot2, xKNot, eNot, xKIf, eIf, xKCh5, xKCh4, xKCh3, xKCh2, xKCh1, eChain, negI_int, xKNeg, eNeg, xKCons2, xKCons, eCons, xKTup, eTup, xKLst, eLst, prtI_int, xKPart, ePart, xKSl3, xKSl2, xKSl1, eSl, xKCall, eCall, xKCallF, eCallF, xKIsi, eIsi, xKR1, xKR0, eRng1, xKRj, xKRi, xKRy, xKRx, eRng2, xKSeq, eSeq, xKEn2, xKEn, eEnum, xKLc2, xKLc, eLc, xKRev, eRev, xKJ2, xKJ, eJoin, xKRet, eRet, xKSIf, eSIf, xKExpr, eExpr, xKSetF, eSetF, xKSetN, eSetN, xKFor, eFor, xKUnp, eUnpF, xKUnpN, eUnpN, xKPar2, xKPar, ePar, xKOwn, eOwn, xKApp2, xKApp, eApp, xKExt3, xKExt2, xKExt, eExt, xKAug3, xKAug2, xKAug, eAugF, xKAugN2, xKAugN, eAugN, sSeq, sNext, sRetN, fVar, fC, fNil, fNo, fDictK, fDictT, vN, vF, startS, asB, asI, truD, isDict, isT, seqD, ownL, ownD, frAt, okM, exL, vw, oRev, fYes, ↓reduceIte, List.map_cons, List.map_nil, List.length_cons, List.length_nil, List.replicate, List.cons_append, List.nil_append, List.append_nil, List.getElem?_cons_zero, List.getElem?_cons_succ, List.set_cons_zero, List.set_cons_succ, Option.map_some, Option.map_none, Option.bind_some, Option.bind_none, Sl.dat, Sl.frz, Nat.sub_self, Nat.reduceSub, Nat.reduceAdd, Bool.not_true, Bool.not_false, Bool.false_eq_true, if_true, if_false, reduceCtorEq, Nat.reduceLeDiff, true_and, cut_at, cut_to, cut_from, cut_fromA, Nat.zero_le, and_true, decide_true, setS, List.foldl_cons, List.foldl_nil, setE, wipeE, List.foldl_append, decide_false, Int.natCast_one, Int.natCast_zero, Int.cast_ofNat_Int, Int.reduceEq, oEqS, oNeS, oEqI, oNeI, oLtS, oLtI, oLeI, oGtI, oGeI, oAddS, oAddI', oAddT, oAddL, oLenS, oLenT, oLenL, oSlS, oSlT, oSlL, oSub, oTuple, oIx0, oIx1, oMulS, oMulI, oFdivI, oIsB, oIsntB, oIsN, oIsntN, isNone]
      refine same_b ?_
      simp only [xKBin2, xKBin1, eBin, xKTB, eTB, xKTru, eTru, xKAndT, eAndT, xKOrT, eOrT, xKNotT, eNotT, xKAnd2, xKAnd, eAnd, xKOr2, xKOr, eOr, xKNot2, xKNot, eNot, xKIf, eIf, xKCh5, xKCh4, xKCh3, xKCh2, xKCh1, eChain, negI_int, xKNeg, eNeg, xKCons2, xKCons, eCons, xKTup, eTup, xKLst, eLst, prtI_int, xKPart, ePart, xKSl3, xKSl2, xKSl1, eSl, xKCall, eCall, xKCallF, eCallF, xKIsi, eIsi, xKR1, xKR0, eRng1, xKRj, xKRi, xKRy, xKRx, eRng2, xKSeq, eSeq, xKEn2, xKEn, eEnum, xKLc2, xKLc, eLc, xKRev, eRev, xKJ2, xKJ, eJoin, xKRet, eRet, xKSIf, eSIf, xKExpr, eExpr, xKSetF, eSetF, xKSetN, eSetN, xKFor, eFor, xKUnp, eUnpF, xKUnpN, eUnpN, xKPar2, xKPar, ePar, xKOwn, eOwn, xKApp2, xKApp, eApp, xKExt3, xKExt2, xKExt, eExt, xKAug3, xKAug2, xKAug, eAugF, xKAugN2, xKAugN, eAugN, sSeq, sNext, sRetN, fVar, fC, fNil, fNo, fDictK, fDictT, vN, vF, startS, asB, asI, truD, isDict, isT, seqD, ownL, ownD, frAt, okM, exL, vw, oRev, fYes, ↓reduceIte, List.map_cons, List.map_nil, List.length_cons, List.length_nil, List.replicate, List.cons_append, List.nil_append, List.append_nil, List.getElem?_cons_zero, List.getElem?_cons_succ, List.set_cons_zero, List.set_cons_succ, Option.map_some, Option.map_none, Option.bind_some, Option.bind_none, Sl.dat, Sl.frz, Nat.sub_self, Nat.reduceSub, Nat.reduceAdd, Bool.not_true, Bool.not_false, Bool.false_eq_true, if_true, if_false, reduceCtorEq, Nat.reduceLeDiff, true_and, cut_at, cut_to, cut_from, cut_fromA, Nat.zero_le, and_true, decide_true, setS, List.foldl_cons, List.foldl_nil, setE, wipeE, List.foldl_append, decide_false, Int.natCast_one, Int.natCast_zero, Int.cast_ofNat_Int, Int.reduceEq, oEqS, oNeS, oEqI, oNeI, oLtS, oLtI, oLeI, oGtI, oGeI, oAddS, oAddI', oAddT, oAddL, oLenS, oLenT, oLenL, oSlS, oSlT, oSlL, oSub, oTuple, oIx0, oIx1, oMulS, oMulI, oFdivI, oIsB, oIsntB, oIsN, oIsntN, isNone]
      cases hx : endD R w v with
      | none =>
        simp only [optD, xKBin2, xKBin1, eBin, xKTB, eTB, xKTru, eTru, xKAndT, eAndT, xKOrT, eOrT, xKNotT, eNotT, xKAnd2, xKAnd, eAnd, xKOr2, xKOr, eOr, xKNot2, xKNot, eNot, xKIf, eIf, xKCh5, xKCh4, xKCh3, xKCh2, xKCh1, eChain, negI_int, xKNeg, eNeg, xKCons2, xKCons, eCons, xKTup, eTup, xKLst, eLst, prtI_int, xKPart, ePart, xKSl3, xKSl2, xKSl1, eSl, xKCall, eCall, xKCallF, eCallF, xKIsi, eIsi, xKR1, xKR0, eRng1, xKRj, xKRi, xKRy, xKRx, eRng2, xKSeq, eSeq, xKEn2, xKEn, eEnum, xKLc2, xKLc, eLc, xKRev, eRev, xKJ2, xKJ, eJoin, xKRet, eRet, xKSIf, eSIf, xKExpr, eExpr, xKSetF, eSetF, xKSetN, eSetN, xKFor, eFor, xKUnp, eUnpF, xKUnpN, eUnpN, xKPar2, xKPar, ePar, xKOwn, eOwn, xKApp2, xKApp, eApp, xKExt3, xKExt2, xKExt, eExt, xKAug3, xKAug2, xKAug, eAugF, xKAugN2, xKAugN, eAugN, sSeq, sNext, sRetN, fVar, fC, fNil, fNo, fDictK, fDictT, vN, vF, startS, asB, asI, truD, isDict, isT, seqD, ownL, ownD, frAt, okM, exL, vw, oRev, fYes, ↓reduceIte, List.map_cons, List.map_nil, List.length_cons, List.length_nil, List.replicate, List.cons_append, List.nil_append, List.append_nil, List.getElem?_cons_zero, List.getElem?_cons_succ, List.set_cons_zero, List.set_cons_succ, Option.map_some, Option.map_none, Option.bind_some, Option.bind_none, Sl.dat, Sl.frz, Nat.sub_self, Nat.reduceSub, Nat.reduceAdd, Bool.not_true, Bool.not_false, Bool.false_eq_true, if_true, if_false, reduceCtorEq, Nat.reduceLeDiff, true_and, cut_at, cut_to, cut_from, cut_fromA, Nat.zero_le, and_true, decide_true, setS, List.foldl_cons, List.foldl_nil, setE, wipeE, List.foldl_append, decide_false, Int.natCast_one, Int.natCast_zero, Int.cast_ofNat_Int, Int.reduceEq, oEqS, oNeS, oEqI, oNeI, oLtS, oLtI, oLeI, oGtI, oGeI, oAddS, oAddI', oAddT, oAddL, oLenS, oLenT, oLenL, oSlS, oSlT, oSlL, oSub, oTuple, oIx0, oIx1, oMulS, oMulI, oFdivI, oIsB, oIsntB, oIsN, oIsntN, isNone]
        exact hK2 _ ⟨_, _, rfl⟩
      | some y =>
        simp only [optD, xKBin2, xKBin1, eBin, xKTB, eTB, xKTru, eTru, xKAndT, eAndT, xKOrT, eOrT, xKNotT, eNotT, xKAnd2, xKAnd, eAnd, xKOr2, xKOr, eOr, xKNot2, xKNot, eNot, xKIf, eIf, xKCh5, xKCh4, xKCh3, xKCh2, xKCh1, eChain, negI_int, xKNeg, eNeg, xKCons2, xKCons, eCons, xKTup, eTup, xKLst, eLst, prtI_int, xKPart, ePart, xKSl3, xKSl2, xKSl1, eSl, xKCall, eCall, xKCallF, eCallF, xKIsi, eIsi, xKR1, xKR0, eRng1, xKRj, xKRi, xKRy, xKRx, eRng2, xKSeq, eSeq, xKEn2, xKEn, eEnum, xKLc2, xKLc, eLc, xKRev, eRev, xKJ2, xKJ, eJoin, xKRet, eRet, xKSIf, eSIf, xKExpr, eExpr, xKSetF, eSetF, xKSetN, eSetN, xKFor, eFor, xKUnp, eUnpF, xKUnpN, eUnpN, xKPar2, xKPar, ePar, xKOwn, eOwn, xKApp2, xKApp, eApp, xKExt3, xKExt2, xKExt, eExt, xKAug3, xKAug2, xKAug, eAugF, xKAugN2, xKAugN, eAugN, sSeq, sNext, sRetN, fVar, fC, fNil, fNo, fDictK, fDictT, vN, vF, startS, asB, asI, truD, isDict, isT, seqD, ownL, ownD, frAt, okM, exL, vw, oRev, fYes, ↓reduceIte, List.map_cons, List.map_nil, List.length_cons, List.length_nil, List.replicate, List.cons_append, List.nil_append, List.append_nil, List.getElem?_cons_zero, List.getElem?_cons_succ, List.set_cons_zero, List.set_cons_succ, Option.map_some, Option.map_none, Option.bind_some, Option.bind_none, Sl.dat, Sl.frz, Nat.sub_self, Nat.reduceSub, Nat.reduceAdd, Bool.not_true, Bool.not_false, Bool.false_eq_true, if_true, if_false, reduceCtorEq, Nat.reduceLeDiff, true_and, cut_at, cut_to, cut_from, cut_fromA, Nat.zero_le, and_true, decide_true, setS, List.foldl_cons, List.foldl_nil, setE, wipeE, List.foldl_append, decide_false, Int.natCast_one, Int.natCast_zero, Int.cast_ofNat_Int, Int.reduceEq, oEqS, oNeS, oEqI, oNeI, oLtS, oLtI, oLeI, oGtI, oGeI, oAddS, oAddI', oAddT, oAddL, oLenS, oLenT, oLenL, oSlS, oSlT, oSlL, oSub, oTuple, oIx0, oIx1, oMulS, oMulI, oFdivI, oIsB, oIsntB, oIsN, oIsntN, isNone]
        refine ⟨R, w, y, v, rfl, hg, hR, hw, hvp, ?_⟩
        simp only [hx, xKBin2, xKBin1, eBin, xKTB, eTB, xKTru, eTru, xKAndT, eAndT, xKOrT, eOrT, xKNotT, eNotT, xKAnd2, xKAnd, eAnd, xKOr2, xKOr, eOr, xKNot2, xKNot, eNot, xKIf, eIf, xKCh5, xKCh4, xKCh3, xKCh2, xKCh1, eChain, negI_int, xKNeg, eNeg, xKCons2, xKCons, eCons, xKTup, eTup, xKLst, eLst, prtI_int, xKPart, ePart, xKSl3, xKSl2, xKSl1, eSl, xKCall, eCall, xKCallF, eCallF, xKIsi, eIsi, xKR1, xKR0, eRng1, xKRj, xKRi, xKRy, xKRx, eRng2, xKSeq, eSeq, xKEn2, xKEn, eEnum, xKLc2, xKLc, eLc, xKRev, eRev, xKJ2, xKJ, eJoin, xKRet, eRet, xKSIf, eSIf, xKExpr, eExpr, xKSetF, eSetF, xKSetN, eSetN, xKFor, eFor, xKUnp, eUnpF, xKUnpN, eUnpN, xKPar2, xKPar, ePar, xKOwn, eOwn, xKApp2, xKApp, eApp, xKExt3, xKExt2, xKExt, eExt, xKAug3, xKAug2, xKAug, eAugF, xKAugN2, xKAugN, eAugN, sSeq, sNext, sRetN, fVar, fC, fNil, fNo, fDictK, fDictT, vN, vF, startS, asB, asI, truD, isDict, isT, seqD, ownL, ownD, frAt, okM, exL, vw, oRev, fYes, ↓reduceIte, List.map_cons, List.map_nil, List.length_cons, List.length_nil, List.replicate, List.cons_append, List.nil_append, List.append_nil, List.getElem?_cons_zero, List.getElem?_cons_succ, List.set_cons_zero, List.set_cons_succ, Option.map_some, Option.map_none, Option.bind_some, Option.bind_none, Sl.dat, Sl.frz, Nat.sub_self, Nat.reduceSub, Nat.reduceAdd, Bool.not_true, Bool.not_false, Bool.false_eq_true, if_true, if_false, reduceCtorEq, Nat.reduceLeDiff, true_and, cut_at, cut_to, cut_from, cut_fromA, Nat.zero_le, and_true, decide_true, setS, List.foldl_cons, List.foldl_nil, setE, wipeE, List.foldl_append, decide_false, Int.natCast_one, Int.natCast_zero, Int.cast_ofNat_Int, Int.reduceEq, oEqS, oNeS, oEqI, oNeI, oLtS, oLtI, oLeI, oGtI, oGeI, oAddS, oAddI', oAddT, oAddL, oLenS, oLenT, oLenL, oSlS, oSlT, oSlL, oSub, oTuple, oIx0, oIx1, oMulS, oMulI, oFdivI, oIsB, oIsntB, oIsN, oIsntN, isNone]
        exact hK2 _ ⟨_, _, rfl⟩
    · rintro env ⟨e9, e12, rfl⟩
      simp only [xKBin2, xKBin1, eBin, xKTB, eTB, xKTru, eTru, xKAndT, eAndT, xKOrT, eOrT, xKNotT, eNotT, xKAnd2, xKAnd, eAnd, xKOr2, xKOr, eOr, xKNot2, xKNot, eNot, xKIf, eIf, xKCh5, xKCh4, xKCh3, xKCh2, xKCh1, eChain, negI_int, xKNeg, eNeg, xKCons2, xKCons, eCons, xKTup, eTup, xKLst, eLst, prtI_int, xKPart, ePart, xKSl3, xKSl2, xKSl1, eSl, xKCall, eCall, xKCallF, eCallF, xKIsi, eIsi, xKR1, xKR0, eRng1, xKRj, xKRi, xKRy, xKRx, eRng2, xKSeq, eSeq, xKEn2, xKEn, eEnum, xKLc2, xKLc, eLc, xKRev, eRev, xKJ2, xKJ, eJoin, xKRet, eRet, xKSIf, eSIf, xKExpr, eExpr, xKSetF, eSetF, xKSetN, eSetN, xKFor, eFor, xKUnp, eUnpF, xKUnpN, eUnpN, xKPar2, xKPar, ePar, xKOwn, eOwn, xKApp2, xKApp, eApp, xKExt3, xKExt2, xKExt, eExt, xKAug3, xKAug2, xKAug, eAugF, xKAugN2, xKAugN, eAugN, sSeq, sNext, sRetN, fVar, fC, fNil, fNo, fDictK, fDictT, vN, vF, startS, asB, asI, truD, isDict, isT, seqD, ownL, ownD, frAt, okM, exL, vw, oRev, fYes, ↓reduceIte, List.map_cons, List.map_nil, List.length_cons, List.length_nil, List.replicate, List.cons_append, List.nil_append, List.append_nil, List.getElem?_cons_zero, List.getElem?_cons_succ, List.set_cons_zero, List.set_cons_succ, Option.map_some, Option.map_none, Option.bind_some, Option.bind_none, Sl.dat, Sl.frz, Nat.sub_self, Nat.reduceSub, Nat.reduceAdd, Bool.not_true, Bool.not_false, Bool.false_eq_true, if_true, if_false, reduceCtorEq, Nat.reduceLeDiff, true_and, cut_at, cut_to, cut_from, cut_fromA, Nat.zero_le, and_true, decide_true, setS, List.foldl_cons, List.foldl_nil, setE, wipeE, List.foldl_append, decide_false, Int.natCast_one, Int.natCast_zero, Int.cast_ofNat_Int, Int.reduceEq, oEqS, oNeS, oEqI, oNeI, oLtS, oLtI, oLeI, oGtI, oGeI, oAddS, oAddI', oAddT, oAddL, oLenS, oLenT, oLenL, oSlS, oSlT, oSlL, oSub, oTuple, oIx0, oIx1, oMulS, oMulI, oFdivI, oIsB, oIsntB, oIsN, oIsntN, isNone]
      refine oNe_ok (b := (steps R w).isEmpty) (plain_sts _) rfl (by simp [PyData.depth, PyData.depthAll]) (by cases steps R w <;> simp [PyData.eqv, PyData.eqvAll]) ?_
      cases hse : (steps R w).isEmpty with
      | true =>
        simp only [xKBin2, xKBin1, eBin, xKTB, eTB, xKTru, eTru, xKAndT, eAndT, xKOrT, eOrT, xKNotT, eNotT, xKAnd2, xKAnd, eAnd, xKOr2, xKOr, eOr, xKNot2, xKNot, eNot, xKIf, eIf, xKCh5, xKCh4, xKCh3, xKCh2, xKCh1, eChain, negI_int, xKNeg, eNeg, xKCons2, xKCons, eCons, xKTup, eTup, xKLst, eLst, prtI_int, xKPart, ePart, xKSl3, xKSl2, xKSl1, eSl, xKCall, eCall, xKCallF, eCallF, xKIsi, eIsi, xKR1, xKR0, eRng1, xKRj, xKRi, xKRy, xKRx, eRng2, xKSeq, eSeq, xKEn2, xKEn, eEnum, xKLc2, xKLc, eLc, xKRev, eRev, xKJ2, xKJ, eJoin, xKRet, eRet, xKSIf, eSIf, xKExpr, eExpr, xKSetF, eSetF, xKSetN, eSetN, xKFor, eFor, xKUnp, eUnpF, xKUnpN, eUnpN, xKPar2, xKPar, ePar, xKOwn, eOwn, xKApp2, xKApp, eApp, xKExt3, xKExt2, xKExt, eExt, xKAug3, xKAug2, xKAug, eAugF, xKAugN2, xKAugN, eAugN, sSeq, sNext, sRetN, fVar, fC, fNil, fNo, fDictK, fDictT, vN, vF, startS, asB, asI, truD, isDict, isT, seqD, ownL, ownD, frAt, okM, exL, vw, oRev, fYes, ↓reduceIte, List.map_cons, List.map_nil, List.length_cons, List.length_nil, List.replicate, List.cons_append, List.nil_append, List.append_nil, List.getElem?_cons_zero, List.getElem?_cons_succ, List.set_cons_zero, List.set_cons_succ, Option.map_some, Option.map_none, Option.bind_some, Option.bind_none, Sl.dat, Sl.frz, Nat.sub_self, Nat.reduceSub, Nat.reduceAdd, Bool.not_true, Bool.not_false, Bool.false_eq_true, if_true, if_false, reduceCtorEq, Nat.reduceLeDiff, true_and, cut_at, cut_to, cut_from, cut_fromA, Nat.zero_le, and_true, decide_true, setS, List.foldl_cons, List.foldl_nil, setE, wipeE, List.foldl_append, decide_false, Int.natCast_one, Int.natCast_zero, Int.cast_ofNat_Int, Int.reduceEq, oEqS, oNeS, oEqI, oNeI, oLtS, oLtI, oLeI, oGtI, oGeI, oAddS, oAddI', oAddT, oAddL, oLenS, oLenT, oLenL, oSlS, oSlT, oSlL, oSub, oTuple, oIx0, oIx1, oMulS, oMulI, oFdivI, oIsB, oIsntB, oIsN, oIsntN, isNone]
        exact hK _ ⟨w, _, _, _, _, _, _, _, _, _, _, _, rfl, J⟩
      | false =>
        simp only [xKBin2, xKBin1, eBin, xKTB, eTB, xKTru, eTru, xKAndT, eAndT, xKOrT, eOrT, xKNotT, eNotT, xKAnd2, xKAnd, eAnd, xKOr2, xKOr, eOr, xKNot2, xKNot, eNot, xKIf, eIf, xKCh5, xKCh4, xKCh3, xKCh2, xKCh1, eChain, negI_int, xKNeg, eNeg, xKCons2, xKCons, eCons, xKTup, eTup, xKLst, eLst, prtI_int, xKPart, ePart, xKSl3, xKSl2, xKSl1, eSl, xKCall, eCall, xKCallF, eCallF, xKIsi, eIsi, xKR1, xKR0, eRng1, xKRj, xKRi, xKRy, xKRx, eRng2, xKSeq, eSeq, xKEn2, xKEn, eEnum, xKLc2, xKLc, eLc, xKRev, eRev, xKJ2, xKJ, eJoin, xKRet, eRet, xKSIf, eSIf, xKExpr, eExpr, xKSetF, eSetF, xKSetN, eSetN, xKFor, eFor, xKUnp, eUnpF, xKUnpN, eUnpN, xKPar2, xKPar, ePar, xKOwn, eOwn, xKApp2, xKApp, eApp, xKExt3, xKExt2, xKExt, eExt, xKAug3, xKAug2, xKAug, eAugF, xKAugN2, xKAugN, eAugN, sSeq, sNext, sRetN, fVar, fC, fNil, fNo, fDictK, fDictT, vN, vF, startS, asB, asI, truD, isDict, isT, seqD, ownL, ownD, frAt, okM, exL, vw, oRev, fYes, ↓reduceIte, List.map_cons, List.map_nil, List.length_cons, List.length_nil, List.replicate, List.cons_append, List.nil_append, List.append_nil, List.getElem?_cons_zero, List.getElem?_cons_succ, List.set_cons_zero, List.set_cons_succ, Option.map_some, Option.map_none, Option.bind_some, Option.bind_none, Sl.dat, Sl.frz, Nat.sub_self, Nat.reduceSub, Nat.reduceAdd, Bool.not_true, Bool.not_false, Bool.false_eq_true, if_true, if_false, reduceCtorEq, Nat.reduceLeDiff, true_and, cut_at, cut_to, cut_from, cut_fromA, Nat.zero_le, and_true, decide_true, setS, List.foldl_cons, List.foldl_nil, setE, wipeE, List.foldl_append, decide_false, Int.natCast_one, Int.natCast_zero, Int.cast_ofNat_Int, Int.reduceEq, oEqS, oNeS, oEqI, oNeI, oLtS, oLtI, oLeI, oGtI, oGeI, oAddS, oAddI', oAddT, oAddL, oLenS, oLenT, oLenL, oSlS, oSlT, oSlL, oSub, oTuple, oIx0, oIx1, oMulS, oMulI, oFdivI, oIsB, oIsntB, oIsN, oIsntN, isNone, List.length_map]
        have hne : 1 ≤ (steps R w).length := by
          cases hs : steps R w with
          | nil => rw [hs] at hse; cases hse
          | cons _ _ => simp
        refine ⟨_, rfl, ⟨by omega, by omega⟩, fun k hk0 hk1 => ?_⟩
        obtain ⟨j, rfl⟩ : ∃ j : Nat, k = (j : Int) := ⟨k.toNat, by omega⟩
        have hj : j < (steps R w).length := by omega
        have hst : ((steps R w).map stD)[j]? = some (stD (steps R w)[j]) := by rw [List.getElem?_map, List.getElem?_eq_getElem hj]; rfl
        have ho : okStep R w (steps R w)[j] = true := mem_steps.mp (List.getElem_mem hj)
        simp only [xKBin2, xKBin1, eBin, xKTB, eTB, xKTru, eTru, xKAndT, eAndT, xKOrT, eOrT, xKNotT, eNotT, xKAnd2, xKAnd, eAnd, xKOr2, xKOr, eOr, xKNot2, xKNot, eNot, xKIf, eIf, xKCh5, xKCh4, xKCh3, xKCh2, xKCh1, eChain, negI_int, xKNeg, eNeg, xKCons2, xKCons, eCons, xKTup, eTup, xKLst, eLst, prtI_int, xKPart, ePart, xKSl3, xKSl2, xKSl1, eSl, xKCall, eCall, xKCallF, eCallF, xKIsi, eIsi, xKR1, xKR0, eRng1, xKRj, xKRi, xKRy, xKRx, eRng2, xKSeq, eSeq, xKEn2, xKEn, eEnum, xKLc2, xKLc, eLc, xKRev, eRev, xKJ2, xKJ, eJoin, xKRet, eRet, xKSIf, eSIf, xKExpr, eExpr, xKSetF, eSetF, xKSetN, eSetN, xKFor, eFor, xKUnp, eUnpF, xKUnpN, eUnpN, xKPar2, xKPar, ePar, xKOwn, eOwn, xKApp2, xKApp, eApp, xKExt3, xKExt2, xKExt, eExt, xKAug3, xKAug2, xKAug, eAugF, xKAugN2, xKAugN, eAugN, sSeq, sNext, sRetN, fVar, fC, fNil, fNo, fDictK, fDictT, vN, vF, startS, asB, asI, truD, isDict, isT, seqD, ownL, ownD, frAt, okM, exL, vw, oRev, fYes, ↓reduceIte, List.map_cons, List.map_nil, List.length_cons, List.length_nil, List.replicate, List.cons_append, List.nil_append, List.append_nil, List.getElem?_cons_zero, List.getElem?_cons_succ, List.set_cons_zero, List.set_cons_succ, Option.map_some, Option.map_none, Option.bind_some, Option.bind_none, Sl.dat, Sl.frz, Nat.sub_self, Nat.reduceSub, Nat.reduceAdd, Bool.not_true, Bool.not_false, Bool.false_eq_true, if_true, if_false, reduceCtorEq, Nat.reduceLeDiff, true_and, cut_at, cut_to, cut_from, cut_fromA, Nat.zero_le, and_true, decide_true, setS, List.foldl_cons, List.foldl_nil, setE, wipeE, List.foldl_append, decide_false, Int.natCast_one, Int.natCast_zero, Int.cast_ofNat_Int, Int.reduceEq, oEqS, oNeS, oEqI, oNeI, oLtS, oLtI, oLeI, oGtI, oGeI, oAddS, oAddI', oAddT, oAddL, oLenS, oLenT, oLenL, oSlS, oSlT, oSlL, oSub, oTuple, oIx0, oIx1, oMulS, oMulI, oFdivI, oIsB, oIsntB, oIsN, oIsntN, isNone, oIxL hst]
        refine sp_after_of hg hw ho ?_
        simp only [xKBin2, xKBin1, eBin, xKTB, eTB, xKTru, eTru, xKAndT, eAndT, xKOrT, eOrT, xKNotT, eNotT, xKAnd2, xKAnd, eAnd, xKOr2, xKOr, eOr, xKNot2, xKNot, eNot, xKIf, eIf, xKCh5, xKCh4, xKCh3, xKCh2, xKCh1, eChain, negI_int, xKNeg, eNeg, xKCons2, xKCons, eCons, xKTup, eTup, xKLst, eLst, prtI_int, xKPart, ePart, xKSl3, xKSl2, xKSl1, eSl, xKCall, eCall, xKCallF, eCallF, xKIsi, eIsi, xKR1, xKR0, eRng1, xKRj, xKRi, xKRy, xKRx, eRng2, xKSeq, eSeq, xKEn2, xKEn, eEnum, xKLc2, xKLc, eLc, xKRev, eRev, xKJ2, xKJ, eJoin, xKRet, eRet, xKSIf, eSIf, xKExpr, eExpr, xKSetF, eSetF, xKSetN, eSetN, xKFor, eFor, xKUnp, eUnpF, xKUnpN, eUnpN, xKPar2, xKPar, ePar, xKOwn, eOwn, xKApp2, xKApp, eApp, xKExt3, xKExt2, xKExt, eExt, xKAug3, xKAug2, xKAug, eAugF, xKAugN2, xKAugN, eAugN, sSeq, sNext, sRetN, fVar, fC, fNil, fNo, fDictK, fDictT, vN, vF, startS, asB, asI, truD, isDict, isT, seqD, ownL, ownD, frAt, okM, exL, vw, oRev, fYes, ↓reduceIte, List.map_cons, List.map_nil, List.length_cons, List.length_nil, List.replicate, List.cons_append, List.nil_append, List.append_nil, List.getElem?_cons_zero, List.getElem?_cons_succ, List.set_cons_zero, List.set_cons_succ, Option.map_some, Option.map_none, Option.bind_some, Option.bind_none, Sl.dat, Sl.frz, Nat.sub_self, Nat.reduceSub, Nat.reduceAdd, Bool.not_true, Bool.not_false, Bool.false_eq_true, if_true, if_false, reduceCtorEq, Nat.reduceLeDiff, true_and, cut_at, cut_to, cut_from, cut_fromA, Nat.zero_le, and_true, decide_true, setS, List.foldl_cons, List.foldl_nil, setE, wipeE, List.foldl_append, decide_false, Int.natCast_one, Int.natCast_zero, Int.cast_ofNat_Int, Int.reduceEq, oEqS, oNeS, oEqI, oNeI, oLtS, oLtI, oLeI, oGtI, oGeI, oAddS, oAddI', oAddT, oAddL, oLenS, oLenT, oLenL, oSlS, oSlT, oSlL, oSub, oTuple, oIx0, oIx1, oMulS, oMulI, oFdivI, oIsB, oIsntB, oIsN, oIsntN, isNone]
        refine sp_after_of hg hw ho ?_
        simp only [xKBin2, xKBin1, eBin, xKTB, eTB, xKTru, eTru, xKAndT, eAndT, xKOrT, eOrT, xKNotT, eNotT, xKAnd2, xKAnd, eAnd, xKOr2, xKOr, eOr, xKNot2, xKNot, eNot, xKIf, eIf, xKCh5, xKCh4, xKCh3, xKCh2, xKCh1, eChain, negI_int, xKNeg, eNeg, xKCons2, xKCons, eCons, xKTup, eTup, xKLst, eLst, prtI_int, xKPart, ePart, xKSl3, xKSl2, xKSl1, eSl, xKCall, eCall, xKCallF, eCallF, xKIsi, eIsi, xKR1, xKR0, eRng1, xKRj, xKRi, xKRy, xKRx, eRng2, xKSeq, eSeq, xKEn2, xKEn, eEnum, xKLc2, xKLc, eLc, xKRev, eRev, xKJ2, xKJ, eJoin, xKRet, eRet, xKSIf, eSIf, xKExpr, eExpr, xKSetF, eSetF, xKSetN, eSetN, xKFor, eFor, xKUnp, eUnpF, xKUnpN, eUnpN, xKPar2, xKPar, ePar, xKOwn, eOwn, xKApp2, xKApp, eApp, xKExt3, xKExt2, xKExt, eExt, xKAug3, xKAug2, xKAug, eAugF, xKAugN2, xKAugN, eAugN, sSeq, sNext, sRetN, fVar, fC, fNil, fNo, fDictK, fDictT, vN, vF, startS, asB, asI, truD, isDict, isT, seqD, ownL, ownD, frAt, okM, exL, vw, oRev, fYes, ↓reduceIte, List.map_cons, List.map_nil, List.length_cons, List.length_nil, List.replicate, List.cons_append, List.nil_append, List.append_nil, List.getElem?_cons_zero, List.getElem?_cons_succ, List.set_cons_zero, List.set_cons_succ, Option.map_some, Option.map_none, Option.bind_some, Option.bind_none, Sl.dat, Sl.frz, Nat.sub_self, Nat.reduceSub, Nat.reduceAdd, Bool.not_true, Bool.not_false, Bool.false_eq_true, if_true, if_false, reduceCtorEq, Nat.reduceLeDiff, true_and, cut_at, cut_to, cut_from, cut_fromA, Nat.zero_le, and_true, decide_true, setS, List.foldl_cons, List.foldl_nil, setE, wipeE, List.foldl_append, decide_false, Int.natCast_one, Int.natCast_zero, Int.cast_ofNat_Int, Int.reduceEq, oEqS, oNeS, oEqI, oNeI, oLtS, oLtI, oLeI, oGtI, oGeI, oAddS, oAddI', oAddT, oAddL, oLenS, oLenT, oLenL, oSlS, oSlT, oSlL, oSub, oTuple, oIx0, oIx1, oMulS, oMulI, oFdivI, oIsB, oIsntB, oIsN, oIsntN, isNone]
        refine same_w ?_
        simp only [xKBin2, xKBin1, eBin, xKTB, eTB, xKTru, eTru, xKAndT, eAndT, xKOrT, eOrT, xKNotT, eNotT, xKAnd2, xKAnd, eAnd, xKOr2, xKOr, eOr, xKNot2, xKNot, eNot, xKIf, eIf, xKCh5, xKCh4, xKCh3, xKCh2, xKCh1, eChain, negI_int, xKNeg, eNeg, xKCons2, xKCons, eCons, xKTup, eTup, xKLst, eLst, prtI_int, xKPart, ePart, xKSl3, xKSl2, xKSl1, eSl, xKCall, eCall, xKCallF, eCallF, xKIsi, eIsi, xKR1, xKR0, eRng1, xKRj, xKRi, xKRy, xKRx, eRng2, xKSeq, eSeq, xKEn2, xKEn, eEnum, xKLc2, xKLc, eLc, xKRev, eRev, xKJ2, xKJ, eJoin, xKRet, eRet, xKSIf, eSIf, xKExpr, eExpr, xKSetF, eSetF, xKSetN, eSetN, xKFor, eFor, xKUnp, eUnpF, xKUnpN, eUnpN, xKPar2, xKPar, ePar, xKOwn, eOwn, xKApp2, xKApp, eApp, xKExt3, xKExt2, xKExt, eExt, xKAug3, xKAug2, xKAug, eAugF, xKAugN2, xKAugN, eAugN, sSeq, sNext, sRetN, fVar, fC, fNil, fNo, fDictK, fDictT, vN, vF, startS, asB, asI, truD, isDict, isT, seqD, ownL, ownD, frAt, okM, exL, vw, oRev, fYes, ↓reduceIte, List.map_cons, List.map_nil, List.length_cons, List.length_nil, List.replicate, List.cons_append, List.nil_append, List.append_nil, List.getElem?_cons_zero, List.getElem?_cons_succ, List.set_cons_zero, List.set_cons_succ, Option.map_some, Option.map_none, Option.bind_some, Option.bind_none, Sl.dat, Sl.frz, Nat.sub_self, Nat.reduceSub, Nat.reduceAdd, Bool.not_true, Bool.not_false, Bool.false_eq_true, if_true, if_false, reduceCtorEq, Nat.reduceLeDiff, true_and, cut_at, cut_to, cut_from, cut_fromA, Nat.zero_le, and_true, decide_true, setS, List.foldl_cons, List.foldl_nil, setE, wipeE, List.foldl_append, decide_false, Int.natCast_one, Int.natCast_zero, Int.cast_ofNat_Int, Int.reduceEq, oEqS, oNeS, oEqI, oNeI, oLtS, oLtI, oLeI, oGtI, oGeI, oAddS, oAddI', oAddT, oAddL, oLenS, oLenT, oLenL, oSlS, oSlT, oSlL, oSub, oTuple, oIx0, oIx1, oMulS, oMulI, oFdivI, oIsB, oIsntB, oIsN, oIsntN, isNone]
        refine sp_after_of hg hw ho ?_
        exact hK _ ⟨_, _, _, _, _, _, _, _, _, _, _, _, rfl, J.next ho⟩
  · rintro env ⟨w, e6, e7, e8, e9, e10, e11, e12, e13, e14, e15, e16, rfl, J⟩
    simp only [xKBin2, xKBin1, eBin, xKTB, eTB, xKTru, eTru, xKAndT, eAndT, xKOrT, eOrT, xKNotT, eNotT, xKAnd2, xKAnd, eAnd, xKOr2, xKOr, eOr, xKNot2, xKNot, eNot, xKIf, eIf, xKCh5, xKCh4, xKCh3, xKCh2, xKCh1, eChain, negI_int, xKNeg, eNeg, xKCons2, xKCons, eCons, xKTup, eTup, xKLst, eLst, prtI_int, xKPart, ePart, xKSl3, xKSl2, xKSl1, eSl, xKCall, eCall, xKCallF, eCallF, xKIsi, eIsi, xKR1, xKR0, eRng1, xKRj, xKRi, xKRy, xKRx, eRng2, xKSeq, eSeq, xKEn2, xKEn, eEnum, xKLc2, xKLc, eLc, xKRev, eRev, xKJ2, xKJ, eJoin, xKRet, eRet, xKSIf, eSIf, xKExpr, eExpr, xKSetF, eSetF, xKSetN, eSetN, xKFor, eFor, xKUnp, eUnpF, xKUnpN, eUnpN, xKPar2, xKPar, ePar, xKOwn, eOwn, xKApp2, xKApp, eApp, xKExt3, xKExt2, xKExt, eExt, xKAug3, xKAug2, xKAug, eAugF, xKAugN2, xKAugN, eAugN, sSeq, sNext, sRetN, fVar, fC, fNil, fNo, fDictK, fDictT, vN, vF, startS, asB, asI, truD, isDict, isT, seqD, ownL, ownD, frAt, okM, exL, vw, oRev, fYes, ↓reduceIte, List.map_cons, List.map_nil, List.length_cons, List.length_nil, List.replicate, List.cons_append, List.nil_append, List.append_nil, List.getElem?_cons_zero, List.getElem?_cons_succ, List.set_cons_zero, List.set_cons_succ, Option.map_some, Option.map_none, Option.bind_some, Option.bind_none, Sl.dat, Sl.frz, Nat.sub_self, Nat.reduceSub, Nat.reduceAdd, Bool.not_true, Bool.not_false, Bool.false_eq_true, if_true, if_false, reduceCtorEq, Nat.reduceLeDiff, true_and, cut_at, cut_to, cut_from, cut_fromA, Nat.zero_le, and_true, decide_true, setS, List.foldl_cons, List.foldl_nil, setE, wipeE, List.foldl_append, decide_false, Int.natCast_one, Int.natCast_zero, Int.cast_ofNat_Int, Int.reduceEq, oEqS, oNeS, oEqI, oNeI, oLtS, oLtI, oLeI, oGtI, oGeI, oAddS, oAddI', oAddT, oAddL, oLenS, oLenT, oLenL, oSlS, oSlT, oSlL, oSub, oTuple, oIx0, oIx1, oMulS, oMulI, oFdivI, oIsB, oIsntB, oIsN, oIsntN, isNone]
    exact hD
end K68
set_option Elab.async false
set_option linter.all false
set_option maxRecDepth 100000
set_option maxHeartbeats 4000000
set_option autoImplicit false
namespace K68
open PySem L2 T2
def mkMany (k : Nat) : Rule := ((List.replicate ((1 : Int) + (k : Int) / 6).toNat [97]).flatten ++ (List.replicate ((k : Int) - (k : Int) / 6 * 6).toNat [98]).flatten, [])
def manyR : List Rule := (List.range 25).map mkMany
def manyS : List Rule := [([97], []), ([97, 97], []), ([97, 97, 97], []), ([97, 97, 97, 97], []), ([97, 97, 97, 97, 97], []), ([97, 97, 97, 97, 98], []), ([97, 97, 97, 97, 98, 98], []), ([97, 97, 97, 97, 98, 98, 98], []), ([97, 97, 97, 97, 98, 98, 98, 98], []), ([97, 97, 97, 97, 98, 98, 98, 98, 98], []), ([97, 97, 97, 98], []), ([97, 97, 97, 98, 98], []), ([97, 97, 97, 98, 98, 98], []), ([97, 97, 97, 98, 98, 98, 98], []), ([97, 97, 97, 98, 98, 98, 98, 98], []), ([97, 97, 98], []), ([97, 97, 98, 98], []), ([97, 97, 98, 98, 98], []), ([97, 97, 98, 98, 98, 98], []), ([97, 97, 98, 98, 98, 98, 98], []), ([97, 98], []), ([97, 98, 98], []), ([97, 98, 98, 98], []), ([97, 98, 98, 98, 98], []), ([97, 98, 98, 98, 98, 98], [])]
theorem many_perm : manyS.Perm manyR := by decide +kernel
theorem many_up : Up manyS := by
  show manyS.Pairwise fun a b => rlt a b = true
  decide +kernel
theorem many_srt : srt manyR = manyS := srt_uniq many_perm many_up
theorem many_yes : areRules (rsD (manyS.take 24)) = true := by decide +kernel
theorem many_no : areRules (rsD manyS) = false := by decide +kernel
theorem one_yes : areRules (.tuple [.tuple [sD (List.replicate ((12 : Int)).toNat [97]).flatten, sD (List.replicate ((11 : Int)).toNat [97]).flatten]]) = true := by decide +kernel
theorem letters_at {n : Nat} (h : n < 3) : ∃ L : Wo, ([sD [97], sD [97, 98], sD [97, 98, 99]] : List D)[n]? = some (sD L) ∧ 1 ≤ L.length ∧ L.length ≤ 3 ∧ (∀ c ∈ L, az c = true) ∧ Ab L := by
  match n, h with
  | 0, _ => exact ⟨[97], rfl, by decide, by decide, by decide +kernel, by decide⟩
  | 1, _ => exact ⟨[97, 98], rfl, by decide, by decide, by decide +kernel, by decide⟩
  | 2, _ => exact ⟨[97, 98, 99], rfl, by decide, by decide, by decide +kernel, by decide⟩
theorem over_ab {L w : Wo} (hL : Ab L) (h : Over L w) : Ab w := fun c hc => hL c (h c hc)
theorem long_at {n : Nat} (h : n < 2) : ∃ m : Nat, ([.int 7, .int 30] : List D)[n]? = some (.int (m : Int)) ∧ m ≤ 30 := by
  match n, h with
  | 0, _ => exact ⟨7, rfl, by decide⟩
  | 1, _ => exact ⟨30, rfl, by decide⟩
theorem p_law (a : Option Sl) {D' : DE} (hD : D'.rt (.bool true)) :
    F_law sp_after sp_bad sp_bent sp_draw (sp_end endD) spPlain sp_rules (sp_same 8) (sp_steps .list) sp_word sp_after sp_are sp_is_end sp_is_way spEnd spWay (sp_steps .tuple) D'
      [a, some (.fr boxD), none, none, none, none, none, none, none, none, none, none, none, none, none, none, none] := by
  unfold F_law
  simp only [F_law_0, xKBin2, xKBin1, eBin, xKTB, eTB, xKTru, eTru, xKAndT, eAndT, xKOrT, eOrT, xKNotT, eNotT, xKAnd2, xKAnd, eAnd, xKOr2, xKOr, eOr, xKNot2, xKNot, eNot, xKIf, eIf, xKCh5, xKCh4, xKCh3, xKCh2, xKCh1, eChain, negI_int, xKNeg, eNeg, xKCons2, xKCons, eCons, xKTup, eTup, xKLst, eLst, prtI_int, xKPart, ePart, xKSl3, xKSl2, xKSl1, eSl, xKCall, eCall, xKCallF, eCallF, xKIsi, eIsi, xKR1, xKR0, eRng1, xKRj, xKRi, xKRy, xKRx, eRng2, xKSeq, eSeq, xKEn2, xKEn, eEnum, xKLc2, xKLc, eLc, xKRev, eRev, xKJ2, xKJ, eJoin, xKRet, eRet, xKSIf, eSIf, xKExpr, eExpr, xKSetF, eSetF, xKSetN, eSetN, xKFor, eFor, xKUnp, eUnpF, xKUnpN, eUnpN, xKPar2, xKPar, ePar, xKOwn, eOwn, xKApp2, xKApp, eApp, xKExt3, xKExt2, xKExt, eExt, xKAug3, xKAug2, xKAug, eAugF, xKAugN2, xKAugN, eAugN, sSeq, sNext, sRetN, fVar, fC, fNil, fNo, fDictK, fDictT, vN, vF, startS, asB, asI, truD, isDict, isT, seqD, ownL, ownD, frAt, okM, exL, vw, oRev, fYes, ↓reduceIte, List.map_cons, List.map_nil, List.length_cons, List.length_nil, List.replicate, List.cons_append, List.nil_append, List.append_nil, List.getElem?_cons_zero, List.getElem?_cons_succ, List.set_cons_zero, List.set_cons_succ, Option.map_some, Option.map_none, Option.bind_some, Option.bind_none, Sl.dat, Sl.frz, Nat.sub_self, Nat.reduceSub, Nat.reduceAdd, Bool.not_true, Bool.not_false, Bool.false_eq_true, if_true, if_false, reduceCtorEq, Nat.reduceLeDiff, true_and, cut_at, cut_to, cut_from, cut_fromA, Nat.zero_le, and_true, decide_true, setS, List.foldl_cons, List.foldl_nil, setE, wipeE, List.foldl_append, decide_false, Int.natCast_one, Int.natCast_zero, Int.cast_ofNat_Int, Int.reduceEq, oEqS, oNeS, oEqI, oNeI, oLtS, oLtI, oLeI, oGtI, oGeI, oAddS, oAddI', oAddT, oAddL, oLenS, oLenT, oLenL, oSlS, oSlT, oSlL, oSub, oTuple, oIx0, oIx1, oMulS, oMulI, oFdivI, oIsB, oIsntB, oIsN, oIsntN, isNone]
  refine ⟨_, rfl, ⟨by decide, by decide⟩, fun n hn0 hn1 => ?_⟩
  obtain ⟨n, rfl⟩ : ∃ m : Nat, n = (m : Int) := ⟨n.toNat, by omega⟩
  obtain ⟨L, e1, hL1, hL2, hL3, hL4⟩ := letters_at (show n < 3 by omega)
  simp only [xKBin2, xKBin1, eBin, xKTB, eTB, xKTru, eTru, xKAndT, eAndT, xKOrT, eOrT, xKNotT, eNotT, xKAnd2, xKAnd, eAnd, xKOr2, xKOr, eOr, xKNot2, xKNot, eNot, xKIf, eIf, xKCh5, xKCh4, xKCh3, xKCh2, xKCh1, eChain, negI_int, xKNeg, eNeg, xKCons2, xKCons, eCons, xKTup, eTup, xKLst, eLst, prtI_int, xKPart, ePart, xKSl3, xKSl2, xKSl1, eSl, xKCall, eCall, xKCallF, eCallF, xKIsi, eIsi, xKR1, xKR0, eRng1, xKRj, xKRi, xKRy, xKRx, eRng2, xKSeq, eSeq, xKEn2, xKEn, eEnum, xKLc2, xKLc, eLc, xKRev, eRev, xKJ2, xKJ, eJoin, xKRet, eRet, xKSIf, eSIf, xKExpr, eExpr, xKSetF, eSetF, xKSetN, eSetN, xKFor, eFor, xKUnp, eUnpF, xKUnpN, eUnpN, xKPar2, xKPar, ePar, xKOwn, eOwn, xKApp2, xKApp, eApp, xKExt3, xKExt2, xKExt, eExt, xKAug3, xKAug2, xKAug, eAugF, xKAugN2, xKAugN, eAugN, sSeq, sNext, sRetN, fVar, fC, fNil, fNo, fDictK, fDictT, vN, vF, startS, asB, asI, truD, isDict, isT, seqD, ownL, ownD, frAt, okM, exL, vw, oRev, fYes, ↓reduceIte, List.map_cons, List.map_nil, List.length_cons, List.length_nil, List.replicate, List.cons_append, List.nil_append, List.append_nil, List.getElem?_cons_zero, List.getElem?_cons_succ, List.set_cons_zero, List.set_cons_succ, Option.map_some, Option.map_none, Option.bind_some, Option.bind_none, Sl.dat, Sl.frz, Nat.sub_self, Nat.reduceSub, Nat.reduceAdd, Bool.not_true, Bool.not_false, Bool.false_eq_true, if_true, if_false, reduceCtorEq, Nat.reduceLeDiff, true_and, cut_at, cut_to, cut_from, cut_fromA, Nat.zero_le, and_true, decide_true, setS, List.foldl_cons, List.foldl_nil, setE, wipeE, List.foldl_append, decide_false, Int.natCast_one, Int.natCast_zero, Int.cast_ofNat_Int, Int.reduceEq, oEqS, oNeS, oEqI, oNeI, oLtS, oLtI, oLeI, oGtI, oGeI, oAddS, oAddI', oAddT, oAddL, oLenS, oLenT, oLenL, oSlS, oSlT, oSlL, oSub, oTuple, oIx0, oIx1, oMulS, oMulI, oFdivI, oIsB, oIsntB, oIsN, oIsntN, isNone, oIxL e1, F_law_1]
  refine ⟨6, 3, L, rfl, by decide, by decide, by decide, hL1, by omega, hL3, fun R hup hR6 hdr => ?_⟩
  have hfit : Fit R := ⟨fun r hr => (hdr r hr).ru, fun r hr => ⟨over_ab hL4 (hdr r hr).o1, over_ab hL4 (hdr r hr).o2⟩, by omega⟩
  have hyes : areRules (rsD R) = true := are_ok hfit.len hfit.ru hup
  simp only [xKBin2, xKBin1, eBin, xKTB, eTB, xKTru, eTru, xKAndT, eAndT, xKOrT, eOrT, xKNotT, eNotT, xKAnd2, xKAnd, eAnd, xKOr2, xKOr, eOr, xKNot2, xKNot, eNot, xKIf, eIf, xKCh5, xKCh4, xKCh3, xKCh2, xKCh1, eChain, negI_int, xKNeg, eNeg, xKCons2, xKCons, eCons, xKTup, eTup, xKLst, eLst, prtI_int, xKPart, ePart, xKSl3, xKSl2, xKSl1, eSl, xKCall, eCall, xKCallF, eCallF, xKIsi, eIsi, xKR1, xKR0, eRng1, xKRj, xKRi, xKRy, xKRx, eRng2, xKSeq, eSeq, xKEn2, xKEn, eEnum, xKLc2, xKLc, eLc, xKRev, eRev, xKJ2, xKJ, eJoin, xKRet, eRet, xKSIf, eSIf, xKExpr, eExpr, xKSetF, eSetF, xKSetN, eSetN, xKFor, eFor, xKUnp, eUnpF, xKUnpN, eUnpN, xKPar2, xKPar, ePar, xKOwn, eOwn, xKApp2, xKApp, eApp, xKExt3, xKExt2, xKExt, eExt, xKAug3, xKAug2, xKAug, eAugF, xKAugN2, xKAugN, eAugN, sSeq, sNext, sRetN, fVar, fC, fNil, fNo, fDictK, fDictT, vN, vF, startS, asB, asI, truD, isDict, isT, seqD, ownL, ownD, frAt, okM, exL, vw, oRev, fYes, ↓reduceIte, List.map_cons, List.map_nil, List.length_cons, List.length_nil, List.replicate, List.cons_append, List.nil_append, List.append_nil, List.getElem?_cons_zero, List.getElem?_cons_succ, List.set_cons_zero, List.set_cons_succ, Option.map_some, Option.map_none, Option.bind_some, Option.bind_none, Sl.dat, Sl.frz, Nat.sub_self, Nat.reduceSub, Nat.reduceAdd, Bool.not_true, Bool.not_false, Bool.false_eq_true, if_true, if_false, reduceCtorEq, Nat.reduceLeDiff, true_and, cut_at, cut_to, cut_from, cut_fromA, Nat.zero_le, and_true, decide_true, setS, List.foldl_cons, List.foldl_nil, setE, wipeE, List.foldl_append, decide_false, Int.natCast_one, Int.natCast_zero, Int.cast_ofNat_Int, Int.reduceEq, oEqS, oNeS, oEqI, oNeI, oLtS, oLtI, oLeI, oGtI, oGeI, oAddS, oAddI', oAddT, oAddL, oLenS, oLenT, oLenL, oSlS, oSlT, oSlL, oSub, oTuple, oIx0, oIx1, oMulS, oMulI, oFdivI, oIsB, oIsntB, oIsN, oIsntN, isNone, F_law_2]
  refine oNe_ok (b := true) rfl rfl (by decide) (by decide +kernel) ?_
  simp only [xKBin2, xKBin1, eBin, xKTB, eTB, xKTru, eTru, xKAndT, eAndT, xKOrT, eOrT, xKNotT, eNotT, xKAnd2, xKAnd, eAnd, xKOr2, xKOr, eOr, xKNot2, xKNot, eNot, xKIf, eIf, xKCh5, xKCh4, xKCh3, xKCh2, xKCh1, eChain, negI_int, xKNeg, eNeg, xKCons2, xKCons, eCons, xKTup, eTup, xKLst, eLst, prtI_int, xKPart, ePart, xKSl3, xKSl2, xKSl1, eSl, xKCall, eCall, xKCallF, eCallF, xKIsi, eIsi, xKR1, xKR0, eRng1, xKRj, xKRi, xKRy, xKRx, eRng2, xKSeq, eSeq, xKEn2, xKEn, eEnum, xKLc2, xKLc, eLc, xKRev, eRev, xKJ2, xKJ, eJoin, xKRet, eRet, xKSIf, eSIf, xKExpr, eExpr, xKSetF, eSetF, xKSetN, eSetN, xKFor, eFor, xKUnp, eUnpF, xKUnpN, eUnpN, xKPar2, xKPar, ePar, xKOwn, eOwn, xKApp2, xKApp, eApp, xKExt3, xKExt2, xKExt, eExt, xKAug3, xKAug2, xKAug, eAugF, xKAugN2, xKAugN, eAugN, sSeq, sNext, sRetN, fVar, fC, fNil, fNo, fDictK, fDictT, vN, vF, startS, asB, asI, truD, isDict, isT, seqD, ownL, ownD, frAt, okM, exL, vw, oRev, fYes, ↓reduceIte, List.map_cons, List.map_nil, List.length_cons, List.length_nil, List.replicate, List.cons_append, List.nil_append, List.append_nil, List.getElem?_cons_zero, List.getElem?_cons_succ, List.set_cons_zero, List.set_cons_succ, Option.map_some, Option.map_none, Option.bind_some, Option.bind_none, Sl.dat, Sl.frz, Nat.sub_self, Nat.reduceSub, Nat.reduceAdd, Bool.not_true, Bool.not_false, Bool.false_eq_true, if_true, if_false, reduceCtorEq, Nat.reduceLeDiff, true_and, cut_at, cut_to, cut_from, cut_fromA, Nat.zero_le, and_true, decide_true, setS, List.foldl_cons, List.foldl_nil, setE, wipeE, List.foldl_append, decide_false, Int.natCast_one, Int.natCast_zero, Int.cast_ofNat_Int, Int.reduceEq, oEqS, oNeS, oEqI, oNeI, oLtS, oLtI, oLeI, oGtI, oGeI, oAddS, oAddI', oAddT, oAddL, oLenS, oLenT, oLenL, oSlS, oSlT, oSlL, oSub, oTuple, oIx0, oIx1, oMulS, oMulI, oFdivI, oIsB, oIsntB, oIsN, oIsntN, isNone]
  refine ⟨rsD R, rfl, plain_rs R, ?_⟩
  rw [hyes]
  simp only [xKBin2, xKBin1, eBin, xKTB, eTB, xKTru, eTru, xKAndT, eAndT, xKOrT, eOrT, xKNotT, eNotT, xKAnd2, xKAnd, eAnd, xKOr2, xKOr, eOr, xKNot2, xKNot, eNot, xKIf, eIf, xKCh5, xKCh4, xKCh3, xKCh2, xKCh1, eChain, negI_int, xKNeg, eNeg, xKCons2, xKCons, eCons, xKTup, eTup, xKLst, eLst, prtI_int, xKPart, ePart, xKSl3, xKSl2, xKSl1, eSl, xKCall, eCall, xKCallF, eCallF, xKIsi, eIsi, xKR1, xKR0, eRng1, xKRj, xKRi, xKRy, xKRx, eRng2, xKSeq, eSeq, xKEn2, xKEn, eEnum, xKLc2, xKLc, eLc, xKRev, eRev, xKJ2, xKJ, eJoin, xKRet, eRet, xKSIf, eSIf, xKExpr, eExpr, xKSetF, eSetF, xKSetN, eSetN, xKFor, eFor, xKUnp, eUnpF, xKUnpN, eUnpN, xKPar2, xKPar, ePar, xKOwn, eOwn, xKApp2, xKApp, eApp, xKExt3, xKExt2, xKExt, eExt, xKAug3, xKAug2, xKAug, eAugF, xKAugN2, xKAugN, eAugN, sSeq, sNext, sRetN, fVar, fC, fNil, fNo, fDictK, fDictT, vN, vF, startS, asB, asI, truD, isDict, isT, seqD, ownL, ownD, frAt, okM, exL, vw, oRev, fYes, ↓reduceIte, List.map_cons, List.map_nil, List.length_cons, List.length_nil, List.replicate, List.cons_append, List.nil_append, List.append_nil, List.getElem?_cons_zero, List.getElem?_cons_succ, List.set_cons_zero, List.set_cons_succ, Option.map_some, Option.map_none, Option.bind_some, Option.bind_none, Sl.dat, Sl.frz, Nat.sub_self, Nat.reduceSub, Nat.reduceAdd, Bool.not_true, Bool.not_false, Bool.false_eq_true, if_true, if_false, reduceCtorEq, Nat.reduceLeDiff, true_and, cut_at, cut_to, cut_from, cut_fromA, Nat.zero_le, and_true, decide_true, setS, List.foldl_cons, List.foldl_nil, setE, wipeE, List.foldl_append, decide_false, Int.natCast_one, Int.natCast_zero, Int.cast_ofNat_Int, Int.reduceEq, oEqS, oNeS, oEqI, oNeI, oLtS, oLtI, oLeI, oGtI, oGeI, oAddS, oAddI', oAddT, oAddL, oLenS, oLenT, oLenL, oSlS, oSlT, oSlL, oSub, oTuple, oIx0, oIx1, oMulS, oMulI, oFdivI, oIsB, oIsntB, oIsN, oIsntN, isNone]
  refine ⟨by decide, ?_⟩
  rw [show ((3 : Int)).toNat = 3 from rfl, natsD0]
  refine qComp_map (fun _ => .bool true) (fun x _ => ⟨_, rfl, fun Q' q' => ?_⟩) ?_
  · simp only [xKBin2, xKBin1, eBin, xKTB, eTB, xKTru, eTru, xKAndT, eAndT, xKOrT, eOrT, xKNotT, eNotT, xKAnd2, xKAnd, eAnd, xKOr2, xKOr, eOr, xKNot2, xKNot, eNot, xKIf, eIf, xKCh5, xKCh4, xKCh3, xKCh2, xKCh1, eChain, negI_int, xKNeg, eNeg, xKCons2, xKCons, eCons, xKTup, eTup, xKLst, eLst, prtI_int, xKPart, ePart, xKSl3, xKSl2, xKSl1, eSl, xKCall, eCall, xKCallF, eCallF, xKIsi, eIsi, xKR1, xKR0, eRng1, xKRj, xKRi, xKRy, xKRx, eRng2, xKSeq, eSeq, xKEn2, xKEn, eEnum, xKLc2, xKLc, eLc, xKRev, eRev, xKJ2, xKJ, eJoin, xKRet, eRet, xKSIf, eSIf, xKExpr, eExpr, xKSetF, eSetF, xKSetN, eSetN, xKFor, eFor, xKUnp, eUnpF, xKUnpN, eUnpN, xKPar2, xKPar, ePar, xKOwn, eOwn, xKApp2, xKApp, eApp, xKExt3, xKExt2, xKExt, eExt, xKAug3, xKAug2, xKAug, eAugF, xKAugN2, xKAugN, eAugN, sSeq, sNext, sRetN, fVar, fC, fNil, fNo, fDictK, fDictT, vN, vF, startS, asB, asI, truD, isDict, isT, seqD, ownL, ownD, frAt, okM, exL, vw, oRev, fYes, ↓reduceIte, List.map_cons, List.map_nil, List.length_cons, List.length_nil, List.replicate, List.cons_append, List.nil_append, List.append_nil, List.getElem?_cons_zero, List.getElem?_cons_succ, List.set_cons_zero, List.set_cons_succ, Option.map_some, Option.map_none, Option.bind_some, Option.bind_none, Sl.dat, Sl.frz, Nat.sub_self, Nat.reduceSub, Nat.reduceAdd, Bool.not_true, Bool.not_false, Bool.false_eq_true, if_true, if_false, reduceCtorEq, Nat.reduceLeDiff, true_and, cut_at, cut_to, cut_from, cut_fromA, Nat.zero_le, and_true, decide_true, setS, List.foldl_cons, List.foldl_nil, setE, wipeE, List.foldl_append, decide_false, Int.natCast_one, Int.natCast_zero, Int.cast_ofNat_Int, Int.reduceEq, oEqS, oNeS, oEqI, oNeI, oLtS, oLtI, oLeI, oGtI, oGeI, oAddS, oAddI', oAddT, oAddL, oLenS, oLenT, oLenL, oSlS, oSlT, oSlL, oSub, oTuple, oIx0, oIx1, oMulS, oMulI, oFdivI, oIsB, oIsntB, oIsN, oIsntN, isNone]
    refine ⟨R, rfl, by omega, hup, fun d hd hno => ?_⟩
    simp only [xKBin2, xKBin1, eBin, xKTB, eTB, xKTru, eTru, xKAndT, eAndT, xKOrT, eOrT, xKNotT, eNotT, xKAnd2, xKAnd, eAnd, xKOr2, xKOr, eOr, xKNot2, xKNot, eNot, xKIf, eIf, xKCh5, xKCh4, xKCh3, xKCh2, xKCh1, eChain, negI_int, xKNeg, eNeg, xKCons2, xKCons, eCons, xKTup, eTup, xKLst, eLst, prtI_int, xKPart, ePart, xKSl3, xKSl2, xKSl1, eSl, xKCall, eCall, xKCallF, eCallF, xKIsi, eIsi, xKR1, xKR0, eRng1, xKRj, xKRi, xKRy, xKRx, eRng2, xKSeq, eSeq, xKEn2, xKEn, eEnum, xKLc2, xKLc, eLc, xKRev, eRev, xKJ2, xKJ, eJoin, xKRet, eRet, xKSIf, eSIf, xKExpr, eExpr, xKSetF, eSetF, xKSetN, eSetN, xKFor, eFor, xKUnp, eUnpF, xKUnpN, eUnpN, xKPar2, xKPar, ePar, xKOwn, eOwn, xKApp2, xKApp, eApp, xKExt3, xKExt2, xKExt, eExt, xKAug3, xKAug2, xKAug, eAugF, xKAugN2, xKAugN, eAugN, sSeq, sNext, sRetN, fVar, fC, fNil, fNo, fDictK, fDictT, vN, vF, startS, asB, asI, truD, isDict, isT, seqD, ownL, ownD, frAt, okM, exL, vw, oRev, fYes, ↓reduceIte, List.map_cons, List.map_nil, List.length_cons, List.length_nil, List.replicate, List.cons_append, List.nil_append, List.append_nil, List.getElem?_cons_zero, List.getElem?_cons_succ, List.set_cons_zero, List.set_cons_succ, Option.map_some, Option.map_none, Option.bind_some, Option.bind_none, Sl.dat, Sl.frz, Nat.sub_self, Nat.reduceSub, Nat.reduceAdd, Bool.not_true, Bool.not_false, Bool.false_eq_true, if_true, if_false, reduceCtorEq, Nat.reduceLeDiff, true_and, cut_at, cut_to, cut_from, cut_fromA, Nat.zero_le, and_true, decide_true, setS, List.foldl_cons, List.foldl_nil, setE, wipeE, List.foldl_append, decide_false, Int.natCast_one, Int.natCast_zero, Int.cast_ofNat_Int, Int.reduceEq, oEqS, oNeS, oEqI, oNeI, oLtS, oLtI, oLeI, oGtI, oGeI, oAddS, oAddI', oAddT, oAddL, oLenS, oLenT, oLenL, oSlS, oSlT, oSlL, oSub, oTuple, oIx0, oIx1, oMulS, oMulI, oFdivI, oIsB, oIsntB, oIsN, oIsntN, isNone]
    refine ⟨d, rfl, hd, ?_⟩
    rw [hno]
    simp only [xKBin2, xKBin1, eBin, xKTB, eTB, xKTru, eTru, xKAndT, eAndT, xKOrT, eOrT, xKNotT, eNotT, xKAnd2, xKAnd, eAnd, xKOr2, xKOr, eOr, xKNot2, xKNot, eNot, xKIf, eIf, xKCh5, xKCh4, xKCh3, xKCh2, xKCh1, eChain, negI_int, xKNeg, eNeg, xKCons2, xKCons, eCons, xKTup, eTup, xKLst, eLst, prtI_int, xKPart, ePart, xKSl3, xKSl2, xKSl1, eSl, xKCall, eCall, xKCallF, eCallF, xKIsi, eIsi, xKR1, xKR0, eRng1, xKRj, xKRi, xKRy, xKRx, eRng2, xKSeq, eSeq, xKEn2, xKEn, eEnum, xKLc2, xKLc, eLc, xKRev, eRev, xKJ2, xKJ, eJoin, xKRet, eRet, xKSIf, eSIf, xKExpr, eExpr, xKSetF, eSetF, xKSetN, eSetN, xKFor, eFor, xKUnp, eUnpF, xKUnpN, eUnpN, xKPar2, xKPar, ePar, xKOwn, eOwn, xKApp2, xKApp, eApp, xKExt3, xKExt2, xKExt, eExt, xKAug3, xKAug2, xKAug, eAugF, xKAugN2, xKAugN, eAugN, sSeq, sNext, sRetN, fVar, fC, fNil, fNo, fDictK, fDictT, vN, vF, startS, asB, asI, truD, isDict, isT, seqD, ownL, ownD, frAt, okM, exL, vw, oRev, fYes, ↓reduceIte, List.map_cons, List.map_nil, List.length_cons, List.length_nil, List.replicate, List.cons_append, List.nil_append, List.append_nil, List.getElem?_cons_zero, List.getElem?_cons_succ, List.set_cons_zero, List.set_cons_succ, Option.map_some, Option.map_none, Option.bind_some, Option.bind_none, Sl.dat, Sl.frz, Nat.sub_self, Nat.reduceSub, Nat.reduceAdd, Bool.not_true, Bool.not_false, Bool.false_eq_true, if_true, if_false, reduceCtorEq, Nat.reduceLeDiff, true_and, cut_at, cut_to, cut_from, cut_fromA, Nat.zero_le, and_true, decide_true, setS, List.foldl_cons, List.foldl_nil, setE, wipeE, List.foldl_append, decide_false, Int.natCast_one, Int.natCast_zero, Int.cast_ofNat_Int, Int.reduceEq, oEqS, oNeS, oEqI, oNeI, oLtS, oLtI, oLeI, oGtI, oGeI, oAddS, oAddI', oAddT, oAddL, oLenS, oLenT, oLenL, oSlS, oSlT, oSlL, oSub, oTuple, oIx0, oIx1, oMulS, oMulI, oFdivI, oIsB, oIsntB, oIsN, oIsntN, isNone]
    exact q'
  simp only [xKBin2, xKBin1, eBin, xKTB, eTB, xKTru, eTru, xKAndT, eAndT, xKOrT, eOrT, xKNotT, eNotT, xKAnd2, xKAnd, eAnd, xKOr2, xKOr, eOr, xKNot2, xKNot, eNot, xKIf, eIf, xKCh5, xKCh4, xKCh3, xKCh2, xKCh1, eChain, negI_int, xKNeg, eNeg, xKCons2, xKCons, eCons, xKTup, eTup, xKLst, eLst, prtI_int, xKPart, ePart, xKSl3, xKSl2, xKSl1, eSl, xKCall, eCall, xKCallF, eCallF, xKIsi, eIsi, xKR1, xKR0, eRng1, xKRj, xKRi, xKRy, xKRx, eRng2, xKSeq, eSeq, xKEn2, xKEn, eEnum, xKLc2, xKLc, eLc, xKRev, eRev, xKJ2, xKJ, eJoin, xKRet, eRet, xKSIf, eSIf, xKExpr, eExpr, xKSetF, eSetF, xKSetN, eSetN, xKFor, eFor, xKUnp, eUnpF, xKUnpN, eUnpN, xKPar2, xKPar, ePar, xKOwn, eOwn, xKApp2, xKApp, eApp, xKExt3, xKExt2, xKExt, eExt, xKAug3, xKAug2, xKAug, eAugF, xKAugN2, xKAugN, eAugN, sSeq, sNext, sRetN, fVar, fC, fNil, fNo, fDictK, fDictT, vN, vF, startS, asB, asI, truD, isDict, isT, seqD, ownL, ownD, frAt, okM, exL, vw, oRev, fYes, ↓reduceIte, List.map_cons, List.map_nil, List.length_cons, List.length_nil, List.replicate, List.cons_append, List.nil_append, List.append_nil, List.getElem?_cons_zero, List.getElem?_cons_succ, List.set_cons_zero, List.set_cons_succ, Option.map_some, Option.map_none, Option.bind_some, Option.bind_none, Sl.dat, Sl.frz, Nat.sub_self, Nat.reduceSub, Nat.reduceAdd, Bool.not_true, Bool.not_false, Bool.false_eq_true, if_true, if_false, reduceCtorEq, Nat.reduceLeDiff, true_and, cut_at, cut_to, cut_from, cut_fromA, Nat.zero_le, and_true, decide_true, setS, List.foldl_cons, List.foldl_nil, setE, wipeE, List.foldl_append, decide_false, Int.natCast_one, Int.natCast_zero, Int.cast_ofNat_Int, Int.reduceEq, oEqS, oNeS, oEqI, oNeI, oLtS, oLtI, oLeI, oGtI, oGeI, oAddS, oAddI', oAddT, oAddL, oLenS, oLenT, oLenL, oSlS, oSlT, oSlL, oSub, oTuple, oIx0, oIx1, oMulS, oMulI, oFdivI, oIsB, oIsntB, oIsN, oIsntN, isNone]
  refine oAll_true ?_
  simp only [xKBin2, xKBin1, eBin, xKTB, eTB, xKTru, eTru, xKAndT, eAndT, xKOrT, eOrT, xKNotT, eNotT, xKAnd2, xKAnd, eAnd, xKOr2, xKOr, eOr, xKNot2, xKNot, eNot, xKIf, eIf, xKCh5, xKCh4, xKCh3, xKCh2, xKCh1, eChain, negI_int, xKNeg, eNeg, xKCons2, xKCons, eCons, xKTup, eTup, xKLst, eLst, prtI_int, xKPart, ePart, xKSl3, xKSl2, xKSl1, eSl, xKCall, eCall, xKCallF, eCallF, xKIsi, eIsi, xKR1, xKR0, eRng1, xKRj, xKRi, xKRy, xKRx, eRng2, xKSeq, eSeq, xKEn2, xKEn, eEnum, xKLc2, xKLc, eLc, xKRev, eRev, xKJ2, xKJ, eJoin, xKRet, eRet, xKSIf, eSIf, xKExpr, eExpr, xKSetF, eSetF, xKSetN, eSetN, xKFor, eFor, xKUnp, eUnpF, xKUnpN, eUnpN, xKPar2, xKPar, ePar, xKOwn, eOwn, xKApp2, xKApp, eApp, xKExt3, xKExt2, xKExt, eExt, xKAug3, xKAug2, xKAug, eAugF, xKAugN2, xKAugN, eAugN, sSeq, sNext, sRetN, fVar, fC, fNil, fNo, fDictK, fDictT, vN, vF, startS, asB, asI, truD, isDict, isT, seqD, ownL, ownD, frAt, okM, exL, vw, oRev, fYes, ↓reduceIte, List.map_cons, List.map_nil, List.length_cons, List.length_nil, List.replicate, List.cons_append, List.nil_append, List.append_nil, List.getElem?_cons_zero, List.getElem?_cons_succ, List.set_cons_zero, List.set_cons_succ, Option.map_some, Option.map_none, Option.bind_some, Option.bind_none, Sl.dat, Sl.frz, Nat.sub_self, Nat.reduceSub, Nat.reduceAdd, Bool.not_true, Bool.not_false, Bool.false_eq_true, if_true, if_false, reduceCtorEq, Nat.reduceLeDiff, true_and, cut_at, cut_to, cut_from, cut_fromA, Nat.zero_le, and_true, decide_true, setS, List.foldl_cons, List.foldl_nil, setE, wipeE, List.foldl_append, decide_false, Int.natCast_one, Int.natCast_zero, Int.cast_ofNat_Int, Int.reduceEq, oEqS, oNeS, oEqI, oNeI, oLtS, oLtI, oLeI, oGtI, oGeI, oAddS, oAddI', oAddT, oAddL, oLenS, oLenT, oLenL, oSlS, oSlT, oSlL, oSub, oTuple, oIx0, oIx1, oMulS, oMulI, oFdivI, oIsB, oIsntB, oIsN, oIsntN, isNone, F_law_3]
  refine ⟨by decide, ?_⟩
  rw [show ((25 : Int)).toNat = 25 from rfl, natsD0]
  refine qComp_map (fun k => ruD (mkMany k)) (fun k hk => ⟨_, rfl, fun Q' q' => ?_⟩) ?_
  · have hk := List.mem_range.mp hk
    simp only [xKBin2, xKBin1, eBin, xKTB, eTB, xKTru, eTru, xKAndT, eAndT, xKOrT, eOrT, xKNotT, eNotT, xKAnd2, xKAnd, eAnd, xKOr2, xKOr, eOr, xKNot2, xKNot, eNot, xKIf, eIf, xKCh5, xKCh4, xKCh3, xKCh2, xKCh1, eChain, negI_int, xKNeg, eNeg, xKCons2, xKCons, eCons, xKTup, eTup, xKLst, eLst, prtI_int, xKPart, ePart, xKSl3, xKSl2, xKSl1, eSl, xKCall, eCall, xKCallF, eCallF, xKIsi, eIsi, xKR1, xKR0, eRng1, xKRj, xKRi, xKRy, xKRx, eRng2, xKSeq, eSeq, xKEn2, xKEn, eEnum, xKLc2, xKLc, eLc, xKRev, eRev, xKJ2, xKJ, eJoin, xKRet, eRet, xKSIf, eSIf, xKExpr, eExpr, xKSetF, eSetF, xKSetN, eSetN, xKFor, eFor, xKUnp, eUnpF, xKUnpN, eUnpN, xKPar2, xKPar, ePar, xKOwn, eOwn, xKApp2, xKApp, eApp, xKExt3, xKExt2, xKExt, eExt, xKAug3, xKAug2, xKAug, eAugF, xKAugN2, xKAugN, eAugN, sSeq, sNext, sRetN, fVar, fC, fNil, fNo, fDictK, fDictT, vN, vF, startS, asB, asI, truD, isDict, isT, seqD, ownL, ownD, frAt, okM, exL, vw, oRev, fYes, ↓reduceIte, List.map_cons, List.map_nil, List.length_cons, List.length_nil, List.replicate, List.cons_append, List.nil_append, List.append_nil, List.getElem?_cons_zero, List.getElem?_cons_succ, List.set_cons_zero, List.set_cons_succ, Option.map_some, Option.map_none, Option.bind_some, Option.bind_none, Sl.dat, Sl.frz, Nat.sub_self, Nat.reduceSub, Nat.reduceAdd, Bool.not_true, Bool.not_false, Bool.false_eq_true, if_true, if_false, reduceCtorEq, Nat.reduceLeDiff, true_and, cut_at, cut_to, cut_from, cut_fromA, Nat.zero_le, and_true, decide_true, setS, List.foldl_cons, List.foldl_nil, setE, wipeE, List.foldl_append, decide_false, Int.natCast_one, Int.natCast_zero, Int.cast_ofNat_Int, Int.reduceEq, oEqS, oNeS, oEqI, oNeI, oLtS, oLtI, oLeI, oGtI, oGeI, oAddS, oAddI', oAddT, oAddL, oLenS, oLenT, oLenL, oSlS, oSlT, oSlL, oSub, oTuple, oIx0, oIx1, oMulS, oMulI, oFdivI, oIsB, oIsntB, oIsN, oIsntN, isNone]
    refine ⟨⟨by decide, by decide⟩, by simp; omega, by omega, by omega, ⟨by decide, by decide⟩, .inr ⟨by decide, by decide⟩, by simp; omega, by omega, by omega, ?_, ?_⟩
    · simp; omega
    · exact q'
  have emany : (List.range 25).map (fun k => ruD (mkMany k)) = manyR.map ruD := by unfold manyR; rw [List.map_map]; rfl
  simp only [xKBin2, xKBin1, eBin, xKTB, eTB, xKTru, eTru, xKAndT, eAndT, xKOrT, eOrT, xKNotT, eNotT, xKAnd2, xKAnd, eAnd, xKOr2, xKOr, eOr, xKNot2, xKNot, eNot, xKIf, eIf, xKCh5, xKCh4, xKCh3, xKCh2, xKCh1, eChain, negI_int, xKNeg, eNeg, xKCons2, xKCons, eCons, xKTup, eTup, xKLst, eLst, prtI_int, xKPart, ePart, xKSl3, xKSl2, xKSl1, eSl, xKCall, eCall, xKCallF, eCallF, xKIsi, eIsi, xKR1, xKR0, eRng1, xKRj, xKRi, xKRy, xKRx, eRng2, xKSeq, eSeq, xKEn2, xKEn, eEnum, xKLc2, xKLc, eLc, xKRev, eRev, xKJ2, xKJ, eJoin, xKRet, eRet, xKSIf, eSIf, xKExpr, eExpr, xKSetF, eSetF, xKSetN, eSetN, xKFor, eFor, xKUnp, eUnpF, xKUnpN, eUnpN, xKPar2, xKPar, ePar, xKOwn, eOwn, xKApp2, xKApp, eApp, xKExt3, xKExt2, xKExt, eExt, xKAug3, xKAug2, xKAug, eAugF, xKAugN2, xKAugN, eAugN, sSeq, sNext, sRetN, fVar, fC, fNil, fNo, fDictK, fDictT, vN, vF, startS, asB, asI, truD, isDict, isT, seqD, ownL, ownD, frAt, okM, exL, vw, oRev, fYes, ↓reduceIte, List.map_cons, List.map_nil, List.length_cons, List.length_nil, List.replicate, List.cons_append, List.nil_append, List.append_nil, List.getElem?_cons_zero, List.getElem?_cons_succ, List.set_cons_zero, List.set_cons_succ, Option.map_some, Option.map_none, Option.bind_some, Option.bind_none, Sl.dat, Sl.frz, Nat.sub_self, Nat.reduceSub, Nat.reduceAdd, Bool.not_true, Bool.not_false, Bool.false_eq_true, if_true, if_false, reduceCtorEq, Nat.reduceLeDiff, true_and, cut_at, cut_to, cut_from, cut_fromA, Nat.zero_le, and_true, decide_true, setS, List.foldl_cons, List.foldl_nil, setE, wipeE, List.foldl_append, decide_false, Int.natCast_one, Int.natCast_zero, Int.cast_ofNat_Int, Int.reduceEq, oEqS, oNeS, oEqI, oNeI, oLtS, oLtI, oLeI, oGtI, oGeI, oAddS, oAddI', oAddT, oAddL, oLenS, oLenT, oLenL, oSlS, oSlT, oSlL, oSub, oTuple, oIx0, oIx1, oMulS, oMulI, oFdivI, oIsB, oIsntB, oIsN, oIsntN, isNone, emany, F_law_4, oSort2]
  refine ⟨allOk_ru manyR, ?_⟩
  rw [sortD_ru, many_srt]
  have ecut : cut (manyS.map ruD) none (some 24) = (manyS.take 24).map ruD := (cut_to _ 24).trans List.map_take.symm
  simp only [xKBin2, xKBin1, eBin, xKTB, eTB, xKTru, eTru, xKAndT, eAndT, xKOrT, eOrT, xKNotT, eNotT, xKAnd2, xKAnd, eAnd, xKOr2, xKOr, eOr, xKNot2, xKNot, eNot, xKIf, eIf, xKCh5, xKCh4, xKCh3, xKCh2, xKCh1, eChain, negI_int, xKNeg, eNeg, xKCons2, xKCons, eCons, xKTup, eTup, xKLst, eLst, prtI_int, xKPart, ePart, xKSl3, xKSl2, xKSl1, eSl, xKCall, eCall, xKCallF, eCallF, xKIsi, eIsi, xKR1, xKR0, eRng1, xKRj, xKRi, xKRy, xKRx, eRng2, xKSeq, eSeq, xKEn2, xKEn, eEnum, xKLc2, xKLc, eLc, xKRev, eRev, xKJ2, xKJ, eJoin, xKRet, eRet, xKSIf, eSIf, xKExpr, eExpr, xKSetF, eSetF, xKSetN, eSetN, xKFor, eFor, xKUnp, eUnpF, xKUnpN, eUnpN, xKPar2, xKPar, ePar, xKOwn, eOwn, xKApp2, xKApp, eApp, xKExt3, xKExt2, xKExt, eExt, xKAug3, xKAug2, xKAug, eAugF, xKAugN2, xKAugN, eAugN, sSeq, sNext, sRetN, fVar, fC, fNil, fNo, fDictK, fDictT, vN, vF, startS, asB, asI, truD, isDict, isT, seqD, ownL, ownD, frAt, okM, exL, vw, oRev, fYes, ↓reduceIte, List.map_cons, List.map_nil, List.length_cons, List.length_nil, List.replicate, List.cons_append, List.nil_append, List.append_nil, List.getElem?_cons_zero, List.getElem?_cons_succ, List.set_cons_zero, List.set_cons_succ, Option.map_some, Option.map_none, Option.bind_some, Option.bind_none, Sl.dat, Sl.frz, Nat.sub_self, Nat.reduceSub, Nat.reduceAdd, Bool.not_true, Bool.not_false, Bool.false_eq_true, if_true, if_false, reduceCtorEq, Nat.reduceLeDiff, true_and, cut_at, cut_to, cut_from, cut_fromA, Nat.zero_le, and_true, decide_true, setS, List.foldl_cons, List.foldl_nil, setE, wipeE, List.foldl_append, decide_false, Int.natCast_one, Int.natCast_zero, Int.cast_ofNat_Int, Int.reduceEq, oEqS, oNeS, oEqI, oNeI, oLtS, oLtI, oLeI, oGtI, oGeI, oAddS, oAddI', oAddT, oAddL, oLenS, oLenT, oLenL, oSlS, oSlT, oSlL, oSub, oTuple, oIx0, oIx1, oMulS, oMulI, oFdivI, oIsB, oIsntB, oIsN, oIsntN, isNone, F_law_5, ecut]
  refine ⟨rsD (manyS.take 24), rfl, plain_rs _, ?_⟩
  rw [many_yes]
  simp only [xKBin2, xKBin1, eBin, xKTB, eTB, xKTru, eTru, xKAndT, eAndT, xKOrT, eOrT, xKNotT, eNotT, xKAnd2, xKAnd, eAnd, xKOr2, xKOr, eOr, xKNot2, xKNot, eNot, xKIf, eIf, xKCh5, xKCh4, xKCh3, xKCh2, xKCh1, eChain, negI_int, xKNeg, eNeg, xKCons2, xKCons, eCons, xKTup, eTup, xKLst, eLst, prtI_int, xKPart, ePart, xKSl3, xKSl2, xKSl1, eSl, xKCall, eCall, xKCallF, eCallF, xKIsi, eIsi, xKR1, xKR0, eRng1, xKRj, xKRi, xKRy, xKRx, eRng2, xKSeq, eSeq, xKEn2, xKEn, eEnum, xKLc2, xKLc, eLc, xKRev, eRev, xKJ2, xKJ, eJoin, xKRet, eRet, xKSIf, eSIf, xKExpr, eExpr, xKSetF, eSetF, xKSetN, eSetN, xKFor, eFor, xKUnp, eUnpF, xKUnpN, eUnpN, xKPar2, xKPar, ePar, xKOwn, eOwn, xKApp2, xKApp, eApp, xKExt3, xKExt2, xKExt, eExt, xKAug3, xKAug2, xKAug, eAugF, xKAugN2, xKAugN, eAugN, sSeq, sNext, sRetN, fVar, fC, fNil, fNo, fDictK, fDictT, vN, vF, startS, asB, asI, truD, isDict, isT, seqD, ownL, ownD, frAt, okM, exL, vw, oRev, fYes, ↓reduceIte, List.map_cons, List.map_nil, List.length_cons, List.length_nil, List.replicate, List.cons_append, List.nil_append, List.append_nil, List.getElem?_cons_zero, List.getElem?_cons_succ, List.set_cons_zero, List.set_cons_succ, Option.map_some, Option.map_none, Option.bind_some, Option.bind_none, Sl.dat, Sl.frz, Nat.sub_self, Nat.reduceSub, Nat.reduceAdd, Bool.not_true, Bool.not_false, Bool.false_eq_true, if_true, if_false, reduceCtorEq, Nat.reduceLeDiff, true_and, cut_at, cut_to, cut_from, cut_fromA, Nat.zero_le, and_true, decide_true, setS, List.foldl_cons, List.foldl_nil, setE, wipeE, List.foldl_append, decide_false, Int.natCast_one, Int.natCast_zero, Int.cast_ofNat_Int, Int.reduceEq, oEqS, oNeS, oEqI, oNeI, oLtS, oLtI, oLeI, oGtI, oGeI, oAddS, oAddI', oAddT, oAddL, oLenS, oLenT, oLenL, oSlS, oSlT, oSlL, oSub, oTuple, oIx0, oIx1, oMulS, oMulI, oFdivI, oIsB, oIsntB, oIsN, oIsntN, isNone]
  refine ⟨rsD manyS, rfl, plain_rs _, ?_⟩
  rw [many_no]
  simp only [xKBin2, xKBin1, eBin, xKTB, eTB, xKTru, eTru, xKAndT, eAndT, xKOrT, eOrT, xKNotT, eNotT, xKAnd2, xKAnd, eAnd, xKOr2, xKOr, eOr, xKNot2, xKNot, eNot, xKIf, eIf, xKCh5, xKCh4, xKCh3, xKCh2, xKCh1, eChain, negI_int, xKNeg, eNeg, xKCons2, xKCons, eCons, xKTup, eTup, xKLst, eLst, prtI_int, xKPart, ePart, xKSl3, xKSl2, xKSl1, eSl, xKCall, eCall, xKCallF, eCallF, xKIsi, eIsi, xKR1, xKR0, eRng1, xKRj, xKRi, xKRy, xKRx, eRng2, xKSeq, eSeq, xKEn2, xKEn, eEnum, xKLc2, xKLc, eLc, xKRev, eRev, xKJ2, xKJ, eJoin, xKRet, eRet, xKSIf, eSIf, xKExpr, eExpr, xKSetF, eSetF, xKSetN, eSetN, xKFor, eFor, xKUnp, eUnpF, xKUnpN, eUnpN, xKPar2, xKPar, ePar, xKOwn, eOwn, xKApp2, xKApp, eApp, xKExt3, xKExt2, xKExt, eExt, xKAug3, xKAug2, xKAug, eAugF, xKAugN2, xKAugN, eAugN, sSeq, sNext, sRetN, fVar, fC, fNil, fNo, fDictK, fDictT, vN, vF, startS, asB, asI, truD, isDict, isT, seqD, ownL, ownD, frAt, okM, exL, vw, oRev, fYes, ↓reduceIte, List.map_cons, List.map_nil, List.length_cons, List.length_nil, List.replicate, List.cons_append, List.nil_append, List.append_nil, List.getElem?_cons_zero, List.getElem?_cons_succ, List.set_cons_zero, List.set_cons_succ, Option.map_some, Option.map_none, Option.bind_some, Option.bind_none, Sl.dat, Sl.frz, Nat.sub_self, Nat.reduceSub, Nat.reduceAdd, Bool.not_true, Bool.not_false, Bool.false_eq_true, if_true, if_false, reduceCtorEq, Nat.reduceLeDiff, true_and, cut_at, cut_to, cut_from, cut_fromA, Nat.zero_le, and_true, decide_true, setS, List.foldl_cons, List.foldl_nil, setE, wipeE, List.foldl_append, decide_false, Int.natCast_one, Int.natCast_zero, Int.cast_ofNat_Int, Int.reduceEq, oEqS, oNeS, oEqI, oNeI, oLtS, oLtI, oLeI, oGtI, oGeI, oAddS, oAddI', oAddT, oAddL, oLenS, oLenT, oLenL, oSlS, oSlT, oSlL, oSub, oTuple, oIx0, oIx1, oMulS, oMulI, oFdivI, oIsB, oIsntB, oIsN, oIsntN, isNone]
  refine ⟨by decide, by decide, by decide, by decide, by decide, by decide, ?_⟩
  refine ⟨_, rfl, rfl, ?_⟩
  rw [one_yes]
  simp only [xKBin2, xKBin1, eBin, xKTB, eTB, xKTru, eTru, xKAndT, eAndT, xKOrT, eOrT, xKNotT, eNotT, xKAnd2, xKAnd, eAnd, xKOr2, xKOr, eOr, xKNot2, xKNot, eNot, xKIf, eIf, xKCh5, xKCh4, xKCh3, xKCh2, xKCh1, eChain, negI_int, xKNeg, eNeg, xKCons2, xKCons, eCons, xKTup, eTup, xKLst, eLst, prtI_int, xKPart, ePart, xKSl3, xKSl2, xKSl1, eSl, xKCall, eCall, xKCallF, eCallF, xKIsi, eIsi, xKR1, xKR0, eRng1, xKRj, xKRi, xKRy, xKRx, eRng2, xKSeq, eSeq, xKEn2, xKEn, eEnum, xKLc2, xKLc, eLc, xKRev, eRev, xKJ2, xKJ, eJoin, xKRet, eRet, xKSIf, eSIf, xKExpr, eExpr, xKSetF, eSetF, xKSetN, eSetN, xKFor, eFor, xKUnp, eUnpF, xKUnpN, eUnpN, xKPar2, xKPar, ePar, xKOwn, eOwn, xKApp2, xKApp, eApp, xKExt3, xKExt2, xKExt, eExt, xKAug3, xKAug2, xKAug, eAugF, xKAugN2, xKAugN, eAugN, sSeq, sNext, sRetN, fVar, fC, fNil, fNo, fDictK, fDictT, vN, vF, startS, asB, asI, truD, isDict, isT, seqD, ownL, ownD, frAt, okM, exL, vw, oRev, fYes, ↓reduceIte, List.map_cons, List.map_nil, List.length_cons, List.length_nil, List.replicate, List.cons_append, List.nil_append, List.append_nil, List.getElem?_cons_zero, List.getElem?_cons_succ, List.set_cons_zero, List.set_cons_succ, Option.map_some, Option.map_none, Option.bind_some, Option.bind_none, Sl.dat, Sl.frz, Nat.sub_self, Nat.reduceSub, Nat.reduceAdd, Bool.not_true, Bool.not_false, Bool.false_eq_true, if_true, if_false, reduceCtorEq, Nat.reduceLeDiff, true_and, cut_at, cut_to, cut_from, cut_fromA, Nat.zero_le, and_true, decide_true, setS, List.foldl_cons, List.foldl_nil, setE, wipeE, List.foldl_append, decide_false, Int.natCast_one, Int.natCast_zero, Int.cast_ofNat_Int, Int.reduceEq, oEqS, oNeS, oEqI, oNeI, oLtS, oLtI, oLeI, oGtI, oGeI, oAddS, oAddI', oAddT, oAddL, oLenS, oLenT, oLenL, oSlS, oSlT, oSlL, oSub, oTuple, oIx0, oIx1, oMulS, oMulI, oFdivI, oIsB, oIsntB, oIsN, oIsntN, isNone, F_law_6]
  refine ⟨_, rfl, ⟨by decide, by decide⟩, fun j hj0 hj1 => ?_⟩
  obtain ⟨j, rfl⟩ : ∃ m : Nat, j = (m : Int) := ⟨j.toNat, by omega⟩
  obtain ⟨m, e2, hm⟩ := long_at (show j < 2 by omega)
  simp only [xKBin2, xKBin1, eBin, xKTB, eTB, xKTru, eTru, xKAndT, eAndT, xKOrT, eOrT, xKNotT, eNotT, xKAnd2, xKAnd, eAnd, xKOr2, xKOr, eOr, xKNot2, xKNot, eNot, xKIf, eIf, xKCh5, xKCh4, xKCh3, xKCh2, xKCh1, eChain, negI_int, xKNeg, eNeg, xKCons2, xKCons, eCons, xKTup, eTup, xKLst, eLst, prtI_int, xKPart, ePart, xKSl3, xKSl2, xKSl1, eSl, xKCall, eCall, xKCallF, eCallF, xKIsi, eIsi, xKR1, xKR0, eRng1, xKRj, xKRi, xKRy, xKRx, eRng2, xKSeq, eSeq, xKEn2, xKEn, eEnum, xKLc2, xKLc, eLc, xKRev, eRev, xKJ2, xKJ, eJoin, xKRet, eRet, xKSIf, eSIf, xKExpr, eExpr, xKSetF, eSetF, xKSetN, eSetN, xKFor, eFor, xKUnp, eUnpF, xKUnpN, eUnpN, xKPar2, xKPar, ePar, xKOwn, eOwn, xKApp2, xKApp, eApp, xKExt3, xKExt2, xKExt, eExt, xKAug3, xKAug2, xKAug, eAugF, xKAugN2, xKAugN, eAugN, sSeq, sNext, sRetN, fVar, fC, fNil, fNo, fDictK, fDictT, vN, vF, startS, asB, asI, truD, isDict, isT, seqD, ownL, ownD, frAt, okM, exL, vw, oRev, fYes, ↓reduceIte, List.map_cons, List.map_nil, List.length_cons, List.length_nil, List.replicate, List.cons_append, List.nil_append, List.append_nil, List.getElem?_cons_zero, List.getElem?_cons_succ, List.set_cons_zero, List.set_cons_succ, Option.map_some, Option.map_none, Option.bind_some, Option.bind_none, Sl.dat, Sl.frz, Nat.sub_self, Nat.reduceSub, Nat.reduceAdd, Bool.not_true, Bool.not_false, Bool.false_eq_true, if_true, if_false, reduceCtorEq, Nat.reduceLeDiff, true_and, cut_at, cut_to, cut_from, cut_fromA, Nat.zero_le, and_true, decide_true, setS, List.foldl_cons, List.foldl_nil, setE, wipeE, List.foldl_append, decide_false, Int.natCast_one, Int.natCast_zero, Int.cast_ofNat_Int, Int.reduceEq, oEqS, oNeS, oEqI, oNeI, oLtS, oLtI, oLeI, oGtI, oGeI, oAddS, oAddI', oAddT, oAddL, oLenS, oLenT, oLenL, oSlS, oSlT, oSlL, oSub, oTuple, oIx0, oIx1, oMulS, oMulI, oFdivI, oIsB, oIsntB, oIsN, oIsntN, isNone, oIxL e2]
  refine ⟨(m : Int), L, rfl, by omega, by omega, hL1, by omega, fun w hw ho => ?_⟩
  have hwab := over_ab hL4 ho
  simp only [xKBin2, xKBin1, eBin, xKTB, eTB, xKTru, eTru, xKAndT, eAndT, xKOrT, eOrT, xKNotT, eNotT, xKAnd2, xKAnd, eAnd, xKOr2, xKOr, eOr, xKNot2, xKNot, eNot, xKIf, eIf, xKCh5, xKCh4, xKCh3, xKCh2, xKCh1, eChain, negI_int, xKNeg, eNeg, xKCons2, xKCons, eCons, xKTup, eTup, xKLst, eLst, prtI_int, xKPart, ePart, xKSl3, xKSl2, xKSl1, eSl, xKCall, eCall, xKCallF, eCallF, xKIsi, eIsi, xKR1, xKR0, eRng1, xKRj, xKRi, xKRy, xKRx, eRng2, xKSeq, eSeq, xKEn2, xKEn, eEnum, xKLc2, xKLc, eLc, xKRev, eRev, xKJ2, xKJ, eJoin, xKRet, eRet, xKSIf, eSIf, xKExpr, eExpr, xKSetF, eSetF, xKSetN, eSetN, xKFor, eFor, xKUnp, eUnpF, xKUnpN, eUnpN, xKPar2, xKPar, ePar, xKOwn, eOwn, xKApp2, xKApp, eApp, xKExt3, xKExt2, xKExt, eExt, xKAug3, xKAug2, xKAug, eAugF, xKAugN2, xKAugN, eAugN, sSeq, sNext, sRetN, fVar, fC, fNil, fNo, fDictK, fDictT, vN, vF, startS, asB, asI, truD, isDict, isT, seqD, ownL, ownD, frAt, okM, exL, vw, oRev, fYes, ↓reduceIte, List.map_cons, List.map_nil, List.length_cons, List.length_nil, List.replicate, List.cons_append, List.nil_append, List.append_nil, List.getElem?_cons_zero, List.getElem?_cons_succ, List.set_cons_zero, List.set_cons_succ, Option.map_some, Option.map_none, Option.bind_some, Option.bind_none, Sl.dat, Sl.frz, Nat.sub_self, Nat.reduceSub, Nat.reduceAdd, Bool.not_true, Bool.not_false, Bool.false_eq_true, if_true, if_false, reduceCtorEq, Nat.reduceLeDiff, true_and, cut_at, cut_to, cut_from, cut_fromA, Nat.zero_le, and_true, decide_true, setS, List.foldl_cons, List.foldl_nil, setE, wipeE, List.foldl_append, decide_false, Int.natCast_one, Int.natCast_zero, Int.cast_ofNat_Int, Int.reduceEq, oEqS, oNeS, oEqI, oNeI, oLtS, oLtI, oLeI, oGtI, oGeI, oAddS, oAddI', oAddT, oAddL, oLenS, oLenT, oLenL, oSlS, oSlT, oSlL, oSub, oTuple, oIx0, oIx1, oMulS, oMulI, oFdivI, oIsB, oIsntB, oIsN, oIsntN, isNone, F_law_7]
  by_cases h7 : (7 : Int) < w.length
  · simp only [h7, xKBin2, xKBin1, eBin, xKTB, eTB, xKTru, eTru, xKAndT, eAndT, xKOrT, eOrT, xKNotT, eNotT, xKAnd2, xKAnd, eAnd, xKOr2, xKOr, eOr, xKNot2, xKNot, eNot, xKIf, eIf, xKCh5, xKCh4, xKCh3, xKCh2, xKCh1, eChain, negI_int, xKNeg, eNeg, xKCons2, xKCons, eCons, xKTup, eTup, xKLst, eLst, prtI_int, xKPart, ePart, xKSl3, xKSl2, xKSl1, eSl, xKCall, eCall, xKCallF, eCallF, xKIsi, eIsi, xKR1, xKR0, eRng1, xKRj, xKRi, xKRy, xKRx, eRng2, xKSeq, eSeq, xKEn2, xKEn, eEnum, xKLc2, xKLc, eLc, xKRev, eRev, xKJ2, xKJ, eJoin, xKRet, eRet, xKSIf, eSIf, xKExpr, eExpr, xKSetF, eSetF, xKSetN, eSetN, xKFor, eFor, xKUnp, eUnpF, xKUnpN, eUnpN, xKPar2, xKPar, ePar, xKOwn, eOwn, xKApp2, xKApp, eApp, xKExt3, xKExt2, xKExt, eExt, xKAug3, xKAug2, xKAug, eAugF, xKAugN2, xKAugN, eAugN, sSeq, sNext, sRetN, fVar, fC, fNil, fNo, fDictK, fDictT, vN, vF, startS, asB, asI, truD, isDict, isT, seqD, ownL, ownD, frAt, okM, exL, vw, oRev, fYes, ↓reduceIte, List.map_cons, List.map_nil, List.length_cons, List.length_nil, List.replicate, List.cons_append, List.nil_append, List.append_nil, List.getElem?_cons_zero, List.getElem?_cons_succ, List.set_cons_zero, List.set_cons_succ, Option.map_some, Option.map_none, Option.bind_some, Option.bind_none, Sl.dat, Sl.frz, Nat.sub_self, Nat.reduceSub, Nat.reduceAdd, Bool.not_true, Bool.not_false, Bool.false_eq_true, if_true, if_false, reduceCtorEq, Nat.reduceLeDiff, true_and, cut_at, cut_to, cut_from, cut_fromA, Nat.zero_le, and_true, decide_true, setS, List.foldl_cons, List.foldl_nil, setE, wipeE, List.foldl_append, decide_false, Int.natCast_one, Int.natCast_zero, Int.cast_ofNat_Int, Int.reduceEq, oEqS, oNeS, oEqI, oNeI, oLtS, oLtI, oLeI, oGtI, oGeI, oAddS, oAddI', oAddT, oAddL, oLenS, oLenT, oLenL, oSlS, oSlT, oSlL, oSub, oTuple, oIx0, oIx1, oMulS, oMulI, oFdivI, oIsB, oIsntB, oIsN, oIsntN, isNone]
    refine qComp_filter (fun r => decide (r.2.length < r.1.length)) ruD (fun r _ => ⟨_, rfl, fun Q' q' => ?_, fun _ Q' q' => ?_⟩) ?_
    · simp only [xKBin2, xKBin1, eBin, xKTB, eTB, xKTru, eTru, xKAndT, eAndT, xKOrT, eOrT, xKNotT, eNotT, xKAnd2, xKAnd, eAnd, xKOr2, xKOr, eOr, xKNot2, xKNot, eNot, xKIf, eIf, xKCh5, xKCh4, xKCh3, xKCh2, xKCh1, eChain, negI_int, xKNeg, eNeg, xKCons2, xKCons, eCons, xKTup, eTup, xKLst, eLst, prtI_int, xKPart, ePart, xKSl3, xKSl2, xKSl1, eSl, xKCall, eCall, xKCallF, eCallF, xKIsi, eIsi, xKR1, xKR0, eRng1, xKRj, xKRi, xKRy, xKRx, eRng2, xKSeq, eSeq, xKEn2, xKEn, eEnum, xKLc2, xKLc, eLc, xKRev, eRev, xKJ2, xKJ, eJoin, xKRet, eRet, xKSIf, eSIf, xKExpr, eExpr, xKSetF, eSetF, xKSetN, eSetN, xKFor, eFor, xKUnp, eUnpF, xKUnpN, eUnpN, xKPar2, xKPar, ePar, xKOwn, eOwn, xKApp2, xKApp, eApp, xKExt3, xKExt2, xKExt, eExt, xKAug3, xKAug2, xKAug, eAugF, xKAugN2, xKAugN, eAugN, sSeq, sNext, sRetN, fVar, fC, fNil, fNo, fDictK, fDictT, vN, vF, startS, asB, asI, truD, isDict, isT, seqD, ownL, ownD, frAt, okM, exL, vw, oRev, fYes, ↓reduceIte, List.map_cons, List.map_nil, List.length_cons, List.length_nil, List.replicate, List.cons_append, List.nil_append, List.append_nil, List.getElem?_cons_zero, List.getElem?_cons_succ, List.set_cons_zero, List.set_cons_succ, Option.map_some, Option.map_none, Option.bind_some, Option.bind_none, Sl.dat, Sl.frz, Nat.sub_self, Nat.reduceSub, Nat.reduceAdd, Bool.not_true, Bool.not_false, Bool.false_eq_true, if_true, if_false, reduceCtorEq, Nat.reduceLeDiff, true_and, cut_at, cut_to, cut_from, cut_fromA, Nat.zero_le, and_true, decide_true, setS, List.foldl_cons, List.foldl_nil, setE, wipeE, List.foldl_append, decide_false, Int.natCast_one, Int.natCast_zero, Int.cast_ofNat_Int, Int.reduceEq, oEqS, oNeS, oEqI, oNeI, oLtS, oLtI, oLeI, oGtI, oGeI, oAddS, oAddI', oAddT, oAddL, oLenS, oLenT, oLenL, oSlS, oSlT, oSlL, oSub, oTuple, oIx0, oIx1, oMulS, oMulI, oFdivI, oIsB, oIsntB, oIsN, oIsntN, isNone]
      have : decide ((r.2.length : Int) < (r.1.length : Int)) = decide (r.2.length < r.1.length) := by
        rw [Bool.eq_iff_iff, decide_eq_true_eq, decide_eq_true_eq]; omega
      rw [this]
      exact q'
    · simp only [xKBin2, xKBin1, eBin, xKTB, eTB, xKTru, eTru, xKAndT, eAndT, xKOrT, eOrT, xKNotT, eNotT, xKAnd2, xKAnd, eAnd, xKOr2, xKOr, eOr, xKNot2, xKNot, eNot, xKIf, eIf, xKCh5, xKCh4, xKCh3, xKCh2, xKCh1, eChain, negI_int, xKNeg, eNeg, xKCons2, xKCons, eCons, xKTup, eTup, xKLst, eLst, prtI_int, xKPart, ePart, xKSl3, xKSl2, xKSl1, eSl, xKCall, eCall, xKCallF, eCallF, xKIsi, eIsi, xKR1, xKR0, eRng1, xKRj, xKRi, xKRy, xKRx, eRng2, xKSeq, eSeq, xKEn2, xKEn, eEnum, xKLc2, xKLc, eLc, xKRev, eRev, xKJ2, xKJ, eJoin, xKRet, eRet, xKSIf, eSIf, xKExpr, eExpr, xKSetF, eSetF, xKSetN, eSetN, xKFor, eFor, xKUnp, eUnpF, xKUnpN, eUnpN, xKPar2, xKPar, ePar, xKOwn, eOwn, xKApp2, xKApp, eApp, xKExt3, xKExt2, xKExt, eExt, xKAug3, xKAug2, xKAug, eAugF, xKAugN2, xKAugN, eAugN, sSeq, sNext, sRetN, fVar, fC, fNil, fNo, fDictK, fDictT, vN, vF, startS, asB, asI, truD, isDict, isT, seqD, ownL, ownD, frAt, okM, exL, vw, oRev, fYes, ↓reduceIte, List.map_cons, List.map_nil, List.length_cons, List.length_nil, List.replicate, List.cons_append, List.nil_append, List.append_nil, List.getElem?_cons_zero, List.getElem?_cons_succ, List.set_cons_zero, List.set_cons_succ, Option.map_some, Option.map_none, Option.bind_some, Option.bind_none, Sl.dat, Sl.frz, Nat.sub_self, Nat.reduceSub, Nat.reduceAdd, Bool.not_true, Bool.not_false, Bool.false_eq_true, if_true, if_false, reduceCtorEq, Nat.reduceLeDiff, true_and, cut_at, cut_to, cut_from, cut_fromA, Nat.zero_le, and_true, decide_true, setS, List.foldl_cons, List.foldl_nil, setE, wipeE, List.foldl_append, decide_false, Int.natCast_one, Int.natCast_zero, Int.cast_ofNat_Int, Int.reduceEq, oEqS, oNeS, oEqI, oNeI, oLtS, oLtI, oLeI, oGtI, oGeI, oAddS, oAddI', oAddT, oAddL, oLenS, oLenT, oLenL, oSlS, oSlT, oSlL, oSub, oTuple, oIx0, oIx1, oMulS, oMulI, oFdivI, oIsB, oIsntB, oIsN, oIsntN, isNone]
      exact q'
    simp only [xKBin2, xKBin1, eBin, xKTB, eTB, xKTru, eTru, xKAndT, eAndT, xKOrT, eOrT, xKNotT, eNotT, xKAnd2, xKAnd, eAnd, xKOr2, xKOr, eOr, xKNot2, xKNot, eNot, xKIf, eIf, xKCh5, xKCh4, xKCh3, xKCh2, xKCh1, eChain, negI_int, xKNeg, eNeg, xKCons2, xKCons, eCons, xKTup, eTup, xKLst, eLst, prtI_int, xKPart, ePart, xKSl3, xKSl2, xKSl1, eSl, xKCall, eCall, xKCallF, eCallF, xKIsi, eIsi, xKR1, xKR0, eRng1, xKRj, xKRi, xKRy, xKRx, eRng2, xKSeq, eSeq, xKEn2, xKEn, eEnum, xKLc2, xKLc, eLc, xKRev, eRev, xKJ2, xKJ, eJoin, xKRet, eRet, xKSIf, eSIf, xKExpr, eExpr, xKSetF, eSetF, xKSetN, eSetN, xKFor, eFor, xKUnp, eUnpF, xKUnpN, eUnpN, xKPar2, xKPar, ePar, xKOwn, eOwn, xKApp2, xKApp, eApp, xKExt3, xKExt2, xKExt, eExt, xKAug3, xKAug2, xKAug, eAugF, xKAugN2, xKAugN, eAugN, sSeq, sNext, sRetN, fVar, fC, fNil, fNo, fDictK, fDictT, vN, vF, startS, asB, asI, truD, isDict, isT, seqD, ownL, ownD, frAt, okM, exL, vw, oRev, fYes, ↓reduceIte, List.map_cons, List.map_nil, List.length_cons, List.length_nil, List.replicate, List.cons_append, List.nil_append, List.append_nil, List.getElem?_cons_zero, List.getElem?_cons_succ, List.set_cons_zero, List.set_cons_succ, Option.map_some, Option.map_none, Option.bind_some, Option.bind_none, Sl.dat, Sl.frz, Nat.sub_self, Nat.reduceSub, Nat.reduceAdd, Bool.not_true, Bool.not_false, Bool.false_eq_true, if_true, if_false, reduceCtorEq, Nat.reduceLeDiff, true_and, cut_at, cut_to, cut_from, cut_fromA, Nat.zero_le, and_true, decide_true, setS, List.foldl_cons, List.foldl_nil, setE, wipeE, List.foldl_append, decide_false, Int.natCast_one, Int.natCast_zero, Int.cast_ofNat_Int, Int.reduceEq, oEqS, oNeS, oEqI, oNeI, oLtS, oLtI, oLeI, oGtI, oGeI, oAddS, oAddI', oAddT, oAddL, oLenS, oLenT, oLenL, oSlS, oSlT, oSlL, oSub, oTuple, oIx0, oIx1, oMulS, oMulI, oFdivI, oIsB, oIsntB, oIsN, oIsntN, isNone]
    refine p_loop (R := R.filter fun r => decide (r.2.length < r.1.length)) ⟨⟨fun r hr => hfit.ru r (List.mem_filter.mp hr).1, fun r hr => hfit.ab r (List.mem_filter.mp hr).1, Nat.le_trans (List.length_filter_le _ _) hfit.len⟩, hwab, by omega, .inr fun r hr => of_decide_eq_true (List.mem_filter.mp hr).2⟩ hD _ _ _ _ _ _ _ _ _ _ _ _ _ _
  · simp only [h7, xKBin2, xKBin1, eBin, xKTB, eTB, xKTru, eTru, xKAndT, eAndT, xKOrT, eOrT, xKNotT, eNotT, xKAnd2, xKAnd, eAnd, xKOr2, xKOr, eOr, xKNot2, xKNot, eNot, xKIf, eIf, xKCh5, xKCh4, xKCh3, xKCh2, xKCh1, eChain, negI_int, xKNeg, eNeg, xKCons2, xKCons, eCons, xKTup, eTup, xKLst, eLst, prtI_int, xKPart, ePart, xKSl3, xKSl2, xKSl1, eSl, xKCall, eCall, xKCallF, eCallF, xKIsi, eIsi, xKR1, xKR0, eRng1, xKRj, xKRi, xKRy, xKRx, eRng2, xKSeq, eSeq, xKEn2, xKEn, eEnum, xKLc2, xKLc, eLc, xKRev, eRev, xKJ2, xKJ, eJoin, xKRet, eRet, xKSIf, eSIf, xKExpr, eExpr, xKSetF, eSetF, xKSetN, eSetN, xKFor, eFor, xKUnp, eUnpF, xKUnpN, eUnpN, xKPar2, xKPar, ePar, xKOwn, eOwn, xKApp2, xKApp, eApp, xKExt3, xKExt2, xKExt, eExt, xKAug3, xKAug2, xKAug, eAugF, xKAugN2, xKAugN, eAugN, sSeq, sNext, sRetN, fVar, fC, fNil, fNo, fDictK, fDictT, vN, vF, startS, asB, asI, truD, isDict, isT, seqD, ownL, ownD, frAt, okM, exL, vw, oRev, fYes, ↓reduceIte, List.map_cons, List.map_nil, List.length_cons, List.length_nil, List.replicate, List.cons_append, List.nil_append, List.append_nil, List.getElem?_cons_zero, List.getElem?_cons_succ, List.set_cons_zero, List.set_cons_succ, Option.map_some, Option.map_none, Option.bind_some, Option.bind_none, Sl.dat, Sl.frz, Nat.sub_self, Nat.reduceSub, Nat.reduceAdd, Bool.not_true, Bool.not_false, Bool.false_eq_true, if_true, if_false, reduceCtorEq, Nat.reduceLeDiff, true_and, cut_at, cut_to, cut_from, cut_fromA, Nat.zero_le, and_true, decide_true, setS, List.foldl_cons, List.foldl_nil, setE, wipeE, List.foldl_append, decide_false, Int.natCast_one, Int.natCast_zero, Int.cast_ofNat_Int, Int.reduceEq, oEqS, oNeS, oEqI, oNeI, oLtS, oLtI, oLeI, oGtI, oGeI, oAddS, oAddI', oAddT, oAddL, oLenS, oLenT, oLenL, oSlS, oSlT, oSlL, oSub, oTuple, oIx0, oIx1, oMulS, oMulI, oFdivI, oIsB, oIsntB, oIsN, oIsntN, isNone]
    exact p_loop (R := R) ⟨hfit, hwab, by omega, .inl (by omega)⟩ hD _ _ _ _ _ _ _ _ _ _ _ _ _ _
end K68
set_option Elab.async false
set_option linter.all false
set_option maxRecDepth 100000
set_option maxHeartbeats 4000000
set_option autoImplicit false
namespace K68
open PySem L2 T2 PySem.Spec PyProof.Rows
abbrev prog : Program := PySem.Challenge.pw_tworeadings_k68_rules_and_ways
def topS (i : Nat) : Stmt := prog.main.body.getD i (.Pass ⟨0, 0, 0, 0⟩)
abbrev s_is_number : Stmt := topS 1
abbrev s_is_ascending : Stmt := topS 2
abbrev s_is_word : Stmt := topS 6
abbrev s_places_of : Stmt := topS 7
abbrev s_is_less : Stmt := topS 12
abbrev s_is_rule : Stmt := topS 13
abbrev s_are_rules : Stmt := topS 14
abbrev s_steps_of : Stmt := topS 15
abbrev s_after : Stmt := topS 16
abbrev s_is_step : Stmt := topS 17
abbrev s_end_of : Stmt := topS 18
abbrev s_is_way : Stmt := topS 19
abbrev s_is_end : Stmt := topS 20
abbrev s_plain_step : Stmt := topS 21
abbrev s_plain_way : Stmt := topS 22
abbrev s_plain_end : Stmt := topS 23
abbrev s__law_box : Stmt := topS 25
abbrev s__law_load : Stmt := topS 26
abbrev s__law_draw : Stmt := topS 27
abbrev s__law_same : Stmt := topS 28
abbrev s__law_word : Stmt := topS 29
abbrev s__law_before : Stmt := topS 30
abbrev s__law_rules : Stmt := topS 31
abbrev s__law_steps : Stmt := topS 32
abbrev s__law_after : Stmt := topS 33
abbrev s__law_plain : Stmt := topS 34
abbrev s__law_bad : Stmt := topS 35
abbrev s__law_leads : Stmt := topS 36
abbrev s__law_bent : Stmt := topS 37
abbrev s_law : Stmt := topS 38
structure Txt (K : PySem.W.Frag) (mg : Str → Option Value) : Prop where
  b_all : mg "all" = none
  b_bool : mg "bool" = none
  b_enumerate : mg "enumerate" = none
  b_int : mg "int" = none
  b_isinstance : mg "isinstance" = none
  b_len : mg "len" = none
  b_list : mg "list" = none
  b_min : mg "min" = none
  b_range : mg "range" = none
  b_sorted : mg "sorted" = none
  b_str : mg "str" = none
  b_tuple : mg "tuple" = none
  g_LETTERS : ∃ t, mg "LETTERS" = some (.str (Str.ofString "abcdefghijklmnopqrstuvwxyz") t)
  g_MAX_LEFT : ∃ t, mg "MAX_LEFT" = some (.int 12 t)
  g_MAX_RULES : ∃ t, mg "MAX_RULES" = some (.int 24 t)
  g_MAX_SEEN : ∃ t, mg "MAX_SEEN" = some (.int 2000 t)
  g_MAX_WORD : ∃ t, mg "MAX_WORD" = some (.int 60 t)
  d_is_number : DefAt K mg "is_number" s_is_number ["value", "least", "most"]
  d_is_ascending : DefAt K mg "is_ascending" s_is_ascending ["rows"]
  d_is_word : DefAt K mg "is_word" s_is_word ["value"]
  d_places_of : DefAt K mg "places_of" s_places_of ["part", "word"]
  d_is_less : DefAt K mg "is_less" s_is_less ["one", "other"]
  d_is_rule : DefAt K mg "is_rule" s_is_rule ["value"]
  d_are_rules : DefAt K mg "are_rules" s_are_rules ["value"]
  d_steps_of : DefAt K mg "steps_of" s_steps_of ["rules", "word"]
  d_after : DefAt K mg "after" s_after ["rules", "word", "step"]
  d_is_step : DefAt K mg "is_step" s_is_step ["rules", "word", "value"]
  d_end_of : DefAt K mg "end_of" s_end_of ["rules", "word", "value"]
  d_is_way : DefAt K mg "is_way" s_is_way ["rules", "word", "other", "value"]
  d_is_end : DefAt K mg "is_end" s_is_end ["rules", "word"]
  d_plain_step : DefAt K mg "plain_step" s_plain_step ["rules", "word"]
  d_plain_way : DefAt K mg "plain_way" s_plain_way ["rules", "word"]
  d_plain_end : DefAt K mg "plain_end" s_plain_end ["rules", "word"]
  d__law_box : DefAt K mg "_law_box" s__law_box ["script"]
  d__law_load : DefAt K mg "_law_load" s__law_load ["box"]
  d__law_draw : DefAt K mg "_law_draw" s__law_draw ["box", "many"]
  d__law_same : DefAt K mg "_law_same" s__law_same ["a", "b"]
  d__law_word : DefAt K mg "_law_word" s__law_word ["box", "most", "letters"]
  d__law_before : DefAt K mg "_law_before" s__law_before ["one", "other"]
  d__law_rules : DefAt K mg "_law_rules" s__law_rules ["box", "most", "long", "letters"]
  d__law_steps : DefAt K mg "_law_steps" s__law_steps ["rules", "word"]
  d__law_after : DefAt K mg "_law_after" s__law_after ["rules", "word", "step"]
  d__law_plain : DefAt K mg "_law_plain" s__law_plain ["rules", "word"]
  d__law_bad : DefAt K mg "_law_bad" s__law_bad ["box", "rules"]
  d__law_leads : DefAt K mg "_law_leads" s__law_leads ["rules", "word", "value"]
  d__law_bent : DefAt K mg "_law_bent" s__law_bent ["box", "way"]
  d_law : DefAt K mg "law" s_law ["script"]
section
variable {P : Program} {w : World} {K : PySem.W.Frag} {mg : Str → Option Value} {base : Heap}
theorem sc__law_after : FnScope ["rules", "word", "step", "left", "right"] ["rules", "word", "step"] (defScope s__law_after) := ⟨rfl, rfl, rfl, by decide +kernel, rfl, by decide +kernel, by decide +kernel⟩
theorem body__law_after (T : Txt K mg) : Body P w K mg base "_law_after" s__law_after ["rules", "word", "step", "left", "right"] 0 (F__law_after) := fun f cdv A outer s H E hr =>
  have nd := sc__law_after.nd
  (qss_cons (qs_unpF (.tup [(.name 3), (.name 4)]) (q_ix ix_oIx (qv 0) (q_ix ix_oIx (qv 2) q_int)) (pp_tup (pps_cons (pp_name nd) (pps_cons (pp_name nd) pps_nil))))
    (qss_one (qs_ret (q_bin op_oAdd (q_bin op_oAdd (q_sl (qv 1) qo_none (qo_some (q_ix ix_oIx (qv 2) q_int))) (qv 4)) (q_sl (qv 1) (qo_some (q_bin op_oAdd (q_ix ix_oIx (qv 2) q_int) (q_len T.b_len (qa_cons (qv 3) qa_nil)))) qo_none)))))
theorem sc__law_bad : FnScope ["box", "rules", "odd", "at", "one", "rows"] ["box", "rules"] (defScope s__law_bad) := ⟨rfl, rfl, rfl, by decide +kernel, rfl, by decide +kernel, by decide +kernel⟩
theorem body__law_bad {sp__law_draw : QSp} (T : Txt K mg) (C__law_draw : Callee P w K mg base "_law_draw" 2 ["box", "many"] sp__law_draw) : Body P w K mg base "_law_bad" s__law_bad ["box", "rules", "odd", "at", "one", "rows"] 2 (F__law_bad sp__law_draw) := fun f cdv A outer s H E hr =>
  have nd := sc__law_bad.nd
  (qss_cons (qs_setF (i := 2) (q_lst (qa_cons (q_tup (qa_cons (q_strD [97]) (qa_cons (q_strD [97]) qa_nil))) (qa_cons (q_tup (qa_cons (q_strD [97]) (qa_cons (q_strD [98]) qa_nil))) (qa_cons (q_tup (qa_cons (q_strD []) (qa_cons (q_strD []) qa_nil))) (qa_cons (q_tup (qa_cons (q_strD [97]) (qa_cons (q_strD [97, 97]) qa_nil))) (qa_cons (q_tup (qa_cons (q_bin op_oMul (q_strD [97]) q_int) (qa_cons (q_strD []) qa_nil))) (qa_cons (q_tup (qa_cons (q_strD [65]) (qa_cons (q_strD []) qa_nil))) (qa_cons (q_tup (qa_cons (q_strD [97]) (qa_cons q_non qa_nil))) (qa_cons (q_tup (qa_cons (q_strD [97]) qa_nil)) (qa_cons (q_tup (qa_cons (q_strD [97]) (qa_cons (q_strD []) (qa_cons (q_strD []) qa_nil)))) (qa_cons q_non (qa_cons (q_strD [97, 98]) (qa_cons (q_tup (qa_cons (q_strD [97, 98]) (qa_cons (q_strD [98, 97]) qa_nil))) qa_nil))))))))))))) nd)
    (qss_cons (qs_setF (i := 3) (q_call C__law_draw hr (qa_cons (qv 0) (qa_cons (q_bin op_oAdd (q_len T.b_len (qa_cons (qv 1) qa_nil)) q_int) qa_nil))) nd)
    (qss_cons (qs_setF (i := 4) (q_ix ix_oIx (qv 2) (q_call C__law_draw hr (qa_cons (qv 0) (qa_cons q_int qa_nil)))) nd)
    (qss_cons (qs_setF (i := 5) (q_lst (qa_cons (q_bin op_oAdd (q_bin op_oAdd (q_sl (qv 1) qo_none (qo_some (qv 3))) (q_tup (qa_cons (qv 4) qa_nil))) (q_sl (qv 1) (qo_some (qv 3)) qo_none)) (qa_cons (q_bin op_oAdd (q_bin op_oAdd (q_sl (qv 1) qo_none (qo_some (qv 3))) (q_tup (qa_cons (qv 4) qa_nil))) (q_sl (qv 1) (qo_some (q_bin op_oAdd (qv 3) q_int)) qo_none)) (qa_cons (q_if (q_tcmp (op_oNe hr.units) (qv 1) (q_tup qa_nil)) (q_bin op_oAdd (qv 1) (q_sl (qv 1) (qo_some (q_neg q_int)) qo_none)) q_non) (qa_cons (q_if (q_tcmp (op_oGt hr.units) (q_len T.b_len (qa_cons (qv 1) qa_nil)) q_int) (q_rev (qv 1)) q_int) (qa_cons q_non (qa_cons (q_strD [114, 117, 108, 101, 115]) (qa_cons (q_tup (qa_cons (qv 4) qa_nil)) (qa_cons (q_tup (qa_cons (q_tup (qa_cons (q_strD [97]) (qa_cons (q_strD []) qa_nil))) (qa_cons (q_tup (qa_cons (q_strD [97]) (qa_cons (q_strD []) qa_nil))) qa_nil))) qa_nil))))))))) nd)
    (qss_one (qs_ret (q_ix ix_oIx (qv 5) (q_call C__law_draw hr (qa_cons (qv 0) (qa_cons q_int qa_nil))))))))))
theorem sc__law_bent : FnScope ["box", "way", "at", "rows", "step"] ["box", "way"] (defScope s__law_bent) := ⟨rfl, rfl, rfl, by decide +kernel, rfl, by decide +kernel, by decide +kernel⟩
theorem body__law_bent {sp__law_draw : QSp} (T : Txt K mg) (C__law_draw : Callee P w K mg base "_law_draw" 2 ["box", "many"] sp__law_draw) : Body P w K mg base "_law_bent" s__law_bent ["box", "way", "at", "rows", "step"] 2 (F__law_bent sp__law_draw) := fun f cdv A outer s H E hr =>
  have nd := sc__law_bent.nd
  (qss_cons (qs_setF (i := 2) (q_call C__law_draw hr (qa_cons (qv 0) (qa_cons (q_bin op_oAdd (q_len T.b_len (qa_cons (qv 1) qa_nil)) q_int) qa_nil))) nd)
    (qss_cons (qs_setF (i := 3) (q_lst (qa_cons (qv 1) (qa_cons (q_bin op_oAdd (q_sl (qv 1) qo_none (qo_some (qv 2))) (q_sl (qv 1) (qo_some (q_bin op_oAdd (qv 2) q_int)) qo_none)) (qa_cons (q_rev (qv 1)) (qa_cons (q_bin op_oAdd (qv 1) (q_sl (qv 1) (qo_some (q_neg q_int)) qo_none)) (qa_cons (q_bin op_oAdd (q_bin op_oAdd (q_sl (qv 1) qo_none (qo_some (qv 2))) (q_tup (qa_cons (q_tup (qa_cons (q_call C__law_draw hr (qa_cons (qv 0) (qa_cons q_int qa_nil))) (qa_cons (q_call C__law_draw hr (qa_cons (qv 0) (qa_cons q_int qa_nil))) qa_nil))) qa_nil))) (q_sl (qv 1) (qo_some (qv 2)) qo_none)) (qa_cons q_non (qa_cons (q_strD [119, 97, 121]) (qa_cons (q_bin op_oAdd (qv 1) (q_tup (qa_cons q_non qa_nil))) (qa_cons (q_bin op_oAdd (qv 1) (q_tup (qa_cons (q_tup (qa_cons q_int qa_nil)) qa_nil))) (qa_cons (q_bin op_oAdd (qv 1) (q_tup (qa_cons (q_tup (qa_cons q_int (qa_cons (q_neg q_int) qa_nil))) qa_nil))) (qa_cons (q_bin op_oAdd (q_sl (qv 1) qo_none (qo_some (qv 2))) (q_tuple T.b_tuple (qa_cons (q_lc (own := [("step", 4)]) (.name 4) (qi_seq (q_sl (qv 1) (qo_some (qv 2)) qo_none)) (fun _ _ _ _ _ => (pp_name nd)) (fun _ _ _ _ _ => qts_nil) (fun _ _ _ _ _ => (q_tup (qa_cons (q_ix ix_oIx (qv 4) q_int) (qa_cons (q_ix ix_oIx (qv 4) q_int) qa_nil)))) nd rfl) qa_nil))) (qa_cons (q_tup qa_nil) qa_nil))))))))))))) nd)
    (qss_one (qs_ret (q_ix ix_oIx (qv 3) (q_call C__law_draw hr (qa_cons (qv 0) (qa_cons q_int qa_nil))))))))
theorem sc__law_steps : FnScope ["rules", "word", "found", "k", "left", "place"] ["rules", "word"] (defScope s__law_steps) := ⟨rfl, rfl, rfl, by decide +kernel, rfl, by decide +kernel, by decide +kernel⟩
theorem body__law_steps (T : Txt K mg) : Body P w K mg base "_law_steps" s__law_steps ["rules", "word", "found", "k", "left", "place"] 0 (F__law_steps) := fun f cdv A outer s H E hr =>
  have nd := sc__law_steps.nd
  (qss_cons (qs_own (i := 2) (ql_lst qa_nil) nd)
    (qss_cons (qs_for (.name 3) (qi_range1 T.b_range (q_len T.b_len (qa_cons (qv 0) qa_nil))) (pp_name nd) (qss_cons (qs_setF (i := 4) (q_ix ix_oIx (q_ix ix_oIx (qv 0) (qv 3)) q_int) nd)
    (qss_one (qs_ext true (i := 2) (pv 2) (q_lc (own := [("place", 5)]) (.name 5) (qi_range1 T.b_range (q_len T.b_len (qa_cons (qv 1) qa_nil))) (fun _ _ _ _ _ => (pp_name nd)) (fun _ _ _ _ _ => (qts_one (q_tcmp (op_oEq hr.units) (q_sl (qv 1) (qo_some (qv 5)) (qo_some (q_bin op_oAdd (qv 5) (q_len T.b_len (qa_cons (qv 4) qa_nil))))) (qv 4)))) (fun _ _ _ _ _ => (q_tup (qa_cons (qv 3) (qa_cons (qv 5) qa_nil)))) nd rfl)))))
    (qss_one (qs_ret (qv 2)))))
theorem sc__law_leads : FnScope ["rules", "word", "value", "step", "k"] ["rules", "word", "value"] (defScope s__law_leads) := ⟨rfl, rfl, rfl, by decide +kernel, rfl, by decide +kernel, by decide +kernel⟩
theorem body__law_leads {sp__law_after : QSp} {sp__law_steps : QSp} (T : Txt K mg) (C__law_after : Callee P w K mg base "_law_after" 1 ["rules", "word", "step"] sp__law_after) (C__law_steps : Callee P w K mg base "_law_steps" 1 ["rules", "word"] sp__law_steps) : Body P w K mg base "_law_leads" s__law_leads ["rules", "word", "value", "step", "k"] 1 (F__law_leads sp__law_after sp__law_steps) := fun f cdv A outer s H E hr =>
  have nd := sc__law_leads.nd
  (qss_cons (qs_if (q_tnot (q_truth (q_isi .tuple T.b_isinstance T.b_tuple (qv 2)))) (qss_one (qs_ret q_non)) qss_nil)
    (qss_cons (qs_for (.name 3) (qi_seq (qv 2)) (pp_name nd) (qss_cons (qs_if (q_w (q_tor (q_tnot (q_truth (q_isi .tuple T.b_isinstance T.b_tuple (qv 3)))) (q_tor (q_tcmp (op_oNe hr.units) (q_len T.b_len (qa_cons (qv 3) qa_nil)) q_int) (q_tor (q_tnot (q_truth (q_all T.b_all (qa_cons (q_lc (own := [("k", 4)]) (.name 4) (qi_seq (qv 3)) (fun _ _ _ _ _ => (pp_name nd)) (fun _ _ _ _ _ => qts_nil) (fun _ _ _ _ _ => (q_and (q_isi .int T.b_isinstance T.b_int (qv 4)) (q_one (q_not (q_isi .bool T.b_isinstance T.b_bool (qv 4)))))) nd rfl) qa_nil)))) (q_or1 (q_tcmp (op_oNotIn hr.units) (qv 3) (q_call C__law_steps hr (qa_cons (qv 0) (qa_cons (qv 1) qa_nil))))))))) (qss_one (qs_ret q_non)) qss_nil)
    (qss_one (qs_setF (i := 1) (q_call C__law_after hr (qa_cons (qv 0) (qa_cons (qv 1) (qa_cons (qv 3) qa_nil)))) nd))))
    (qss_one (qs_ret (qv 1)))))
theorem sc__law_plain : FnScope ["rules", "word", "way", "steps", "place", "step"] ["rules", "word"] (defScope s__law_plain) := ⟨rfl, rfl, rfl, by decide +kernel, rfl, by decide +kernel, by decide +kernel⟩
theorem body__law_plain {sp__law_after : QSp} {sp__law_steps : QSp} (T : Txt K mg) (C__law_after : Callee P w K mg base "_law_after" 1 ["rules", "word", "step"] sp__law_after) (C__law_steps : Callee P w K mg base "_law_steps" 1 ["rules", "word"] sp__law_steps) : Body P w K mg base "_law_plain" s__law_plain ["rules", "word", "way", "steps", "place", "step"] 1 (F__law_plain sp__law_after sp__law_steps) := fun f cdv A outer s H E hr =>
  have nd := sc__law_plain.nd
  (qss_cons (qs_setF (i := 2) (q_tup qa_nil) nd)
    (qss_one (qs_while (q_tval q_bl) (qss_cons (qs_setF (i := 3) (q_call C__law_steps hr (qa_cons (qv 0) (qa_cons (qv 1) qa_nil))) nd)
    (qss_cons (qs_if (q_tcmp (op_oEq hr.units) (qv 3) (q_lst qa_nil)) (qss_one (qs_ret (q_tup (qa_cons (qv 2) (qa_cons (qv 1) qa_nil))))) qss_nil)
    (qss_cons (qs_setF (i := 4) (q_min hr.units T.b_min (qa_cons (q_lc (own := [("step", 5)]) (.name 5) (qi_seq (qv 3)) (fun _ _ _ _ _ => (pp_name nd)) (fun _ _ _ _ _ => qts_nil) (fun _ _ _ _ _ => (q_ix ix_oIx (qv 5) q_int)) nd rfl) qa_nil)) nd)
    (qss_cons (qs_setF (i := 5) (q_min hr.units T.b_min (qa_cons (q_lc (own := [("step", 5)]) (.name 5) (qi_seq (qv 3)) (fun _ _ _ _ _ => (pp_name nd)) (fun _ _ _ _ _ => (qts_one (q_tcmp (op_oEq hr.units) (q_ix ix_oIx (qv 5) q_int) (qv 4)))) (fun _ _ _ _ _ => (qv 5)) nd rfl) qa_nil)) nd)
    (qss_one (qs_par (i := 2) (j := 1) (q_bin op_oAdd (qv 2) (q_tup (qa_cons (qv 5) qa_nil))) (q_call C__law_after hr (qa_cons (qv 0) (qa_cons (qv 1) (qa_cons (qv 5) qa_nil)))) nd)))))))))
theorem sc__law_before : FnScope ["one", "other"] ["one", "other"] (defScope s__law_before) := ⟨rfl, rfl, rfl, by decide +kernel, rfl, by decide +kernel, by decide +kernel⟩
theorem body__law_before (T : Txt K mg) : Body P w K mg base "_law_before" s__law_before ["one", "other"] 0 (F__law_before) := fun f cdv A outer s H E hr =>
  have nd := sc__law_before.nd
  (qss_one (qs_ret (q_or (q_cmp (op_oLt hr.units) (q_len T.b_len (qa_cons (qv 0) qa_nil)) (q_len T.b_len (qa_cons (qv 1) qa_nil))) (q_one (q_and (q_cmp (op_oEq hr.units) (q_len T.b_len (qa_cons (qv 0) qa_nil)) (q_len T.b_len (qa_cons (qv 1) qa_nil))) (q_one (q_cmp (op_oLt hr.units) (qv 0) (qv 1))))))))
theorem sc__law_word : FnScope ["box", "most", "letters", "k"] ["box", "most", "letters"] (defScope s__law_word) := ⟨rfl, rfl, rfl, by decide +kernel, rfl, by decide +kernel, by decide +kernel⟩
theorem body__law_word {sp__law_draw : QSp} (T : Txt K mg) (C__law_draw : Callee P w K mg base "_law_draw" 2 ["box", "many"] sp__law_draw) : Body P w K mg base "_law_word" s__law_word ["box", "most", "letters", "k"] 2 (F__law_word sp__law_draw) := fun f cdv A outer s H E hr =>
  have nd := sc__law_word.nd
  (qss_one (qs_ret (q_join (q_strD []) (q_lc (own := [("k", 3)]) (.name 3) (qi_range1 T.b_range (q_call C__law_draw hr (qa_cons (qv 0) (qa_cons (q_bin op_oAdd (qv 1) q_int) qa_nil)))) (fun _ _ _ _ _ => (pp_name nd)) (fun _ _ _ _ _ => qts_nil) (fun _ _ _ _ _ => (q_ix ix_oIx (qv 2) (q_call C__law_draw hr (qa_cons (qv 0) (qa_cons (q_len T.b_len (qa_cons (qv 2) qa_nil)) qa_nil))))) nd rfl))))
theorem sc__law_rules : FnScope ["box", "most", "long", "letters", "found", "turn", "left", "right"] ["box", "most", "long", "letters"] (defScope s__law_rules) := ⟨rfl, rfl, rfl, by decide +kernel, rfl, by decide +kernel, by decide +kernel⟩
theorem body__law_rules {sp__law_before : QSp} {sp__law_draw : QSp} {sp__law_word : QSp} (T : Txt K mg) (C__law_before : Callee P w K mg base "_law_before" 1 ["one", "other"] sp__law_before) (C__law_draw : Callee P w K mg base "_law_draw" 2 ["box", "many"] sp__law_draw) (C__law_word : Callee P w K mg base "_law_word" 3 ["box", "most", "letters"] sp__law_word) : Body P w K mg base "_law_rules" s__law_rules ["box", "most", "long", "letters", "found", "turn", "left", "right"] 3 (F__law_rules sp__law_before sp__law_draw sp__law_word) := fun f cdv A outer s H E hr =>
  have nd := sc__law_rules.nd
  (qss_cons (qs_own (i := 4) ql_dictT nd)
    (qss_cons (qs_for (.name 5) (qi_range1 T.b_range (q_call C__law_draw hr (qa_cons (qv 0) (qa_cons (q_bin op_oAdd (qv 1) q_int) qa_nil)))) (pp_name nd) (qss_cons (qs_setF (i := 6) (q_bin op_oAdd (q_ix ix_oIx (qv 3) (q_call C__law_draw hr (qa_cons (qv 0) (qa_cons (q_len T.b_len (qa_cons (qv 3) qa_nil)) qa_nil)))) (q_call C__law_word hr (qa_cons (qv 0) (qa_cons (q_bin op_oSub (qv 2) q_int) (qa_cons (qv 3) qa_nil))))) nd)
    (qss_cons (qs_setF (i := 7) (q_call C__law_word hr (qa_cons (qv 0) (qa_cons (qv 2) (qa_cons (qv 3) qa_nil)))) nd)
    (qss_one (qs_if (q_truth (q_call C__law_before hr (qa_cons (qv 7) (qa_cons (qv 6) qa_nil)))) (qss_one (qs_putD hr.units true (i := 4) (pv 4) (q_tup (qa_cons (qv 6) (qa_cons (qv 7) qa_nil))) q_bl)) qss_nil)))))
    (qss_one (qs_ret (q_tuple T.b_tuple (qa_cons (q_sortedD hr.units T.b_sorted (qa_cons (qv 4) qa_nil)) qa_nil))))))
theorem sc__law_same : FnScope ["a", "b", "k"] ["a", "b"] (defScope s__law_same) := ⟨rfl, rfl, rfl, by decide +kernel, rfl, by decide +kernel, by decide +kernel⟩
theorem body__law_same {j : Nat} {sp__law_same : QSp} (T : Txt K mg) (C__law_same : Callee P w K mg base "_law_same" j ["a", "b"] sp__law_same) : Body P w K mg base "_law_same" s__law_same ["a", "b", "k"] j (F__law_same sp__law_same) := fun f cdv A outer s H E hr =>
  have nd := sc__law_same.nd
  (qss_cons (qs_if (q_w (q_tor (q_w (q_tand (q_truth (q_isi .tuple T.b_isinstance T.b_tuple (qv 0))) (q_and1 (q_truth (q_isi .tuple T.b_isinstance T.b_tuple (qv 1)))))) (q_or1 (q_w (q_tand (q_truth (q_isi .list T.b_isinstance T.b_list (qv 0))) (q_and1 (q_truth (q_isi .list T.b_isinstance T.b_list (qv 1))))))))) (qss_one (qs_ret (q_and (q_cmp (op_oEq hr.units) (q_len T.b_len (qa_cons (qv 0) qa_nil)) (q_len T.b_len (qa_cons (qv 1) qa_nil))) (q_one (q_all T.b_all (qa_cons (q_lc (own := [("k", 2)]) (.name 2) (qi_range1 T.b_range (q_len T.b_len (qa_cons (qv 0) qa_nil))) (fun _ _ _ _ _ => (pp_name nd)) (fun _ _ _ _ _ => qts_nil) (fun _ _ _ _ _ => (q_call C__law_same hr (qa_cons (q_ix ix_oIx (qv 0) (qv 2)) (qa_cons (q_ix ix_oIx (qv 1) (qv 2)) qa_nil)) (Nat.le_refl _))) nd rfl) qa_nil)))))) qss_nil)
    (qss_cons (qs_if (q_w (q_tor (q_truth (q_isi .bool T.b_isinstance T.b_bool (qv 0))) (q_or1 (q_truth (q_isi .bool T.b_isinstance T.b_bool (qv 1)))))) (qss_one (qs_ret (q_and (q_isi .bool T.b_isinstance T.b_bool (qv 0)) (q_and (q_isi .bool T.b_isinstance T.b_bool (qv 1)) (q_one (q_cmp (op_oEq hr.units) (qv 0) (qv 1))))))) qss_nil)
    (qss_cons (qs_if (q_w (q_tor (q_w (q_tand (q_truth (q_isi .int T.b_isinstance T.b_int (qv 0))) (q_and1 (q_truth (q_isi .int T.b_isinstance T.b_int (qv 1)))))) (q_or1 (q_w (q_tand (q_truth (q_isi .str T.b_isinstance T.b_str (qv 0))) (q_and1 (q_truth (q_isi .str T.b_isinstance T.b_str (qv 1))))))))) (qss_one (qs_ret (q_cmp (op_oEq hr.units) (qv 0) (qv 1)))) qss_nil)
    (qss_one (qs_ret (q_and (q_cmp op_oIs (qv 0) q_non) (q_one (q_cmp op_oIs (qv 1) q_non))))))))
theorem sc_after : FnScope ["rules", "word", "step", "left", "right"] ["rules", "word", "step"] (defScope s_after) := ⟨rfl, rfl, rfl, by decide +kernel, rfl, by decide +kernel, by decide +kernel⟩
theorem body_after (T : Txt K mg) : Body P w K mg base "after" s_after ["rules", "word", "step", "left", "right"] 0 (F_after) := fun f cdv A outer s H E hr =>
  have nd := sc_after.nd
  (qss_cons (qs_unpF (.tup [(.name 3), (.name 4)]) (q_ix ix_oIx (qv 0) (q_ix ix_oIx (qv 2) q_int)) (pp_tup (pps_cons (pp_name nd) (pps_cons (pp_name nd) pps_nil))))
    (qss_one (qs_ret (q_bin op_oAdd (q_bin op_oAdd (q_sl (qv 1) qo_none (qo_some (q_ix ix_oIx (qv 2) q_int))) (qv 4)) (q_sl (qv 1) (qo_some (q_bin op_oAdd (q_ix ix_oIx (qv 2) q_int) (q_len T.b_len (qa_cons (qv 3) qa_nil)))) qo_none)))))
theorem sc_is_ascending : FnScope ["rows", "k"] ["rows"] (defScope s_is_ascending) := ⟨rfl, rfl, rfl, by decide +kernel, rfl, by decide +kernel, by decide +kernel⟩
theorem body_is_ascending (T : Txt K mg) : Body P w K mg base "is_ascending" s_is_ascending ["rows", "k"] 0 (F_is_ascending) := fun f cdv A outer s H E hr =>
  have nd := sc_is_ascending.nd
  (qss_one (qs_ret (q_all T.b_all (qa_cons (q_lc (own := [("k", 1)]) (.name 1) (qi_range1 T.b_range (q_bin op_oSub (q_len T.b_len (qa_cons (qv 0) qa_nil)) q_int)) (fun _ _ _ _ _ => (pp_name nd)) (fun _ _ _ _ _ => qts_nil) (fun _ _ _ _ _ => (q_cmp (op_oLt hr.units) (q_ix ix_oIx (qv 0) (qv 1)) (q_ix ix_oIx (qv 0) (q_bin op_oAdd (qv 1) q_int)))) nd rfl) qa_nil))))
theorem sc_is_less : FnScope ["one", "other"] ["one", "other"] (defScope s_is_less) := ⟨rfl, rfl, rfl, by decide +kernel, rfl, by decide +kernel, by decide +kernel⟩
theorem body_is_less (T : Txt K mg) : Body P w K mg base "is_less" s_is_less ["one", "other"] 0 (F_is_less) := fun f cdv A outer s H E hr =>
  have nd := sc_is_less.nd
  (qss_one (qs_ret (q_cmp (op_oLt hr.units) (q_tup (qa_cons (q_len T.b_len (qa_cons (qv 0) qa_nil)) (qa_cons (qv 0) qa_nil))) (q_tup (qa_cons (q_len T.b_len (qa_cons (qv 1) qa_nil)) (qa_cons (qv 1) qa_nil))))))
theorem sc_is_word : FnScope ["value", "letter"] ["value"] (defScope s_is_word) := ⟨rfl, rfl, rfl, by decide +kernel, rfl, by decide +kernel, by decide +kernel⟩
theorem body_is_word (T : Txt K mg) : Body P w K mg base "is_word" s_is_word ["value", "letter"] 0 (F_is_word) := fun f cdv A outer s H E hr =>
  have nd := sc_is_word.nd
  (qss_one (qs_ret (q_and (q_isi .str T.b_isinstance T.b_str (qv 0)) (q_and (q_cmp (op_oLe hr.units) (q_len T.b_len (qa_cons (qv 0) qa_nil)) (q_ginte T.g_MAX_WORD)) (q_one (q_all T.b_all (qa_cons (q_lc (own := [("letter", 1)]) (.name 1) (qi_seq (qv 0)) (fun _ _ _ _ _ => (pp_name nd)) (fun _ _ _ _ _ => qts_nil) (fun _ _ _ _ _ => (q_cmp (op_oIn hr.units) (qv 1) (q_gstre [97, 98, 99, 100, 101, 102, 103, 104, 105, 106, 107, 108, 109, 110, 111, 112, 113, 114, 115, 116, 117, 118, 119, 120, 121, 122] T.g_LETTERS))) nd rfl) qa_nil)))))))
theorem sc_is_rule : FnScope ["value"] ["value"] (defScope s_is_rule) := ⟨rfl, rfl, rfl, by decide +kernel, rfl, by decide +kernel, by decide +kernel⟩
theorem body_is_rule {sp_is_less : QSp} {sp_is_word : QSp} (T : Txt K mg) (C_is_less : Callee P w K mg base "is_less" 1 ["one", "other"] sp_is_less) (C_is_word : Callee P w K mg base "is_word" 1 ["value"] sp_is_word) : Body P w K mg base "is_rule" s_is_rule ["value"] 1 (F_is_rule sp_is_less sp_is_word) := fun f cdv A outer s H E hr =>
  have nd := sc_is_rule.nd
  (qss_cons (qs_if (q_w (q_tor (q_tnot (q_truth (q_isi .tuple T.b_isinstance T.b_tuple (qv 0)))) (q_tor (q_tcmp (op_oNe hr.units) (q_len T.b_len (qa_cons (qv 0) qa_nil)) q_int) (q_tor (q_tnot (q_truth (q_call C_is_word hr (qa_cons (q_ix ix_oIx (qv 0) q_int) qa_nil)))) (q_or1 (q_tnot (q_truth (q_call C_is_word hr (qa_cons (q_ix ix_oIx (qv 0) q_int) qa_nil))))))))) (qss_one (qs_ret q_bl)) qss_nil)
    (qss_one (qs_ret (q_and (q_chain (op_oLe hr.units) (op_oLe hr.units) q_int (q_len T.b_len (qa_cons (q_ix ix_oIx (qv 0) q_int) qa_nil)) (q_ginte T.g_MAX_LEFT)) (q_one (q_call C_is_less hr (qa_cons (q_ix ix_oIx (qv 0) q_int) (qa_cons (q_ix ix_oIx (qv 0) q_int) qa_nil))))))))
theorem sc_are_rules : FnScope ["value", "rule"] ["value"] (defScope s_are_rules) := ⟨rfl, rfl, rfl, by decide +kernel, rfl, by decide +kernel, by decide +kernel⟩
theorem body_are_rules {sp_is_ascending : QSp} {sp_is_rule : QSp} (T : Txt K mg) (C_is_ascending : Callee P w K mg base "is_ascending" 1 ["rows"] sp_is_ascending) (C_is_rule : Callee P w K mg base "is_rule" 2 ["value"] sp_is_rule) : Body P w K mg base "are_rules" s_are_rules ["value", "rule"] 2 (F_are_rules sp_is_ascending sp_is_rule) := fun f cdv A outer s H E hr =>
  have nd := sc_are_rules.nd
  (qss_cons (qs_if (q_w (q_tor (q_tnot (q_truth (q_isi .tuple T.b_isinstance T.b_tuple (qv 0)))) (q_tor (q_tcmp (op_oGt hr.units) (q_len T.b_len (qa_cons (qv 0) qa_nil)) (q_ginte T.g_MAX_RULES)) (q_or1 (q_tnot (q_truth (q_all T.b_all (qa_cons (q_lc (own := [("rule", 1)]) (.name 1) (qi_seq (qv 0)) (fun _ _ _ _ _ => (pp_name nd)) (fun _ _ _ _ _ => qts_nil) (fun _ _ _ _ _ => (q_call C_is_rule hr (qa_cons (qv 1) qa_nil))) nd rfl) qa_nil)))))))) (qss_one (qs_ret q_bl)) qss_nil)
    (qss_one (qs_ret (q_call C_is_ascending hr (qa_cons (qv 0) qa_nil)))))
theorem sc_places_of : FnScope ["part", "word", "k"] ["part", "word"] (defScope s_places_of) := ⟨rfl, rfl, rfl, by decide +kernel, rfl, by decide +kernel, by decide +kernel⟩
theorem body_places_of (T : Txt K mg) : Body P w K mg base "places_of" s_places_of ["part", "word", "k"] 0 (F_places_of) := fun f cdv A outer s H E hr =>
  have nd := sc_places_of.nd
  (qss_one (qs_ret (q_tuple T.b_tuple (qa_cons (q_lc (own := [("k", 2)]) (.name 2) (qi_range1 T.b_range (q_bin op_oAdd (q_bin op_oSub (q_len T.b_len (qa_cons (qv 1) qa_nil)) (q_len T.b_len (qa_cons (qv 0) qa_nil))) q_int)) (fun _ _ _ _ _ => (pp_name nd)) (fun _ _ _ _ _ => (qts_one (q_tcmp (op_oEq hr.units) (q_sl (qv 1) (qo_some (qv 2)) (qo_some (q_bin op_oAdd (qv 2) (q_len T.b_len (qa_cons (qv 0) qa_nil))))) (qv 0)))) (fun _ _ _ _ _ => (qv 2)) nd rfl) qa_nil))))
theorem sc_steps_of : FnScope ["rules", "word", "found", "k", "left", "_", "place"] ["rules", "word"] (defScope s_steps_of) := ⟨rfl, rfl, rfl, by decide +kernel, rfl, by decide +kernel, by decide +kernel⟩
theorem body_steps_of {sp_places_of : QSp} (T : Txt K mg) (C_places_of : Callee P w K mg base "places_of" 1 ["part", "word"] sp_places_of) : Body P w K mg base "steps_of" s_steps_of ["rules", "word", "found", "k", "left", "_", "place"] 1 (F_steps_of sp_places_of) := fun f cdv A outer s H E hr =>
  have nd := sc_steps_of.nd
  (qss_cons (qs_own (i := 2) (ql_lst qa_nil) nd)
    (qss_cons (qs_for (.tup [(.name 3), (.tup [(.name 4), (.name 5)])]) (qi_enum T.b_enumerate (qv 0)) (pp_tup (pps_cons (pp_name nd) (pps_cons (pp_tup (pps_cons (pp_name nd) (pps_cons (pp_name nd) pps_nil))) pps_nil))) (qss_one (qs_ext true (i := 2) (pv 2) (q_lc (own := [("place", 6)]) (.name 6) (qi_seq (q_call C_places_of hr (qa_cons (qv 4) (qa_cons (qv 1) qa_nil)))) (fun _ _ _ _ _ => (pp_name nd)) (fun _ _ _ _ _ => qts_nil) (fun _ _ _ _ _ => (q_tup (qa_cons (qv 3) (qa_cons (qv 6) qa_nil)))) nd rfl))))
    (qss_one (qs_ret (q_tuple T.b_tuple (qa_cons (qv 2) qa_nil))))))
theorem sc_is_end : FnScope ["rules", "word"] ["rules", "word"] (defScope s_is_end) := ⟨rfl, rfl, rfl, by decide +kernel, rfl, by decide +kernel, by decide +kernel⟩
theorem body_is_end {sp_steps_of : QSp} (T : Txt K mg) (C_steps_of : Callee P w K mg base "steps_of" 2 ["rules", "word"] sp_steps_of) : Body P w K mg base "is_end" s_is_end ["rules", "word"] 2 (F_is_end sp_steps_of) := fun f cdv A outer s H E hr =>
  have nd := sc_is_end.nd
  (qss_one (qs_ret (q_cmp (op_oEq hr.units) (q_call C_steps_of hr (qa_cons (qv 0) (qa_cons (qv 1) qa_nil))) (q_tup qa_nil))))
theorem sc_is_number : FnScope ["value", "least", "most"] ["value", "least", "most"] (defScope s_is_number) := ⟨rfl, rfl, rfl, by decide +kernel, rfl, by decide +kernel, by decide +kernel⟩
theorem body_is_number (T : Txt K mg) : Body P w K mg base "is_number" s_is_number ["value", "least", "most"] 0 (F_is_number) := fun f cdv A outer s H E hr =>
  have nd := sc_is_number.nd
  (qss_one (qs_ret (q_and (q_isi .int T.b_isinstance T.b_int (qv 0)) (q_and (q_not (q_isi .bool T.b_isinstance T.b_bool (qv 0))) (q_one (q_chain (op_oLe hr.units) (op_oLe hr.units) (qv 1) (qv 0) (qv 2)))))))
theorem sc_is_step : FnScope ["rules", "word", "value", "left"] ["rules", "word", "value"] (defScope s_is_step) := ⟨rfl, rfl, rfl, by decide +kernel, rfl, by decide +kernel, by decide +kernel⟩
theorem body_is_step {sp_is_number : QSp} (T : Txt K mg) (C_is_number : Callee P w K mg base "is_number" 1 ["value", "least", "most"] sp_is_number) : Body P w K mg base "is_step" s_is_step ["rules", "word", "value", "left"] 1 (F_is_step sp_is_number) := fun f cdv A outer s H E hr =>
  have nd := sc_is_step.nd
  (qss_cons (qs_if (q_w (q_tor (q_tnot (q_truth (q_isi .tuple T.b_isinstance T.b_tuple (qv 2)))) (q_tor (q_tcmp (op_oNe hr.units) (q_len T.b_len (qa_cons (qv 2) qa_nil)) q_int) (q_or1 (q_tnot (q_truth (q_call C_is_number hr (qa_cons (q_ix ix_oIx (qv 2) q_int) (qa_cons q_int (qa_cons (q_bin op_oSub (q_len T.b_len (qa_cons (qv 0) qa_nil)) q_int) qa_nil)))))))))) (qss_one (qs_ret q_bl)) qss_nil)
    (qss_cons (qs_setF (i := 3) (q_ix ix_oIx (q_ix ix_oIx (qv 0) (q_ix ix_oIx (qv 2) q_int)) q_int) nd)
    (qss_cons (qs_if (q_tnot (q_truth (q_call C_is_number hr (qa_cons (q_ix ix_oIx (qv 2) q_int) (qa_cons q_int (qa_cons (q_bin op_oSub (q_len T.b_len (qa_cons (qv 1) qa_nil)) (q_len T.b_len (qa_cons (qv 3) qa_nil))) qa_nil)))))) (qss_one (qs_ret q_bl)) qss_nil)
    (qss_one (qs_ret (q_cmp (op_oEq hr.units) (q_sl (qv 1) (qo_some (q_ix ix_oIx (qv 2) q_int)) (qo_some (q_bin op_oAdd (q_ix ix_oIx (qv 2) q_int) (q_len T.b_len (qa_cons (qv 3) qa_nil))))) (qv 3)))))))
theorem sc_end_of : FnScope ["rules", "word", "value", "step"] ["rules", "word", "value"] (defScope s_end_of) := ⟨rfl, rfl, rfl, by decide +kernel, rfl, by decide +kernel, by decide +kernel⟩
theorem body_end_of {sp_after : QSp} {sp_is_step : QSp} (T : Txt K mg) (C_after : Callee P w K mg base "after" 1 ["rules", "word", "step"] sp_after) (C_is_step : Callee P w K mg base "is_step" 2 ["rules", "word", "value"] sp_is_step) : Body P w K mg base "end_of" s_end_of ["rules", "word", "value", "step"] 2 (F_end_of sp_after sp_is_step) := fun f cdv A outer s H E hr =>
  have nd := sc_end_of.nd
  (qss_cons (qs_if (q_tnot (q_truth (q_isi .tuple T.b_isinstance T.b_tuple (qv 2)))) (qss_one (qs_ret q_non)) qss_nil)
    (qss_cons (qs_for (.name 3) (qi_seq (qv 2)) (pp_name nd) (qss_cons (qs_if (q_tnot (q_truth (q_call C_is_step hr (qa_cons (qv 0) (qa_cons (qv 1) (qa_cons (qv 3) qa_nil)))))) (qss_one (qs_ret q_non)) qss_nil)
    (qss_one (qs_setF (i := 1) (q_call C_after hr (qa_cons (qv 0) (qa_cons (qv 1) (qa_cons (qv 3) qa_nil)))) nd))))
    (qss_one (qs_ret (qv 1)))))
theorem sc_is_way : FnScope ["rules", "word", "other", "value"] ["rules", "word", "other", "value"] (defScope s_is_way) := ⟨rfl, rfl, rfl, by decide +kernel, rfl, by decide +kernel, by decide +kernel⟩
theorem body_is_way {sp_end_of : QSp} (T : Txt K mg) (C_end_of : Callee P w K mg base "end_of" 3 ["rules", "word", "value"] sp_end_of) : Body P w K mg base "is_way" s_is_way ["rules", "word", "other", "value"] 3 (F_is_way sp_end_of) := fun f cdv A outer s H E hr =>
  have nd := sc_is_way.nd
  (qss_one (qs_ret (q_cmp (op_oEq hr.units) (q_call C_end_of hr (qa_cons (qv 0) (qa_cons (qv 1) (qa_cons (qv 3) qa_nil)))) (qv 2))))
theorem sc_plain_step : FnScope ["rules", "word", "place", "k", "left", "_"] ["rules", "word"] (defScope s_plain_step) := ⟨rfl, rfl, rfl, by decide +kernel, rfl, by decide +kernel, by decide +kernel⟩
theorem body_plain_step (T : Txt K mg) : Body P w K mg base "plain_step" s_plain_step ["rules", "word", "place", "k", "left", "_"] 0 (F_plain_step) := fun f cdv A outer s H E hr =>
  have nd := sc_plain_step.nd
  (qss_cons (qs_for (.name 2) (qi_range1 T.b_range (q_len T.b_len (qa_cons (qv 1) qa_nil))) (pp_name nd) (qss_one (qs_for (.tup [(.name 3), (.tup [(.name 4), (.name 5)])]) (qi_enum T.b_enumerate (qv 0)) (pp_tup (pps_cons (pp_name nd) (pps_cons (pp_tup (pps_cons (pp_name nd) (pps_cons (pp_name nd) pps_nil))) pps_nil))) (qss_one (qs_if (q_tcmp (op_oEq hr.units) (q_sl (qv 1) (qo_some (qv 2)) (qo_some (q_bin op_oAdd (qv 2) (q_len T.b_len (qa_cons (qv 4) qa_nil))))) (qv 4)) (qss_one (qs_ret (q_tup (qa_cons (qv 3) (qa_cons (qv 2) qa_nil))))) qss_nil)))))
    (qss_one (qs_ret q_non)))
theorem sc_plain_end : FnScope ["rules", "word", "step"] ["rules", "word"] (defScope s_plain_end) := ⟨rfl, rfl, rfl, by decide +kernel, rfl, by decide +kernel, by decide +kernel⟩
theorem body_plain_end {sp_after : QSp} {sp_plain_step : QSp} (T : Txt K mg) (C_after : Callee P w K mg base "after" 1 ["rules", "word", "step"] sp_after) (C_plain_step : Callee P w K mg base "plain_step" 1 ["rules", "word"] sp_plain_step) : Body P w K mg base "plain_end" s_plain_end ["rules", "word", "step"] 1 (F_plain_end sp_after sp_plain_step) := fun f cdv A outer s H E hr =>
  have nd := sc_plain_end.nd
  (qss_cons (qs_setF (i := 2) (q_call C_plain_step hr (qa_cons (qv 0) (qa_cons (qv 1) qa_nil))) nd)
    (qss_cons (qs_while (q_tcmp op_oIsnt (qv 2) q_non) (qss_cons (qs_setF (i := 1) (q_call C_after hr (qa_cons (qv 0) (qa_cons (qv 1) (qa_cons (qv 2) qa_nil)))) nd)
    (qss_one (qs_setF (i := 2) (q_call C_plain_step hr (qa_cons (qv 0) (qa_cons (qv 1) qa_nil))) nd))))
    (qss_one (qs_ret (qv 1)))))
theorem sc_plain_way : FnScope ["rules", "word", "way", "step"] ["rules", "word"] (defScope s_plain_way) := ⟨rfl, rfl, rfl, by decide +kernel, rfl, by decide +kernel, by decide +kernel⟩
theorem body_plain_way {sp_after : QSp} {sp_plain_step : QSp} (T : Txt K mg) (C_after : Callee P w K mg base "after" 1 ["rules", "word", "step"] sp_after) (C_plain_step : Callee P w K mg base "plain_step" 1 ["rules", "word"] sp_plain_step) : Body P w K mg base "plain_way" s_plain_way ["rules", "word", "way", "step"] 1 (F_plain_way sp_after sp_plain_step) := fun f cdv A outer s H E hr =>
  have nd := sc_plain_way.nd
  (qss_cons (qs_setF (i := 2) (q_tup qa_nil) nd)
    (qss_cons (qs_setF (i := 3) (q_call C_plain_step hr (qa_cons (qv 0) (qa_cons (qv 1) qa_nil))) nd)
    (qss_cons (qs_while (q_tcmp op_oIsnt (qv 3) q_non) (qss_cons (qs_augF (i := 2) iop_oAdd (q_tup (qa_cons (qv 3) qa_nil)) nd)
    (qss_cons (qs_setF (i := 1) (q_call C_after hr (qa_cons (qv 0) (qa_cons (qv 1) (qa_cons (qv 3) qa_nil)))) nd)
    (qss_one (qs_setF (i := 3) (q_call C_plain_step hr (qa_cons (qv 0) (qa_cons (qv 1) qa_nil))) nd)))))
    (qss_one (qs_ret (qv 2))))))
theorem sc_law : FnScope ["script", "box", "letters", "rules", "many", "word", "turn", "steps", "papers", "paper", "way", "last", "found", "step", "k", "rule", "again"] ["script"] (defScope s_law) := ⟨rfl, rfl, rfl, by decide +kernel, rfl, by decide +kernel, by decide +kernel⟩
theorem body_law {sp__law_after : QSp} {sp__law_bad : QSp} {sp__law_bent : QSp} {sp__law_draw : QSp} {sp__law_leads : QSp} {sp__law_plain : QSp} {sp__law_rules : QSp} {sp__law_same : QSp} {sp__law_steps : QSp} {sp__law_word : QSp} {sp_after : QSp} {sp_are_rules : QSp} {sp_is_end : QSp} {sp_is_way : QSp} {sp_plain_end : QSp} {sp_plain_way : QSp} {sp_steps_of : QSp} (T : Txt K mg) (C__law_after : Callee P w K mg base "_law_after" 1 ["rules", "word", "step"] sp__law_after) (C__law_bad : Callee P w K mg base "_law_bad" 3 ["box", "rules"] sp__law_bad) (C__law_bent : Callee P w K mg base "_law_bent" 3 ["box", "way"] sp__law_bent) (C__law_draw : Callee P w K mg base "_law_draw" 2 ["box", "many"] sp__law_draw) (C__law_leads : Callee P w K mg base "_law_leads" 2 ["rules", "word", "value"] sp__law_leads) (C__law_plain : Callee P w K mg base "_law_plain" 2 ["rules", "word"] sp__law_plain) (C__law_rules : Callee P w K mg base "_law_rules" 4 ["box", "most", "long", "letters"] sp__law_rules) (C__law_same : Callee P w K mg base "_law_same" 8 ["a", "b"] sp__law_same) (C__law_steps : Callee P w K mg base "_law_steps" 1 ["rules", "word"] sp__law_steps) (C__law_word : Callee P w K mg base "_law_word" 3 ["box", "most", "letters"] sp__law_word) (C_after : Callee P w K mg base "after" 1 ["rules", "word", "step"] sp_after) (C_are_rules : Callee P w K mg base "are_rules" 3 ["value"] sp_are_rules) (C_is_end : Callee P w K mg base "is_end" 3 ["rules", "word"] sp_is_end) (C_is_way : Callee P w K mg base "is_way" 4 ["rules", "word", "other", "value"] sp_is_way) (C_plain_end : Callee P w K mg base "plain_end" 2 ["rules", "word"] sp_plain_end) (C_plain_way : Callee P w K mg base "plain_way" 2 ["rules", "word"] sp_plain_way) (C_steps_of : Callee P w K mg base "steps_of" 2 ["rules", "word"] sp_steps_of) : ∀ (f : Addr) (cdv : Value) (A : Around) (outer : List Env) (s : Shared) (H : Hp) (E : XK), Room 8 (A.deeper (envOfC "law" (defScope s_law) s.heap.objs.size f cdv)) →
    QSs (cxOf CX0 P w K mg base ["script", "box", "letters", "rules", "many", "word", "turn", "steps", "papers", "paper", "way", "last", "found", "step", "k", "rule", "again"] "law" (defScope s_law) f cdv A outer s H E).nox ((defBody s_law).drop 1) (F_law sp__law_after sp__law_bad sp__law_bent sp__law_draw sp__law_leads sp__law_plain sp__law_rules sp__law_same sp__law_steps sp__law_word sp_after sp_are_rules sp_is_end sp_is_way sp_plain_end sp_plain_way sp_steps_of) := fun f cdv A outer s H E hr =>
  have nd := sc_law.nd
  (qss_cons (qs_setF (i := 2) (q_ix ix_oIx (q_lst (qa_cons (q_strD [97]) (qa_cons (q_strD [97, 98]) (qa_cons (q_strD [97, 98, 99]) qa_nil)))) (q_call C__law_draw hr (qa_cons (qv 1) (qa_cons q_int qa_nil)))) nd)
    (qss_cons (qs_setF (i := 3) (q_call C__law_rules hr (qa_cons (qv 1) (qa_cons q_int (qa_cons q_int (qa_cons (qv 2) qa_nil))))) nd)
    (qss_cons (qs_if (q_w (q_tor (q_tcmp (op_oNe hr.units) (q_tup (qa_cons (q_ginte T.g_MAX_LEFT) (qa_cons (q_ginte T.g_MAX_RULES) (qa_cons (q_ginte T.g_MAX_SEEN) qa_nil)))) (q_tup (qa_cons q_int (qa_cons q_int (qa_cons q_int qa_nil))))) (q_tor (q_tcmp op_oIsnt (q_call C_are_rules hr (qa_cons (qv 3) qa_nil)) q_bl) (q_or1 (q_tnot (q_truth (q_all T.b_all (qa_cons (q_lc (own := [("turn", 6)]) (.name 6) (qi_range1 T.b_range q_int) (fun _ _ _ _ _ => (pp_name nd)) (fun _ _ _ _ _ => qts_nil) (fun _ _ _ _ _ => (q_cmp op_oIs (q_call C_are_rules hr (qa_cons (q_call C__law_bad hr (qa_cons (qv 1) (qa_cons (qv 3) qa_nil))) qa_nil)) q_bl)) nd rfl) qa_nil)))))))) (qss_one (qs_ret q_bl)) qss_nil)
    (qss_cons (qs_setF (i := 4) (q_tuple T.b_tuple (qa_cons (q_lc (own := [("k", 14)]) (.name 14) (qi_range1 T.b_range q_int) (fun _ _ _ _ _ => (pp_name nd)) (fun _ _ _ _ _ => qts_nil) (fun _ _ _ _ _ => (q_tup (qa_cons (q_bin op_oAdd (q_bin op_oMul (q_strD [97]) (q_bin op_oAdd q_int (q_bin op_oFdiv (qv 14) q_int))) (q_bin op_oMul (q_strD [98]) (q_bin op_oSub (qv 14) (q_bin op_oMul (q_bin op_oFdiv (qv 14) q_int) q_int)))) (qa_cons (q_strD []) qa_nil)))) nd rfl) qa_nil)) nd)
    (qss_cons (qs_setF (i := 4) (q_tuple T.b_tuple (qa_cons (q_sort2 hr.units T.b_sorted (qa_cons (qv 4) qa_nil)) qa_nil)) nd)
    (qss_cons (qs_if (q_w (q_tor (q_tcmp op_oIsnt (q_call C_are_rules hr (qa_cons (q_sl (qv 4) qo_none (qo_some q_int)) qa_nil)) q_bl) (q_tor (q_tcmp op_oIsnt (q_call C_are_rules hr (qa_cons (qv 4) qa_nil)) q_bl) (q_or1 (q_tcmp op_oIsnt (q_call C_are_rules hr (qa_cons (q_tup (qa_cons (q_tup (qa_cons (q_bin op_oMul (q_strD [97]) q_int) (qa_cons (q_bin op_oMul (q_strD [97]) q_int) qa_nil))) qa_nil)) qa_nil)) q_bl))))) (qss_one (qs_ret q_bl)) qss_nil)
    (qss_cons (qs_setF (i := 5) (q_call C__law_word hr (qa_cons (qv 1) (qa_cons (q_ix ix_oIx (q_lst (qa_cons q_int (qa_cons q_int qa_nil))) (q_call C__law_draw hr (qa_cons (qv 1) (qa_cons q_int qa_nil)))) (qa_cons (qv 2) qa_nil)))) nd)
    (qss_cons (qs_if (q_tcmp (op_oGt hr.units) (q_len T.b_len (qa_cons (qv 5) qa_nil)) q_int) (qss_one (qs_setF (i := 3) (q_tuple T.b_tuple (qa_cons (q_lc (own := [("rule", 15)]) (.name 15) (qi_seq (qv 3)) (fun _ _ _ _ _ => (pp_name nd)) (fun _ _ _ _ _ => (qts_one (q_tcmp (op_oLt hr.units) (q_len T.b_len (qa_cons (q_ix ix_oIx (qv 15) q_int) qa_nil)) (q_len T.b_len (qa_cons (q_ix ix_oIx (qv 15) q_int) qa_nil))))) (fun _ _ _ _ _ => (qv 15)) nd rfl) qa_nil)) nd)) qss_nil)
    (qss_cons (qs_for (.name 6) (qi_range1 T.b_range q_int) (pp_name nd) (qss_cons (qs_setF (i := 7) (q_call C__law_steps hr (qa_cons (qv 3) (qa_cons (qv 5) qa_nil))) nd)
    (qss_cons (qs_if (q_w (q_tor (q_tnot (q_truth (q_call C__law_same hr (qa_cons (q_call C_steps_of hr (qa_cons (qv 3) (qa_cons (qv 5) qa_nil))) (qa_cons (q_tuple T.b_tuple (qa_cons (qv 7) qa_nil)) qa_nil))))) (q_or1 (q_tnot (q_truth (q_call C__law_same hr (qa_cons (q_call C_is_end hr (qa_cons (qv 3) (qa_cons (qv 5) qa_nil))) (qa_cons (q_cmp (op_oEq hr.units) (qv 7) (q_lst qa_nil)) qa_nil)))))))) (qss_one (qs_ret q_bl)) qss_nil)
    (qss_cons (qs_unpF (.tup [(.name 10), (.name 11)]) (q_call C__law_plain hr (qa_cons (qv 3) (qa_cons (qv 5) qa_nil))) (pp_tup (pps_cons (pp_name nd) (pps_cons (pp_name nd) pps_nil))))
    (qss_cons (qs_if (q_w (q_tor (q_tnot (q_truth (q_call C__law_same hr (qa_cons (q_call C_plain_way hr (qa_cons (qv 3) (qa_cons (qv 5) qa_nil))) (qa_cons (qv 10) qa_nil))))) (q_or1 (q_tnot (q_truth (q_call C__law_same hr (qa_cons (q_call C_plain_end hr (qa_cons (qv 3) (qa_cons (qv 5) qa_nil))) (qa_cons (qv 11) qa_nil)))))))) (qss_one (qs_ret q_bl)) qss_nil)
    (qss_cons (qs_setF (i := 8) (q_bin op_oAdd (q_lst (qa_cons (qv 10) qa_nil)) (q_lc (own := [("again", 16)]) (.name 16) (qi_range1 T.b_range q_int) (fun _ _ _ _ _ => (pp_name nd)) (fun _ _ _ _ _ => qts_nil) (fun _ _ _ _ _ => (q_call C__law_bent hr (qa_cons (qv 1) (qa_cons (qv 10) qa_nil)))) nd rfl)) nd)
    (qss_cons (qs_for (.name 9) (qi_seq (qv 8)) (pp_name nd) (qss_cons (qs_setF (i := 12) (q_call C__law_leads hr (qa_cons (qv 3) (qa_cons (qv 5) (qa_cons (qv 9) qa_nil)))) nd)
    (qss_one (qs_if (q_w (q_tor (q_tnot (q_truth (q_call C__law_same hr (qa_cons (q_call C_is_way hr (qa_cons (qv 3) (qa_cons (qv 5) (qa_cons (qv 11) (qa_cons (qv 9) qa_nil))))) (qa_cons (q_cmp (op_oEq hr.units) (qv 12) (qv 11)) qa_nil))))) (q_or1 (q_w (q_tand (q_tcmp op_oIsnt (qv 12) q_non) (q_and1 (q_tcmp op_oIsnt (q_call C_is_way hr (qa_cons (qv 3) (qa_cons (qv 5) (qa_cons (qv 12) (qa_cons (qv 9) qa_nil))))) q_bl))))))) (qss_one (qs_ret q_bl)) qss_nil))))
    (qss_one (qs_if (q_tcmp (op_oNe hr.units) (qv 7) (q_lst qa_nil)) (qss_cons (qs_setF (i := 13) (q_ix ix_oIx (qv 7) (q_call C__law_draw hr (qa_cons (qv 1) (qa_cons (q_len T.b_len (qa_cons (qv 7) qa_nil)) qa_nil)))) nd)
    (qss_cons (qs_if (q_tnot (q_truth (q_call C__law_same hr (qa_cons (q_call C_after hr (qa_cons (qv 3) (qa_cons (qv 5) (qa_cons (qv 13) qa_nil)))) (qa_cons (q_call C__law_after hr (qa_cons (qv 3) (qa_cons (qv 5) (qa_cons (qv 13) qa_nil)))) qa_nil))))) (qss_one (qs_ret q_bl)) qss_nil)
    (qss_one (qs_setF (i := 5) (q_call C__law_after hr (qa_cons (qv 3) (qa_cons (qv 5) (qa_cons (qv 13) qa_nil)))) nd)))) qss_nil)))))))))
    (qss_one (qs_ret q_bl)))))))))))
end
/-! ### the draws -/
theorem sc__law_load : FnScope ["box", "cells", "cell", "size", "first", "second"] ["box"] (defScope s__law_load) := ⟨rfl, rfl, rfl, by decide +kernel, rfl, by decide +kernel, by decide +kernel⟩
theorem sc__law_draw : FnScope ["box", "many", "digit"] ["box", "many"] (defScope s__law_draw) := ⟨rfl, rfl, rfl, by decide +kernel, rfl, by decide +kernel, by decide +kernel⟩
section
variable {P : Program} {w : World} {K : PySem.W.Frag} {mg : Str → Option Value} {base : Heap}
theorem ok_load {f : Addr} {fd : FuncData} (F : Fun K "_law_load" "_law_load" s__law_load f fd) (T : Txt K mg) : FnOk P w K mg base CX0 1 f fd ["box"] spLoad := by
  refine F.ok sc__law_load (fun vs H Q E h => ?_) (fun cdv A outer s H vs Q E hr h => ?_)
  · obtain ⟨b, c, z, s, ns, rfl, _⟩ := h
    rfl
  · obtain ⟨b, c, z, s', ns, rfl, B, k⟩ := h
    have nd := sc__law_load.nd
    refine ⟨tLoad K, ?_, load_ok B k⟩
    exact pss_cons (ps_set nd rfl (by first | exact Or.inl rfl | exact Or.inr rfl) (pe_ix ix_list (pv 0) pe_int (fun _ _ => rfl)))
      (pss_cons (ps_if (pt_cmpR op_gt (pe_callB call_len (by rfl) T.b_len PySem.boot_len (pa_cons (pv 1) pa_nil)) pe_int (nomark _))
        (pss_cons (ps_set nd rfl (by first | exact Or.inl rfl | exact Or.inr rfl) (pe_callTy call_int1 (by rfl) T.b_int PyProof.Rows.boot_int (pa_cons (pe_bm PySem.F.plainAttrs_list PySem.F.slot_list_pop PySem.F.type_list_pop mt_popAt (pv 1) (pa_cons pe_int pa_nil)) pa_nil)))
        (pss_cons (ps_set nd rfl (by first | exact Or.inl rfl | exact Or.inr rfl) (pe_ifExp (pt_cmpR op_ge (pv 2) pe_int (nomark _)) (pe_op op_mul pe_int (pv 2)) (pe_op op_sub (pe_op op_mul (pe_un un_neg pe_int) (pv 2)) pe_int)))
        (pss_cons (ps_if (pt_cmpR op_ge (pv 3) pe_int (nomark _)) (pss_one (ps_ret (pv 3))) pss_nil)
        (pss_one (ps_asg (pe_op op_mod (pe_callTy call_int1 (by rfl) T.b_int PyProof.Rows.boot_int (pa_cons (pe_op op_add (pe_op op_add (pe_op op_mul (pe_ix ix_list (pv 0) pe_int (fun _ _ => rfl)) pe_int) (pe_op op_mul (pv 3) pe_int)) pe_int) pa_nil)) pe_int) (pg_sub (pv 0) pe_int set_list))))))
        pss_nil)
      (pss_cons (ps_set nd rfl (by first | exact Or.inl rfl | exact Or.inr rfl) (pe_op op_mod (pe_callTy call_int1 (by rfl) T.b_int PyProof.Rows.boot_int (pa_cons (pe_op op_add (pe_op op_mul (pe_ix ix_list (pv 0) pe_int (fun _ _ => rfl)) pe_int) pe_int) pa_nil)) pe_int))
      (pss_cons (ps_set nd rfl (by first | exact Or.inl rfl | exact Or.inr rfl) (pe_op op_mod (pe_callTy call_int1 (by rfl) T.b_int PyProof.Rows.boot_int (pa_cons (pe_op op_add (pe_op op_mul (pv 4) pe_int) pe_int) pa_nil)) pe_int))
      (pss_cons (ps_asg (pe_op op_mod (pe_callTy call_int1 (by rfl) T.b_int PyProof.Rows.boot_int (pa_cons (pe_op op_add (pe_op op_mul (pv 5) pe_int) pe_int) pa_nil)) pe_int) (pg_sub (pv 0) pe_int set_list))
      (pss_one (ps_ret (pe_op op_add (pe_op op_add (pe_op op_mul (pv 4) pe_int) (pe_op op_mul (pv 5) pe_int)) (pe_ix ix_list (pv 0) pe_int (fun _ _ => rfl)))))))))
theorem ok_draw {f fl : Addr} {fd fdl : FuncData} (F : Fun K "_law_draw" "_law_draw" s__law_draw f fd) (FL : Fun K "_law_load" "_law_load" s__law_load fl fdl) (ml : mg "_law_load" = some (.ref fl)) (bl : Binds K fdl ["box"] []) (T : Txt K mg) : FnOk P w K mg base CX0 2 f fd ["box", "many"] spDraw := by
  refine F.ok sc__law_draw (fun vs H Q E h => ?_) (fun cdv A outer s H vs Q E hr h => ?_)
  · obtain ⟨b, c, z, s, ns, many, rfl, _⟩ := h
    rfl
  · obtain ⟨b, c, z, s', ns, many, rfl, B, hm, k⟩ := h
    have nd := sc__law_draw.nd
    have G : FnOk P w K mg base CX0 1 fl fdl ["box"] spLoad := ok_load FL T
    refine ⟨tDraw K (tCall spLoad [] (fun _ _ _ => False) (tCons (tVar 0) tNil)), ?_, draw_ok B hm (fun σ H z s ns Q h0 B k => ⟨_, h0, b, c, z, s, ns, rfl, B, k⟩) k⟩
    exact pss_cons (ps_if (pt_cmpR op_lt (pe_ix ix_list (pv 0) pe_int (fun _ _ => rfl)) (pv 1) (nomark _)) (pss_one (ps_asg (pe_call G hr rfl ml FL.kp bl .nil pass0 (pa_cons (pv 0) pa_nil)) (pg_sub (pv 0) pe_int set_list))) pss_nil)
      (pss_cons (ps_set nd rfl (by first | exact Or.inl rfl | exact Or.inr rfl) (pe_op op_mod (pe_callTy call_int1 (by rfl) T.b_int PyProof.Rows.boot_int (pa_cons (pe_ix ix_list (pv 0) pe_int (fun _ _ => rfl)) pa_nil)) (pv 1)))
      (pss_cons (ps_asg (pe_op op_fdiv (pe_ix ix_list (pv 0) pe_int (fun _ _ => rfl)) (pv 1)) (pg_sub (pv 0) pe_int set_list))
      (pss_one (ps_ret (pv 2)))))
theorem callee__law_draw (T : Txt K mg) : Callee P w K mg base "_law_draw" 2 ["box", "many"] sp_draw := by
  obtain ⟨f, fd, F, hm, hb⟩ := T.d__law_draw
  obtain ⟨fl, fdl, FL, hml, hbl⟩ := T.d__law_load
  exact callee_draw (ok_draw F FL hml hbl T) hm F.kp hb
end
theorem sc__law_box : FnScope ["script"] ["script"] (defScope s__law_box) := ⟨rfl, rfl, rfl, by decide +kernel, rfl, by decide +kernel, by decide +kernel⟩
section
variable {P : Program} {w : World} {K : PySem.W.Frag} {mg : Str → Option Value} {base : Heap}
theorem ok_box {f : Addr} {fd : FuncData} (F : Fun K "_law_box" "_law_box" s__law_box f fd) (T : Txt K mg) : FnOk P w K mg base CX0 1 f fd ["script"] (spBox K) := by
  refine F.ok sc__law_box (fun vs H Q E h => ?_) (fun cdv A outer s H vs Q E hr h => ?_)
  · obtain ⟨a, ns, rfl, _⟩ := h
    rfl
  · obtain ⟨a, ns, rfl, hS, hl, k⟩ := h
    have nd := sc__law_box.nd
    refine ⟨tBox K, ?_, box_ok hS hl k⟩
    exact pss_one (ps_ret (pe_lst (pa_cons (pe_callTy call_list_of (by rfl) T.b_list PyProof.Rows.boot_list (pa_cons (pe_slice sl_list (pv 0) po_none (po_some pe_int)) pa_nil)) (pa_cons pe_int (pa_cons (pe_op op_add pe_int (pe_callB call_len (by rfl) T.b_len PySem.boot_len (pa_cons (pv 0) pa_nil))) pa_nil)))))
theorem C__law_after (T : Txt K mg) : Callee P w K mg base "_law_after" 1 ["rules", "word", "step"] sp_after := def_by T.d__law_after sc__law_after (by intro ds Q h; first | (obtain ⟨_, rfl, _⟩ := h; rfl) | (obtain ⟨_, _, rfl, _⟩ := h; rfl) | (obtain ⟨_, _, _, rfl, _⟩ := h; rfl) | (obtain ⟨_, _, _, _, rfl, _⟩ := h; rfl) | (obtain ⟨_, _, _, _, _, rfl, _⟩ := h; rfl) | (obtain ⟨_, _, _, _, _, _, rfl, _⟩ := h; rfl) | (obtain ⟨rfl, _⟩ := h; rfl)) (body__law_after T ) p__law_after
theorem C__law_bad (T : Txt K mg) : Callee P w K mg base "_law_bad" 3 ["box", "rules"] sp_bad := def_by T.d__law_bad sc__law_bad (by intro ds Q h; first | (obtain ⟨_, rfl, _⟩ := h; rfl) | (obtain ⟨_, _, rfl, _⟩ := h; rfl) | (obtain ⟨_, _, _, rfl, _⟩ := h; rfl) | (obtain ⟨_, _, _, _, rfl, _⟩ := h; rfl) | (obtain ⟨_, _, _, _, _, rfl, _⟩ := h; rfl) | (obtain ⟨_, _, _, _, _, _, rfl, _⟩ := h; rfl) | (obtain ⟨rfl, _⟩ := h; rfl)) (body__law_bad T (callee__law_draw T)) p__law_bad
theorem C__law_bent (T : Txt K mg) : Callee P w K mg base "_law_bent" 3 ["box", "way"] sp_bent := def_by T.d__law_bent sc__law_bent (by intro ds Q h; first | (obtain ⟨_, rfl, _⟩ := h; rfl) | (obtain ⟨_, _, rfl, _⟩ := h; rfl) | (obtain ⟨_, _, _, rfl, _⟩ := h; rfl) | (obtain ⟨_, _, _, _, rfl, _⟩ := h; rfl) | (obtain ⟨_, _, _, _, _, rfl, _⟩ := h; rfl) | (obtain ⟨_, _, _, _, _, _, rfl, _⟩ := h; rfl) | (obtain ⟨rfl, _⟩ := h; rfl)) (body__law_bent T (callee__law_draw T)) p__law_bent
theorem C__law_steps (T : Txt K mg) : Callee P w K mg base "_law_steps" 1 ["rules", "word"] (sp_steps .list) := def_by T.d__law_steps sc__law_steps (by intro ds Q h; first | (obtain ⟨_, rfl, _⟩ := h; rfl) | (obtain ⟨_, _, rfl, _⟩ := h; rfl) | (obtain ⟨_, _, _, rfl, _⟩ := h; rfl) | (obtain ⟨_, _, _, _, rfl, _⟩ := h; rfl) | (obtain ⟨_, _, _, _, _, rfl, _⟩ := h; rfl) | (obtain ⟨_, _, _, _, _, _, rfl, _⟩ := h; rfl) | (obtain ⟨rfl, _⟩ := h; rfl)) (body__law_steps T ) p__law_steps
theorem C__law_leads (T : Txt K mg) : Callee P w K mg base "_law_leads" 2 ["rules", "word", "value"] (sp_end endD) := def_by T.d__law_leads sc__law_leads (by intro ds Q h; first | (obtain ⟨_, rfl, _⟩ := h; rfl) | (obtain ⟨_, _, rfl, _⟩ := h; rfl) | (obtain ⟨_, _, _, rfl, _⟩ := h; rfl) | (obtain ⟨_, _, _, _, rfl, _⟩ := h; rfl) | (obtain ⟨_, _, _, _, _, rfl, _⟩ := h; rfl) | (obtain ⟨_, _, _, _, _, _, rfl, _⟩ := h; rfl) | (obtain ⟨rfl, _⟩ := h; rfl)) (body__law_leads T (C__law_after T) (C__law_steps T)) p__law_leads
theorem C__law_plain (T : Txt K mg) : Callee P w K mg base "_law_plain" 2 ["rules", "word"] spPlain := def_by T.d__law_plain sc__law_plain (by intro ds Q h; first | (obtain ⟨_, rfl, _⟩ := h; rfl) | (obtain ⟨_, _, rfl, _⟩ := h; rfl) | (obtain ⟨_, _, _, rfl, _⟩ := h; rfl) | (obtain ⟨_, _, _, _, rfl, _⟩ := h; rfl) | (obtain ⟨_, _, _, _, _, rfl, _⟩ := h; rfl) | (obtain ⟨_, _, _, _, _, _, rfl, _⟩ := h; rfl) | (obtain ⟨rfl, _⟩ := h; rfl)) (body__law_plain T (C__law_after T) (C__law_steps T)) p__law_plain
theorem C__law_before (T : Txt K mg) : Callee P w K mg base "_law_before" 1 ["one", "other"] sp_wlt := def_by T.d__law_before sc__law_before (by intro ds Q h; first | (obtain ⟨_, rfl, _⟩ := h; rfl) | (obtain ⟨_, _, rfl, _⟩ := h; rfl) | (obtain ⟨_, _, _, rfl, _⟩ := h; rfl) | (obtain ⟨_, _, _, _, rfl, _⟩ := h; rfl) | (obtain ⟨_, _, _, _, _, rfl, _⟩ := h; rfl) | (obtain ⟨_, _, _, _, _, _, rfl, _⟩ := h; rfl) | (obtain ⟨rfl, _⟩ := h; rfl)) (body__law_before T ) p__law_before
theorem C__law_word (T : Txt K mg) : Callee P w K mg base "_law_word" 3 ["box", "most", "letters"] sp_word := def_by T.d__law_word sc__law_word (by intro ds Q h; first | (obtain ⟨_, rfl, _⟩ := h; rfl) | (obtain ⟨_, _, rfl, _⟩ := h; rfl) | (obtain ⟨_, _, _, rfl, _⟩ := h; rfl) | (obtain ⟨_, _, _, _, rfl, _⟩ := h; rfl) | (obtain ⟨_, _, _, _, _, rfl, _⟩ := h; rfl) | (obtain ⟨_, _, _, _, _, _, rfl, _⟩ := h; rfl) | (obtain ⟨rfl, _⟩ := h; rfl)) (body__law_word T (callee__law_draw T)) p__law_word
theorem C__law_rules (T : Txt K mg) : Callee P w K mg base "_law_rules" 4 ["box", "most", "long", "letters"] sp_rules := def_by T.d__law_rules sc__law_rules (by intro ds Q h; first | (obtain ⟨_, rfl, _⟩ := h; rfl) | (obtain ⟨_, _, rfl, _⟩ := h; rfl) | (obtain ⟨_, _, _, rfl, _⟩ := h; rfl) | (obtain ⟨_, _, _, _, rfl, _⟩ := h; rfl) | (obtain ⟨_, _, _, _, _, rfl, _⟩ := h; rfl) | (obtain ⟨_, _, _, _, _, _, rfl, _⟩ := h; rfl) | (obtain ⟨rfl, _⟩ := h; rfl)) (body__law_rules T (C__law_before T) (callee__law_draw T) (C__law_word T)) p__law_rules
theorem C__law_same (T : Txt K mg) : ∀ n : Nat, Callee P w K mg base "_law_same" n ["a", "b"] (sp_same n)
  | 0 => (callee_none T.d__law_same).imp (fun ds Q ⟨d, _, _, h, _⟩ => absurd h (Nat.not_lt_zero _))
  | n + 1 => def_by T.d__law_same sc__law_same (by intro ds Q h; first | (obtain ⟨_, rfl, _⟩ := h; rfl) | (obtain ⟨_, _, rfl, _⟩ := h; rfl) | (obtain ⟨_, _, _, rfl, _⟩ := h; rfl) | (obtain ⟨_, _, _, _, rfl, _⟩ := h; rfl) | (obtain ⟨_, _, _, _, _, rfl, _⟩ := h; rfl) | (obtain ⟨_, _, _, _, _, _, rfl, _⟩ := h; rfl) | (obtain ⟨rfl, _⟩ := h; rfl)) (body__law_same T (C__law_same T n)) (p__law_same n)
theorem C_after (T : Txt K mg) : Callee P w K mg base "after" 1 ["rules", "word", "step"] sp_after := def_by T.d_after sc_after (by intro ds Q h; first | (obtain ⟨_, rfl, _⟩ := h; rfl) | (obtain ⟨_, _, rfl, _⟩ := h; rfl) | (obtain ⟨_, _, _, rfl, _⟩ := h; rfl) | (obtain ⟨_, _, _, _, rfl, _⟩ := h; rfl) | (obtain ⟨_, _, _, _, _, rfl, _⟩ := h; rfl) | (obtain ⟨_, _, _, _, _, _, rfl, _⟩ := h; rfl) | (obtain ⟨rfl, _⟩ := h; rfl)) (body_after T ) p_after
theorem C_is_ascending (T : Txt K mg) : Callee P w K mg base "is_ascending" 1 ["rows"] sp_asc := def_by T.d_is_ascending sc_is_ascending (by intro ds Q h; first | (obtain ⟨_, rfl, _⟩ := h; rfl) | (obtain ⟨_, _, rfl, _⟩ := h; rfl) | (obtain ⟨_, _, _, rfl, _⟩ := h; rfl) | (obtain ⟨_, _, _, _, rfl, _⟩ := h; rfl) | (obtain ⟨_, _, _, _, _, rfl, _⟩ := h; rfl) | (obtain ⟨_, _, _, _, _, _, rfl, _⟩ := h; rfl) | (obtain ⟨rfl, _⟩ := h; rfl)) (body_is_ascending T ) p_is_ascending
theorem C_is_less (T : Txt K mg) : Callee P w K mg base "is_less" 1 ["one", "other"] sp_wlt := def_by T.d_is_less sc_is_less (by intro ds Q h; first | (obtain ⟨_, rfl, _⟩ := h; rfl) | (obtain ⟨_, _, rfl, _⟩ := h; rfl) | (obtain ⟨_, _, _, rfl, _⟩ := h; rfl) | (obtain ⟨_, _, _, _, rfl, _⟩ := h; rfl) | (obtain ⟨_, _, _, _, _, rfl, _⟩ := h; rfl) | (obtain ⟨_, _, _, _, _, _, rfl, _⟩ := h; rfl) | (obtain ⟨rfl, _⟩ := h; rfl)) (body_is_less T ) p_is_less
theorem C_is_word (T : Txt K mg) : Callee P w K mg base "is_word" 1 ["value"] sp_is_word := def_by T.d_is_word sc_is_word (by intro ds Q h; first | (obtain ⟨_, rfl, _⟩ := h; rfl) | (obtain ⟨_, _, rfl, _⟩ := h; rfl) | (obtain ⟨_, _, _, rfl, _⟩ := h; rfl) | (obtain ⟨_, _, _, _, rfl, _⟩ := h; rfl) | (obtain ⟨_, _, _, _, _, rfl, _⟩ := h; rfl) | (obtain ⟨_, _, _, _, _, _, rfl, _⟩ := h; rfl) | (obtain ⟨rfl, _⟩ := h; rfl)) (body_is_word T ) p_is_word
theorem C_is_rule (T : Txt K mg) : Callee P w K mg base "is_rule" 2 ["value"] sp_is_rule := def_by T.d_is_rule sc_is_rule (by intro ds Q h; first | (obtain ⟨_, rfl, _⟩ := h; rfl) | (obtain ⟨_, _, rfl, _⟩ := h; rfl) | (obtain ⟨_, _, _, rfl, _⟩ := h; rfl) | (obtain ⟨_, _, _, _, rfl, _⟩ := h; rfl) | (obtain ⟨_, _, _, _, _, rfl, _⟩ := h; rfl) | (obtain ⟨_, _, _, _, _, _, rfl, _⟩ := h; rfl) | (obtain ⟨rfl, _⟩ := h; rfl)) (body_is_rule T (C_is_less T) (C_is_word T)) p_is_rule
theorem C_are_rules (T : Txt K mg) : Callee P w K mg base "are_rules" 3 ["value"] sp_are := def_by T.d_are_rules sc_are_rules (by intro ds Q h; first | (obtain ⟨_, rfl, _⟩ := h; rfl) | (obtain ⟨_, _, rfl, _⟩ := h; rfl) | (obtain ⟨_, _, _, rfl, _⟩ := h; rfl) | (obtain ⟨_, _, _, _, rfl, _⟩ := h; rfl) | (obtain ⟨_, _, _, _, _, rfl, _⟩ := h; rfl) | (obtain ⟨_, _, _, _, _, _, rfl, _⟩ := h; rfl) | (obtain ⟨rfl, _⟩ := h; rfl)) (body_are_rules T (C_is_ascending T) (C_is_rule T)) p_are_rules
theorem C_places_of (T : Txt K mg) : Callee P w K mg base "places_of" 1 ["part", "word"] sp_places_of := def_by T.d_places_of sc_places_of (by intro ds Q h; first | (obtain ⟨_, rfl, _⟩ := h; rfl) | (obtain ⟨_, _, rfl, _⟩ := h; rfl) | (obtain ⟨_, _, _, rfl, _⟩ := h; rfl) | (obtain ⟨_, _, _, _, rfl, _⟩ := h; rfl) | (obtain ⟨_, _, _, _, _, rfl, _⟩ := h; rfl) | (obtain ⟨_, _, _, _, _, _, rfl, _⟩ := h; rfl) | (obtain ⟨rfl, _⟩ := h; rfl)) (body_places_of T ) p_places_of
theorem C_steps_of (T : Txt K mg) : Callee P w K mg base "steps_of" 2 ["rules", "word"] (sp_steps .tuple) := def_by T.d_steps_of sc_steps_of (by intro ds Q h; first | (obtain ⟨_, rfl, _⟩ := h; rfl) | (obtain ⟨_, _, rfl, _⟩ := h; rfl) | (obtain ⟨_, _, _, rfl, _⟩ := h; rfl) | (obtain ⟨_, _, _, _, rfl, _⟩ := h; rfl) | (obtain ⟨_, _, _, _, _, rfl, _⟩ := h; rfl) | (obtain ⟨_, _, _, _, _, _, rfl, _⟩ := h; rfl) | (obtain ⟨rfl, _⟩ := h; rfl)) (body_steps_of T (C_places_of T)) p_steps_of
theorem C_is_end (T : Txt K mg) : Callee P w K mg base "is_end" 3 ["rules", "word"] sp_is_end := def_by T.d_is_end sc_is_end (by intro ds Q h; first | (obtain ⟨_, rfl, _⟩ := h; rfl) | (obtain ⟨_, _, rfl, _⟩ := h; rfl) | (obtain ⟨_, _, _, rfl, _⟩ := h; rfl) | (obtain ⟨_, _, _, _, rfl, _⟩ := h; rfl) | (obtain ⟨_, _, _, _, _, rfl, _⟩ := h; rfl) | (obtain ⟨_, _, _, _, _, _, rfl, _⟩ := h; rfl) | (obtain ⟨rfl, _⟩ := h; rfl)) (body_is_end T (C_steps_of T)) p_is_end
theorem C_is_number (T : Txt K mg) : Callee P w K mg base "is_number" 1 ["value", "least", "most"] sp_is_number := def_by T.d_is_number sc_is_number (by intro ds Q h; first | (obtain ⟨_, rfl, _⟩ := h; rfl) | (obtain ⟨_, _, rfl, _⟩ := h; rfl) | (obtain ⟨_, _, _, rfl, _⟩ := h; rfl) | (obtain ⟨_, _, _, _, rfl, _⟩ := h; rfl) | (obtain ⟨_, _, _, _, _, rfl, _⟩ := h; rfl) | (obtain ⟨_, _, _, _, _, _, rfl, _⟩ := h; rfl) | (obtain ⟨rfl, _⟩ := h; rfl)) (body_is_number T ) p_is_number
theorem C_is_step (T : Txt K mg) : Callee P w K mg base "is_step" 2 ["rules", "word", "value"] sp_is_step := def_by T.d_is_step sc_is_step (by intro ds Q h; first | (obtain ⟨_, rfl, _⟩ := h; rfl) | (obtain ⟨_, _, rfl, _⟩ := h; rfl) | (obtain ⟨_, _, _, rfl, _⟩ := h; rfl) | (obtain ⟨_, _, _, _, rfl, _⟩ := h; rfl) | (obtain ⟨_, _, _, _, _, rfl, _⟩ := h; rfl) | (obtain ⟨_, _, _, _, _, _, rfl, _⟩ := h; rfl) | (obtain ⟨rfl, _⟩ := h; rfl)) (body_is_step T (C_is_number T)) p_is_step
theorem C_end_of (T : Txt K mg) : Callee P w K mg base "end_of" 3 ["rules", "word", "value"] (sp_end endD) := def_by T.d_end_of sc_end_of (by intro ds Q h; first | (obtain ⟨_, rfl, _⟩ := h; rfl) | (obtain ⟨_, _, rfl, _⟩ := h; rfl) | (obtain ⟨_, _, _, rfl, _⟩ := h; rfl) | (obtain ⟨_, _, _, _, rfl, _⟩ := h; rfl) | (obtain ⟨_, _, _, _, _, rfl, _⟩ := h; rfl) | (obtain ⟨_, _, _, _, _, _, rfl, _⟩ := h; rfl) | (obtain ⟨rfl, _⟩ := h; rfl)) (body_end_of T (C_after T) (C_is_step T)) p_end_of
theorem C_is_way (T : Txt K mg) : Callee P w K mg base "is_way" 4 ["rules", "word", "other", "value"] sp_is_way := def_by T.d_is_way sc_is_way (by intro ds Q h; first | (obtain ⟨_, rfl, _⟩ := h; rfl) | (obtain ⟨_, _, rfl, _⟩ := h; rfl) | (obtain ⟨_, _, _, rfl, _⟩ := h; rfl) | (obtain ⟨_, _, _, _, rfl, _⟩ := h; rfl) | (obtain ⟨_, _, _, _, _, rfl, _⟩ := h; rfl) | (obtain ⟨_, _, _, _, _, _, rfl, _⟩ := h; rfl) | (obtain ⟨rfl, _⟩ := h; rfl)) (body_is_way T (C_end_of T)) p_is_way
theorem C_plain_step (T : Txt K mg) : Callee P w K mg base "plain_step" 1 ["rules", "word"] sp_plain_step := def_by T.d_plain_step sc_plain_step (by intro ds Q h; first | (obtain ⟨_, rfl, _⟩ := h; rfl) | (obtain ⟨_, _, rfl, _⟩ := h; rfl) | (obtain ⟨_, _, _, rfl, _⟩ := h; rfl) | (obtain ⟨_, _, _, _, rfl, _⟩ := h; rfl) | (obtain ⟨_, _, _, _, _, rfl, _⟩ := h; rfl) | (obtain ⟨_, _, _, _, _, _, rfl, _⟩ := h; rfl) | (obtain ⟨rfl, _⟩ := h; rfl)) (body_plain_step T ) p_plain_step
theorem C_plain_end (T : Txt K mg) : Callee P w K mg base "plain_end" 2 ["rules", "word"] spEnd := def_by T.d_plain_end sc_plain_end (by intro ds Q h; first | (obtain ⟨_, rfl, _⟩ := h; rfl) | (obtain ⟨_, _, rfl, _⟩ := h; rfl) | (obtain ⟨_, _, _, rfl, _⟩ := h; rfl) | (obtain ⟨_, _, _, _, rfl, _⟩ := h; rfl) | (obtain ⟨_, _, _, _, _, rfl, _⟩ := h; rfl) | (obtain ⟨_, _, _, _, _, _, rfl, _⟩ := h; rfl) | (obtain ⟨rfl, _⟩ := h; rfl)) (body_plain_end T (C_after T) (C_plain_step T)) p_plain_end
theorem C_plain_way (T : Txt K mg) : Callee P w K mg base "plain_way" 2 ["rules", "word"] spWay := def_by T.d_plain_way sc_plain_way (by intro ds Q h; first | (obtain ⟨_, rfl, _⟩ := h; rfl) | (obtain ⟨_, _, rfl, _⟩ := h; rfl) | (obtain ⟨_, _, _, rfl, _⟩ := h; rfl) | (obtain ⟨_, _, _, _, rfl, _⟩ := h; rfl) | (obtain ⟨_, _, _, _, _, rfl, _⟩ := h; rfl) | (obtain ⟨_, _, _, _, _, _, rfl, _⟩ := h; rfl) | (obtain ⟨rfl, _⟩ := h; rfl)) (body_plain_way T (C_after T) (C_plain_step T)) p_plain_way
theorem ok_law {f : Addr} {fd : FuncData} (F : Fun K "law" "law" s_law f fd) (T : Txt K mg) : FnOk P w K mg base CX0 9 f fd ["script"] (spLaw K) := by
  refine F.ok sc_law (fun vs H Q E h => ?_) (fun cdv A outer s H vs Q E hr h => ?_)
  · obtain ⟨a, ns, rfl, _⟩ := h
    rfl
  · obtain ⟨a, ns, rfl, hS, hl, k⟩ := h
    have nd := sc_law.nd
    obtain ⟨fb, fdb, FB, hmb, hbb⟩ := T.d__law_box
    have GB : FnOk P w K mg base CX0 1 fb fdb ["script"] (spBox K) := ok_box FB T
    refine ⟨_, pss_cons (ps_set (i := 1) nd rfl (by first | exact Or.inl rfl | exact Or.inr rfl) (pe_call GB (hr.mono (by decide)) rfl hmb FB.kp hbb .nil pass0 (pa_cons (pv 0) pa_nil))) (body_law T (C__law_after T) (C__law_bad T) (C__law_bent T) (callee__law_draw T) (C__law_leads T) (C__law_plain T) (C__law_rules T) (C__law_same T 8) (C__law_steps T) (C__law_word T) (C_after T) (C_are_rules T) (C_is_end T) (C_is_way T) (C_plain_end T) (C_plain_way T) (C_steps_of T) f cdv A outer s H E hr), ?_⟩
    exact law_reading (n := 15) hS hl k fun D' hD => p_law none hD
end
def DefIs (K : PySem.W.Frag) (n : Str) (st : Stmt) : Prop := ∃ (f : Addr) (oc : Value) (od an : Option Addr) (kV dc pm cd ct : Value) (osl : Array (Option Value)), PySem.W.nsIn K mainGlobals n = some (some (.ref f)) ∧
  K.lookup f = some ⟨oc, od, .func (PySem.W.fnOf n n (defArgs st) (defBody st) (defScope st) .none kV dc pm an cd ct), osl⟩ ∧ PySem.W.codeIn K cd n = true ∧ PySem.W.keepIn K (.ref f) = true
theorem defIs_mk {K : PySem.W.Frag} {n : Str} {st : Stmt} {f : Addr} {oc : Value} {od an : Option Addr} {kV dc pm cd ct : Value} {osl : Array (Option Value)} (a : PySem.W.nsIn K mainGlobals n = some (some (.ref f)))
  (l : K.lookup f = some ⟨oc, od, .func (PySem.W.fnOf n n (defArgs st) (defBody st) (defScope st) .none kV dc pm an cd ct), osl⟩) (c : PySem.W.codeIn K cd n = true) (k : PySem.W.keepIn K (.ref f) = true) : DefIs K n st := ⟨f, oc, od, an, kV, dc, pm, cd, ct, osl, a, l, c, k⟩
theorem glob_mk {K : PySem.W.Frag} {n : Str} {v : Value} {p : Value → Prop} (e : PySem.W.nsIn K mainGlobals n = some (some v)) (g : p v) : ∃ v, PySem.W.nsIn K mainGlobals n = some (some v) ∧ p v := ⟨v, e, g⟩
structure Facts (K : PySem.W.Frag) : Prop where
  b_all : PySem.W.nsIn K mainGlobals "all" = some none
  b_bool : PySem.W.nsIn K mainGlobals "bool" = some none
  b_enumerate : PySem.W.nsIn K mainGlobals "enumerate" = some none
  b_int : PySem.W.nsIn K mainGlobals "int" = some none
  b_isinstance : PySem.W.nsIn K mainGlobals "isinstance" = some none
  b_len : PySem.W.nsIn K mainGlobals "len" = some none
  b_list : PySem.W.nsIn K mainGlobals "list" = some none
  b_min : PySem.W.nsIn K mainGlobals "min" = some none
  b_range : PySem.W.nsIn K mainGlobals "range" = some none
  b_sorted : PySem.W.nsIn K mainGlobals "sorted" = some none
  b_str : PySem.W.nsIn K mainGlobals "str" = some none
  b_tuple : PySem.W.nsIn K mainGlobals "tuple" = some none
  g_LETTERS : ∃ v, PySem.W.nsIn K mainGlobals "LETTERS" = some (some v) ∧ ∃ t, v = .str (Str.ofString "abcdefghijklmnopqrstuvwxyz") t
  g_MAX_LEFT : ∃ v, PySem.W.nsIn K mainGlobals "MAX_LEFT" = some (some v) ∧ ∃ t, v = .int 12 t
  g_MAX_RULES : ∃ v, PySem.W.nsIn K mainGlobals "MAX_RULES" = some (some v) ∧ ∃ t, v = .int 24 t
  g_MAX_SEEN : ∃ v, PySem.W.nsIn K mainGlobals "MAX_SEEN" = some (some v) ∧ ∃ t, v = .int 2000 t
  g_MAX_WORD : ∃ v, PySem.W.nsIn K mainGlobals "MAX_WORD" = some (some v) ∧ ∃ t, v = .int 60 t
  d_is_number : DefIs K "is_number" s_is_number
  d_is_ascending : DefIs K "is_ascending" s_is_ascending
  d_is_word : DefIs K "is_word" s_is_word
  d_places_of : DefIs K "places_of" s_places_of
  d_is_less : DefIs K "is_less" s_is_less
  d_is_rule : DefIs K "is_rule" s_is_rule
  d_are_rules : DefIs K "are_rules" s_are_rules
  d_steps_of : DefIs K "steps_of" s_steps_of
  d_after : DefIs K "after" s_after
  d_is_step : DefIs K "is_step" s_is_step
  d_end_of : DefIs K "end_of" s_end_of
  d_is_way : DefIs K "is_way" s_is_way
  d_is_end : DefIs K "is_end" s_is_end
  d_plain_step : DefIs K "plain_step" s_plain_step
  d_plain_way : DefIs K "plain_way" s_plain_way
  d_plain_end : DefIs K "plain_end" s_plain_end
  d__law_box : DefIs K "_law_box" s__law_box
  d__law_load : DefIs K "_law_load" s__law_load
  d__law_draw : DefIs K "_law_draw" s__law_draw
  d__law_same : DefIs K "_law_same" s__law_same
  d__law_word : DefIs K "_law_word" s__law_word
  d__law_before : DefIs K "_law_before" s__law_before
  d__law_rules : DefIs K "_law_rules" s__law_rules
  d__law_steps : DefIs K "_law_steps" s__law_steps
  d__law_after : DefIs K "_law_after" s__law_after
  d__law_plain : DefIs K "_law_plain" s__law_plain
  d__law_bad : DefIs K "_law_bad" s__law_bad
  d__law_leads : DefIs K "_law_leads" s__law_leads
  d__law_bent : DefIs K "_law_bent" s__law_bent
  d_law : DefIs K "law" s_law
theorem txt_of {K : PySem.W.Frag} {h : Heap} {mg : Str → Option Value} (X : K.In h) (G : h.Ns mainGlobals mg) (F : Facts K) : Txt K mg where
  b_all := PySem.W.mg_none_of X G F.b_all
  b_bool := PySem.W.mg_none_of X G F.b_bool
  b_enumerate := PySem.W.mg_none_of X G F.b_enumerate
  b_int := PySem.W.mg_none_of X G F.b_int
  b_isinstance := PySem.W.mg_none_of X G F.b_isinstance
  b_len := PySem.W.mg_none_of X G F.b_len
  b_list := PySem.W.mg_none_of X G F.b_list
  b_min := PySem.W.mg_none_of X G F.b_min
  b_range := PySem.W.mg_none_of X G F.b_range
  b_sorted := PySem.W.mg_none_of X G F.b_sorted
  b_str := PySem.W.mg_none_of X G F.b_str
  b_tuple := PySem.W.mg_none_of X G F.b_tuple
  g_LETTERS := F.g_LETTERS.elim fun v e => e.2.elim fun t e2 => ⟨t, by rw [← e2]; exact PySem.W.mg_of X G e.1⟩
  g_MAX_LEFT := F.g_MAX_LEFT.elim fun v e => e.2.elim fun t e2 => ⟨t, by rw [← e2]; exact PySem.W.mg_of X G e.1⟩
  g_MAX_RULES := F.g_MAX_RULES.elim fun v e => e.2.elim fun t e2 => ⟨t, by rw [← e2]; exact PySem.W.mg_of X G e.1⟩
  g_MAX_SEEN := F.g_MAX_SEEN.elim fun v e => e.2.elim fun t e2 => ⟨t, by rw [← e2]; exact PySem.W.mg_of X G e.1⟩
  g_MAX_WORD := F.g_MAX_WORD.elim fun v e => e.2.elim fun t e2 => ⟨t, by rw [← e2]; exact PySem.W.mg_of X G e.1⟩
  d_is_number := by
    obtain ⟨f, oc, od, an, kV, dc, pm, cd, ct, osl, a, l, c, k⟩ := F.d_is_number
    have FF := fun_mk (st := s_is_number) l c k
    exact ⟨f, _, FF, PySem.W.mg_of X G a, FF.binds (ps := ["value", "least", "most"]) fun _ _ _ _ _ _ us hl => match us, hl with | [_, _, _], _ => rfl⟩
  d_is_ascending := by
    obtain ⟨f, oc, od, an, kV, dc, pm, cd, ct, osl, a, l, c, k⟩ := F.d_is_ascending
    have FF := fun_mk (st := s_is_ascending) l c k
    exact ⟨f, _, FF, PySem.W.mg_of X G a, FF.binds (ps := ["rows"]) fun _ _ _ _ _ _ us hl => match us, hl with | [_], _ => rfl⟩
  d_is_word := by
    obtain ⟨f, oc, od, an, kV, dc, pm, cd, ct, osl, a, l, c, k⟩ := F.d_is_word
    have FF := fun_mk (st := s_is_word) l c k
    exact ⟨f, _, FF, PySem.W.mg_of X G a, FF.binds (ps := ["value"]) fun _ _ _ _ _ _ us hl => match us, hl with | [_], _ => rfl⟩
  d_places_of := by
    obtain ⟨f, oc, od, an, kV, dc, pm, cd, ct, osl, a, l, c, k⟩ := F.d_places_of
    have FF := fun_mk (st := s_places_of) l c k
    exact ⟨f, _, FF, PySem.W.mg_of X G a, FF.binds (ps := ["part", "word"]) fun _ _ _ _ _ _ us hl => match us, hl with | [_, _], _ => rfl⟩
  d_is_less := by
    obtain ⟨f, oc, od, an, kV, dc, pm, cd, ct, osl, a, l, c, k⟩ := F.d_is_less
    have FF := fun_mk (st := s_is_less) l c k
    exact ⟨f, _, FF, PySem.W.mg_of X G a, FF.binds (ps := ["one", "other"]) fun _ _ _ _ _ _ us hl => match us, hl with | [_, _], _ => rfl⟩
  d_is_rule := by
    obtain ⟨f, oc, od, an, kV, dc, pm, cd, ct, osl, a, l, c, k⟩ := F.d_is_rule
    have FF := fun_mk (st := s_is_rule) l c k
    exact ⟨f, _, FF, PySem.W.mg_of X G a, FF.binds (ps := ["value"]) fun _ _ _ _ _ _ us hl => match us, hl with | [_], _ => rfl⟩
  d_are_rules := by
    obtain ⟨f, oc, od, an, kV, dc, pm, cd, ct, osl, a, l, c, k⟩ := F.d_are_rules
    have FF := fun_mk (st := s_are_rules) l c k
    exact ⟨f, _, FF, PySem.W.mg_of X G a, FF.binds (ps := ["value"]) fun _ _ _ _ _ _ us hl => match us, hl with | [_], _ => rfl⟩
  d_steps_of := by
    obtain ⟨f, oc, od, an, kV, dc, pm, cd, ct, osl, a, l, c, k⟩ := F.d_steps_of
    have FF := fun_mk (st := s_steps_of) l c k
    exact ⟨f, _, FF, PySem.W.mg_of X G a, FF.binds (ps := ["rules", "word"]) fun _ _ _ _ _ _ us hl => match us, hl with | [_, _], _ => rfl⟩
  d_after := by
    obtain ⟨f, oc, od, an, kV, dc, pm, cd, ct, osl, a, l, c, k⟩ := F.d_after
    have FF := fun_mk (st := s_after) l c k
    exact ⟨f, _, FF, PySem.W.mg_of X G a, FF.binds (ps := ["rules", "word", "step"]) fun _ _ _ _ _ _ us hl => match us, hl with | [_, _, _], _ => rfl⟩
  d_is_step := by
    obtain ⟨f, oc, od, an, kV, dc, pm, cd, ct, osl, a, l, c, k⟩ := F.d_is_step
    have FF := fun_mk (st := s_is_step) l c k
    exact ⟨f, _, FF, PySem.W.mg_of X G a, FF.binds (ps := ["rules", "word", "value"]) fun _ _ _ _ _ _ us hl => match us, hl with | [_, _, _], _ => rfl⟩
  d_end_of := by
    obtain ⟨f, oc, od, an, kV, dc, pm, cd, ct, osl, a, l, c, k⟩ := F.d_end_of
    have FF := fun_mk (st := s_end_of) l c k
    exact ⟨f, _, FF, PySem.W.mg_of X G a, FF.binds (ps := ["rules", "word", "value"]) fun _ _ _ _ _ _ us hl => match us, hl with | [_, _, _], _ => rfl⟩
  d_is_way := by
    obtain ⟨f, oc, od, an, kV, dc, pm, cd, ct, osl, a, l, c, k⟩ := F.d_is_way
    have FF := fun_mk (st := s_is_way) l c k
    exact ⟨f, _, FF, PySem.W.mg_of X G a, FF.binds (ps := ["rules", "word", "other", "value"]) fun _ _ _ _ _ _ us hl => match us, hl with | [_, _, _, _], _ => rfl⟩
  d_is_end := by
    obtain ⟨f, oc, od, an, kV, dc, pm, cd, ct, osl, a, l, c, k⟩ := F.d_is_end
    have FF := fun_mk (st := s_is_end) l c k
    exact ⟨f, _, FF, PySem.W.mg_of X G a, FF.binds (ps := ["rules", "word"]) fun _ _ _ _ _ _ us hl => match us, hl with | [_, _], _ => rfl⟩
  d_plain_step := by
    obtain ⟨f, oc, od, an, kV, dc, pm, cd, ct, osl, a, l, c, k⟩ := F.d_plain_step
    have FF := fun_mk (st := s_plain_step) l c k
    exact ⟨f, _, FF, PySem.W.mg_of X G a, FF.binds (ps := ["rules", "word"]) fun _ _ _ _ _ _ us hl => match us, hl with | [_, _], _ => rfl⟩
  d_plain_way := by
    obtain ⟨f, oc, od, an, kV, dc, pm, cd, ct, osl, a, l, c, k⟩ := F.d_plain_way
    have FF := fun_mk (st := s_plain_way) l c k
    exact ⟨f, _, FF, PySem.W.mg_of X G a, FF.binds (ps := ["rules", "word"]) fun _ _ _ _ _ _ us hl => match us, hl with | [_, _], _ => rfl⟩
  d_plain_end := by
    obtain ⟨f, oc, od, an, kV, dc, pm, cd, ct, osl, a, l, c, k⟩ := F.d_plain_end
    have FF := fun_mk (st := s_plain_end) l c k
    exact ⟨f, _, FF, PySem.W.mg_of X G a, FF.binds (ps := ["rules", "word"]) fun _ _ _ _ _ _ us hl => match us, hl with | [_, _], _ => rfl⟩
  d__law_box := by
    obtain ⟨f, oc, od, an, kV, dc, pm, cd, ct, osl, a, l, c, k⟩ := F.d__law_box
    have FF := fun_mk (st := s__law_box) l c k
    exact ⟨f, _, FF, PySem.W.mg_of X G a, FF.binds (ps := ["script"]) fun _ _ _ _ _ _ us hl => match us, hl with | [_], _ => rfl⟩
  d__law_load := by
    obtain ⟨f, oc, od, an, kV, dc, pm, cd, ct, osl, a, l, c, k⟩ := F.d__law_load
    have FF := fun_mk (st := s__law_load) l c k
    exact ⟨f, _, FF, PySem.W.mg_of X G a, FF.binds (ps := ["box"]) fun _ _ _ _ _ _ us hl => match us, hl with | [_], _ => rfl⟩
  d__law_draw := by
    obtain ⟨f, oc, od, an, kV, dc, pm, cd, ct, osl, a, l, c, k⟩ := F.d__law_draw
    have FF := fun_mk (st := s__law_draw) l c k
    exact ⟨f, _, FF, PySem.W.mg_of X G a, FF.binds (ps := ["box", "many"]) fun _ _ _ _ _ _ us hl => match us, hl with | [_, _], _ => rfl⟩
  d__law_same := by
    obtain ⟨f, oc, od, an, kV, dc, pm, cd, ct, osl, a, l, c, k⟩ := F.d__law_same
    have FF := fun_mk (st := s__law_same) l c k
    exact ⟨f, _, FF, PySem.W.mg_of X G a, FF.binds (ps := ["a", "b"]) fun _ _ _ _ _ _ us hl => match us, hl with | [_, _], _ => rfl⟩
  d__law_word := by
    obtain ⟨f, oc, od, an, kV, dc, pm, cd, ct, osl, a, l, c, k⟩ := F.d__law_word
    have FF := fun_mk (st := s__law_word) l c k
    exact ⟨f, _, FF, PySem.W.mg_of X G a, FF.binds (ps := ["box", "most", "letters"]) fun _ _ _ _ _ _ us hl => match us, hl with | [_, _, _], _ => rfl⟩
  d__law_before := by
    obtain ⟨f, oc, od, an, kV, dc, pm, cd, ct, osl, a, l, c, k⟩ := F.d__law_before
    have FF := fun_mk (st := s__law_before) l c k
    exact ⟨f, _, FF, PySem.W.mg_of X G a, FF.binds (ps := ["one", "other"]) fun _ _ _ _ _ _ us hl => match us, hl with | [_, _], _ => rfl⟩
  d__law_rules := by
    obtain ⟨f, oc, od, an, kV, dc, pm, cd, ct, osl, a, l, c, k⟩ := F.d__law_rules
    have FF := fun_mk (st := s__law_rules) l c k
    exact ⟨f, _, FF, PySem.W.mg_of X G a, FF.binds (ps := ["box", "most", "long", "letters"]) fun _ _ _ _ _ _ us hl => match us, hl with | [_, _, _, _], _ => rfl⟩
  d__law_steps := by
    obtain ⟨f, oc, od, an, kV, dc, pm, cd, ct, osl, a, l, c, k⟩ := F.d__law_steps
    have FF := fun_mk (st := s__law_steps) l c k
    exact ⟨f, _, FF, PySem.W.mg_of X G a, FF.binds (ps := ["rules", "word"]) fun _ _ _ _ _ _ us hl => match us, hl with | [_, _], _ => rfl⟩
  d__law_after := by
    obtain ⟨f, oc, od, an, kV, dc, pm, cd, ct, osl, a, l, c, k⟩ := F.d__law_after
    have FF := fun_mk (st := s__law_after) l c k
    exact ⟨f, _, FF, PySem.W.mg_of X G a, FF.binds (ps := ["rules", "word", "step"]) fun _ _ _ _ _ _ us hl => match us, hl with | [_, _, _], _ => rfl⟩
  d__law_plain := by
    obtain ⟨f, oc, od, an, kV, dc, pm, cd, ct, osl, a, l, c, k⟩ := F.d__law_plain
    have FF := fun_mk (st := s__law_plain) l c k
    exact ⟨f, _, FF, PySem.W.mg_of X G a, FF.binds (ps := ["rules", "word"]) fun _ _ _ _ _ _ us hl => match us, hl with | [_, _], _ => rfl⟩
  d__law_bad := by
    obtain ⟨f, oc, od, an, kV, dc, pm, cd, ct, osl, a, l, c, k⟩ := F.d__law_bad
    have FF := fun_mk (st := s__law_bad) l c k
    exact ⟨f, _, FF, PySem.W.mg_of X G a, FF.binds (ps := ["box", "rules"]) fun _ _ _ _ _ _ us hl => match us, hl with | [_, _], _ => rfl⟩
  d__law_leads := by
    obtain ⟨f, oc, od, an, kV, dc, pm, cd, ct, osl, a, l, c, k⟩ := F.d__law_leads
    have FF := fun_mk (st := s__law_leads) l c k
    exact ⟨f, _, FF, PySem.W.mg_of X G a, FF.binds (ps := ["rules", "word", "value"]) fun _ _ _ _ _ _ us hl => match us, hl with | [_, _, _], _ => rfl⟩
  d__law_bent := by
    obtain ⟨f, oc, od, an, kV, dc, pm, cd, ct, osl, a, l, c, k⟩ := F.d__law_bent
    have FF := fun_mk (st := s__law_bent) l c k
    exact ⟨f, _, FF, PySem.W.mg_of X G a, FF.binds (ps := ["box", "way"]) fun _ _ _ _ _ _ us hl => match us, hl with | [_, _], _ => rfl⟩
  d_law := by
    obtain ⟨f, oc, od, an, kV, dc, pm, cd, ct, osl, a, l, c, k⟩ := F.d_law
    have FF := fun_mk (st := s_law) l c k
    exact ⟨f, _, FF, PySem.W.mg_of X G a, FF.binds (ps := ["script"]) fun _ _ _ _ _ _ us hl => match us, hl with | [_], _ => rfl⟩
theorem fin {l : PySem.W.OpenLaw} {w : World} {K : PySem.W.Frag} {h : Heap} {mg : Str → Option Value} {fa : Addr} (X : K.In h) (G : h.Ns mainGlobals mg) (hfa : mg "law" = some (.ref fa)) (FF : Facts K) :
    ∃ fd : FuncData, (∀ (s : Shared) (v : Value), BindsTo s fd ⟨[v], []⟩ [("script", v)]) ∧ ∀ base : Heap, K.In base → base.Ns mainGlobals mg → FnOk l.prog w K mg base CX0 9 fa fd ["script"] (spLaw K) := by
  have T := txt_of X G FF
  obtain ⟨f, oc, od, an, kV, dc, pm, cd, ct, osl, a, lk, c, k⟩ := FF.d_law
  have e := hfa.symm.trans (PySem.W.mg_of X G a)
  cases e
  have F := fun_mk (st := s_law) lk c k
  exact ⟨PySem.W.fnOf "law" "law" (defArgs s_law) (defBody s_law) (defScope s_law) .none kV dc pm an cd ct, fun s v => .of_eq rfl, fun base _ _ => ok_law F T⟩
theorem walk {l : PySem.W.OpenLaw} {q : Program} {loose : List Str} {XP : (Str → Option Value) → Heap → Prop} {YP : World → Heap → Prop} {d : DefRec} {K : Params → PySem.W.Frag} (hn : l.most = some 63) (hdf : d.params.defaults = [])
    (hY : ∀ (w : World) (h : Heap), YP w h → (K w.params).In h)
    (F : ∀ (w : World) (mg : Str → Option Value) (fa : Addr) (h : Heap), (K w.params).In h → h.Ns mainGlobals mg → mg d.name = some (.ref fa) →
      ∃ fd : FuncData, (∀ (s : Shared) (u : Value), BindsTo s fd ⟨[u], []⟩ [("script", u)]) ∧ ∀ base : Heap, (K w.params).In base → base.Ns mainGlobals mg → FnOk l.prog w (K w.params) mg base CX0 9 fa fd ["script"] (spLaw (K w.params))) :
    PySem.W.WalkO q loose XP YP l.row.toRowW d [] (fun f vs => PySem.call f vs) :=
  L2.walk_of (n := 63) (k := 9) (x := "script") (CX := fun _ => CX0) (sp := fun w => spLaw (K w.params)) hn (by decide) hdf ⟨rfl, by decide, by decide⟩ hY F (fun _ _ a ns hl _ hS => ⟨a, ns, rfl, hS, hl, fun _ => rfl⟩) fun _ _ _ _ _ z => z
end K68
set_option linter.all false
set_option maxRecDepth 100000
open PySem PySem.W PyProof.Rows
set_option maxRecDepth 100000 in
set_option maxHeartbeats 0 in
theorem PySem.Challenge.cw_tworeadings_k68_rules_and_ways_holds : PySem.Challenge.rw_tworeadings_k68_rules_and_ways.Holds := by
  w_on; o_law; k_head; (case hw => w_witness2)
  k_fill
  refine K68.walk (l := PySem.Challenge.rw_tworeadings_k68_rules_and_ways) rfl rfl (fun w h Y => PySem.W.kIn_of Y) ?F
  case F =>
    intro w mg fa h KX G hmg
    refine K68.fin KX G hmg ?facts
    constructor
    case b_all => k_is
    case b_bool => k_is
    case b_enumerate => k_is
    case b_int => k_is
    case b_isinstance => k_is
    case b_len => k_is
    case b_list => k_is
    case b_min => k_is
    case b_range => k_is
    case b_sorted => k_is
    case b_str => k_is
    case b_tuple => k_is
    case g_LETTERS => refine' K68.glob_mk ?e ?g; (case e => k_is); (case g => first | exact ⟨_, rfl⟩ | (refine ⟨_, ?_⟩; with_unfolding_all rfl) | trace_state)
    case g_MAX_LEFT => refine' K68.glob_mk ?e ?g; (case e => k_is); (case g => first | exact ⟨_, rfl⟩ | (refine ⟨_, ?_⟩; with_unfolding_all rfl) | trace_state)
    case g_MAX_RULES => refine' K68.glob_mk ?e ?g; (case e => k_is); (case g => first | exact ⟨_, rfl⟩ | (refine ⟨_, ?_⟩; with_unfolding_all rfl) | trace_state)
    case g_MAX_SEEN => refine' K68.glob_mk ?e ?g; (case e => k_is); (case g => first | exact ⟨_, rfl⟩ | (refine ⟨_, ?_⟩; with_unfolding_all rfl) | trace_state)
    case g_MAX_WORD => refine' K68.glob_mk ?e ?g; (case e => k_is); (case g => first | exact ⟨_, rfl⟩ | (refine ⟨_, ?_⟩; with_unfolding_all rfl) | trace_state)
    case d_is_number =>
      refine' K68.defIs_mk ?a ?l ?c ?k
      (case a => k_is); (case l => k_is); (case c => k_is); (case k => k_is)
    case d_is_ascending =>
      refine' K68.defIs_mk ?a ?l ?c ?k
      (case a => k_is); (case l => k_is); (case c => k_is); (case k => k_is)
    case d_is_word =>
      refine' K68.defIs_mk ?a ?l ?c ?k
      (case a => k_is); (case l => k_is); (case c => k_is); (case k => k_is)
    case d_places_of =>
      refine' K68.defIs_mk ?a ?l ?c ?k
      (case a => k_is); (case l => k_is); (case c => k_is); (case k => k_is)
    case d_is_less =>
      refine' K68.defIs_mk ?a ?l ?c ?k
      (case a => k_is); (case l => k_is); (case c => k_is); (case k => k_is)
    case d_is_rule =>
      refine' K68.defIs_mk ?a ?l ?c ?k
      (case a => k_is); (case l => k_is); (case c => k_is); (case k => k_is)
    case d_are_rules =>
      refine' K68.defIs_mk ?a ?l ?c ?k
      (case a => k_is); (case l => k_is); (case c => k_is); (case k => k_is)
    case d_steps_of =>
      refine' K68.defIs_mk ?a ?l ?c ?k
      (case a => k_is); (case l => k_is); (case c => k_is); (case k => k_is)
    case d_after =>
      refine' K68.defIs_mk ?a ?l ?c ?k
      (case a => k_is); (case l => k_is); (case c => k_is); (case k => k_is)
    case d_is_step =>
      refine' K68.defIs_mk ?a ?l ?c ?k
      (case a => k_is); (case l => k_is); (case c => k_is); (case k => k_is)
    case d_end_of =>
      refine' K68.defIs_mk ?a ?l ?c ?k
      (case a => k_is); (case l => k_is); (case c => k_is); (case k => k_is)
    case d_is_way =>
      refine' K68.defIs_mk ?a ?l ?c ?k
      (case a => k_is); (case l => k_is); (case c => k_is); (case k => k_is)
    case d_is_end =>
      refine' K68.defIs_mk ?a ?l ?c ?k
      (case a => k_is); (case l => k_is); (case c => k_is); (case k => k_is)
    case d_plain_step =>
      refine' K68.defIs_mk ?a ?l ?c ?k
      (case a => k_is); (case l => k_is); (case c => k_is); (case k => k_is)
    case d_plain_way =>
      refine' K68.defIs_mk ?a ?l ?c ?k
      (case a => k_is); (case l => k_is); (case c => k_is); (case k => k_is)
    case d_plain_end =>
      refine' K68.defIs_mk ?a ?l ?c ?k
      (case a => k_is); (case l => k_is); (case c => k_is); (case k => k_is)
    case d__law_box =>
      refine' K68.defIs_mk ?a ?l ?c ?k
      (case a => k_is); (case l => k_is); (case c => k_is); (case k => k_is)
    case d__law_load =>
      refine' K68.defIs_mk ?a ?l ?c ?k
      (case a => k_is); (case l => k_is); (case c => k_is); (case k => k_is)
    case d__law_draw =>
      refine' K68.defIs_mk ?a ?l ?c ?k
      (case a => k_is); (case l => k_is); (case c => k_is); (case k => k_is)
    case d__law_same =>
      refine' K68.defIs_mk ?a ?l ?c ?k
      (case a => k_is); (case l => k_is); (case c => k_is); (case k => k_is)
    case d__law_word =>
      refine' K68.defIs_mk ?a ?l ?c ?k
      (case a => k_is); (case l => k_is); (case c => k_is); (case k => k_is)
    case d__law_before =>
      refine' K68.defIs_mk ?a ?l ?c ?k
      (case a => k_is); (case l => k_is); (case c => k_is); (case k => k_is)
    case d__law_rules =>
      refine' K68.defIs_mk ?a ?l ?c ?k
      (case a => k_is); (case l => k_is); (case c => k_is); (case k => k_is)
    case d__law_steps =>
      refine' K68.defIs_mk ?a ?l ?c ?k
      (case a => k_is); (case l => k_is); (case c => k_is); (case k => k_is)
    case d__law_after =>
      refine' K68.defIs_mk ?a ?l ?c ?k
      (case a => k_is); (case l => k_is); (case c => k_is); (case k => k_is)
    case d__law_plain =>
      refine' K68.defIs_mk ?a ?l ?c ?k
      (case a => k_is); (case l => k_is); (case c => k_is); (case k => k_is)
    case d__law_bad =>
      refine' K68.defIs_mk ?a ?l ?c ?k
      (case a => k_is); (case l => k_is); (case c => k_is); (case k => k_is)
    case d__law_leads =>
      refine' K68.defIs_mk ?a ?l ?c ?k
      (case a => k_is); (case l => k_is); (case c => k_is); (case k => k_is)
    case d__law_bent =>
      refine' K68.defIs_mk ?a ?l ?c ?k
      (case a => k_is); (case l => k_is); (case c => k_is); (case k => k_is)
    case d_law =>
      refine' K68.defIs_mk ?a ?l ?c ?k
      (case a => k_is); (case l => k_is); (case c => k_is); (case k => k_is)
