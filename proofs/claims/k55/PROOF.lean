import PyProof.Rows.All
import Wide.All
import OpenK.AllK
import Wide.FinOn
import HandS.ForMost
import HandS.Style
import HandS.Defaults
import HandS.MakeKwOnly
import HandS.TupMul
import PyProof.Rows.TupAdd
import KE.GoesEnum
import HandS.TupAny
import PyProof.ReprRoads
import PyProof.ListMulRoad
import PyProof.FactsAll.tuple_2
import HandS.Walk
import PySem.Challenge.RW_litmuscore_k55_whole_deliveries_commute
import HandS.Codes
import PyProof.ReprBulk
import PyProof.Rows.ReprOcc
import HandS.Ends
import PyProof.Rows.SortStr
set_option Elab.async false
set_option linter.all false
set_option maxRecDepth 100000
set_option maxHeartbeats 4000000
/-! DL1: values that represent data; canonical readings; expressions. -/
namespace DL
open PySem L2

abbrev Env := List (Option PyData)

inductive Sc : V → PyData → Prop
  | non : Sc .non .none
  | bl (b : Bool) : Sc (.bl b) (.bool b)
  | int (i : Int) : Sc (.int i) (.int i)
  | str (x : Str) : Sc (.str x) (.str x)

def cget : List (PyData × PyData) → Str → Option PyData
  | [], _ => none
  | (.str s, v) :: r, n => if s = n then some v else cget r n
  | _ :: r, n => cget r n

mutual
inductive Rp (K : PySem.W.Frag) (C : Addr) (H : Hp) : V → PyData → Prop
  | sc {v : V} {d : PyData} : Sc v d → Rp K C H v d
  | lst {a : Addr} {xs : List V} {ds : List PyData} : SqL K H a xs → RpAll K C H xs ds → Rp K C H (.ref a) (.list ds)
  | tup {a : Addr} {xs : List V} {ds : List PyData} : SqT K H a xs → RpAll K C H xs ds → Rp K C H (.ref a) (.tuple ds)
  | cfg {a dx : Addr} {fs : List (Str × V)} {kvs : List (PyData × PyData)} : H a = some (.ins C dx fs) → (∀ n d, cget kvs n = some d → ∃ w, fs.lookup n = some w ∧ Sc w d) → Rp K C H (.ref a) (.dict kvs)
inductive RpAll (K : PySem.W.Frag) (C : Addr) (H : Hp) : List V → List PyData → Prop
  | nil : RpAll K C H [] []
  | cons {v : V} {vs : List V} {d : PyData} {ds : List PyData} : Rp K C H v d → RpAll K C H vs ds → RpAll K C H (v :: vs) (d :: ds)
end

section
variable {K : PySem.W.Frag} {C : Addr} {H H' : Hp}
theorem same_t {a : Addr} {xs : List V} (e : Same H H') (h : SqT K H a xs) : SqT K H' a xs := by
  rcases h with (h | ⟨o, h⟩) | h
  · exact .inl (.inl (e _ _ h))
  · exact .inl (.inr ⟨o, e _ _ h⟩)
  · exact .inr h
theorem same_new {H : Hp} {p : Addr} {o : HO} (h : H p = none) : Same H (upd H p o) := fun a u e => by
  rw [upd_ne (ne_of_none e h)]
  exact e
mutual
theorem Rp.mono (e : Same H H') : ∀ (d : PyData) {v : V}, Rp K C H v d → Rp K C H' v d
  | .none, _, h => by
    cases h with
    | sc s => exact .sc s
  | .bool _, _, h => by
    cases h with
    | sc s => exact .sc s
  | .int _, _, h => by
    cases h with
    | sc s => exact .sc s
  | .str _, _, h => by
    cases h with
    | sc s => exact .sc s
  | .list ds, _, h => by
    cases h with
    | sc s => exact .sc s
    | lst h1 h2 => exact .lst (e.seq h1) (RpAll.mono e ds h2)
  | .tuple ds, _, h => by
    cases h with
    | sc s => exact .sc s
    | tup h1 h2 => exact .tup (same_t e h1) (RpAll.mono e ds h2)
  | .dict _, _, h => by
    cases h with
    | sc s => exact .sc s
    | cfg h1 h2 => exact .cfg (e _ _ h1) h2
theorem RpAll.mono (e : Same H H') : ∀ (ds : List PyData) {vs : List V}, RpAll K C H vs ds → RpAll K C H' vs ds
  | [], _, h => by
    cases h
    exact .nil
  | d :: ds, _, h => by
    cases h with
    | cons h1 h2 => exact .cons (Rp.mono e d h1) (RpAll.mono e ds h2)
end
theorem Rp.mn {v : V} {d : PyData} (h : Rp K C H v d) (e : Same H H') : Rp K C H' v d := Rp.mono e d h
theorem RpAll.mn {vs : List V} {ds : List PyData} (h : RpAll K C H vs ds) (e : Same H H') : RpAll K C H' vs ds := RpAll.mono e ds h
theorem RpAll.length : ∀ {vs : List V} {ds : List PyData}, RpAll K C H vs ds → vs.length = ds.length
  | _, _, .nil => rfl
  | _, _, .cons _ h => by simp [RpAll.length h]
theorem RpAll.get : ∀ {vs : List V} {ds : List PyData} {i : Nat} {d : PyData}, RpAll K C H vs ds → ds[i]? = some d → ∃ v, vs[i]? = some v ∧ Rp K C H v d
  | _, _, _, _, .nil, e => by simp at e
  | _, _, 0, d, .cons r _, e => by simp at e; subst e; exact ⟨_, rfl, r⟩
  | _, _, i + 1, d, .cons _ t, e => by
    obtain ⟨v, h1, h2⟩ := RpAll.get (i := i) (d := d) t (by simpa using e)
    exact ⟨v, by simpa using h1, h2⟩
theorem RpAll.getV : ∀ {vs : List V} {ds : List PyData} {i : Nat} {v : V}, RpAll K C H vs ds → vs[i]? = some v → ∃ d, ds[i]? = some d ∧ Rp K C H v d
  | _, _, _, _, .nil, e => by simp at e
  | _, _, 0, d, .cons r _, e => by simp at e; subst e; exact ⟨_, rfl, r⟩
  | _, _, i + 1, d, .cons _ t, e => by
    obtain ⟨v, h1, h2⟩ := RpAll.getV (i := i) (v := d) t (by simpa using e)
    exact ⟨v, by simpa using h1, h2⟩
theorem RpAll.append : ∀ {vs ws : List V} {ds es : List PyData}, RpAll K C H vs ds → RpAll K C H ws es → RpAll K C H (vs ++ ws) (ds ++ es)
  | _, _, _, _, .nil, s => s
  | _, _, _, _, .cons r t, s => .cons r (RpAll.append t s)
theorem RpAll.take : ∀ {vs : List V} {ds : List PyData} (n : Nat), RpAll K C H vs ds → RpAll K C H (vs.take n) (ds.take n)
  | _, _, 0, _ => .nil
  | _, _, _ + 1, .nil => .nil
  | _, _, n + 1, .cons r t => .cons r (RpAll.take n t)
theorem RpAll.drop : ∀ {vs : List V} {ds : List PyData} (n : Nat), RpAll K C H vs ds → RpAll K C H (vs.drop n) (ds.drop n)
  | _, _, 0, r => r
  | _, _, _ + 1, .nil => .nil
  | _, _, n + 1, .cons _ t => RpAll.drop n t
theorem RpAll.rep {vs : List V} {ds : List PyData} (h : RpAll K C H vs ds) : ∀ k : Nat, RpAll K C H (List.replicate k vs).flatten (List.replicate k ds).flatten
  | 0 => .nil
  | k + 1 => by
    rw [List.replicate_succ, List.replicate_succ, List.flatten_cons, List.flatten_cons]
    exact h.append (RpAll.rep h k)
theorem RpAll.at {vs : List V} {ds : List PyData} {i : Int} {d : PyData} (h : RpAll K C H vs ds) (e : atI ds i = some d) : ∃ v, atI vs i = some v ∧ Rp K C H v d := by
  unfold atI at e ⊢
  rw [h.length]
  cases q : ixN ds.length i with
  | none => rw [q] at e; cases e
  | some j =>
    rw [q] at e
    exact h.get (by simpa using e)
theorem Rp.nonI {v : V} (h : Rp K C H v .none) : v = .non := by
  cases h with
  | sc s => cases s; rfl
theorem Rp.blI {v : V} {b : Bool} (h : Rp K C H v (.bool b)) : v = .bl b := by
  cases h with
  | sc s => cases s; rfl
theorem Rp.intI {v : V} {i : Int} (h : Rp K C H v (.int i)) : v = .int i := by
  cases h with
  | sc s => cases s; rfl
theorem Rp.strI {v : V} {x : Str} (h : Rp K C H v (.str x)) : v = .str x := by
  cases h with
  | sc s => cases s; rfl
theorem Rp.lstI {v : V} {ds : List PyData} (h : Rp K C H v (.list ds)) : ∃ a xs, v = .ref a ∧ SqL K H a xs ∧ RpAll K C H xs ds := by
  cases h with
  | sc s => cases s
  | lst h1 h2 => exact ⟨_, _, rfl, h1, h2⟩
theorem Rp.tupI {v : V} {ds : List PyData} (h : Rp K C H v (.tuple ds)) : ∃ a xs, v = .ref a ∧ SqT K H a xs ∧ RpAll K C H xs ds := by
  cases h with
  | sc s => cases s
  | tup h1 h2 => exact ⟨_, _, rfl, h1, h2⟩
theorem Rp.cfgI {v : V} {kvs : List (PyData × PyData)} (h : Rp K C H v (.dict kvs)) : ∃ a dx fs, v = .ref a ∧ H a = some (.ins C dx fs) ∧ ∀ n d, cget kvs n = some d → ∃ w, fs.lookup n = some w ∧ Sc w d := by
  cases h with
  | sc s => cases s
  | cfg h1 h2 => exact ⟨_, _, _, rfl, h1, h2⟩
end

/-! ### slots -/
inductive Rs (K : PySem.W.Frag) (C : Addr) (H : Hp) : L2.St → Env → Prop
  | nil : Rs K C H [] []
  | cons {o : Option V} {p : Option PyData} {σ : L2.St} {Δ : Env} : (∀ d, p = some d → ∃ v, o = some v ∧ Rp K C H v d) → Rs K C H σ Δ → Rs K C H (o :: σ) (p :: Δ)
section
variable {K : PySem.W.Frag} {C : Addr} {H H' : Hp}
theorem Rs.mn : ∀ {σ : L2.St} {Δ : Env}, Rs K C H σ Δ → Same H H' → Rs K C H' σ Δ
  | _, _, .nil, _ => .nil
  | _, _, .cons h t, e => .cons (fun d q => let ⟨v, a, b⟩ := h d q; ⟨v, a, b.mn e⟩) (Rs.mn t e)
theorem Rs.get : ∀ {σ : L2.St} {Δ : Env} {i : Nat} {d : PyData}, Rs K C H σ Δ → Δ[i]? = some (some d) → ∃ v, σ[i]? = some (some v) ∧ Rp K C H v d
  | _, _, _, _, .nil, e => by simp at e
  | _, _, 0, d, .cons h _, e => by
    simp at e
    obtain ⟨v, a, b⟩ := h d e
    exact ⟨v, by simp [a], b⟩
  | _, _, i + 1, d, .cons _ t, e => by
    obtain ⟨v, h1, h2⟩ := Rs.get (i := i) (d := d) t (by simpa using e)
    exact ⟨v, by simpa using h1, h2⟩
theorem Rs.set : ∀ {σ : L2.St} {Δ : Env} (i : Nat) {v : V} {d : PyData}, Rs K C H σ Δ → Rp K C H v d → Rs K C H (σ.set i (some v)) (Δ.set i (some d))
  | _, _, _, _, _, .nil, _ => .nil
  | _, _, 0, v, d, .cons _ t, r => .cons (fun d' q => by cases q; exact ⟨v, rfl, r⟩) t
  | _, _, i + 1, _, _, .cons h t, r => .cons h (Rs.set i t r)
theorem Rs.unset : ∀ {σ : L2.St} {Δ : Env} (i : Nat), Rs K C H σ Δ → Rs K C H (σ.set i none) (Δ.set i none)
  | _, _, _, .nil => .nil
  | _, _, 0, .cons _ t => .cons (fun _ q => nomatch q) t
  | _, _, i + 1, .cons h t => .cons h (Rs.unset i t)
/-- a slot of which nothing is told as data -/
theorem Rs.hide : ∀ {σ : L2.St} {Δ : Env} (i : Nat) (o : Option V), Rs K C H σ Δ → Rs K C H (σ.set i o) (Δ.set i none)
  | _, _, _, _, .nil => .nil
  | _, _, 0, _, .cons _ t => .cons (fun _ q => nomatch q) t
  | _, _, i + 1, o, .cons h t => .cons h (Rs.hide i o t)
theorem Rs.start : ∀ {vs : List V} {ds : List PyData} (n : Nat), RpAll K C H vs ds → Rs K C H (vs.map some ++ List.replicate n none) (ds.map some ++ List.replicate n none)
  | _, _, 0, .nil => .nil
  | _, _, n + 1, .nil => .cons (fun _ q => nomatch q) (Rs.start (vs := []) (ds := []) n .nil)
  | _, _, n, .cons r t => .cons (fun d q => by cases q; exact ⟨_, rfl, r⟩) (Rs.start n t)
end

/-! ### canonical readings -/
inductive Res where
  | nx (Δ : Env)
  | rt (d : PyData)
def tD (K : PySem.W.Frag) (C : Addr) (f : Env → Option PyData) : TE := fun σ H Q => ∃ Δ d, Rs K C H σ Δ ∧ f Δ = some d ∧ ∀ v H', Same H H' → Rp K C H' v d → Q v H'
def tDT (K : PySem.W.Frag) (C : Addr) (f : Env → Option Bool) : TT := fun σ H Q => ∃ Δ b, Rs K C H σ Δ ∧ f Δ = some b ∧ ∀ H', Same H H' → Q b H'
def tDA (K : PySem.W.Frag) (C : Addr) (f : Env → Option (List PyData)) : TA := fun σ H Q => ∃ Δ ds, Rs K C H σ Δ ∧ f Δ = some ds ∧ ∀ vs H', Same H H' → RpAll K C H' vs ds → Q vs H'
def endR (K : PySem.W.Frag) (C : Addr) (H : Hp) (D : Ends) : Res → Prop
  | .nx Δ' => ∀ σ' H', Same H H' → Rs K C H' σ' Δ' → D.nx σ' H'
  | .rt d => ∀ v H', Same H H' → Rp K C H' v d → D.rt v H'
def tDS (K : PySem.W.Frag) (C : Addr) (g : Env → Option Res) : TS := fun D σ H => ∃ Δ r, Rs K C H σ Δ ∧ g Δ = some r ∧ endR K C H D r

theorem pe_imp {X : Cx} {e : Expr} {t t' : TE} (h : PE X e t) (i : ∀ σ H Q, t' σ H Q → t σ H Q) : PE X e t' := ⟨fun pins s σ H Q I q => h.run pins s σ H Q I (i σ H Q q)⟩
theorem pt_imp {X : Cx} {e : Expr} {t t' : TT} (h : PT X e t) (i : ∀ σ H Q, t' σ H Q → t σ H Q) : PT X e t' := ⟨fun pins s σ H Q I q => h.run pins s σ H Q I (i σ H Q q)⟩
theorem pw_imp {X : Cx} {e : Expr} {t t' : TT} (h : PW X e t) (i : ∀ σ H Q, t' σ H Q → t σ H Q) : PW X e t' := ⟨fun wh pins s σ H Q I q => h.run wh pins s σ H Q I (i σ H Q q)⟩
theorem pa_imp {X : Cx} {e : List Expr} {t t' : TA} (h : PA X e t) (i : ∀ σ H Q, t' σ H Q → t σ H Q) : PA X e t' := ⟨fun pos pins s σ H Q I q => h.run pos pins s σ H Q I (i σ H Q q)⟩
theorem ps_imp {X : Cx} {e : Stmt} {t t' : TS} (h : PS X e t) (i : ∀ D σ H, t' D σ H → t D σ H) : PS X e t' := ⟨fun pins s σ H D I q => h.run pins s σ H D I (i D σ H q)⟩
theorem pss_imp {X : Cx} {e : List Stmt} {t t' : TS} (h : PSs X e t) (i : ∀ D σ H, t' D σ H → t D σ H) : PSs X e t' := ⟨fun pins s σ H D I q => h.run pins s σ H D I (i D σ H q)⟩

/-! ### the data's functions -/
def ev (i : Nat) : Env → Option PyData := fun Δ => match Δ[i]? with | some (some d) => some d | _ => none
def ec (d : PyData) : Env → Option PyData := fun _ => some d
def e1 (F : PyData → Option PyData) (fa : Env → Option PyData) : Env → Option PyData := fun Δ => match fa Δ with | some x => F x | none => none
def e2 (F : PyData → PyData → Option PyData) (fa fb : Env → Option PyData) : Env → Option PyData := fun Δ => match fa Δ with | some x => (match fb Δ with | some y => F x y | none => none) | none => none
def anil : Env → Option (List PyData) := fun _ => some []
def acons (fa : Env → Option PyData) (fr : Env → Option (List PyData)) : Env → Option (List PyData) := fun Δ => match fa Δ with | some x => (match fr Δ with | some r => some (x :: r) | none => none) | none => none
def etup (fs : Env → Option (List PyData)) : Env → Option PyData := fun Δ => match fs Δ with | some ds => if ds.length ≤ 1000 then some (.tuple ds) else none | none => none
def elst (fs : Env → Option (List PyData)) : Env → Option PyData := fun Δ => match fs Δ with | some ds => if ds.length ≤ 1000 then some (.list ds) else none | none => none
def eif (c : Env → Option Bool) (fa fb : Env → Option PyData) : Env → Option PyData := fun Δ => match c Δ with | some true => fa Δ | some false => fb Δ | none => none
def ecall (F : List PyData → Option PyData) (fs : Env → Option (List PyData)) : Env → Option PyData := fun Δ => match fs Δ with | some ds => F ds | none => none
/-- a value that is a bool, as a test -/
def tb (fa : Env → Option PyData) : Env → Option Bool := fun Δ => match fa Δ with | some (.bool b) => some b | _ => none
def truD : PyData → Option Bool
  | .none => some false
  | .bool b => some b
  | .int i => some (i != 0)
  | .tuple ds => some (!ds.isEmpty)
  | .list ds => some (!ds.isEmpty)
  | _ => none
def ttru (fa : Env → Option PyData) : Env → Option Bool := fun Δ => match fa Δ with | some d => truD d | none => none
def tand (t u : Env → Option Bool) : Env → Option Bool := fun Δ => match t Δ with | some true => u Δ | some false => some false | none => none
def tor (t u : Env → Option Bool) : Env → Option Bool := fun Δ => match t Δ with | some false => u Δ | some true => some true | none => none
def tnot (t : Env → Option Bool) : Env → Option Bool := fun Δ => match t Δ with | some b => some (!b) | none => none

def addD : PyData → PyData → Option PyData
  | .int i, .int j => some (.int (i + j))
  | .tuple a, .tuple b => if a.length + b.length ≤ 1000 then some (.tuple (a ++ b)) else none
  | _, _ => none
def subD : PyData → PyData → Option PyData
  | .int i, .int j => some (.int (i - j))
  | _, _ => none
/-- the left or the right factor is small -/
def mulD : PyData → PyData → Option PyData
  | .int i, .int j => if (-(2 ^ 64) < i ∧ i < 2 ^ 64) ∨ (-(2 ^ 64) < j ∧ j < 2 ^ 64) then some (.int (i * j)) else none
  | .tuple xs, .int k => if xs ≠ [] ∧ xs.length ≤ 1000 ∧ 1 ≤ k ∧ k ≤ 1000 then some (.tuple (List.replicate k.toNat xs).flatten) else none
  | _, _ => none
def divD : PyData → PyData → Option PyData
  | .int i, .int j => if 0 < j ∧ j < 1073741824 then some (.int (i / j)) else none
  | _, _ => none
def modD : PyData → PyData → Option PyData
  | .int i, .int j => if 0 < j then some (.int (i % j)) else none
  | _, _ => none
def ltD : PyData → PyData → Option PyData
  | .int i, .int j => some (.bool (decide (i < j)))
  | _, _ => none
def leD : PyData → PyData → Option PyData
  | .int i, .int j => some (.bool (decide (i ≤ j)))
  | _, _ => none
def gtD : PyData → PyData → Option PyData
  | .int i, .int j => some (.bool (decide (j < i)))
  | _, _ => none
def geD : PyData → PyData → Option PyData
  | .int i, .int j => some (.bool (decide (j ≤ i)))
  | _, _ => none
def seqD : PyData → PyData → Option Bool
  | .int i, .int j => some (decide (i = j))
  | .str x, .str y => some (decide (x = y))
  | .bool a, .bool b => some (decide (a = b))
  | .none, .none => some true
  | .none, .int _ => some false
  | .int _, .none => some false
  | .none, .str _ => some false
  | .str _, .none => some false
  | _, _ => none
def eqD (x y : PyData) : Option PyData := (seqD x y).map PyData.bool
def neD (x y : PyData) : Option PyData := (seqD x y).map fun b => PyData.bool (!b)
def isNone : PyData → Bool
  | .none => true
  | _ => false
def isnD (x y : PyData) : Option PyData := match y with | .none => some (.bool (isNone x)) | _ => none
def notnD (x y : PyData) : Option PyData := match y with | .none => some (.bool (!isNone x)) | _ => none
def flatD : PyData → Bool
  | .none => true
  | .bool _ => true
  | .int _ => true
  | .str _ => true
  | _ => false
/-- == of flat data, int with int, text with text .. -/
def eqF : PyData → PyData → Bool
  | .none, .none => true
  | .bool a, .bool b => a == b
  | .bool a, .int b => (if a then 1 else 0) == b
  | .int a, .bool b => a == (if b then 1 else 0)
  | .int a, .int b => a == b
  | .str a, .str b => a == b
  | _, _ => false
def inD (x y : PyData) : Option PyData := match y with
  | .tuple ds => if flatD x = true ∧ ds.all flatD = true then some (.bool (ds.any fun e => eqF e x)) else none
  | .list ds => if flatD x = true ∧ ds.all flatD = true then some (.bool (ds.any fun e => eqF e x)) else none
  | _ => none
def ninD (x y : PyData) : Option PyData := match y with
  | .tuple ds => if flatD x = true ∧ ds.all flatD = true then some (.bool (!ds.any fun e => eqF e x)) else none
  | .list ds => if flatD x = true ∧ ds.all flatD = true then some (.bool (!ds.any fun e => eqF e x)) else none
  | _ => none
def ixD (x y : PyData) : Option PyData := match x, y with
  | .tuple ds, .int i => atI ds i
  | .list ds, .int i => atI ds i
  | _, _ => none
def attrD (n : Str) : PyData → Option PyData
  | .dict kvs => cget kvs n
  | _ => none
def notD : PyData → Option PyData
  | .bool b => some (.bool (!b))
  | _ => none
def lenD : PyData → Option PyData
  | .tuple ds => some (.int ds.length)
  | .list ds => some (.int ds.length)
  | _ => none
def tupD : PyData → Option PyData
  | .tuple ds => some (.tuple ds)
  | .list ds => some (.tuple ds)
  | _ => none
def intD : PyData → Option PyData
  | .int i => some (.int i)
  | .bool b => some (.int (if b then 1 else 0))
  | _ => none

/-! ### what an operation on values gives on data -/
def OpD (K : PySem.W.Frag) (C : Addr) (r : R2) (F : PyData → PyData → Option PyData) : Prop :=
  ∀ (x y : V) (H : Hp) (dx dy d : PyData) (Q : VK), Rp K C H x dx → Rp K C H y dy → F dx dy = some d → (∀ v H', Same H H' → Rp K C H' v d → Q v H') → r x y H Q

section
variable {X : Cx} {C : Addr} {K : PySem.W.Frag} {a b : Expr} {fa fb : Env → Option PyData} {r : R2} {F : PyData → PyData → Option PyData} {pos : Pos}

theorem op_read (od : OpD K C r F) {σ : L2.St} {H : Hp} {Q : VK} (h : tD K C (e2 F fa fb) σ H Q) : tOp r (tD K C fa) (tD K C fb) σ H Q := by
  obtain ⟨Δ, d, hs, hf, q⟩ := h
  unfold e2 at hf
  cases ea : fa Δ with
  | none => rw [ea] at hf; cases hf
  | some x =>
    rw [ea] at hf
    cases eb : fb Δ with
    | none => rw [eb] at hf; cases hf
    | some y =>
      rw [eb] at hf
      refine ⟨Δ, x, hs, ea, fun v H1 s1 r1 => ⟨Δ, y, hs.mn s1, eb, fun w H2 s2 r2 => ?_⟩⟩
      exact od v w H2 x y d Q (r1.mn s2) r2 hf fun z H3 s3 r3 => q z H3 ((s1.trans s2).trans s3) r3
theorem dx_op {op : Operator} (ho : OpR X (binaryOp op) r) (od : OpD X.K C r F) (ha : PE X a (tD X.K C fa)) (hb : PE X b (tD X.K C fb)) : PE X (.BinOp a op b pos) (tD X.K C (e2 F fa fb)) :=
  pe_imp (pe_op ho ha hb) fun _ _ _ h => op_read od h
theorem dx_cmp {op : CmpOp} (ho : OpR X (compareOp op) r) (od : OpD X.K C r F) (ha : PE X a (tD X.K C fa)) (hb : PE X b (tD X.K C fb)) (hm : behindInMarks op b = false) : PE X (.Compare a [op] [b] pos) (tD X.K C (e2 F fa fb)) :=
  pe_imp (pe_cmpR ho ha hb hm) fun _ _ _ h => op_read od h
theorem tb_read {f : Env → Option PyData} {σ : L2.St} {H : Hp} {Q : Bool → Hp → Prop} (h : tDT K C (tb f) σ H Q) : tD K C f σ H fun x H' => ∃ k, x = .bl k ∧ Q k H' := by
  obtain ⟨Δ, b, hs, hf, q⟩ := h
  unfold tb at hf
  cases ea : f Δ with
  | none => rw [ea] at hf; cases hf
  | some x =>
    rw [ea] at hf
    cases x with
    | bool c =>
      cases hf
      exact ⟨Δ, _, hs, ea, fun v H1 s1 r1 => ⟨_, r1.blI, q H1 s1⟩⟩
    | _ => cases hf
theorem dt_cmp {op : CmpOp} (ho : OpR X (compareOp op) r) (od : OpD X.K C r F) (ha : PE X a (tD X.K C fa)) (hb : PE X b (tD X.K C fb)) (hm : behindInMarks op b = false) : PT X (.Compare a [op] [b] pos) (tDT X.K C (tb (e2 F fa fb))) :=
  pt_imp (pt_cmpR ho ha hb hm) fun _ _ _ h => op_read od (tb_read h)
theorem dt_val {e : Expr} {f : Env → Option PyData} (h : PE X e (tD X.K C f)) (he : ∀ whole, isTrue e X.env whole = (do let v ← whole; standAt e.pos; holding [v] (truthy v)) := by intro _; rfl) : PT X e (tDT X.K C (tb f)) :=
  pt_imp (pt_val h he) fun _ _ _ q => tb_read q
theorem dt_tru {e : Expr} {f : Env → Option PyData} (h : PE X e (tD X.K C f)) (he : ∀ whole, isTrue e X.env whole = (do let v ← whole; standAt e.pos; holding [v] (truthy v)) := by intro _; rfl) : PT X e (tDT X.K C (ttru f)) := by
  refine pt_imp (pt_truth h he) fun σ H Q q => ?_
  obtain ⟨Δ, b, hs, hf, q⟩ := q
  unfold ttru at hf
  cases ea : f Δ with
  | none => rw [ea] at hf; cases hf
  | some x =>
    rw [ea] at hf
    refine ⟨Δ, x, hs, ea, fun v H1 s1 r1 => ⟨b, ?_, q H1 s1⟩⟩
    cases x with
    | none => cases hf; rw [r1.nonI]; rfl
    | bool c => cases hf; rw [r1.blI]; rfl
    | int i => cases hf; rw [r1.intI]; rfl
    | tuple ds =>
      cases hf
      obtain ⟨p, xs, rfl, h1, h2⟩ := r1.tupI
      refine Or.inr (Or.inl ⟨xs, h1, ?_⟩)
      cases h2 <;> rfl
    | list ds =>
      cases hf
      obtain ⟨p, xs, rfl, h1, h2⟩ := r1.lstI
      refine Or.inl ⟨xs, h1, ?_⟩
      cases h2 <;> rfl
    | _ => cases hf

/-! ### and, or, not, if -/
section
variable {t u : Env → Option Bool} {rest : List Expr}
theorem dt_and (ha : PT X a (tDT X.K C t)) (hb : PW X (.BoolOp .And (b :: rest) pos) (tDT X.K C u)) : PW X (.BoolOp .And (a :: b :: rest) pos) (tDT X.K C (tand t u)) := by
  refine pw_imp (pw_and ha hb) fun σ H Q q => ?_
  obtain ⟨Δ, c, hs, hf, q⟩ := q
  unfold tand at hf
  cases ea : t Δ with
  | none => rw [ea] at hf; cases hf
  | some x =>
    rw [ea] at hf
    refine ⟨Δ, x, hs, ea, fun H1 s1 => ?_⟩
    cases x with
    | true => exact ⟨Δ, c, hs.mn s1, hf, fun H2 s2 => q H2 (s1.trans s2)⟩
    | false => cases hf; exact q H1 s1
theorem dt_or (ha : PT X a (tDT X.K C t)) (hb : PW X (.BoolOp .Or (b :: rest) pos) (tDT X.K C u)) : PW X (.BoolOp .Or (a :: b :: rest) pos) (tDT X.K C (tor t u)) := by
  refine pw_imp (pw_or ha hb) fun σ H Q q => ?_
  obtain ⟨Δ, c, hs, hf, q⟩ := q
  unfold tor at hf
  cases ea : t Δ with
  | none => rw [ea] at hf; cases hf
  | some x =>
    rw [ea] at hf
    refine ⟨Δ, x, hs, ea, fun H1 s1 => ?_⟩
    cases x with
    | false => exact ⟨Δ, c, hs.mn s1, hf, fun H2 s2 => q H2 (s1.trans s2)⟩
    | true => cases hf; exact q H1 s1
theorem dt_and1 (ha : PT X a (tDT X.K C t)) : PW X (.BoolOp .And [a] pos) (tDT X.K C t) := pw_and1 ha
theorem dt_or1 (ha : PT X a (tDT X.K C t)) : PW X (.BoolOp .Or [a] pos) (tDT X.K C t) := pw_or1 ha
theorem dt_not (ha : PT X a (tDT X.K C t)) : PT X (.UnaryOp .Not a pos) (tDT X.K C (tnot t)) := by
  refine pt_imp (pt_not ha) fun σ H Q q => ?_
  obtain ⟨Δ, c, hs, hf, q⟩ := q
  unfold tnot at hf
  cases ea : t Δ with
  | none => rw [ea] at hf; cases hf
  | some x =>
    rw [ea] at hf
    cases hf
    exact ⟨Δ, x, hs, ea, fun H1 s1 => q H1 s1⟩
theorem dx_if {c : Expr} (hc : PT X c (tDT X.K C t)) (ha : PE X a (tD X.K C fa)) (hb : PE X b (tD X.K C fb)) : PE X (.IfExp c a b pos) (tD X.K C (eif t fa fb)) := by
  refine pe_imp (pe_ifExp hc ha hb) fun σ H Q q => ?_
  obtain ⟨Δ, d, hs, hf, q⟩ := q
  unfold eif at hf
  cases ea : t Δ with
  | none => rw [ea] at hf; cases hf
  | some x =>
    rw [ea] at hf
    refine ⟨Δ, x, hs, ea, fun H1 s1 => ?_⟩
    cases x with
    | true => exact ⟨Δ, d, hs.mn s1, hf, fun v H2 s2 r2 => q v H2 (s1.trans s2) r2⟩
    | false => exact ⟨Δ, d, hs.mn s1, hf, fun v H2 s2 r2 => q v H2 (s1.trans s2) r2⟩
theorem dx_not (ha : PE X a (tD X.K C fa)) : PE X (.UnaryOp .Not a pos) (tD X.K C (e1 notD fa)) := by
  refine pe_imp (pe_not ha) fun σ H Q q => ?_
  obtain ⟨Δ, d, hs, hf, q⟩ := q
  unfold e1 at hf
  cases ea : fa Δ with
  | none => rw [ea] at hf; cases hf
  | some x =>
    rw [ea] at hf
    cases x with
    | bool c =>
      cases hf
      exact ⟨Δ, _, hs, ea, fun v H1 s1 r1 => ⟨c, r1.blI, q _ H1 s1 (.sc (.bl _))⟩⟩
    | _ => cases hf
end

/-! ### names, constants, displays -/
theorem dx_var (i : Nat) {x : Str} (hN : X.N[i]? = some x := by rfl) (hv : Vis X.env.scope x := by first | exact Or.inl rfl | exact Or.inr (Or.inl rfl) | exact Or.inr (Or.inr rfl)) (hd : (x == ("__debug__" : Str)) = false := by decide)
    (hcd : (x == ("__classdict__" : Str)) = false := by decide) : PE X (.Name x pos) (tD X.K C (ev i)) := by
  refine pe_imp (pe_var hN hv hd hcd) fun σ H Q q => ?_
  obtain ⟨Δ, d, hs, hf, q⟩ := q
  have hg : Δ[i]? = some (some d) := by
    unfold ev at hf
    cases e : Δ[i]? with
    | none => rw [e] at hf; cases hf
    | some o =>
      rw [e] at hf
      cases o with
      | none => cases hf
      | some z => cases hf; rfl
  obtain ⟨v, hv, r⟩ := hs.get hg
  exact ⟨v, hv, q v H (Same.refl H) r⟩
theorem dx_c {e : Expr} {v : V} {d : PyData} (h : PE X e (tC v)) (hs : ∀ H, Rp X.K C H v d) : PE X e (tD X.K C (ec d)) := by
  refine pe_imp h fun σ H Q q => ?_
  obtain ⟨Δ, d', _, hf, q⟩ := q
  cases hf
  exact q v H (Same.refl H) (hs H)
theorem dx_int {i j pos} : PE X (.Constant (.int i) j pos) (tD X.K C (ec (.int i))) := dx_c pe_int fun _ => .sc (.int _)
theorem dx_bl {i j pos} : PE X (.Constant (.bool i) j pos) (tD X.K C (ec (.bool i))) := dx_c pe_bl fun _ => .sc (.bl _)
theorem dx_non {j pos} : PE X (.Constant .none j pos) (tD X.K C (ec .none)) := dx_c pe_non fun _ => .sc .non
theorem dx_str {x j pos} : PE X (.Constant (.str x) j pos) (tD X.K C (ec (.str x))) := dx_c pe_str fun _ => .sc (.str _)
/-- a constant of the module -/
def GlobD (K : PySem.W.Frag) (C : Addr) (mg : Str → Option Value) (x : Str) (d : PyData) : Prop := ∃ v u, mg x = some u ∧ RelV v u ∧ ∀ H, Rp K C H v d
theorem dx_glob {x : Str} {d : PyData} (hg : Gl X x) (h : GlobD X.K C X.mg x d) (hd : (x == ("__debug__" : Str)) = false := by decide) : PE X (.Name x pos) (tD X.K C (ec d)) := by
  obtain ⟨v, u, hm, r, hr⟩ := h
  exact dx_c (pe_glob hg hm r hd) hr
variable {es : List Expr} {fs : Env → Option (List PyData)}
theorem da_nil : PA X [] (tDA X.K C anil) := pa_imp pa_nil fun σ H Q q => by
  obtain ⟨Δ, d, _, hf, q⟩ := q
  cases hf
  exact q [] H (Same.refl H) .nil
theorem acons_read {σ : L2.St} {H : Hp} {Q : List V → Hp → Prop} (h : tDA K C (acons fa fs) σ H Q) : tCons (tD K C fa) (tDA K C fs) σ H Q := by
  obtain ⟨Δ, d, hs, hf, q⟩ := h
  unfold acons at hf
  cases ea : fa Δ with
  | none => rw [ea] at hf; cases hf
  | some x =>
    rw [ea] at hf
    cases eb : fs Δ with
    | none => rw [eb] at hf; cases hf
    | some y =>
      rw [eb] at hf
      cases hf
      exact ⟨Δ, x, hs, ea, fun v H1 s1 r1 => ⟨Δ, y, hs.mn s1, eb, fun w H2 s2 r2 => q (v :: w) H2 (s1.trans s2) (.cons (r1.mn s2) r2)⟩⟩
theorem da_cons (ha : PE X a (tD X.K C fa)) (hr : PA X es (tDA X.K C fs)) (hs : starEach (a :: es) X.env = (false, eval a X.env) :: starEach es X.env := by rfl) : PA X (a :: es) (tDA X.K C (acons fa fs)) :=
  pa_imp (pa_cons ha hr hs) fun _ _ _ h => acons_read h
theorem dx_tup {x1} (h : PA X es (tDA X.K C fs)) : PE X (.Tuple es x1 pos) (tD X.K C (etup fs)) := by
  refine pe_imp (pe_tup h) fun σ H Q q => ?_
  obtain ⟨Δ, d, hs, hf, q⟩ := q
  unfold etup at hf
  cases ea : fs Δ with
  | none => rw [ea] at hf; cases hf
  | some x =>
    rw [ea] at hf
    dsimp only at hf
    split at hf
    · rename_i hl
      cases hf
      refine ⟨Δ, x, hs, ea, fun vs H1 s1 r1 => ⟨by rw [r1.length]; exact Nat.le_trans hl (by decide), fun p hp => ?_⟩⟩
      exact q _ _ (s1.trans (same_new hp)) (.tup (SqT.of upd_same) (r1.mn (same_new hp)))
    · cases hf
theorem dx_lst (h : PA X es (tDA X.K C fs)) : PE X (.List es pos) (tD X.K C (elst fs)) := by
  refine pe_imp (pe_lst h) fun σ H Q q => ?_
  obtain ⟨Δ, d, hs, hf, q⟩ := q
  unfold elst at hf
  cases ea : fs Δ with
  | none => rw [ea] at hf; cases hf
  | some x =>
    rw [ea] at hf
    dsimp only at hf
    split at hf
    · rename_i hl
      cases hf
      refine ⟨Δ, x, hs, ea, fun vs H1 s1 r1 => ⟨by rw [r1.length]; exact Nat.le_trans hl (by decide), fun p hp => ?_⟩⟩
      exact q _ _ (s1.trans (same_new hp)) (.lst (SqL.of upd_same) (r1.mn (same_new hp)))
    · cases hf
end
end DL

/-! DL2: rules that the hand layer lacks: t + u with t empty, t * 1, t[lo:hi] the whole, enumerate of a tuple, repr of nested tuples. -/
namespace DL
open PySem PySem.Spec PyProof.Rows L2

section
variable {prog : Program} {w : World} {A : Around} {E : Value → Shared → Prop} {s : Shared}
/-! ### t * 1 -/
theorem tuple_mulW1 (l : Addr) (items : Array Value) (n : Nat) (dd : Option Addr) (sl : Array (Option Value)) (u : Tok) :
    Meets (Builtin.«tuple.__mul__» ⟨[.ref l, .int 1 u], []⟩) (fun _ R s => s.heap.get? l = some { cls := .type "tuple", dict := dd, data := .seq items n, slots := sl } ∧ R (.ok (.ret (Value.ref l))) s) :=
  .of_wp fun prog w A R s h => by
    obtain ⟨hp, g, d, tk, os⟩ := s
    obtain ⟨hl, h⟩ := h
    have f1 := AutoSeq1.idx_int
    have c0 : (decide ((1 : Int) < -(2 ^ 63)) || decide ((1 : Int) ≥ 2 ^ 63)) = false := by decide
    have c1 : (items.isEmpty || (1 : Int) == 1) = true := by simp
    wp_walk using wpAny_loadPart' hl
    repeat (first
      | (refine wpAny_ite_false (decide_eq_false (by rw [c0]; exact Bool.false_ne_true)) ?_; wp_walk using wpAny_loadPart' hl)
      | (refine wpAny_ite_true (decide_eq_true (by rw [c1])) ?_; wp_walk using wpAny_loadPart' hl))
    exact ⟨_, rfl, h⟩
end

/-! ### as rules of the layer -/
section
variable {X : Cx}
/-- t + u, told with no case -/
def rCatD (K : PySem.W.Frag) : R2 := fun x y H Q => ∃ a b xs ys, x = .ref a ∧ y = .ref b ∧ SqT K H a xs ∧ SqT K H b ys ∧ xs.length + ys.length ≤ sizeLine ∧
  (xs = [] → Q (.ref b) H) ∧ (ys = [] → Q (.ref a) H) ∧ ∀ p, H p = none → Q (.ref p) (upd H p (.tup (xs ++ ys)))
theorem op_catD : OpR X (binaryOp .Add) (rCatD X.K) := fun pins s σ H x y v u Q I rx ry ⟨a, b, xs, ys, e1, e2, ha, hb, hz, q0, q1, q2⟩ =>
  op_catA pins s σ H x y v u Q I rx ry ⟨a, b, xs, ys, e1, e2, ha, hb, hz, q0, fun _ n => q1 n, fun _ _ => q2⟩
def rRep1 (K : PySem.W.Frag) : R2 := fun x y H Q => ∃ l xs, x = .ref l ∧ y = .int 1 ∧ SqT K H l xs ∧ Q (.ref l) H
theorem op_rep1 : OpR X (binaryOp .Mult) (rRep1 X.K) := by
  intro pins s σ H x y v u Q I rx ry h
  obtain ⟨l, xs, rfl, rfl, hT, q⟩ := h
  cases rx
  obtain ⟨t, rfl⟩ := ry
  obtain ⟨its, r, ⟨⟨cls, dd, data, sl⟩, ho, hc, n, hd⟩, hs⟩ := I.tuple hT
  simp only at hc hd
  subst hc hd
  refine wpAny_binaryOp_repeat_ref (T := "tuple") (U := "int") (by decide) ⟨_, ho, rfl⟩ (fun s' => typeIs_int s' 1 t) noFill_tuple_mul F.fills_int_mul F.slot_int_rmul repeat_tuple F.slot_int_index.lookup
    (call_meets F.slot_int_rmul (typeIs_int s 1 t) F.entry_int_rmul (F.args_int_rmul_2 _ _) (int_rmul_tuple 1 t l its.toArray n dd sl)
      ⟨ho, rfl, ⟨_, ho, rfl⟩, call_meets F.slot_tuple_mul ⟨_, ho, rfl⟩ F.entry_tuple_mul (F.args_tuple_mul_2 _ _) (tuple_mulW1 l its.toArray n dd sl t) ⟨ho, ?_⟩⟩)
  exact ⟨.ref l, H, I, rfl, q⟩
/-- t[lo:hi], told with no case -/
def rSlD (K : PySem.W.Frag) : V → Option Int → Option Int → Hp → VK → Prop := fun x lo hi H Q => ∃ a xs, x = .ref a ∧ SqT K H a xs ∧
  (cutV xs lo hi = xs → Q (.ref a) H) ∧ ∀ p, H p = none → Q (.ref p) (upd H p (.tup (cutV xs lo hi)))
theorem sl_any : SlR X (rSlD X.K) := fun pins s σ H x v vl vu lo hi sl Q I rx hs pl pu ⟨a, xs, e, hx, q0, q⟩ =>
  sl_tupA pins s σ H x v vl vu lo hi sl Q I rx hs pl pu ⟨a, xs, e, hx, fun hw => q0 (by
    unfold cutV
    rw [hw.1, hw.2]
    simp), fun _ => q⟩

/-! ### repr of nested data -/
theorem cr_repr (hg : X.A.guards = some []) (hu : X.A.units + 64 < cLine) :
    CallR X (.builtin "repr") (fun xs H Q => ∃ x a d, xs = [x] ∧ x = .ref a ∧ Dp X.K H x d ∧ d.showable = true ∧ d.hasDict = false ∧ d.depth ≤ 60 ∧ d.shown.length ≤ sizeLine ∧ Q (.str d.shown) H) := by
  intro pins s σ H xs us Q I r h
  obtain ⟨x, a, d, rfl, rfl, hd, hs, hn, hdep, hz, q⟩ := h
  obtain ⟨u, rfl, rx⟩ := vals1 r
  cases rx
  obtain ⟨as, hr⟩ := Dp.reads I d _ _ hd rfl
  refine repr_of_reads' hr hs (PyData.noDict_hsm hn) hg (by omega) (fun _ _ e => e) (fun h' u tk hk => ?_) hz
  exact ⟨.str d.shown, H, I.kept hk, ⟨_, rfl⟩, q⟩
end
end DL

/-! DL3: enumerate of a tuple. -/
namespace DL
open PySem PySem.Spec PyProof.Rows L2

theorem meets_enumerate_newT (l : Addr) (items : Array Value) :
    Meets (Builtin.«enumerate.__new__» ⟨[.type "enumerate", .ref l], []⟩) (fun _ R s => s.heap.IsTuple l items ∧
      R (.ok (.ret (.ref (s.heap.push { cls := .type "tuple_iterator", data := .fields #[.ref l, .int 0 0] }).objs.size)))
        { s with heap := (s.heap.push { cls := .type "tuple_iterator", data := .fields #[.ref l, .int 0 0] }).push { cls := .type "enumerate", data := .fields #[.none, .bool false, .ref s.heap.objs.size, rawInt 0, .none, .none] } }) :=
  .of_wp fun prog w A R s h => by
    obtain ⟨hp, g, d, tk, os⟩ := s; obtain ⟨hl, h⟩ := h
    have hsub := sub_enumerate
    have q1 : ∀ {A' : Around} {E : Value → Shared → Prop} {Q : Value → Shared → Prop}, Q (.ref hp.objs.size) ⟨hp.push { cls := .type "tuple_iterator", data := .fields #[.ref l, .int 0 0] }, g, d, tk, os⟩ → wpAny (model prog w) A' (pyIter (.ref l)) Q E ⟨hp, g, d, tk, os⟩ :=
      fun q => wpAny_pyIter_tuple hl q
    wp_walk using q1
    refine wpAny_stack_any fun st => wpAny_pure ?_
    split
    · rename_i c _ _ _ _ _
      cases (c == Value.type "enumerate")
      · wp_walk using q1
        exact ⟨_, rfl, h⟩
      · wp_walk using q1
        exact ⟨_, rfl, h⟩
    · wp_walk using q1
      exact ⟨_, rfl, h⟩

section
variable {prog : Program} {w : World} {A : Around} {E : Value → Shared → Prop} {s : Shared}
theorem call_enumerate_tuple {l : Addr} {items : Array Value} {Q : Value → Shared → Prop} (hL : s.heap.IsTuple l items)
    (h : ∀ h', IsEnum h' (s.heap.objs.size + 1) s.heap.objs.size 0 .none → h'.IsTupleIter s.heap.objs.size l 0 → h'.objs.size = s.heap.objs.size + 2 →
      (∀ b o, s.heap.get? b = some o → h'.get? b = some o) → Q (.ref (s.heap.objs.size + 1)) { s with heap := h' }) :
    wpAny (model prog w) A (call (.type "enumerate") [.ref l]) Q E s := by
  refine callType_new F.called_enumerate (by decide) (F.typeCall_enumerate_1 _) (F.newCall_enumerate_1 _) (fun obj => F.args_object_init_2 obj _) F.entry_enumerate_new
    (meets_enumerate_newT l items) ⟨hL, ?_⟩
  have hz : (s.heap.push { cls := .type "tuple_iterator", data := .fields #[.ref l, .int 0 0] }).objs.size = s.heap.objs.size + 1 := Heap.size_push ..
  show _ ∧ _
  rw [hz]
  have he : IsEnum ((s.heap.push { cls := .type "tuple_iterator", data := .fields #[.ref l, .int 0 0] }).push
      { cls := .type "enumerate", data := .fields #[.none, .bool false, .ref s.heap.objs.size, rawInt 0, .none, .none] }) (s.heap.objs.size + 1) s.heap.objs.size 0 .none := by
    have := Heap.get?_push_size (s.heap.push { cls := .type "tuple_iterator", data := .fields #[.ref l, .int 0 0] })
      (o := { cls := .type "enumerate", data := .fields #[.none, .bool false, .ref s.heap.objs.size, rawInt 0, .none, .none] }) rfl
    rw [hz] at this; exact this
  refine ⟨⟨_, he, rfl⟩, h _ he ⟨_, Heap.get?_push_of_some _ (Heap.get?_push_size _ rfl), rfl, rfl⟩ (by rw [Heap.size_push, hz]) fun b o x => Heap.get?_push_of_some _ (Heap.get?_push_of_some _ x)⟩
end

/-- the tuple at a, each item in a new pair -/
def IteT (K : PySem.W.Frag) (a : Addr) : It :=
  ⟨fun i H => ∃ (xs : List V) (x : V), SqT K H a xs ∧ xs[i]? = some x, fun i H v H' => ∃ T x, v = .ref T ∧ H T = none ∧ H' = upd H T (.tup [.int (i : Nat), x]) ∧ ∀ xs, SqT K H a xs → xs[i]? = some x, fun i H => ∃ xs : List V, SqT K H a xs ∧ xs.length ≤ i⟩
theorem turn_enumT {P : Program} {w : World} {K : PySem.W.Frag} {elts : List Expr} {kk : Nat} {tpos : Pos} (a e it : Addr) :
    Turn P w K (.Tuple elts kk tpos) (IteT K a) [e, it] e (fun i h => (∃ old, IsEnum h e it ((i : Nat) : Int) old) ∧ h.IsTupleIter it a i ∧ e ≠ it ∧ a ≠ e ∧ a ≠ it) where
  mem := by simp
  obj := fun i h st b hb => by
    obtain ⟨⟨old, he⟩, ⟨o, ho, hc, hd⟩, _⟩ := st
    have e' : b = e ∨ b = it := by simpa using hb
    rcases e' with z | z
    · rw [z]; exact ⟨_, he, fun v q => nomatch q⟩
    · rw [z]; exact ⟨o, ho, fun v q => by rw [hd] at q; cases q⟩
  keep := fun i h h' st k => let ⟨⟨old, he⟩, hi, hne⟩ := st; ⟨⟨old, k e (by simp) _ he⟩, hi.at fun o q => k it (by simp) o q, hne⟩
  item := by
    intro X hP hw hK hc i pins s σ H E I hf st hg
    subst hP hw hK
    obtain ⟨⟨old, he⟩, hit, hne, hae, hai⟩ := st
    obtain ⟨xs, x, hq, hx⟩ := hg
    obtain ⟨its, rv, p, hz⟩ := I.tuple hq
    obtain ⟨u, hu, ru⟩ := rv.get hx
    have hel : e < s.heap.objs.size := Heap.lt_size he
    have hil : it < s.heap.objs.size := by obtain ⟨_, q, _⟩ := hit; exact Heap.lt_size q
    have hlt : i < its.toArray.size := by
      rw [List.size_toArray]
      exact (List.getElem?_eq_some_iff.mp hu).1
    have pT : s.heap.IsTuple a its.toArray := p
    have hs0 : e ≠ it := hne
    refine wpAny_pyNext_enum_itemD (Draws.tuple (prog := X.prog) (w := X.w) (A := X.A.in1) (I.ok.hd hc) it a hai its.toArray) he ⟨hit, pT⟩ hlt hne (by simp only [List.mem_cons, List.not_mem_nil, or_false, not_or]; exact ⟨hne, fun z => hae z.symm⟩) fun x' h' tk hPx ho hit' hT hsz hk => ?_
    have ex : x' = u := by
      have q : its.toArray[i]? = some x' := hPx
      rw [List.getElem?_toArray, hu] at q
      exact (Option.some.inj q).symm
    subst ex
    refine ⟨_, rfl, wpAny_letOwnedTupleGo_enum (s := { s with heap := h', toks := tk + 1 }) ho fun h'' he' sb => ?_⟩
    have hT2 : h''.get? s.heap.objs.size = some { cls := .type "tuple", data := .seq #[.int i tk, x'] } := (sb.2 _ (Nat.ne_of_gt hel)).trans hT
    have new : ObjOk X.prog X.w (upd H s.heap.objs.size (.tup [.int (i : Nat), x])) h'' s.heap.objs.size (.tup [.int (i : Nat), x]) :=
      ⟨by show 2 ≤ sizeLine; decide, [.int i tk, x'], .cons ⟨_, rfl⟩ (.cons ru .nil), ⟨_, hT2, rfl, _, rfl⟩⟩
    have I1 : Inv X pins σ (upd H s.heap.objs.size (.tup [.int (i : Nat), x])) { s with heap := h'', toks := tk + 1 } :=
      I.turnedNew (ch := [e, it]) (fun b ob hb q => (sb.2 b (fun z => hb (by simp [z]))).trans (hk b ob (fun z => hb (by simp [z])) (fun z => hb (by simp [z])) q)) hf (Nat.le_refl _) new
    refine ⟨.ref s.heap.objs.size, _, I1, rfl, ⟨_, x, rfl, I.hok.fresh (Nat.le_refl _), rfl, fun ys hy => by rw [I.tuple_inj hy hq]; exact hx⟩, ⟨⟨x', ?_⟩, hit'.1.at fun o q => (sb.2 it (Ne.symm hne)).trans q, hne, hae, hai⟩, fun b hb => ?_⟩
    · have e1 : ((i + 1 : Nat) : Int) = (i : Int) + 1 := by omega
      rw [e1]; exact he'
    · have hb' : b < s.heap.objs.size := by
        have e' : b = e ∨ b = it := by simpa using hb
        rcases e' with z | z
        · rw [z]; exact hel
        · rw [z]; exact hil
      rw [upd_ne (Nat.ne_of_lt hb')]
      exact (hf b hb).1
  done := by
    intro X hP hw hK hc i pins s σ H E I hf st hg
    subst hP hw hK
    obtain ⟨⟨old, he⟩, hit, hne, hae, hai⟩ := st
    obtain ⟨xs, hq, hx⟩ := hg
    obtain ⟨its, rv, p, hz⟩ := I.tuple hq
    obtain ⟨f0, f1, f2, f3, f4, f5⟩ := hf it (by simp)
    have hl := rv.length
    have pT : s.heap.IsTuple a its.toArray := p
    have D := Draws.tuple (prog := X.prog) (w := X.w) (A := X.A.in1) (I.ok.hd hc) it a hai its.toArray
    have hT : s.TypeIs (.ref e) "enumerate" := ⟨_, he, rfl⟩
    unfold pyNext
    refine wpAny_bind (wpAny_attempt (wpAny_callSpecial?_slot (name := Str.ofString "__next__") hT F.slot_enumerate_next
      (wpAny_call_entry F.slot_enumerate_next hT F.entry_enumerate_next ?_ (F.args_enumerate_next_1 _))))
    show wpAny _ _ (field (.ref e) 2 >>= _) _ _ _
    refine wpAny_bind (wpAny_field he rfl (x := .ref it) rfl ?_)
    refine wpAny_bind (wpAny_nextOf_tuple_end (I.ok.hd hc) hit pT (by simp; omega) fun h' x he' hx' => ?_)
    obtain ⟨o, ho, hc'⟩ := hx'
    refine wpAny_bind (wpAny_isInstance (T := "StopIteration") (b := true) ⟨o, ho, hc'⟩ isSubtype_stop ?_)
    exact wpAny_pure ⟨rfl, I.turned (t' := s.toks) (fun b o hb q => he' b o hb q) f0 f1 f3 f4 f5⟩
  self := fun A i s Q E st h => let ⟨⟨_, he⟩, _⟩ := st; wpAny_pyIter_enum he h
def iEnumT (K : PySem.W.Frag) (ta : TA) : TI := fun σ H R => ta σ H fun vs H1 => ∃ a xs, vs = [.ref a] ∧ SqT K H1 a xs ∧ R (IteT K a) H1
theorem pi_enumT {X : Cx} {e : Expr} {ta : TA} {p pos tpos : Pos} {elts : List Expr} {kk : Nat} (hg : Gl X "enumerate") (hm : X.mg "enumerate" = none) (ha : PA X [e] ta) (hs : starEach [e] X.env = [(false, eval e X.env)] := by rfl) :
    PI X (.Tuple elts kk tpos) (.Call (.Name "enumerate" p) [e] [] pos) (iEnumT X.K ta) := by
  refine ⟨fun pins s σ H R I h => ?_⟩
  refine Call_ (ld_blt I hg hm boot_enumerate (PyProof.Rows.callWith_type1 (thn (ha.run pos pins s σ H _ I h) fun us s1 ⟨vs, H1, I1, r1, q1⟩ => ?_) hs rfl))
  obtain ⟨a, xs, ex, hq, q⟩ := q1
  subst ex
  cases r1 with
  | cons r rr =>
    cases rr
    cases r
    obtain ⟨its, rv, p', hz⟩ := I1.tuple hq
    have pT : s1.heap.IsTuple a its.toArray := p'
    have hal : a < s1.heap.objs.size := p'.lt
    refine call_enumerate_tuple pT fun h' he hit hsz hk => wpAny_pyIter_enum he ?_
    have I2 : Inv X pins σ H1 { s1 with heap := h' } := I1.kept (t' := s1.toks) hk
    refine ⟨s1.heap.objs.size + 1, [s1.heap.objs.size + 1, s1.heap.objs.size], _, _, H1, rfl, I2, turn_enumT a (s1.heap.objs.size + 1) s1.heap.objs.size, ⟨⟨.none, he⟩, hit, Nat.succ_ne_self _, Nat.ne_of_lt (Nat.lt_succ_of_lt hal), Nat.ne_of_lt hal⟩, fun b hb => ?_, q⟩
    have e' : b = s1.heap.objs.size + 1 ∨ b = s1.heap.objs.size := by simpa using hb
    have hle : s1.heap.objs.size ≤ b := by
      rcases e' with z | z
      · rw [z]; exact Nat.le_add_right _ _
      · rw [z]; exact Nat.le_refl _
    exact I1.fpOk hle (I1.hok.fresh hle)

end DL

/-! DL4: the operations on data; subscripts, slices, fields, calls. -/
namespace DL
open PySem PySem.Spec PyProof.Rows L2

section
variable {K : PySem.W.Frag} {C : Addr}
theorem od_I {g : Int → Int → Int} {F : PyData → PyData → Option PyData} (h : ∀ x y d, F x y = some d → ∃ i j, x = .int i ∧ y = .int j ∧ d = .int (g i j)) : OpD K C (rI0 fun i j => .int (g i j)) F := by
  intro x y H dx dy d Q rx ry hf q
  obtain ⟨i, j, rfl, rfl, rfl⟩ := h _ _ _ hf
  rw [rx.intI, ry.intI]
  exact ⟨i, j, rfl, rfl, q _ H (Same.refl H) (.sc (.int _))⟩
theorem od_B {g : Int → Int → Bool} {F : PyData → PyData → Option PyData} (h : ∀ x y d, F x y = some d → ∃ i j, x = .int i ∧ y = .int j ∧ d = .bool (g i j)) : OpD K C (rI0 fun i j => .bl (g i j)) F := by
  intro x y H dx dy d Q rx ry hf q
  obtain ⟨i, j, rfl, rfl, rfl⟩ := h _ _ _ hf
  rw [rx.intI, ry.intI]
  exact ⟨i, j, rfl, rfl, q _ H (Same.refl H) (.sc (.bl _))⟩
theorem od_sub : OpD K C (rI0 fun i j => .int (i - j)) subD := od_I fun x y d h => by
  cases x <;> cases y <;> first | cases h; exact ⟨_, _, rfl, rfl, rfl⟩ | cases h
theorem od_lt : OpD K C (rI0 fun i j => .bl (decide (i < j))) ltD := od_B fun x y d h => by
  cases x <;> cases y <;> first | cases h; exact ⟨_, _, rfl, rfl, rfl⟩ | cases h
theorem od_le : OpD K C (rI0 fun i j => .bl (decide (i ≤ j))) leD := od_B fun x y d h => by
  cases x <;> cases y <;> first | cases h; exact ⟨_, _, rfl, rfl, rfl⟩ | cases h
theorem od_gt : OpD K C (rI0 fun i j => .bl (decide (j < i))) gtD := od_B fun x y d h => by
  cases x <;> cases y <;> first | cases h; exact ⟨_, _, rfl, rfl, rfl⟩ | cases h
theorem od_ge : OpD K C (rI0 fun i j => .bl (decide (j ≤ i))) geD := od_B fun x y d h => by
  cases x <;> cases y <;> first | cases h; exact ⟨_, _, rfl, rfl, rfl⟩ | cases h
def rAddA (K : PySem.W.Frag) : R2 := fun x y H Q => (rI0 fun i j => .int (i + j)) x y H Q ∨ rCatD K x y H Q
theorem od_add : OpD K C (rAddA K) addD := by
  intro x y H dx dy d Q rx ry hf q
  cases dx with
  | int i =>
    cases dy with
    | int j =>
      cases hf
      rw [rx.intI, ry.intI]
      exact .inl ⟨i, j, rfl, rfl, q _ H (Same.refl H) (.sc (.int _))⟩
    | _ => cases hf
  | tuple ds =>
    cases dy with
    | tuple es =>
      have hf' : (if ds.length + es.length ≤ 1000 then some (PyData.tuple (ds ++ es)) else none) = some d := hf
      split at hf'
      · rename_i hl
        cases hf'
        obtain ⟨a, xs, rfl, ha, ra⟩ := rx.tupI
        obtain ⟨b, ys, rfl, hb, rb⟩ := ry.tupI
        refine .inr ⟨a, b, xs, ys, rfl, rfl, ha, hb, by rw [ra.length, rb.length]; exact Nat.le_trans hl (by decide), fun e => ?_, fun e => ?_, fun p hp => ?_⟩
        · subst e
          cases ra
          exact q _ H (Same.refl H) (.tup hb rb)
        · subst e
          cases rb
          rw [List.append_nil] at q
          exact q _ H (Same.refl H) (.tup ha ra)
        · exact q _ _ (same_new hp) (.tup (SqT.of upd_same) ((ra.append rb).mn (same_new hp)))
      · cases hf'
    | _ => cases hf
  | _ => cases hf
theorem op_addA {X : Cx} : OpR X (binaryOp .Add) (rAddA X.K) := OpR.or op_add op_catD
def rMulA (K : PySem.W.Frag) : R2 := fun x y H Q => (rI CMul fun i j => .int (i * j)) x y H Q ∨ (rRepT K x y H Q ∨ rRep1 K x y H Q)
theorem op_mulA {X : Cx} : OpR X (binaryOp .Mult) (rMulA X.K) := OpR.or op_mul (OpR.or op_repT op_rep1)
theorem od_mul : OpD K C (rMulA K) mulD := by
  intro x y H dx dy d Q rx ry hf q
  cases dx with
  | int i =>
    cases dy with
    | int j =>
      have hf' : (if (-(2 ^ 64) < i ∧ i < 2 ^ 64) ∨ (-(2 ^ 64) < j ∧ j < 2 ^ 64) then some (PyData.int (i * j)) else none) = some d := hf
      split at hf'
      · rename_i hc
        cases hf'
        rw [rx.intI, ry.intI]
        exact .inl ⟨i, j, rfl, rfl, hc, q _ H (Same.refl H) (.sc (.int _))⟩
      · cases hf'
    | _ => cases hf
  | tuple ds =>
    cases dy with
    | int k =>
      have hf' : (if ds ≠ [] ∧ ds.length ≤ 1000 ∧ 1 ≤ k ∧ k ≤ 1000 then some (PyData.tuple (List.replicate k.toNat ds).flatten) else none) = some d := hf
      split at hf'
      · rename_i hc
        obtain ⟨h1, h2, h3, h4⟩ := hc
        cases hf'
        obtain ⟨a, xs, rfl, ha, ra⟩ := rx.tupI
        rw [ry.intI]
        by_cases e1 : k = 1
        · subst e1
          refine .inr (.inr ⟨a, xs, rfl, rfl, ha, q _ H (Same.refl H) ?_⟩)
          have e : (List.replicate (1 : Int).toNat ds).flatten = ds := by simp
          rw [e]
          exact .tup ha ra
        · have hne : xs ≠ [] := fun e => h1 (by subst e; cases ra; rfl)
          refine .inr (.inl ⟨a, k, xs, rfl, rfl, ha, hne, by omega, h4, by rw [ra.length]; exact h2, fun p hp => ?_⟩)
          exact q _ _ (same_new hp) (.tup (SqT.of upd_same) ((ra.rep _).mn (same_new hp)))
      · cases hf'
    | _ => cases hf
  | _ => cases hf
theorem od_div : OpD K C (rI CDiv fun i j => .int (i / j)) divD := by
  intro x y H dx dy d Q rx ry hf q
  cases dx with
  | int i =>
    cases dy with
    | int j =>
      have hf' : (if 0 < j ∧ j < 1073741824 then some (PyData.int (i / j)) else none) = some d := hf
      split at hf'
      · rename_i hc
        cases hf'
        rw [rx.intI, ry.intI]
        exact ⟨i, j, rfl, rfl, hc, q _ H (Same.refl H) (.sc (.int _))⟩
      · cases hf'
    | _ => cases hf
  | _ => cases hf
theorem od_mod : OpD K C (rI (fun _ j => 0 < j) fun i j => .int (i % j)) modD := by
  intro x y H dx dy d Q rx ry hf q
  cases dx with
  | int i =>
    cases dy with
    | int j =>
      have hf' : (if 0 < j then some (PyData.int (i % j)) else none) = some d := hf
      split at hf'
      · rename_i hc
        cases hf'
        rw [rx.intI, ry.intI]
        exact ⟨i, j, rfl, rfl, hc, q _ H (Same.refl H) (.sc (.int _))⟩
      · cases hf'
    | _ => cases hf
  | _ => cases hf
theorem seq_ok {H : Hp} {x y : V} {dx dy : PyData} {b : Bool} (rx : Rp K C H x dx) (ry : Rp K C H y dy) (h : seqD dx dy = some b) : scal x y = true ∧ decide (x = y) = b := by
  cases dx <;> cases dy <;> first
    | (cases h; done)
    | (cases h
       first | rw [rx.intI] | rw [rx.strI] | rw [rx.blI] | rw [rx.nonI]
       first | rw [ry.intI] | rw [ry.strI] | rw [ry.blI] | rw [ry.nonI]
       refine ⟨rfl, ?_⟩
       simp)
theorem od_eq : OpD K C rEq eqD := by
  intro x y H dx dy d Q rx ry hf q
  unfold eqD at hf
  cases e : seqD dx dy with
  | none => rw [e] at hf; cases hf
  | some b =>
    rw [e] at hf
    cases hf
    obtain ⟨h1, h2⟩ := seq_ok rx ry e
    exact ⟨h1, by rw [h2]; exact q _ H (Same.refl H) (.sc (.bl _))⟩
theorem od_ne : OpD K C rNe neD := by
  intro x y H dx dy d Q rx ry hf q
  unfold neD at hf
  cases e : seqD dx dy with
  | none => rw [e] at hf; cases hf
  | some b =>
    rw [e] at hf
    cases hf
    obtain ⟨h1, h2⟩ := seq_ok rx ry e
    exact ⟨h1, by rw [h2]; exact q _ H (Same.refl H) (.sc (.bl _))⟩
theorem isNone_ok {H : Hp} {x : V} {d : PyData} (r : Rp K C H x d) : decide (x = .non) = isNone d := by
  cases d with
  | none => rw [r.nonI]; rfl
  | bool b => rw [r.blI]; rfl
  | int b => rw [r.intI]; rfl
  | str b => rw [r.strI]; rfl
  | list b => obtain ⟨a, xs, rfl, _⟩ := r.lstI; rfl
  | tuple b => obtain ⟨a, xs, rfl, _⟩ := r.tupI; rfl
  | dict b => obtain ⟨a, dx, fs, rfl, _⟩ := r.cfgI; rfl
theorem od_isN : OpD K C (fun x y H Q => y = .non ∧ Q (.bl (decide (x = .non))) H) isnD := by
  intro x y H dx dy d Q rx ry hf q
  cases dy with
  | none =>
    cases hf
    exact ⟨ry.nonI, by rw [isNone_ok rx]; exact q _ H (Same.refl H) (.sc (.bl _))⟩
  | _ => cases hf
theorem od_notN : OpD K C (fun x y H Q => y = .non ∧ Q (.bl (!decide (x = .non))) H) notnD := by
  intro x y H dx dy d Q rx ry hf q
  cases dy with
  | none =>
    cases hf
    exact ⟨ry.nonI, by rw [isNone_ok rx]; exact q _ H (Same.refl H) (.sc (.bl _))⟩
  | _ => cases hf
theorem flat_ok {H : Hp} {x : V} {d : PyData} (r : Rp K C H x d) (h : flatD d = true) : Sc x d := by
  cases r with
  | sc s => exact s
  | _ => cases h
theorem flatV_of {x : V} {d : PyData} (s : Sc x d) : flatV x = true := by cases s <;> rfl
theorem eqF_of {x y : V} {d e : PyData} (s : Sc x d) (t : Sc y e) : eqV x y = eqF d e := by cases s <;> cases t <;> rfl
theorem flatAll_ok {H : Hp} : ∀ {xs : List V} {ds : List PyData}, RpAll K C H xs ds → ds.all flatD = true → xs.all flatV = true
  | _, _, .nil, _ => rfl
  | _, _, .cons r t, h => by
    rw [List.all_cons, Bool.and_eq_true] at h ⊢
    exact ⟨flatV_of (flat_ok r h.1), flatAll_ok t h.2⟩
theorem inAll_ok {H : Hp} {x : V} {d : PyData} (s : Sc x d) : ∀ {xs : List V} {ds : List PyData}, RpAll K C H xs ds → ds.all flatD = true → inV x xs = ds.any fun e => eqF e d
  | _, _, .nil, _ => rfl
  | _, _, .cons r t, h => by
    rw [List.all_cons, Bool.and_eq_true] at h
    have ih := inAll_ok s t h.2
    unfold inV at ih ⊢
    rw [List.any_cons, List.any_cons, ih, eqF_of (flat_ok r h.1) s]
theorem in_cases {x y d : PyData} {neg : Bool} (h : (if neg then ninD x y else inD x y) = some d) : flatD x = true ∧ ∃ ds, (y = .tuple ds ∨ y = .list ds) ∧ ds.all flatD = true ∧ d = .bool (if neg then !(ds.any fun e => eqF e x) else ds.any fun e => eqF e x) := by
  cases neg with
  | true =>
    have h : ninD x y = some d := h
    cases y with
    | tuple ds =>
      have h' : (if flatD x = true ∧ ds.all flatD = true then some (PyData.bool (!ds.any fun e => eqF e x)) else none) = some d := h
      split at h'
      · rename_i hc
        cases h'
        exact ⟨hc.1, ds, .inl rfl, hc.2, rfl⟩
      · cases h'
    | list ds =>
      have h' : (if flatD x = true ∧ ds.all flatD = true then some (PyData.bool (!ds.any fun e => eqF e x)) else none) = some d := h
      split at h'
      · rename_i hc
        cases h'
        exact ⟨hc.1, ds, .inr rfl, hc.2, rfl⟩
      · cases h'
    | _ => cases h
  | false =>
    have h : inD x y = some d := h
    cases y with
    | tuple ds =>
      have h' : (if flatD x = true ∧ ds.all flatD = true then some (PyData.bool (ds.any fun e => eqF e x)) else none) = some d := h
      split at h'
      · rename_i hc
        cases h'
        exact ⟨hc.1, ds, .inl rfl, hc.2, rfl⟩
      · cases h'
    | list ds =>
      have h' : (if flatD x = true ∧ ds.all flatD = true then some (PyData.bool (ds.any fun e => eqF e x)) else none) = some d := h
      split at h'
      · rename_i hc
        cases h'
        exact ⟨hc.1, ds, .inr rfl, hc.2, rfl⟩
      · cases h'
    | _ => cases h
theorem od_inN (neg : Bool) : OpD K C (rIn K neg) (fun x y => if neg then ninD x y else inD x y) := by
  intro x y H dx dy d Q rx ry hf q
  obtain ⟨h1, ds, hd, h2, rfl⟩ := in_cases hf
  have s := flat_ok rx h1
  rcases hd with rfl | rfl
  · obtain ⟨a, xs, rfl, ha, ra⟩ := ry.tupI
    refine ⟨a, xs, rfl, .inr ha, flatV_of s, flatAll_ok ra h2, ?_⟩
    rw [inAll_ok s ra h2]
    exact q _ H (Same.refl H) (.sc (.bl _))
  · obtain ⟨a, xs, rfl, ha, ra⟩ := ry.lstI
    refine ⟨a, xs, rfl, .inl ha, flatV_of s, flatAll_ok ra h2, ?_⟩
    rw [inAll_ok s ra h2]
    exact q _ H (Same.refl H) (.sc (.bl _))
theorem od_in : OpD K C (rIn K false) inD := od_inN false
theorem od_nin : OpD K C (rIn K true) ninD := od_inN true
theorem od_ix : OpD K C (rIx K) ixD := by
  intro x y H dx dy d Q rx ry hf q
  cases dy with
  | int i =>
    cases dx with
    | tuple ds =>
      obtain ⟨a, xs, rfl, ha, ra⟩ := rx.tupI
      rw [ry.intI]
      obtain ⟨v, hv, rv⟩ := ra.at hf
      exact .inr (.inl ⟨a, xs, i, v, rfl, rfl, ha, hv, q _ H (Same.refl H) rv⟩)
    | list ds =>
      obtain ⟨a, xs, rfl, ha, ra⟩ := rx.lstI
      rw [ry.intI]
      obtain ⟨v, hv, rv⟩ := ra.at hf
      exact .inl ⟨a, xs, i, v, rfl, rfl, ha, hv, q _ H (Same.refl H) rv⟩
    | _ => cases hf
  | _ => cases dx <;> cases hf
end

section
variable {X : Cx} {C : Addr} {a b e : Expr} {fa fb fe : Env → Option PyData} {pos : Pos}
theorem dx_ix (ha : PE X a (tD X.K C fa)) (hb : PE X b (tD X.K C fb)) (hs : PlainIx b) : PE X (.Subscript a b pos) (tD X.K C (e2 ixD fa fb)) :=
  pe_imp (pe_ix ix_seq ha hb hs) fun _ _ _ h => op_read od_ix h
/-! slices -/
def cutD (xs : List PyData) (lo hi : Option Int) : List PyData := (xs.drop (HT.sIx xs.length 0 lo)).take (HT.sIx xs.length xs.length hi - HT.sIx xs.length 0 lo)
def onone : Env → Option (Option Int) := fun _ => some none
def osome (f : Env → Option PyData) : Env → Option (Option Int) := fun Δ => match f Δ with | some (.int i) => some (some i) | _ => none
def esl (f : Env → Option PyData) (l h : Env → Option (Option Int)) : Env → Option PyData := fun Δ => match f Δ with
  | some (.tuple ds) => (match l Δ with | some lo => (match h Δ with | some hi => some (.tuple (cutD ds lo hi)) | none => none) | none => none)
  | _ => none
def tDO (K : PySem.W.Frag) (C : Addr) (f : Env → Option (Option Int)) : TO := fun σ H Q => ∃ Δ o, Rs K C H σ Δ ∧ f Δ = some o ∧ ∀ H', Same H H' → Q o H'
theorem do_none : PO X none (tDO X.K C onone) := ⟨fun pins s σ H Q I q => po_none.run pins s σ H Q I (by
  obtain ⟨Δ, o, hs, hf, q⟩ := q
  cases hf
  exact q H (Same.refl H))⟩
theorem do_some (h : PE X e (tD X.K C fe)) : PO X (some e) (tDO X.K C (osome fe)) := ⟨fun pins s σ H Q I q => (po_some h).run pins s σ H Q I (by
  obtain ⟨Δ, o, hs, hf, q⟩ := q
  unfold osome at hf
  cases ea : fe Δ with
  | none => rw [ea] at hf; cases hf
  | some d =>
    rw [ea] at hf
    cases d with
    | int i =>
      cases hf
      exact ⟨Δ, _, hs, ea, fun v H1 s1 r1 => ⟨i, r1.intI, q H1 s1⟩⟩
    | _ => cases hf)⟩
theorem cut_ok {K : PySem.W.Frag} {H : Hp} {xs : List V} {ds : List PyData} (h : RpAll K C H xs ds) (lo hi : Option Int) : RpAll K C H (cutV xs lo hi) (cutD ds lo hi) := by
  unfold cutV cutD
  rw [h.length]
  exact (h.drop _).take _
theorem RpAll.uniq_len {K : PySem.W.Frag} {H : Hp} {xs : List V} {ds es : List PyData} (h : RpAll K C H xs ds) (h' : RpAll K C H xs es) : ds.length = es.length := by rw [← h.length, ← h'.length]
theorem dx_sl {lo hi : Option Expr} {fl fh : Env → Option (Option Int)} {p2 : Pos} (he : PE X e (tD X.K C fe)) (hl : PO X lo (tDO X.K C fl)) (hh : PO X hi (tDO X.K C fh)) : PE X (.Subscript e (.Slice lo hi none p2) pos) (tD X.K C (esl fe fl fh)) := by
  refine pe_imp (pe_slice sl_any he hl hh) fun σ H Q q => ?_
  obtain ⟨Δ, d, hs, hf, q⟩ := q
  unfold esl at hf
  cases ea : fe Δ with
  | none => rw [ea] at hf; cases hf
  | some x =>
    rw [ea] at hf
    cases x with
    | tuple ds =>
      dsimp only at hf
      cases el : fl Δ with
      | none => rw [el] at hf; cases hf
      | some l =>
        rw [el] at hf
        dsimp only at hf
        cases eh : fh Δ with
        | none => rw [eh] at hf; cases hf
        | some u =>
          rw [eh] at hf
          cases hf
          refine ⟨Δ, _, hs, ea, fun v H1 s1 r1 => ⟨Δ, l, hs.mn s1, el, fun H2 s2 => ⟨Δ, u, hs.mn (s1.trans s2), eh, fun H3 s3 => ?_⟩⟩⟩
          have s13 := s2.trans s3
          obtain ⟨p, xs, rfl, hp, rp⟩ := (r1.mn s13).tupI
          refine ⟨p, xs, rfl, hp, fun e1 => ?_, fun t ht => ?_⟩
          · have c := cut_ok rp l u
            rw [e1] at c
            exact q _ H3 (s1.trans s13) (.tup hp c)
          · exact q _ _ ((s1.trans s13).trans (same_new ht)) (.tup (SqT.of upd_same) ((cut_ok rp l u).mn (same_new ht)))
    | _ => cases hf
/-! fields of the configuration -/
theorem dx_attr {f : Str} (hc : Cls X.K C) (hn : NoAttr X.K C f) (he : PE X e (tD X.K C fe)) (hb : attributeBase e f X.env (eval e X.env) = eval e X.env) : PE X (.Attribute e f pos) (tD X.K C (e1 (attrD f) fe)) := by
  refine pe_imp (pe_fld he hb) fun σ H Q q => ?_
  obtain ⟨Δ, d, hs, hf, q⟩ := q
  unfold e1 at hf
  cases ea : fe Δ with
  | none => rw [ea] at hf; cases hf
  | some x =>
    rw [ea] at hf
    cases x with
    | dict kvs =>
      refine ⟨Δ, _, hs, ea, fun v H1 s1 r1 => ?_⟩
      obtain ⟨p, dx, fs, rfl, hp, hk⟩ := r1.cfgI
      obtain ⟨z, hz, sz⟩ := hk f d hf
      exact ⟨p, C, dx, fs, z, rfl, hp, hc, hn, hz, q z H1 s1 (.sc sz)⟩
    | _ => cases hf
/-! calls -/
def SpF (K : PySem.W.Frag) (C : Addr) (n : Nat) (F : List PyData → Option PyData) : Sp := fun vs H Q _ => ∃ ds d, ds.length = n ∧ RpAll K C H vs ds ∧ F ds = some d ∧ ∀ v H', Same H H' → Rp K C H' v d → Q v H'
variable {es : List Expr} {fs : Env → Option (List PyData)} {F : List PyData → Option PyData}
/-- the list's length is told -/
def ecl (n : Nat) (F : List PyData → Option PyData) (fs : Env → Option (List PyData)) : Env → Option PyData := fun Δ => match fs Δ with | some ds => if ds.length = n then F ds else none | none => none
theorem dx_call {x : Str} {p : Pos} {k n : Nat} {f : Addr} {fd : FuncData} {ps : List Str} (G : FnOk X.prog X.w X.K X.mg X.base CX0 k f fd ps (SpF X.K C n F)) (hr : Room k X.A) (hg : Gl X x) (hm : X.mg x = some (.ref f)) (hk : PySem.W.keepIn X.K (.ref f) = true) (hb : Binds X.K fd ps [])
    (ha : PA X (e :: es) (tDA X.K C fs)) (hdb : (x == ("__debug__" : Str)) = false := by decide) (he : starEach (e :: es) X.env = (false, eval e X.env) :: starEach es X.env := by rfl) (hpl : (backTo pos (starEach es X.env)).any (·.1) = false := by rfl) :
    PE X (.Call (.Name x p) (e :: es) [] pos) (tD X.K C (ecl n F fs)) := by
  refine pe_imp (pe_call G hr hg hm hk hb .nil pass0 ha hdb he hpl) fun σ H Q q => ?_
  obtain ⟨Δ, d, hs, hf, q⟩ := q
  unfold ecl at hf
  cases ea : fs Δ with
  | none => rw [ea] at hf; cases hf
  | some ds =>
    rw [ea] at hf
    dsimp only at hf
    split at hf
    · rename_i hl
      refine ⟨Δ, ds, hs, ea, fun vs H1 s1 r1 => ⟨ds, d, hl, by rw [List.append_nil]; exact r1, hf, fun v H2 s2 r2 => q v H2 (s1.trans s2) r2⟩⟩
    · cases hf
/-- a built-in of one argument, by values -/
def CallD (K : PySem.W.Frag) (C : Addr) (r : List V → Hp → VK → Prop) (F : PyData → Option PyData) : Prop :=
  ∀ (x : V) (H : Hp) (dx d : PyData) (Q : VK), Rp K C H x dx → F dx = some d → (∀ v H', Same H H' → Rp K C H' v d → Q v H') → r [x] H Q
theorem call1_read {K : PySem.W.Frag} {r : List V → Hp → VK → Prop} {G : PyData → Option PyData} (cd : CallD K C r G) {σ : L2.St} {H : Hp} {Q : VK} (h : tD K C (e1 G fe) σ H Q) : tCB r (tDA K C (acons fe anil)) σ H Q := by
  obtain ⟨Δ, d, hs, hf, q⟩ := h
  unfold e1 at hf
  cases ea : fe Δ with
  | none => rw [ea] at hf; cases hf
  | some x =>
    rw [ea] at hf
    refine ⟨Δ, [x], hs, by unfold acons anil; rw [ea], fun vs H1 s1 r1 => ?_⟩
    cases r1 with
    | cons a t =>
      cases t
      exact cd _ H1 x d Q a hf fun v H2 s2 r2 => q v H2 (s1.trans s2) r2
theorem dx_callB {x : Str} {p : Pos} {id : String} {r : List V → Hp → VK → Prop} {G : PyData → Option PyData} (hc : CallR X (.builtin id) r) (cd : CallD X.K C r G) (hg : Gl X x) (hm : X.mg x = none) (hv : bootBuiltins x = some (.builtin id)) (ha : PE X e (tD X.K C fe))
    (hse : starEach (e :: []) X.env = (false, eval e X.env) :: starEach [] X.env := by rfl) (hn : x ≠ "__name__" := by decide) (hdb : (x == ("__debug__" : Str)) = false := by decide) : PE X (.Call (.Name x p) [e] [] pos) (tD X.K C (e1 G fe)) :=
  pe_imp (pe_callB hc hg hm hv (da_cons ha da_nil hse) hn hdb hse) fun _ _ _ h => call1_read cd h
theorem dx_callTy {x : Str} {p : Pos} {T : String} {r : List V → Hp → VK → Prop} {G : PyData → Option PyData} (hc : CallR X (.type T) r) (cd : CallD X.K C r G) (hg : Gl X x) (hm : X.mg x = none) (hv : bootBuiltins x = some (.type T)) (ha : PE X e (tD X.K C fe))
    (hse : starEach (e :: []) X.env = (false, eval e X.env) :: starEach [] X.env := by rfl) (hn : x ≠ "__name__" := by decide) (hdb : (x == ("__debug__" : Str)) = false := by decide) : PE X (.Call (.Name x p) [e] [] pos) (tD X.K C (e1 G fe)) :=
  pe_imp (pe_callTy hc hg hm hv (da_cons ha da_nil hse) hn hdb hse) fun _ _ _ h => call1_read cd h
theorem cd_len {K : PySem.W.Frag} : CallD K C (fun xs H Q => ∃ p ys, xs = [.ref p] ∧ (SqL K H p ys ∨ SqT K H p ys) ∧ Q (.int ys.length) H) lenD := by
  intro x H dx d Q rx hf q
  cases dx with
  | tuple ds =>
    cases hf
    obtain ⟨a, xs, rfl, ha, ra⟩ := rx.tupI
    exact ⟨a, xs, rfl, .inr ha, by rw [ra.length]; exact q _ H (Same.refl H) (.sc (.int _))⟩
  | list ds =>
    cases hf
    obtain ⟨a, xs, rfl, ha, ra⟩ := rx.lstI
    exact ⟨a, xs, rfl, .inl ha, by rw [ra.length]; exact q _ H (Same.refl H) (.sc (.int _))⟩
  | _ => cases hf
theorem cd_tup {K : PySem.W.Frag} : CallD K C (fun xs H Q => ∃ p ys, xs = [.ref p] ∧ ((SqL K H p ys ∧ ∀ l, H l = none → Q (.ref l) (upd H l (.tup ys))) ∨ (SqT K H p ys ∧ Q (.ref p) H))) tupD := by
  intro x H dx d Q rx hf q
  cases dx with
  | tuple ds =>
    cases hf
    obtain ⟨a, xs, rfl, ha, ra⟩ := rx.tupI
    exact ⟨a, xs, rfl, .inr ⟨ha, q _ H (Same.refl H) (.tup ha ra)⟩⟩
  | list ds =>
    cases hf
    obtain ⟨a, xs, rfl, ha, ra⟩ := rx.lstI
    exact ⟨a, xs, rfl, .inl ⟨ha, fun l hl => q _ _ (same_new hl) (.tup (SqT.of upd_same) (ra.mn (same_new hl)))⟩⟩
  | _ => cases hf
theorem cd_int {K : PySem.W.Frag} : CallD K C (fun xs H Q => (∃ i, xs = [.int i] ∧ Q (.int i) H) ∨ ∃ k, xs = [.bl k] ∧ Q (.int (if k then 1 else 0)) H) intD := by
  intro x H dx d Q rx hf q
  cases dx with
  | int i =>
    cases hf
    rw [rx.intI]
    exact .inl ⟨i, rfl, q _ H (Same.refl H) (.sc (.int _))⟩
  | bool b =>
    cases hf
    rw [rx.blI]
    exact .inr ⟨b, rfl, q _ H (Same.refl H) (.sc (.int _))⟩
  | _ => cases hf
/-! chains of two comparisons -/
def echain (F G : PyData → PyData → Option PyData) (fa fb fc : Env → Option PyData) : Env → Option Bool := fun Δ => match fa Δ with
  | some x => (match fb Δ with | some y => (match F x y with | some (.bool true) => (match fc Δ with | some z => (match G y z with | some (.bool b) => some b | _ => none) | none => none) | some (.bool false) => some false | _ => none) | none => none)
  | none => none
theorem dt_chain {c : Expr} {fc : Env → Option PyData} {op op' : CmpOp} {r r' : R2} {F G : PyData → PyData → Option PyData} (ho : OpR X (compareOp op) r) (ho' : OpR X (compareOp op') r') (od : OpD X.K C r F) (od' : OpD X.K C r' G)
    (ha : PE X a (tD X.K C fa)) (hb : PE X b (tD X.K C fb)) (hc : PE X c (tD X.K C fc)) (hm : lastMarks [op, op'] [b, c] = false := by with_unfolding_all rfl) : PT X (.Compare a [op, op'] [b, c] pos) (tDT X.K C (echain F G fa fb fc)) := by
  refine pt_imp (pt_chain ho ho' ha hb hc hm) fun σ H Q q => ?_
  obtain ⟨Δ, t, hs, hf, q⟩ := q
  unfold echain at hf
  cases ea : fa Δ with
  | none => rw [ea] at hf; cases hf
  | some x =>
    rw [ea] at hf
    dsimp only at hf
    cases eb : fb Δ with
    | none => rw [eb] at hf; cases hf
    | some y =>
      rw [eb] at hf
      dsimp only at hf
      refine ⟨Δ, x, hs, ea, fun v H1 s1 r1 => ⟨Δ, y, hs.mn s1, eb, fun w H2 s2 r2 => ?_⟩⟩
      cases e1 : F x y with
      | none => rw [e1] at hf; cases hf
      | some d1 =>
        rw [e1] at hf
        cases d1 with
        | bool k =>
          refine od v w H2 x y _ _ (r1.mn s2) r2 e1 fun z H3 s3 r3 => ⟨k, r3.blI, ?_⟩
          cases k with
          | true =>
            dsimp only at hf
            refine iteT ?_
            cases ec : fc Δ with
            | none => rw [ec] at hf; cases hf
            | some cz =>
              rw [ec] at hf
              dsimp only at hf
              refine ⟨Δ, cz, hs.mn ((s1.trans s2).trans s3), ec, fun w4 H4 s4 r4 => ?_⟩
              cases e2 : G y cz with
              | none => rw [e2] at hf; cases hf
              | some d2 =>
                rw [e2] at hf
                cases d2 with
                | bool b =>
                  cases hf
                  exact od' w w4 H4 y cz _ _ (r2.mn (s3.trans s4)) r4 e2 fun z5 H5 s5 r5 => ⟨_, r5.blI, q H5 ((((s1.trans s2).trans s3).trans s4).trans s5)⟩
                | _ => cases hf
          | false =>
            cases hf
            exact iteF ⟨false, rfl, q H3 ((s1.trans s2).trans s3)⟩
        | _ => cases hf
/-! and, or as values -/
def eor (fa fb : Env → Option PyData) : Env → Option PyData := fun Δ => match fa Δ with | some (.bool true) => some (.bool true) | some (.bool false) => fb Δ | _ => none
def eand (fa fb : Env → Option PyData) : Env → Option PyData := fun Δ => match fa Δ with | some (.bool false) => some (.bool false) | some (.bool true) => fb Δ | _ => none
theorem dx_or {rest : List Expr} (ha : PE X a (tD X.K C fa)) (hb : PE X (.BoolOp .Or (b :: rest) pos) (tD X.K C fb)) : PE X (.BoolOp .Or (a :: b :: rest) pos) (tD X.K C (eor fa fb)) := by
  refine pe_imp (pe_or ha hb) fun σ H Q q => ?_
  obtain ⟨Δ, d, hs, hf, q⟩ := q
  unfold eor at hf
  cases ea : fa Δ with
  | none => rw [ea] at hf; cases hf
  | some x =>
    rw [ea] at hf
    cases x with
    | bool c =>
      refine ⟨Δ, _, hs, ea, fun v H1 s1 r1 => ⟨c, r1.blI, ?_⟩⟩
      cases c with
      | true => cases hf; exact iteT (q _ H1 s1 (.sc (.bl _)))
      | false => exact iteF ⟨Δ, d, hs.mn s1, hf, fun v H2 s2 r2 => q v H2 (s1.trans s2) r2⟩
    | _ => cases hf
theorem dx_and {rest : List Expr} (ha : PE X a (tD X.K C fa)) (hb : PE X (.BoolOp .And (b :: rest) pos) (tD X.K C fb)) : PE X (.BoolOp .And (a :: b :: rest) pos) (tD X.K C (eand fa fb)) := by
  refine pe_imp (pe_and ha hb) fun σ H Q q => ?_
  obtain ⟨Δ, d, hs, hf, q⟩ := q
  unfold eand at hf
  cases ea : fa Δ with
  | none => rw [ea] at hf; cases hf
  | some x =>
    rw [ea] at hf
    cases x with
    | bool c =>
      refine ⟨Δ, _, hs, ea, fun v H1 s1 r1 => ⟨c, r1.blI, ?_⟩⟩
      cases c with
      | false => cases hf; exact iteF (q _ H1 s1 (.sc (.bl _)))
      | true => exact iteT ⟨Δ, d, hs.mn s1, hf, fun v H2 s2 r2 => q v H2 (s1.trans s2) r2⟩
    | _ => cases hf
theorem dx_one {op} (ha : PE X a (tD X.K C fa)) : PE X (.BoolOp op [a] pos) (tD X.K C fa) := pe_one ha
end
end DL

/-! DL5: what is walked, comprehensions, statements, defs. -/
namespace DL
open PySem PySem.Spec PyProof.Rows L2

/-! ### what is walked -/
def IterOk (K : PySem.W.Frag) (C : Addr) (J : It) (H : Hp) (ds : List PyData) : Prop :=
  ∃ (G : Hp → Prop) (Y : Nat → Hp → V → Hp → Prop), Walk J ds.length G Y ∧ (∀ H', Same H H' → G H') ∧ ∀ i H1 x H2, i < ds.length → Same H H1 → Y i H1 x H2 → Same H1 H2 ∧ ∃ d, ds[i]? = some d ∧ Rp K C H2 x d
def tDI (K : PySem.W.Frag) (C : Addr) (f : Env → Option (List PyData)) : TI := fun σ H R => ∃ Δ ds, Rs K C H σ Δ ∧ f Δ = some ds ∧ ∀ J H', Same H H' → IterOk K C J H' ds → R J H'
theorem pi_imp {X : Cx} {tg e : Expr} {t t' : TI} (h : PI X tg e t) (i : ∀ σ H R, t' σ H R → t σ H R) : PI X tg e t' := ⟨fun pins s σ H R I q => h.run pins s σ H R I (i σ H R q)⟩
/-- the items of a tuple -/
def itup (f : Env → Option PyData) : Env → Option (List PyData) := fun Δ => match f Δ with | some (.tuple ds) => some ds | _ => none
def rngL (n : Int) : List PyData := (List.range n.toNat).map fun i => PyData.int (i : Nat)
def irng (f : Env → Option PyData) : Env → Option (List PyData) := fun Δ => match f Δ with | some (.int n) => if 0 ≤ n ∧ n ≤ 1000 then some (rngL n) else none | _ => none
theorem walk_enumT {K : PySem.W.Frag} {a : Addr} {xs : List V} : Walk (IteT K a) xs.length (fun H => SqT K H a xs) (YPair (fun i => some (.int (i : Nat))) (fun i => xs[i]?)) :=
  ⟨fun i H hi h => ⟨xs, xs[i], h, by simp [hi]⟩, fun H h => ⟨xs, h, Nat.le_refl _⟩, fun i H x H' hi h y => by
    obtain ⟨T, z, rfl, hT, rfl, q⟩ := y
    exact ⟨T, .int (i : Nat), z, rfl, hT, rfl, rfl, q xs h⟩⟩
theorem rngL_get {n : Int} {i : Nat} (h : i < n.toNat) : (rngL n)[i]? = some (.int (i : Nat)) := by
  unfold rngL
  rw [List.getElem?_map, List.getElem?_range h]
  rfl
theorem rngL_length (n : Int) : (rngL n).length = n.toNat := by unfold rngL; rw [List.length_map, List.length_range]

section
variable {X : Cx} {C : Addr} {tg e : Expr} {fe : Env → Option PyData} {pos : Pos}
theorem di_tup (he : PE X e (tD X.K C fe)) : PI X tg e (tDI X.K C (itup fe)) := by
  refine pi_imp (pi_tup he) fun σ H R q => ?_
  obtain ⟨Δ, ds, hs, hf, q⟩ := q
  unfold itup at hf
  cases ea : fe Δ with
  | none => rw [ea] at hf; cases hf
  | some x =>
    rw [ea] at hf
    cases x with
    | tuple es =>
      cases hf
      refine ⟨Δ, _, hs, ea, fun v H1 s1 r1 => ?_⟩
      obtain ⟨a, xs, rfl, ha, ra⟩ := r1.tupI
      refine ⟨a, rfl, ⟨xs, ha⟩, q _ H1 s1 ⟨_, YAt xs, by rw [← ra.length]; exact walk_tup, fun H' s' => same_t s' ha, fun i H2 x H3 hi s2 y => ?_⟩⟩
      obtain ⟨rfl, hx⟩ := y
      obtain ⟨d, hd, rd⟩ := ra.getV hx
      exact ⟨Same.refl _, d, hd, rd.mn s2⟩
    | _ => cases hf
theorem di_rng {p pos : Pos} (hg : Gl X "range") (hm : X.mg "range" = none) (he : PE X e (tD X.K C fe)) (hs : starEach [e] X.env = [(false, eval e X.env)] := by rfl) (hse : starEach (e :: []) X.env = (false, eval e X.env) :: starEach [] X.env := by rfl) : PI X tg (.Call (.Name "range" p) [e] [] pos) (tDI X.K C (irng fe)) := by
  refine pi_imp (pi_range1 hg hm (da_cons he da_nil hse) hs) fun σ H R q => ?_
  obtain ⟨Δ, ds, hs, hf, q⟩ := q
  unfold irng at hf
  cases ea : fe Δ with
  | none => rw [ea] at hf; cases hf
  | some x =>
    rw [ea] at hf
    cases x with
    | int n =>
      dsimp only at hf
      split at hf
      · rename_i hn
        cases hf
        refine ⟨Δ, [.int n], hs, by unfold acons anil; rw [ea], fun vs H1 s1 r1 => ?_⟩
        cases r1 with
        | cons r t =>
          cases t
          rw [r.intI]
          refine ⟨n, rfl, by omega, by omega, q _ H1 s1 ⟨fun _ => True, YFn fun i => .int (0 + i), ?_, fun _ _ => trivial, fun i H2 x H3 hi s2 y => ?_⟩⟩
          · rw [rngL_length]
            exact ⟨walk_range.goes, walk_range.stops, walk_range.yields⟩
          · obtain ⟨rfl, hx⟩ := y
            rw [rngL_length] at hi
            refine ⟨Same.refl _, _, rngL_get hi, ?_⟩
            rw [hx]
            show Rp X.K C H3 (V.int (0 + (i : Int))) _
            rw [Int.zero_add]
            exact .sc (.int _)
      · cases hf
    | _ => cases hf
end

/-! ### data without lists -/
mutual
def noL : PyData → Bool
  | .none => true
  | .bool _ => true
  | .int _ => true
  | .str _ => true
  | .list _ => false
  | .tuple ds => noLs ds
  | .dict _ => true
def noLs : List PyData → Bool
  | [] => true
  | d :: ds => noL d && noLs ds
end
section
variable {K : PySem.W.Frag} {C : Addr} {H H' : Hp}
theorem rd_L {a : Addr} {xs : List V} (k : ∀ a o, (∀ ys, o ≠ HO.lst ys) → H a = some o → H' a = some o) (h : SqT K H a xs) : SqT K H' a xs := by
  rcases h with (h | ⟨o, h⟩) | h
  · exact .inl (.inl (k _ _ (fun ys => by intro z; cases z) h))
  · exact .inl (.inr ⟨o, k _ _ (fun ys => by intro z; cases z) h⟩)
  · exact .inr h
mutual
theorem Rp.monoL (k : ∀ a o, (∀ ys, o ≠ HO.lst ys) → H a = some o → H' a = some o) : ∀ (d : PyData) {v : V}, noL d = true → Rp K C H v d → Rp K C H' v d
  | .none, _, _, h => by
    cases h with
    | sc s => exact .sc s
  | .bool _, _, _, h => by
    cases h with
    | sc s => exact .sc s
  | .int _, _, _, h => by
    cases h with
    | sc s => exact .sc s
  | .str _, _, _, h => by
    cases h with
    | sc s => exact .sc s
  | .list ds, _, n, _ => by
    simp [noL] at n
  | .tuple ds, _, n, h => by
    cases h with
    | sc s => exact .sc s
    | tup h1 h2 => exact .tup (rd_L k h1) (RpAll.monoL k ds (by simpa [noL] using n) h2)
  | .dict _, _, _, h => by
    cases h with
    | sc s => exact .sc s
    | cfg h1 h2 => exact .cfg (k _ _ (fun ys => by intro z; cases z) h1) h2
theorem RpAll.monoL (k : ∀ a o, (∀ ys, o ≠ HO.lst ys) → H a = some o → H' a = some o) : ∀ (ds : List PyData) {vs : List V}, noLs ds = true → RpAll K C H vs ds → RpAll K C H' vs ds
  | [], _, _, h => by
    cases h
    exact .nil
  | d :: ds, _, n, h => by
    have n' : noL d = true ∧ noLs ds = true := by simpa [noLs] using n
    cases h with
    | cons h1 h2 => exact .cons (Rp.monoL k d n'.1 h1) (RpAll.monoL k ds n'.2 h2)
end
theorem noLs_append : ∀ (ds es : List PyData), noLs (ds ++ es) = (noLs ds && noLs es)
  | [], es => by simp [noLs]
  | d :: ds, es => by simp [noLs, noLs_append ds es, Bool.and_assoc]
theorem kept_list {D : Addr} {acc ys : List V} (h : H D = some (.lst acc)) : ∀ a o, (∀ ys, o ≠ HO.lst ys) → H a = some o → upd H D (.lst ys) a = some o := fun a o n e => by
  have ne : a ≠ D := fun z => by
    rw [z, h] at e
    cases e
    exact n acc rfl
  rw [upd_ne ne]
  exact e
theorem same_mut {H0 : Hp} {D : Addr} {o : HO} (s : Same H0 H) (h : H0 D = none) : Same H0 (upd H D o) := fun a u e => by
  rw [upd_ne (ne_of_none e h)]
  exact s a u e
end

/-! ### comprehensions -/
def lcGo (i : Nat) (t : Env → Option Bool) (e : Env → Option PyData) (Δ : Env) : List PyData → Option (List PyData)
  | [] => some []
  | d :: ds => match t (Δ.set i (some d)) with
    | some true => (match e (Δ.set i (some d)) with
      | some y => if noL y = true then (match lcGo i t e Δ ds with | some r => some (y :: r) | none => none) else none
      | none => none)
    | some false => lcGo i t e Δ ds
    | none => none
def elc (i : Nat) (f : Env → Option (List PyData)) (t : Env → Option Bool) (e : Env → Option PyData) : Env → Option PyData := fun Δ => match f Δ with
  | some ds => if ds.length ≤ 1000 then (match lcGo i t e Δ ds with | some r => some (.list r) | none => none) else none
  | none => none
def tyes : Env → Option Bool := fun _ => some true
theorem dts_nil {X : Cx} {C : Addr} : PTs X [] (tDT X.K C tyes) := ⟨fun pins s σ H Q I q => pts_nil.run pins s σ H Q I (by
  obtain ⟨Δ, b, hs, hf, q⟩ := q
  cases hf
  exact q H (Same.refl H))⟩
theorem dts_one {X : Cx} {C : Addr} {c : Expr} {t : Env → Option Bool} (h : PT X c (tDT X.K C t)) : PTs X [c] (tDT X.K C t) := pts_one h

theorem set_set_none {α : Type} (l : List (Option α)) (i : Nat) (o : Option α) : (l.set i none).set i o = l.set i o := by
  rw [List.set_set]
theorem lc_read {K : PySem.W.Frag} {C : Addr} {i : Nat} {f : Env → Option (List PyData)} {t : Env → Option Bool} {e : Env → Option PyData} {σ : L2.St} {H : Hp} {Q : VK} (h : tD K C (elc i f t e) σ H Q) :
    tLc (tDI K C f) (gName i) (tDT K C t) (tD K C e) [i] σ H Q := by
  obtain ⟨Δ, d, hs, hf, q⟩ := h
  unfold elc at hf
  cases ef : f Δ with
  | none => rw [ef] at hf; cases hf
  | some ds =>
    rw [ef] at hf
    dsimp only at hf
    split at hf
    · rename_i hlen
      cases eg : lcGo i t e Δ ds with
      | none => rw [eg] at hf; cases hf
      | some out =>
        rw [eg] at hf
        cases hf
        refine ⟨Δ, ds, hs, ef, fun J H1 s1 it D hD => ?_⟩
        obtain ⟨G, Y, hw, hG, hY⟩ := it
        refine lc_it hw (fun j H' => Same H1 H' ∧ ∃ acc outs rest, H' D = some (.lst acc) ∧ RpAll K C H' acc outs ∧ noLs outs = true ∧ lcGo i t e Δ (ds.drop j) = some rest ∧ out = outs ++ rest ∧ acc.length ≤ j)
          ⟨same_new hD, [], [], out, upd_same, .nil, rfl, by simpa using eg, rfl, Nat.le_refl _⟩ (fun j H' _ p => hG H' p.1) ?_ ?_
        · rintro j x H2 H3 hj ⟨s2, acc, outs, rest, hacc, hr, hn, hgo, ho, hl⟩ hy
          obtain ⟨s3, dj, hdj, rx⟩ := hY j H2 x H3 hj s2 hy
          have ejd : ds.drop j = dj :: ds.drop (j + 1) := by
            obtain ⟨h1, h2⟩ := List.getElem?_eq_some_iff.mp hdj
            rw [List.drop_eq_getElem_cons h1, h2]
          rw [ejd] at hgo
          have hs3 : Rs K C H3 (σ.set i (some x)) (Δ.set i (some dj)) := (hs.mn ((s1.trans s2).trans s3)).set i rx
          have ew : wipe σ [i] = σ.set i none := rfl
          show (fun σ2 H2 => wipe σ2 [i] = wipe σ [i] ∧ _) ((wipe σ [i]).set i (some x)) H3
          rw [ew, set_set_none]
          refine ⟨by show (σ.set i (some x)).set i none = _; rw [List.set_set], ?_⟩
          unfold lcGo at hgo
          cases et : t (Δ.set i (some dj)) with
          | none => rw [et] at hgo; cases hgo
          | some b =>
            rw [et] at hgo
            refine ⟨_, b, hs3, et, fun H4 s4 => ?_⟩
            have s04 := (s2.trans s3).trans s4
            cases b with
            | true =>
              refine iteT ?_
              dsimp only at hgo
              cases ee : e (Δ.set i (some dj)) with
              | none => rw [ee] at hgo; cases hgo
              | some y =>
                rw [ee] at hgo
                dsimp only at hgo
                split at hgo
                · rename_i hy1
                  cases er : lcGo i t e Δ (ds.drop (j + 1)) with
                  | none => rw [er] at hgo; cases hgo
                  | some r =>
                    rw [er] at hgo
                    cases hgo
                    refine ⟨_, y, hs3.mn s4, ee, fun z H5 s5 rz => ?_⟩
                    have s25 := (s3.trans s4).trans s5
                    have hD5 := s25 D _ hacc
                    refine ⟨acc, hD5, Nat.lt_of_le_of_lt (Nat.le_trans hl (Nat.le_trans (Nat.le_of_lt hj) hlen)) (by decide), same_mut (s2.trans s25) hD, acc ++ [z], outs ++ [y], r, upd_same, ?_, ?_, rfl, by rw [ho]; simp, by rw [List.length_append]; simp; exact hl⟩
                    · exact ((hr.mn s25).monoL (kept_list hD5) outs hn).append (.cons (rz.monoL (kept_list hD5) y hy1) .nil)
                    · rw [noLs_append, hn]
                      simp [noLs, hy1]
                · cases hgo
            | false =>
              exact iteF ⟨s04, acc, outs, rest, (s3.trans s4) D _ hacc, hr.mn (s3.trans s4), hn, hgo, ho, Nat.le_succ_of_le hl⟩
        · rintro H2 ⟨s2, acc, outs, rest, hacc, hr, hn, hgo, ho, hl⟩
          have e0 : ds.drop ds.length = [] := List.drop_length
          rw [e0] at hgo
          cases hgo
          rw [List.append_nil] at ho
          subst ho
          exact q _ H2 (s1.trans s2) (.lst (SqL.of hacc) hr)
    · cases hf
section
variable {X : Cx} {C : Addr} {elt iter : Expr} {ifs : List Expr} {scope : Scope} {i : Nat} {x : Str} {pos : Pos} {f : Env → Option (List PyData)} {t : Env → Option Bool} {e : Env → Option PyData}
theorem dx_lc {px : Pos} (hc : X.calm = true) (hN : X.N.Nodup) (hi : PI X (.Name x px) iter (tDI X.K C f)) (ok : BlkOk X.N X.env.scope scope [(x, i)])
    (hg : ∀ (s : Shared) (H : Hp) (C' : Addr) (cl : List (Str × Addr)) (fp : List Addr), PG (X.blk s H scope (compEnvC scope cl C' X.env) fp) (.Name x px) (gName i))
    (ht : ∀ (s : Shared) (H : Hp) (C' : Addr) (cl : List (Str × Addr)) (fp : List Addr), PTs (X.blk s H scope (compEnvC scope cl C' X.env) fp) ifs (tDT X.K C t))
    (he : ∀ (s : Shared) (H : Hp) (C' : Addr) (cl : List (Str × Addr)) (fp : List Addr), PE (X.blk s H scope (compEnvC scope cl C' X.env) fp) elt (tD X.K C e)) (hs : ∀ x, foldedSetIterable iter X.env x = pure x := by intro _; rfl) :
    PE X (.ListComp elt [⟨.Name x px, iter, ifs, 0⟩] scope pos) (tD X.K C (elc i f t e)) :=
  pe_imp (pe_lc hc hN hi ok hg ht he hs) fun _ _ _ h => lc_read h
end

/-! ### statements -/
def gnil : Env → Option Res := fun Δ => some (.nx Δ)
def gset (i : Nat) (f : Env → Option PyData) : Env → Option Res := fun Δ => match f Δ with | some d => some (.nx (Δ.set i (some d))) | none => none
def setAll : Env → List Nat → List PyData → Env
  | Δ, i :: is, d :: ds => setAll (Δ.set i (some d)) is ds
  | Δ, _, _ => Δ
def gunp (is : List Nat) (f : Env → Option PyData) : Env → Option Res := fun Δ => match f Δ with | some (.tuple ds) => if ds.length = is.length then some (.nx (setAll Δ is ds)) else none | _ => none
def gret (f : Env → Option PyData) : Env → Option Res := fun Δ => match f Δ with | some d => some (.rt d) | none => none
def gif (c : Env → Option Bool) (g h : Env → Option Res) : Env → Option Res := fun Δ => match c Δ with | some true => g Δ | some false => h Δ | none => none
def gseq (g h : Env → Option Res) : Env → Option Res := fun Δ => match g Δ with | some (.nx Δ') => h Δ' | some (.rt d) => some (.rt d) | none => none
def gloop (i : Nat) (g : Env → Option Res) : List PyData → Env → Option Res
  | [], Δ => some (.nx Δ)
  | d :: ds, Δ => match g (Δ.set i (some d)) with | some (.nx Δ') => gloop i g ds Δ' | some (.rt d) => some (.rt d) | none => none
def gfor (i : Nat) (f : Env → Option (List PyData)) (g : Env → Option Res) : Env → Option Res := fun Δ => match f Δ with | some ds => gloop i g ds Δ | none => none

theorem endR.mono {K : PySem.W.Frag} {C : Addr} {H H' : Hp} {D : Ends} (s : Same H H') : ∀ {r : Res}, endR K C H D r → endR K C H' D r
  | .nx _, h => fun σ' H2 s2 => h σ' H2 (s.trans s2)
  | .rt _, h => fun v H2 s2 => h v H2 (s.trans s2)
section
variable {X : Cx} {C : Addr} {e : Expr} {f : Env → Option PyData} {g h : Env → Option Res} {pos : Pos} {st : Stmt} {rest : List Stmt}
theorem dss_nil : PSs X [] (tDS X.K C gnil) := pss_imp pss_nil fun D σ H q => by
  obtain ⟨Δ, r, hs, hf, q⟩ := q
  cases hf
  exact q σ H (Same.refl H) hs
theorem dss_cons (h1 : PS X st (tDS X.K C g)) (h2 : PSs X rest (tDS X.K C h)) : PSs X (st :: rest) (tDS X.K C (gseq g h)) := by
  refine pss_imp (pss_cons h1 h2) fun D σ H q => ?_
  obtain ⟨Δ, r, hs, hf, q⟩ := q
  unfold gseq at hf
  cases eg : g Δ with
  | none => rw [eg] at hf; cases hf
  | some r1 =>
    rw [eg] at hf
    refine ⟨Δ, r1, hs, eg, ?_⟩
    cases r1 with
    | nx Δ' => exact fun σ' H1 s1 hs1 => ⟨Δ', r, hs1, hf, q.mono s1⟩
    | rt d =>
      cases hf
      exact q
theorem dss_one (h1 : PS X st (tDS X.K C g)) : PSs X [st] (tDS X.K C g) := pss_one h1
theorem set_read {K : PySem.W.Frag} {i : Nat} {D : Ends} {σ : L2.St} {H : Hp} (q : tDS K C (gset i f) D σ H) : tAsg (tD K C f) (gName i) D σ H := by
  obtain ⟨Δ, r, hs, hf, q⟩ := q
  unfold gset at hf
  cases ea : f Δ with
  | none => rw [ea] at hf; cases hf
  | some d =>
    rw [ea] at hf
    cases hf
    exact ⟨Δ, d, hs, ea, fun v H1 s1 r1 => q _ H1 s1 ((hs.mn s1).set i r1)⟩
theorem ds_set {i : Nat} {x : Str} {pos' : Pos} (hN : X.N.Nodup) (hi : X.N[i]? = some x) (hx : Loc X.env.scope x) (he : PE X e (tD X.K C f)) (hs : swapsWith e (some (.Name x pos')) pos.line X.env = pure false := by rfl) (hf : X.fn x = true ∨ X.env.scope.names.lookup x = some .local := by first | exact .inl rfl | exact .inr rfl | assumption) :
    PS X (.Assign [.Name x pos'] e pos) (tDS X.K C (gset i f)) := ps_imp (ps_set hN hi hx he hs hf) fun _ _ _ q => set_read q
theorem ds_setLc {i j : Nat} {x y : Str} {py px : Pos} {elt iter : Expr} {ifs : List Expr} {scope : Scope} {spos : Pos} {fi : Env → Option (List PyData)} {t : Env → Option Bool} {fe : Env → Option PyData} (hc : X.calm = true) (hN : X.N.Nodup) (hy : X.N[j]? = some y) (hyl : X.env.scope.names.lookup y = some .local)
    (hsw : swapsWith (.ListComp elt [⟨.Name x px, iter, ifs, 0⟩] scope pos) (some (.Name y py)) spos.line X.env = pure true) (hi : PI X (.Name x px) iter (tDI X.K C fi)) (ok : BlkOk X.N X.env.scope scope [(x, i)])
    (hg : ∀ (s : Shared) (H : Hp) (C' : Addr) (cl : List (Str × Addr)) (fp : List Addr), PG (X.blk s H scope (compEnvC scope cl C' X.env) fp) (.Name x px) (gName i))
    (ht : ∀ (s : Shared) (H : Hp) (C' : Addr) (cl : List (Str × Addr)) (fp : List Addr), PTs (X.blk s H scope (compEnvC scope cl C' X.env) fp) ifs (tDT X.K C t))
    (he : ∀ (s : Shared) (H : Hp) (C' : Addr) (cl : List (Str × Addr)) (fp : List Addr), PE (X.blk s H scope (compEnvC scope cl C' X.env) fp) elt (tD X.K C fe)) (hs : ∀ x, foldedSetIterable iter X.env x = pure x := by intro _; rfl) :
    PS X (.Assign [.Name y py] (.ListComp elt [⟨.Name x px, iter, ifs, 0⟩] scope pos) spos) (tDS X.K C (gset j (elc i fi t fe))) := by
  refine ps_imp (ps_setLc hc hN hy hyl hsw hi ok hg ht he hs) fun D σ H q => ?_
  exact lc_read (set_read q)
theorem ds_ret (he : PE X e (tD X.K C f)) : PS X (.Return (some e) pos) (tDS X.K C (gret f)) := by
  refine ps_imp (ps_ret he) fun D σ H q => ?_
  obtain ⟨Δ, r, hs, hf, q⟩ := q
  unfold gret at hf
  cases ea : f Δ with
  | none => rw [ea] at hf; cases hf
  | some d =>
    rw [ea] at hf
    cases hf
    exact ⟨Δ, d, hs, ea, q⟩
theorem ds_if {c : Expr} {a b : List Stmt} {t : Env → Option Bool} (hc : PT X c (tDT X.K C t)) (ha : PSs X a (tDS X.K C g)) (hb : PSs X b (tDS X.K C h)) : PS X (.If c a b pos) (tDS X.K C (gif t g h)) := by
  refine ps_imp (ps_if hc ha hb) fun D σ H q => ?_
  obtain ⟨Δ, r, hs, hf, q⟩ := q
  unfold gif at hf
  cases ea : t Δ with
  | none => rw [ea] at hf; cases hf
  | some b =>
    rw [ea] at hf
    refine ⟨Δ, b, hs, ea, fun H1 s1 => ?_⟩
    cases b with
    | true => exact iteT ⟨Δ, r, hs.mn s1, hf, q.mono s1⟩
    | false => exact iteF ⟨Δ, r, hs.mn s1, hf, q.mono s1⟩
/-! several targets -/
def gNm : List Nat → TGs
  | [] => gNil
  | i :: is => gCons (gName i) (gNm is)
theorem nm_read {K : PySem.W.Frag} : ∀ (is : List Nat) {vs : List V} {ds : List PyData} {σ : L2.St} {Δ : Env} {H : Hp} {Q : L2.St → Hp → Prop}, RpAll K C H vs ds → ds.length = is.length → Rs K C H σ Δ → (∀ σ', Rs K C H σ' (setAll Δ is ds) → Q σ' H) → gNm is vs σ H Q
  | [], _, _, σ, Δ, H, Q, .nil, _, hs, q => ⟨rfl, q σ hs⟩
  | i :: is, _, _, σ, Δ, H, Q, .cons (v := v) (d := d) r t, hl, hs, q => ⟨v, _, rfl, nm_read is t (by simpa using hl) (hs.set i r) q⟩
  | [], _, _, σ, Δ, H, Q, .cons _ _, hl, _, _ => by simp at hl
  | i :: is, _, _, σ, Δ, H, Q, .nil, hl, _, _ => by simp at hl
theorem ds_unp {es : List Expr} {is : List Nat} {k : Nat} {tp : Pos} (hc : X.calm = true) (he : PE X e (tD X.K C f)) (hg : PGs X es (gNm is)) (hl : (assignEach es X.env).length = is.length := by rfl) (hst : (assignEach es X.env).findIdx? (·.1) = none := by rfl)
    (hs : swapsWithSole [.Tuple es k tp] e pos.line X.env = pure false := by rfl) (hw : swappedStores [.Tuple es k tp] e X.env = pure none := by rfl)
    (h1 : (assignEach [.Tuple es k tp] X.env).map (·.2) = [assign (.Tuple es k tp) X.env] := by rfl) : PS X (.Assign [.Tuple es k tp] e pos) (tDS X.K C (gunp is f)) := by
  refine ps_imp (ps_asg he (pg_tup hc hg hl hst) hs hw h1) fun D σ H q => ?_
  obtain ⟨Δ, r, hs, hf, q⟩ := q
  unfold gunp at hf
  cases ea : f Δ with
  | none => rw [ea] at hf; cases hf
  | some d =>
    rw [ea] at hf
    cases d with
    | tuple ds =>
      dsimp only at hf
      split at hf
      · rename_i hlen
        cases hf
        refine ⟨Δ, _, hs, ea, fun v H1 s1 r1 => ?_⟩
        obtain ⟨a, xs, rfl, ha, ra⟩ := r1.tupI
        exact ⟨a, xs, rfl, ha, by rw [ra.length]; exact hlen, nm_read is ra hlen (hs.mn s1) fun σ' hs' => q σ' H1 s1 hs'⟩
      · cases hf
    | _ => cases hf
theorem gunp_tup {is : List Nat} {fs : Env → Option (List PyData)} {Δ : Env} {r : Res} (h : gunp is (etup fs) Δ = some r) : ∃ ds, fs Δ = some ds ∧ ds.length = is.length ∧ r = .nx (setAll Δ is ds) := by
  unfold gunp etup at h
  cases ea : fs Δ with
  | none => rw [ea] at h; cases h
  | some ds =>
    rw [ea] at h
    dsimp only at h
    by_cases h1 : ds.length ≤ 1000
    · rw [if_pos h1] at h
      dsimp only at h
      by_cases h2 : ds.length = is.length
      · rw [if_pos h2] at h
        cases h
        exact ⟨ds, rfl, h2, rfl⟩
      · rw [if_neg h2] at h
        cases h
    · rw [if_neg h1] at h
      cases h
theorem ds_par2 {i j : Nat} {x y : Str} {a b : Expr} {fs : Env → Option (List PyData)} {px py pt : Pos} {kt k2 pt2} (hc : X.calm = true) (hN : X.N.Nodup) (hi : X.N[i]? = some x) (hj : X.N[j]? = some y) (hij : i ≠ j)
    (hx : X.env.scope.names.lookup x = some .local) (hy : X.env.scope.names.lookup y = some .local) (ha : PA X [a, b] (tDA X.K C fs))
    (hw : swappedStores [.Tuple [.Name x px, .Name y py] kt pt] (.Tuple [a, b] k2 pt2) X.env = pure (some [x, y]) := by rfl)
    (hs : swapsWithSole [.Tuple [.Name x px, .Name y py] kt pt] (.Tuple [a, b] k2 pt2) pos.line X.env = pure false := by rfl) :
    PS X (.Assign [.Tuple [.Name x px, .Name y py] kt pt] (.Tuple [a, b] k2 pt2) pos) (tDS X.K C (gunp [i, j] (etup fs))) := by
  refine ps_imp (ps_par hc hN hi hj hij hx hy ha hw hs) fun D σ H q => ?_
  obtain ⟨Δ, r, hs, hf, q⟩ := q
  obtain ⟨ds, ea, hl, rfl⟩ := gunp_tup hf
  refine ⟨Δ, ds, hs, ea, fun vs H1 s1 r1 => ?_⟩
  match ds, vs, hl, r1 with
  | [d1, d2], [v1, v2], _, .cons r1 (.cons r2 .nil) => exact ⟨v1, v2, rfl, q _ H1 s1 (((hs.mn s1).set i r1).set j r2)⟩
theorem ds_par3 {i j l : Nat} {x y z : Str} {a b c : Expr} {fs : Env → Option (List PyData)} {px py pz pt : Pos} {kt k2 pt2} (hc : X.calm = true) (hN : X.N.Nodup) (hi : X.N[i]? = some x) (hj : X.N[j]? = some y) (hl : X.N[l]? = some z) (hij : i ≠ j) (hil : i ≠ l) (hjl : j ≠ l)
    (hx : X.env.scope.names.lookup x = some .local) (hy : X.env.scope.names.lookup y = some .local) (hz : X.env.scope.names.lookup z = some .local) (ha : PA X [a, b, c] (tDA X.K C fs))
    (hw : swappedStores [.Tuple [.Name x px, .Name y py, .Name z pz] kt pt] (.Tuple [a, b, c] k2 pt2) X.env = pure (some [x, y, z]) := by rfl)
    (hs : swapsWithSole [.Tuple [.Name x px, .Name y py, .Name z pz] kt pt] (.Tuple [a, b, c] k2 pt2) pos.line X.env = pure false := by rfl) :
    PS X (.Assign [.Tuple [.Name x px, .Name y py, .Name z pz] kt pt] (.Tuple [a, b, c] k2 pt2) pos) (tDS X.K C (gunp [i, j, l] (etup fs))) := by
  refine ps_imp (ps_par3 hc hN hi hj hl hij hil hjl hx hy hz ha hw hs) fun D σ H q => ?_
  obtain ⟨Δ, r, hs, hf, q⟩ := q
  obtain ⟨ds, ea, hl, rfl⟩ := gunp_tup hf
  refine ⟨Δ, ds, hs, ea, fun vs H1 s1 r1 => ?_⟩
  match ds, vs, hl, r1 with
  | [d1, d2, d3], [v1, v2, v3], _, .cons r1 (.cons r2 (.cons r3 .nil)) => exact ⟨v1, v2, v3, rfl, q _ H1 s1 ((((hs.mn s1).set i r1).set j r2).set l r3)⟩
/-! for -/
theorem ds_for {iter : Expr} {body : List Stmt} {i : Nat} {x : Str} {px : Pos} {fi : Env → Option (List PyData)} (hp : PassesOwn (model X.prog X.w) X.A X.env X.xe) (hc : X.calm = true) (hi : PI X (.Name x px) iter (tDI X.K C fi)) (hg : PG X (.Name x px) (gName i)) (hb : PSs X body (tDS X.K C g))
    (hs : ∀ x, foldedSetIterable iter X.env x = pure x := by intro _; rfl) : PS X (.For (.Name x px) iter body [] pos) (tDS X.K C (gfor i fi g)) := by
  refine ps_imp (ps_for hp hc hi hg hb hs) fun D σ H q => ?_
  obtain ⟨Δ, r, hs, hf, q⟩ := q
  unfold gfor at hf
  cases ei : fi Δ with
  | none => rw [ei] at hf; cases hf
  | some ds =>
    rw [ei] at hf
    refine ⟨Δ, ds, hs, ei, fun J H1 s1 it => ?_⟩
    obtain ⟨G, Y, hw, hG, hY⟩ := it
    refine for_it hw (fun j σ' H' => Same H1 H' ∧ ∃ Δ', Rs X.K C H' σ' Δ' ∧ gloop i g (ds.drop j) Δ' = some r) ⟨Same.refl _, Δ, hs.mn s1, hf⟩ (fun j σ' H' _ p => hG H' p.1) ?_ ?_
    · rintro j x σ' H2 H3 hj ⟨s2, Δ', hs', hgo⟩ hy
      obtain ⟨s3, dj, hdj, rx⟩ := hY j H2 x H3 hj s2 hy
      have ejd : ds.drop j = dj :: ds.drop (j + 1) := by
        obtain ⟨h1, h2⟩ := List.getElem?_eq_some_iff.mp hdj
        rw [List.drop_eq_getElem_cons h1, h2]
      rw [ejd] at hgo
      unfold gloop at hgo
      cases eg : g (Δ'.set i (some dj)) with
      | none => rw [eg] at hgo; cases hgo
      | some r1 =>
        rw [eg] at hgo
        refine ⟨_, r1, (hs'.mn s3).set i rx, eg, ?_⟩
        cases r1 with
        | nx Δ2 => exact fun σ2 H4 s4 hs4 => ⟨(s2.trans s3).trans s4, Δ2, hs4, hgo⟩
        | rt d =>
          cases hgo
          exact q.mono (s1.trans (s2.trans s3))
    · rintro σ' H2 ⟨s2, Δ', hs', hgo⟩
      have e0 : ds.drop ds.length = [] := List.drop_length
      rw [e0] at hgo
      cases hgo
      exact q σ' H2 (s1.trans s2) hs'
end

/-! ### defs -/
def fnD (n : Nat) (g : Env → Option Res) (ds : List PyData) : Option PyData := match g (ds.map some ++ List.replicate (n - ds.length) none) with | some (.rt d) => some d | some (.nx _) => some .none | none => none
theorem fn_ok {P : Program} {w : World} {K : PySem.W.Frag} {mg : Str → Option Value} {base : Heap} {C : Addr} {x qual : Str} {st : Stmt} {f : Addr} {fd : FuncData} {N ps : List Str} {k : Nat} {g : Env → Option Res} (F : Fun K x qual st f fd) (S : FnScope N ps (defScope st))
    (hbody : ∀ (cdv : Value) (A : Around) (outer : List PySem.Env) (s : Shared) (H : Hp) (E : XK), Room k (A.deeper (envOfC qual (defScope st) s.heap.objs.size f cdv)) →
      PSs (cxOf CX0 P w K mg base N qual (defScope st) f cdv A outer s H E).nox (defBody st) (tDS K C g)) : FnOk P w K mg base CX0 (k + 1) f fd ps (SpF K C ps.length (fnD N.length g)) := by
  refine F.ok S (fun vs H Q E h => ?_) (fun cdv A outer s H vs Q E hr h => ⟨_, hbody cdv A outer s H E hr, ?_⟩)
  · obtain ⟨ds, d, hl, r, _⟩ := h
    rw [r.length, hl]
  · obtain ⟨ds, d, hl, r, hf, q⟩ := h
    unfold fnD at hf
    have e : L2.start N vs = vs.map some ++ List.replicate (N.length - ds.length) none := by unfold L2.start; rw [r.length]
    rw [e]
    cases eg : g (ds.map some ++ List.replicate (N.length - ds.length) none) with
    | none => rw [eg] at hf; cases hf
    | some r1 =>
      rw [eg] at hf
      refine ⟨_, r1, Rs.start _ r, eg, ?_⟩
      cases r1 with
      | nx Δ' =>
        cases hf
        exact fun σ' H' s' _ => q _ H' s' (.sc .non)
      | rt d =>
        cases hf
        exact fun v H' s' rv => q v H' s' rv
end DL

/-! DL6: the program's text by places, its words and constants, what the top has written. -/
namespace DL
open PySem PySem.Spec PyProof.Rows L2

def top (i : Nat) : Stmt := PySem.Challenge.pw_litmuscore_k55_whole_deliveries_commute.main.body.getD i (.Pass ⟨0, 0, 0, 0⟩)

inductive Tag where
  | shared | modified | exclusive | getS | getM | giveUp | recall | returned | invalidate | invalidated | grant | received | confirm | deliver | request | evict | cache | home | halt | sc | tso | pso | wmm
  deriving DecidableEq
def tg : Tag → Str
  | .shared => "shared"
  | .modified => "modified"
  | .exclusive => "exclusive"
  | .getS => "get shared"
  | .getM => "get modified"
  | .giveUp => "give up"
  | .recall => "recall"
  | .returned => "returned"
  | .invalidate => "invalidate"
  | .invalidated => "invalidated"
  | .grant => "grant"
  | .received => "received"
  | .confirm => "confirm"
  | .deliver => "deliver"
  | .request => "request"
  | .evict => "evict"
  | .cache => "cache"
  | .home => "home"
  | .halt => "halt"
  | .sc => "sc"
  | .tso => "tso"
  | .pso => "pso"
  | .wmm => "wmm"
def tgNum : Tag → Nat
  | .shared => 0 | .modified => 1 | .exclusive => 2 | .getS => 3 | .getM => 4 | .giveUp => 5 | .recall => 6 | .returned => 7 | .invalidate => 8 | .invalidated => 9 | .grant => 10 | .received => 11 | .confirm => 12
  | .deliver => 13 | .request => 14 | .evict => 15 | .cache => 16 | .home => 17 | .halt => 18 | .sc => 19 | .tso => 20 | .pso => 21 | .wmm => 22
def tgOf : List Tag := [.shared, .modified, .exclusive, .getS, .getM, .giveUp, .recall, .returned, .invalidate, .invalidated, .grant, .received, .confirm, .deliver, .request, .evict, .cache, .home, .halt, .sc, .tso, .pso, .wmm]
theorem tgOf_mem (a : Tag) : a ∈ tgOf := by cases a <;> decide
theorem tg_all : ∀ a ∈ tgOf, ∀ b ∈ tgOf, (decide (tg a = tg b)) = decide (a = b) := by decide +kernel
theorem tg_dec (a b : Tag) : decide (tg a = tg b) = decide (a = b) := tg_all a (tgOf_mem a) b (tgOf_mem b)
theorem tg_inj (a b : Tag) : tg a = tg b ↔ a = b := by
  have h := tg_dec a b
  by_cases e : a = b
  · subst e; simp
  · rw [decide_eq_false e] at h
    exact ⟨fun z => absurd z (of_decide_eq_false h), fun z => absurd z e⟩
theorem tg_beq (a b : Tag) : (tg a == tg b) = decide (a = b) := by
  rw [← tg_dec a b]
  by_cases e : tg a = tg b
  · rw [decide_eq_true e]; exact beq_iff_eq.mpr e
  · rw [decide_eq_false e]; exact beq_eq_false_iff_ne.mpr e

def dNil : PyData := .tuple []
def dEmptyCache : PyData := .tuple [dNil, dNil, dNil]
def dStartHome : PyData := .tuple [.none, dNil, .none]
def dToCaches : PyData := .tuple [.str (tg .invalidate), .str (tg .recall), .str (tg .grant), .str (tg .confirm)]
def dWaits : PyData := .tuple [.str (tg .getS), .str (tg .getM), .str (tg .giveUp)]

structure Txt (K : PySem.W.Frag) (mg : Str → Option Value) (C : Addr) : Prop where
  cl : Cls K C
  a_sets : NoAttr K C "sets"
  a_ways : NoAttr K C "ways"
  a_requests : NoAttr K C "requests"
  a_line_words : NoAttr K C "line_words"
  a_exclusive_state : NoAttr K C "exclusive_state"
  a_order : NoAttr K C "order"
  a_reorder_buffer : NoAttr K C "reorder_buffer"
  a_store_buffer : NoAttr K C "store_buffer"
  m_len : mg "len" = none
  m_tuple : mg "tuple" = none
  m_range : mg "range" = none
  m_enumerate : mg "enumerate" = none
  m_repr : mg "repr" = none
  m_sorted : mg "sorted" = none
  m_int : mg "int" = none
  m_abs : mg "abs" = none
  m_max : mg "max" = none
  m_list : mg "list" = none
  EMPTY_CACHE : GlobD K C mg "EMPTY_CACHE" dEmptyCache
  START_HOME : GlobD K C mg "START_HOME" dStartHome
  TO_CACHES : GlobD K C mg "TO_CACHES" dToCaches
  WAITS_FOR_SERVICE : GlobD K C mg "WAITS_FOR_SERVICE" dWaits

/-- a def of the module that keeps its promise, for whoever calls it by its name -/
structure CalD (P : Program) (w : World) (K : PySem.W.Frag) (mg : Str → Option Value) (base : Heap) (C : Addr) (k : Nat) (x : Str) (n : Nat) (F : List PyData → Option PyData) : Prop where
  ex : ∃ (f : Addr) (fd : FuncData) (ps : List Str), FnOk P w K mg base CX0 k f fd ps (SpF K C n F) ∧ mg x = some (.ref f) ∧ PySem.W.keepIn K (.ref f) = true ∧ Binds K fd ps []
section
variable {X : Cx} {C : Addr} {e : Expr} {es : List Expr} {fs : Env → Option (List PyData)} {F : List PyData → Option PyData} {pos : Pos}
theorem dx_calC {x : Str} {p : Pos} {k k' n : Nat} (c : CalD X.prog X.w X.K X.mg X.base C k x n F) (hr : Room k' X.A) (hk : k ≤ k') (hg : Gl X x)
    (ha : PA X (e :: es) (tDA X.K C fs)) (hdb : (x == ("__debug__" : Str)) = false := by decide) (he : starEach (e :: es) X.env = (false, eval e X.env) :: starEach es X.env := by rfl) (hpl : (backTo pos (starEach es X.env)).any (·.1) = false := by rfl) :
    PE X (.Call (.Name x p) (e :: es) [] pos) (tD X.K C (ecl n F fs)) := by
  obtain ⟨f, fd, ps, G, hm, hkp, hb⟩ := c.ex
  exact dx_call G (hr.mono hk) hg hm hkp hb ha hdb he hpl
end
end DL

/-! W1: the program's defs (printed by gen.py). -/
namespace DL
open PySem PySem.Spec PyProof.Rows L2
section
variable {P : Program} {w : World} {K : PySem.W.Frag} {mg : Str → Option Value} {base : Heap} {C : Addr}
abbrev s_entry_of : Stmt := top 2
abbrev n_entry_of : List Str := ["entries", "line", "entry"]
theorem sc_entry_of : FnScope n_entry_of ["entries", "line"] (defScope s_entry_of) := ⟨rfl, rfl, rfl, by decide +kernel, rfl, by decide +kernel, by decide +kernel⟩
def g_entry_of : Env → Option Res :=
  (gseq (gfor 2 (itup (ev 0)) (gif (tb (e2 eqD (e2 ixD (ev 2) (ec (.int 0))) (ev 1))) (gret (ev 2)) gnil))
  (gret (ec .none)))
def F_entry_of : List PyData → Option PyData := fnD 3 g_entry_of
theorem ok_entry_of {f : Addr} {fd : FuncData} (F : Fun K "entry_of" "entry_of" s_entry_of f fd) (T : Txt K mg C) : FnOk P w K mg base CX0 1 f fd ["entries", "line"] (SpF K C 2 F_entry_of) :=
  fn_ok (N := n_entry_of) (g := g_entry_of) F sc_entry_of fun cdv A outer s H E hr => by
    unfold g_entry_of
    exact (dss_cons (ds_for PassesOwn.never rfl (di_tup (dx_var 0)) (pg_name (i := 2) sc_entry_of.nd rfl (Or.inl rfl)) (dss_one (ds_if (dt_cmp op_eq od_eq (dx_ix (dx_var 2) dx_int (fun _ _ => rfl)) (dx_var 1) (nomark _)) (dss_one (ds_ret (dx_var 2))) dss_nil)))
    (dss_one (ds_ret dx_non)))

abbrev s_without_line : Stmt := top 3
abbrev n_without_line : List Str := ["entries", "line", "entry"]
theorem sc_without_line : FnScope n_without_line ["entries", "line"] (defScope s_without_line) := ⟨rfl, rfl, rfl, by decide +kernel, rfl, by decide +kernel, by decide +kernel⟩
def g_without_line : Env → Option Res :=
  (gret (e1 tupD (elc 2 (itup (ev 0)) (tb (e2 neD (e2 ixD (ev 2) (ec (.int 0))) (ev 1))) (ev 2))))
def F_without_line : List PyData → Option PyData := fnD 3 g_without_line
theorem ok_without_line {f : Addr} {fd : FuncData} (F : Fun K "without_line" "without_line" s_without_line f fd) (T : Txt K mg C) : FnOk P w K mg base CX0 1 f fd ["entries", "line"] (SpF K C 2 F_without_line) :=
  fn_ok (N := n_without_line) (g := g_without_line) F sc_without_line fun cdv A outer s H E hr => by
    unfold g_without_line
    exact (dss_one (ds_ret (dx_callTy call_tuple_of cd_tup (by rfl) T.m_tuple (by decide +kernel) (dx_lc rfl sc_without_line.nd (di_tup (dx_var 0)) (blkOk_by (own := [(("entry" : Str), 2)]) (N := n_without_line) (sc := defScope s_without_line) (by decide +kernel)) (fun _ _ _ _ _ => pg_name (i := 2) sc_without_line.nd rfl (Or.inl rfl)) (fun _ _ _ _ _ => (dts_one (dt_cmp op_ne od_ne (dx_ix (dx_var 2) dx_int (fun _ _ => rfl)) (dx_var 1) (nomark _)))) (fun _ _ _ _ _ => (dx_var 2))))))

abbrev s_with_entry : Stmt := top 4
abbrev n_with_entry : List Str := ["entries", "new", "entry"]
theorem sc_with_entry : FnScope n_with_entry ["entries", "new"] (defScope s_with_entry) := ⟨rfl, rfl, rfl, by decide +kernel, rfl, by decide +kernel, by decide +kernel⟩
def g_with_entry : Env → Option Res :=
  (gret (e1 tupD (elc 2 (itup (ev 0)) tyes (eif (tb (e2 eqD (e2 ixD (ev 2) (ec (.int 0))) (e2 ixD (ev 1) (ec (.int 0))))) (ev 1) (ev 2)))))
def F_with_entry : List PyData → Option PyData := fnD 3 g_with_entry
theorem ok_with_entry {f : Addr} {fd : FuncData} (F : Fun K "with_entry" "with_entry" s_with_entry f fd) (T : Txt K mg C) : FnOk P w K mg base CX0 1 f fd ["entries", "new"] (SpF K C 2 F_with_entry) :=
  fn_ok (N := n_with_entry) (g := g_with_entry) F sc_with_entry fun cdv A outer s H E hr => by
    unfold g_with_entry
    exact (dss_one (ds_ret (dx_callTy call_tuple_of cd_tup (by rfl) T.m_tuple (by decide +kernel) (dx_lc rfl sc_with_entry.nd (di_tup (dx_var 0)) (blkOk_by (own := [(("entry" : Str), 2)]) (N := n_with_entry) (sc := defScope s_with_entry) (by decide +kernel)) (fun _ _ _ _ _ => pg_name (i := 2) sc_with_entry.nd rfl (Or.inl rfl)) (fun _ _ _ _ _ => dts_nil) (fun _ _ _ _ _ => (dx_if (dt_cmp op_eq od_eq (dx_ix (dx_var 2) dx_int (fun _ _ => rfl)) (dx_ix (dx_var 1) dx_int (fun _ _ => rfl)) (nomark _)) (dx_var 1) (dx_var 2)))))))

abbrev s_occupied_ways : Stmt := top 5
abbrev n_occupied_ways : List Str := ["config", "cache", "line", "group", "present", "coming", "entry"]
theorem sc_occupied_ways : FnScope n_occupied_ways ["config", "cache", "line"] (defScope s_occupied_ways) := ⟨rfl, rfl, rfl, by decide +kernel, rfl, by decide +kernel, by decide +kernel⟩
def g_occupied_ways : Env → Option Res :=
  (gseq (gset 3 (e2 modD (ev 2) (e1 (attrD "sets") (ev 0))))
  (gseq (gset 4 (elc 6 (itup (e2 ixD (ev 1) (ec (.int 0)))) (tb (e2 eqD (e2 modD (e2 ixD (ev 6) (ec (.int 0))) (e1 (attrD "sets") (ev 0))) (ev 3))) (e2 ixD (ev 6) (ec (.int 0)))))
  (gseq (gset 5 (elc 6 (itup (e2 ixD (ev 1) (ec (.int 1)))) (tand (tb (e2 eqD (e2 modD (e2 ixD (ev 6) (ec (.int 0))) (e1 (attrD "sets") (ev 0))) (ev 3))) (tb (e2 ninD (e2 ixD (ev 6) (ec (.int 0))) (ev 4)))) (e2 ixD (ev 6) (ec (.int 0)))))
  (gret (e2 addD (e1 lenD (ev 4)) (e1 lenD (ev 5)))))))
def F_occupied_ways : List PyData → Option PyData := fnD 7 g_occupied_ways
theorem ok_occupied_ways {f : Addr} {fd : FuncData} (F : Fun K "occupied_ways" "occupied_ways" s_occupied_ways f fd) (T : Txt K mg C) : FnOk P w K mg base CX0 1 f fd ["config", "cache", "line"] (SpF K C 3 F_occupied_ways) :=
  fn_ok (N := n_occupied_ways) (g := g_occupied_ways) F sc_occupied_ways fun cdv A outer s H E hr => by
    unfold g_occupied_ways
    exact (dss_cons (ds_set (i := 3) sc_occupied_ways.nd rfl (Or.inr rfl) (dx_op op_mod od_mod (dx_var 2) (dx_attr T.cl T.a_sets (dx_var 0) rfl)))
    (dss_cons (ds_set (i := 4) sc_occupied_ways.nd rfl (Or.inr rfl) (dx_lc rfl sc_occupied_ways.nd (di_tup (dx_ix (dx_var 1) dx_int (fun _ _ => rfl))) (blkOk_by (own := [(("entry" : Str), 6)]) (N := n_occupied_ways) (sc := defScope s_occupied_ways) (by decide +kernel)) (fun _ _ _ _ _ => pg_name (i := 6) sc_occupied_ways.nd rfl (Or.inl rfl)) (fun _ _ _ _ _ => (dts_one (dt_cmp op_eq od_eq (dx_op op_mod od_mod (dx_ix (dx_var 6) dx_int (fun _ _ => rfl)) (dx_attr T.cl T.a_sets (dx_var 0) rfl)) (dx_var 3) (nomark _)))) (fun _ _ _ _ _ => (dx_ix (dx_var 6) dx_int (fun _ _ => rfl)))))
    (dss_cons (ds_setLc (j := 5) rfl sc_occupied_ways.nd rfl rfl (sw_true rfl rfl rfl (by decide +kernel)) (di_tup (dx_ix (dx_var 1) dx_int (fun _ _ => rfl))) (blkOk_by (own := [(("entry" : Str), 6)]) (N := n_occupied_ways) (sc := defScope s_occupied_ways) (by decide +kernel)) (fun _ _ _ _ _ => pg_name (i := 6) sc_occupied_ways.nd rfl (Or.inl rfl)) (fun _ _ _ _ _ => (dts_one (PW.pt (dt_and (dt_cmp op_eq od_eq (dx_op op_mod od_mod (dx_ix (dx_var 6) dx_int (fun _ _ => rfl)) (dx_attr T.cl T.a_sets (dx_var 0) rfl)) (dx_var 3) (nomark _)) (dt_and1 (dt_cmp op_notIn_seq od_nin (dx_ix (dx_var 6) dx_int (fun _ _ => rfl)) (dx_var 4) (by rfl))))))) (fun _ _ _ _ _ => (dx_ix (dx_var 6) dx_int (fun _ _ => rfl))))
    (dss_one (ds_ret (dx_op op_addA od_add (dx_callB call_len_seq cd_len (by rfl) T.m_len PySem.boot_len (dx_var 4)) (dx_callB call_len_seq cd_len (by rfl) T.m_len PySem.boot_len (dx_var 5))))))))

abbrev s_request_line : Stmt := top 6
abbrev n_request_line : List Str := ["config", "cache", "core", "line", "exclusive", "lines", "requested", "leaving", "entry", "kind"]
theorem sc_request_line : FnScope n_request_line ["config", "cache", "core", "line", "exclusive"] (defScope s_request_line) := ⟨rfl, rfl, rfl, by decide +kernel, rfl, by decide +kernel, by decide +kernel⟩
def g_request_line : Env → Option Res :=
  (gseq (gunp [5, 6, 7] (ev 1))
  (gseq (gif (tor (tb (e2 notnD (ecl 2 F_entry_of (acons (ev 6) (acons (ev 3) anil))) (ec .none))) (tb (e2 notnD (ecl 2 F_entry_of (acons (ev 7) (acons (ev 3) anil))) (ec .none)))) (gret (ec .none)) gnil)
  (gseq (gif (tb (e2 geD (e1 lenD (ev 6)) (e1 (attrD "requests") (ev 0)))) (gret (ec .none)) gnil)
  (gseq (gset 8 (ecl 2 F_entry_of (acons (ev 5) (acons (ev 3) anil))))
  (gseq (gif (tand (tb (e2 isnD (ev 8) (ec .none))) (tb (e2 geD (ecl 3 F_occupied_ways (acons (ev 0) (acons (ev 1) (acons (ev 3) anil)))) (e1 (attrD "ways") (ev 0))))) (gret (ec .none)) gnil)
  (gseq (gif (tand (tb (e2 notnD (ev 8) (ec .none))) (tnot (tand (ttru (ev 4)) (tb (e2 eqD (e2 ixD (ev 8) (ec (.int 1))) (ec (.str (tg .shared)))))))) (gret (ec .none)) gnil)
  (gseq (gset 9 (eif (ttru (ev 4)) (ec (.str (tg .getM))) (ec (.str (tg .getS)))))
  (gret (etup (acons (etup (acons (ev 5) (acons (e2 addD (ev 6) (etup (acons (etup (acons (ev 3) (acons (ev 4) anil))) anil))) (acons (ev 7) anil)))) (acons (etup (acons (etup (acons (ev 9) (acons (ev 2) (acons (ev 3) anil)))) anil)) anil)))))))))))
def F_request_line : List PyData → Option PyData := fnD 10 g_request_line
theorem ok_request_line {f : Addr} {fd : FuncData} (F : Fun K "request_line" "request_line" s_request_line f fd) (T : Txt K mg C) (c_entry_of : CalD P w K mg base C 1 "entry_of" 2 F_entry_of) (c_occupied_ways : CalD P w K mg base C 1 "occupied_ways" 3 F_occupied_ways) : FnOk P w K mg base CX0 2 f fd ["config", "cache", "core", "line", "exclusive"] (SpF K C 5 F_request_line) :=
  fn_ok (N := n_request_line) (g := g_request_line) F sc_request_line fun cdv A outer s H E hr => by
    unfold g_request_line
    exact (dss_cons (ds_unp (is := [5, 6, 7]) rfl (dx_var 1) (pgs_cons (pg_name (i := 5) sc_request_line.nd rfl (Or.inl rfl)) (pgs_cons (pg_name (i := 6) sc_request_line.nd rfl (Or.inl rfl)) (pgs_cons (pg_name (i := 7) sc_request_line.nd rfl (Or.inl rfl)) pgs_nil))))
    (dss_cons (ds_if (PW.pt (dt_or (dt_cmp op_notN od_notN (dx_calC c_entry_of hr (by decide) (by rfl) (da_cons (dx_var 6) (da_cons (dx_var 3) da_nil))) dx_non (nomark _)) (dt_or1 (dt_cmp op_notN od_notN (dx_calC c_entry_of hr (by decide) (by rfl) (da_cons (dx_var 7) (da_cons (dx_var 3) da_nil))) dx_non (nomark _))))) (dss_one (ds_ret dx_non)) dss_nil)
    (dss_cons (ds_if (dt_cmp op_ge od_ge (dx_callB call_len_seq cd_len (by rfl) T.m_len PySem.boot_len (dx_var 6)) (dx_attr T.cl T.a_requests (dx_var 0) rfl) (nomark _)) (dss_one (ds_ret dx_non)) dss_nil)
    (dss_cons (ds_set (i := 8) sc_request_line.nd rfl (Or.inl rfl) (dx_calC c_entry_of hr (by decide) (by rfl) (da_cons (dx_var 5) (da_cons (dx_var 3) da_nil))))
    (dss_cons (ds_if (PW.pt (dt_and (dt_cmp op_isN od_isN (dx_var 8) dx_non (nomark _)) (dt_and1 (dt_cmp op_ge od_ge (dx_calC c_occupied_ways hr (by decide) (by rfl) (da_cons (dx_var 0) (da_cons (dx_var 1) (da_cons (dx_var 3) da_nil)))) (dx_attr T.cl T.a_ways (dx_var 0) rfl) (nomark _))))) (dss_one (ds_ret dx_non)) dss_nil)
    (dss_cons (ds_if (PW.pt (dt_and (dt_cmp op_notN od_notN (dx_var 8) dx_non (nomark _)) (dt_and1 (dt_not (PW.pt (dt_and (dt_tru (dx_var 4)) (dt_and1 (dt_cmp op_eq od_eq (dx_ix (dx_var 8) dx_int (fun _ _ => rfl)) dx_str (nomark _))))))))) (dss_one (ds_ret dx_non)) dss_nil)
    (dss_cons (ds_set (i := 9) sc_request_line.nd rfl (Or.inl rfl) (dx_if (dt_tru (dx_var 4)) dx_str dx_str))
    (dss_one (ds_ret (dx_tup (da_cons (dx_tup (da_cons (dx_var 5) (da_cons (dx_op op_addA od_add (dx_var 6) (dx_tup (da_cons (dx_tup (da_cons (dx_var 3) (da_cons (dx_var 4) da_nil))) da_nil))) (da_cons (dx_var 7) da_nil)))) (da_cons (dx_tup (da_cons (dx_tup (da_cons (dx_var 9) (da_cons (dx_var 2) (da_cons (dx_var 3) da_nil)))) da_nil)) da_nil))))))))))))

abbrev s_give_up_line : Stmt := top 7
abbrev n_give_up_line : List Str := ["cache", "core", "line", "lines", "requested", "leaving", "entry", "kept", "dirty", "left"]
theorem sc_give_up_line : FnScope n_give_up_line ["cache", "core", "line"] (defScope s_give_up_line) := ⟨rfl, rfl, rfl, by decide +kernel, rfl, by decide +kernel, by decide +kernel⟩
def g_give_up_line : Env → Option Res :=
  (gseq (gunp [3, 4, 5] (ev 0))
  (gseq (gset 6 (ecl 2 F_entry_of (acons (ev 3) (acons (ev 2) anil))))
  (gseq (gif (tor (tb (e2 isnD (ev 6) (ec .none))) (tb (e2 notnD (ecl 2 F_entry_of (acons (ev 4) (acons (ev 2) anil))) (ec .none)))) (gret (ec .none)) gnil)
  (gseq (gset 7 (ecl 2 F_without_line (acons (ev 3) (acons (ev 2) anil))))
  (gseq (gif (tb (e2 eqD (e2 ixD (ev 6) (ec (.int 1))) (ec (.str (tg .shared))))) (gret (etup (acons (etup (acons (ev 7) (acons (ev 4) (acons (ev 5) anil)))) (acons (etup anil) anil)))) gnil)
  (gseq (gset 8 (e2 eqD (e2 ixD (ev 6) (ec (.int 1))) (ec (.str (tg .modified)))))
  (gseq (gset 9 (e2 addD (ev 5) (etup (acons (etup (acons (ev 2) (acons (e2 ixD (ev 6) (ec (.int 2))) (acons (ev 8) anil)))) anil))))
  (gret (etup (acons (etup (acons (ev 7) (acons (ev 4) (acons (ev 9) anil)))) (acons (etup (acons (etup (acons (ec (.str (tg .giveUp))) (acons (ev 1) (acons (ev 2) (acons (e2 ixD (ev 6) (ec (.int 2))) (acons (ev 8) anil)))))) anil)) anil)))))))))))
def F_give_up_line : List PyData → Option PyData := fnD 10 g_give_up_line
theorem ok_give_up_line {f : Addr} {fd : FuncData} (F : Fun K "give_up_line" "give_up_line" s_give_up_line f fd) (T : Txt K mg C) (c_entry_of : CalD P w K mg base C 1 "entry_of" 2 F_entry_of) (c_without_line : CalD P w K mg base C 1 "without_line" 2 F_without_line) : FnOk P w K mg base CX0 2 f fd ["cache", "core", "line"] (SpF K C 3 F_give_up_line) :=
  fn_ok (N := n_give_up_line) (g := g_give_up_line) F sc_give_up_line fun cdv A outer s H E hr => by
    unfold g_give_up_line
    exact (dss_cons (ds_unp (is := [3, 4, 5]) rfl (dx_var 0) (pgs_cons (pg_name (i := 3) sc_give_up_line.nd rfl (Or.inl rfl)) (pgs_cons (pg_name (i := 4) sc_give_up_line.nd rfl (Or.inl rfl)) (pgs_cons (pg_name (i := 5) sc_give_up_line.nd rfl (Or.inl rfl)) pgs_nil))))
    (dss_cons (ds_set (i := 6) sc_give_up_line.nd rfl (Or.inl rfl) (dx_calC c_entry_of hr (by decide) (by rfl) (da_cons (dx_var 3) (da_cons (dx_var 2) da_nil))))
    (dss_cons (ds_if (PW.pt (dt_or (dt_cmp op_isN od_isN (dx_var 6) dx_non (nomark _)) (dt_or1 (dt_cmp op_notN od_notN (dx_calC c_entry_of hr (by decide) (by rfl) (da_cons (dx_var 4) (da_cons (dx_var 2) da_nil))) dx_non (nomark _))))) (dss_one (ds_ret dx_non)) dss_nil)
    (dss_cons (ds_set (i := 7) sc_give_up_line.nd rfl (Or.inl rfl) (dx_calC c_without_line hr (by decide) (by rfl) (da_cons (dx_var 3) (da_cons (dx_var 2) da_nil))))
    (dss_cons (ds_if (dt_cmp op_eq od_eq (dx_ix (dx_var 6) dx_int (fun _ _ => rfl)) dx_str (nomark _)) (dss_one (ds_ret (dx_tup (da_cons (dx_tup (da_cons (dx_var 7) (da_cons (dx_var 4) (da_cons (dx_var 5) da_nil)))) (da_cons (dx_tup da_nil) da_nil))))) dss_nil)
    (dss_cons (ds_set (i := 8) sc_give_up_line.nd rfl (Or.inl rfl) (dx_cmp op_eq od_eq (dx_ix (dx_var 6) dx_int (fun _ _ => rfl)) dx_str (nomark _)))
    (dss_cons (ds_set (i := 9) sc_give_up_line.nd rfl (Or.inl rfl) (dx_op op_addA od_add (dx_var 5) (dx_tup (da_cons (dx_tup (da_cons (dx_var 2) (da_cons (dx_ix (dx_var 6) dx_int (fun _ _ => rfl)) (da_cons (dx_var 8) da_nil)))) da_nil))))
    (dss_one (ds_ret (dx_tup (da_cons (dx_tup (da_cons (dx_var 7) (da_cons (dx_var 4) (da_cons (dx_var 9) da_nil)))) (da_cons (dx_tup (da_cons (dx_tup (da_cons dx_str (da_cons (dx_var 1) (da_cons (dx_var 2) (da_cons (dx_ix (dx_var 6) dx_int (fun _ _ => rfl)) (da_cons (dx_var 8) da_nil)))))) da_nil)) da_nil))))))))))))

abbrev s_after_recall : Stmt := top 8
abbrev n_after_recall : List Str := ["cache", "message", "lines", "requested", "leaving", "core", "line", "keep", "entry", "left", "rest", "kept"]
theorem sc_after_recall : FnScope n_after_recall ["cache", "message"] (defScope s_after_recall) := ⟨rfl, rfl, rfl, by decide +kernel, rfl, by decide +kernel, by decide +kernel⟩
def g_after_recall : Env → Option Res :=
  (gseq (gunp [2, 3, 4] (ev 0))
  (gseq (gunp [5, 6, 7] (etup (acons (e2 ixD (ev 1) (ec (.int 1))) (acons (e2 ixD (ev 1) (ec (.int 2))) (acons (e2 ixD (ev 1) (ec (.int 3))) anil)))))
  (gseq (gset 8 (ecl 2 F_entry_of (acons (ev 2) (acons (ev 6) anil))))
  (gseq (gif (tb (e2 isnD (ev 8) (ec .none))) (gseq (gset 9 (ecl 2 F_entry_of (acons (ev 4) (acons (ev 6) anil))))
  (gseq (gset 10 (ecl 2 F_with_entry (acons (ev 4) (acons (etup (acons (ev 6) (acons (ec .none) (acons (e2 ixD (ev 9) (ec (.int 2))) anil)))) anil))))
  (gret (etup (acons (etup (acons (ev 2) (acons (ev 3) (acons (ev 10) anil)))) (acons (etup (acons (etup (acons (ec (.str (tg .returned))) (acons (ev 5) (acons (ev 6) (acons (e2 ixD (ev 9) (ec (.int 1))) (acons (e2 ixD (ev 9) (ec (.int 2))) anil)))))) anil)) anil)))))) gnil)
  (gseq (gset 11 (ecl 2 F_without_line (acons (ev 2) (acons (ev 6) anil))))
  (gseq (gif (ttru (ev 7)) (gset 11 (ecl 2 F_with_entry (acons (ev 2) (acons (etup (acons (ev 6) (acons (ec (.str (tg .shared))) (acons (e2 ixD (ev 8) (ec (.int 2))) anil)))) anil)))) gnil)
  (gret (etup (acons (etup (acons (ev 11) (acons (ev 3) (acons (ev 4) anil)))) (acons (etup (acons (etup (acons (ec (.str (tg .returned))) (acons (ev 5) (acons (ev 6) (acons (e2 ixD (ev 8) (ec (.int 2))) (acons (e2 eqD (e2 ixD (ev 8) (ec (.int 1))) (ec (.str (tg .modified)))) anil)))))) anil)) anil))))))))))
def F_after_recall : List PyData → Option PyData := fnD 12 g_after_recall
theorem ok_after_recall {f : Addr} {fd : FuncData} (F : Fun K "after_recall" "after_recall" s_after_recall f fd) (T : Txt K mg C) (c_entry_of : CalD P w K mg base C 1 "entry_of" 2 F_entry_of) (c_with_entry : CalD P w K mg base C 1 "with_entry" 2 F_with_entry) (c_without_line : CalD P w K mg base C 1 "without_line" 2 F_without_line) : FnOk P w K mg base CX0 2 f fd ["cache", "message"] (SpF K C 2 F_after_recall) :=
  fn_ok (N := n_after_recall) (g := g_after_recall) F sc_after_recall fun cdv A outer s H E hr => by
    unfold g_after_recall
    exact (dss_cons (ds_unp (is := [2, 3, 4]) rfl (dx_var 0) (pgs_cons (pg_name (i := 2) sc_after_recall.nd rfl (Or.inl rfl)) (pgs_cons (pg_name (i := 3) sc_after_recall.nd rfl (Or.inl rfl)) (pgs_cons (pg_name (i := 4) sc_after_recall.nd rfl (Or.inl rfl)) pgs_nil))))
    (dss_cons (ds_par3 (i := 5) (j := 6) (l := 7) rfl sc_after_recall.nd rfl rfl rfl (by decide) (by decide) (by decide) rfl rfl rfl (da_cons (dx_ix (dx_var 1) dx_int (fun _ _ => rfl)) (da_cons (dx_ix (dx_var 1) dx_int (fun _ _ => rfl)) (da_cons (dx_ix (dx_var 1) dx_int (fun _ _ => rfl)) da_nil))))
    (dss_cons (ds_set (i := 8) sc_after_recall.nd rfl (Or.inl rfl) (dx_calC c_entry_of hr (by decide) (by rfl) (da_cons (dx_var 2) (da_cons (dx_var 6) da_nil))))
    (dss_cons (ds_if (dt_cmp op_isN od_isN (dx_var 8) dx_non (nomark _)) (dss_cons (ds_set (i := 9) sc_after_recall.nd rfl (Or.inl rfl) (dx_calC c_entry_of hr (by decide) (by rfl) (da_cons (dx_var 4) (da_cons (dx_var 6) da_nil))))
    (dss_cons (ds_set (i := 10) sc_after_recall.nd rfl (Or.inl rfl) (dx_calC c_with_entry hr (by decide) (by rfl) (da_cons (dx_var 4) (da_cons (dx_tup (da_cons (dx_var 6) (da_cons dx_non (da_cons (dx_ix (dx_var 9) dx_int (fun _ _ => rfl)) da_nil)))) da_nil))))
    (dss_one (ds_ret (dx_tup (da_cons (dx_tup (da_cons (dx_var 2) (da_cons (dx_var 3) (da_cons (dx_var 10) da_nil)))) (da_cons (dx_tup (da_cons (dx_tup (da_cons dx_str (da_cons (dx_var 5) (da_cons (dx_var 6) (da_cons (dx_ix (dx_var 9) dx_int (fun _ _ => rfl)) (da_cons (dx_ix (dx_var 9) dx_int (fun _ _ => rfl)) da_nil)))))) da_nil)) da_nil))))))) dss_nil)
    (dss_cons (ds_set (i := 11) sc_after_recall.nd rfl (Or.inl rfl) (dx_calC c_without_line hr (by decide) (by rfl) (da_cons (dx_var 2) (da_cons (dx_var 6) da_nil))))
    (dss_cons (ds_if (dt_tru (dx_var 7)) (dss_one (ds_set (i := 11) sc_after_recall.nd rfl (Or.inl rfl) (dx_calC c_with_entry hr (by decide) (by rfl) (da_cons (dx_var 2) (da_cons (dx_tup (da_cons (dx_var 6) (da_cons dx_str (da_cons (dx_ix (dx_var 8) dx_int (fun _ _ => rfl)) da_nil)))) da_nil))))) dss_nil)
    (dss_one (ds_ret (dx_tup (da_cons (dx_tup (da_cons (dx_var 11) (da_cons (dx_var 3) (da_cons (dx_var 4) da_nil)))) (da_cons (dx_tup (da_cons (dx_tup (da_cons dx_str (da_cons (dx_var 5) (da_cons (dx_var 6) (da_cons (dx_ix (dx_var 8) dx_int (fun _ _ => rfl)) (da_cons (dx_cmp op_eq od_eq (dx_ix (dx_var 8) dx_int (fun _ _ => rfl)) dx_str (nomark _)) da_nil)))))) da_nil)) da_nil)))))))))))

abbrev s_cache_receives : Stmt := top 9
abbrev n_cache_receives : List Str := ["cache", "message", "lines", "requested", "leaving", "kind", "core", "line", "present"]
theorem sc_cache_receives : FnScope n_cache_receives ["cache", "message"] (defScope s_cache_receives) := ⟨rfl, rfl, rfl, by decide +kernel, rfl, by decide +kernel, by decide +kernel⟩
def g_cache_receives : Env → Option Res :=
  (gseq (gunp [2, 3, 4] (ev 0))
  (gseq (gunp [5, 6, 7] (etup (acons (e2 ixD (ev 1) (ec (.int 0))) (acons (e2 ixD (ev 1) (ec (.int 1))) (acons (e2 ixD (ev 1) (ec (.int 2))) anil)))))
  (gseq (gif (tb (e2 eqD (ev 5) (ec (.str (tg .recall))))) (gret (ecl 2 F_after_recall (acons (ev 0) (acons (ev 1) anil)))) gnil)
  (gseq (gif (tb (e2 eqD (ev 5) (ec (.str (tg .invalidate))))) (gret (etup (acons (etup (acons (ecl 2 F_without_line (acons (ev 2) (acons (ev 7) anil))) (acons (ev 3) (acons (ev 4) anil)))) (acons (etup (acons (etup (acons (ec (.str (tg .invalidated))) (acons (ev 6) (acons (ev 7) anil)))) anil)) anil)))) gnil)
  (gseq (gif (tb (e2 eqD (ev 5) (ec (.str (tg .grant))))) (gseq (gset 8 (e2 addD (ecl 2 F_without_line (acons (ev 2) (acons (ev 7) anil))) (etup (acons (etup (acons (ev 7) (acons (e2 ixD (ev 1) (ec (.int 3))) (acons (e2 ixD (ev 1) (ec (.int 4))) anil)))) anil))))
  (gret (etup (acons (etup (acons (ev 8) (acons (ecl 2 F_without_line (acons (ev 3) (acons (ev 7) anil))) (acons (ev 4) anil)))) (acons (etup (acons (etup (acons (ec (.str (tg .received))) (acons (ev 6) (acons (ev 7) anil)))) anil)) anil))))) gnil)
  (gret (etup (acons (etup (acons (ev 2) (acons (ev 3) (acons (ecl 2 F_without_line (acons (ev 4) (acons (ev 7) anil))) anil)))) (acons (etup anil) anil)))))))))
def F_cache_receives : List PyData → Option PyData := fnD 9 g_cache_receives
theorem ok_cache_receives {f : Addr} {fd : FuncData} (F : Fun K "cache_receives" "cache_receives" s_cache_receives f fd) (T : Txt K mg C) (c_after_recall : CalD P w K mg base C 2 "after_recall" 2 F_after_recall) (c_without_line : CalD P w K mg base C 1 "without_line" 2 F_without_line) : FnOk P w K mg base CX0 3 f fd ["cache", "message"] (SpF K C 2 F_cache_receives) :=
  fn_ok (N := n_cache_receives) (g := g_cache_receives) F sc_cache_receives fun cdv A outer s H E hr => by
    unfold g_cache_receives
    exact (dss_cons (ds_unp (is := [2, 3, 4]) rfl (dx_var 0) (pgs_cons (pg_name (i := 2) sc_cache_receives.nd rfl (Or.inl rfl)) (pgs_cons (pg_name (i := 3) sc_cache_receives.nd rfl (Or.inl rfl)) (pgs_cons (pg_name (i := 4) sc_cache_receives.nd rfl (Or.inl rfl)) pgs_nil))))
    (dss_cons (ds_par3 (i := 5) (j := 6) (l := 7) rfl sc_cache_receives.nd rfl rfl rfl (by decide) (by decide) (by decide) rfl rfl rfl (da_cons (dx_ix (dx_var 1) dx_int (fun _ _ => rfl)) (da_cons (dx_ix (dx_var 1) dx_int (fun _ _ => rfl)) (da_cons (dx_ix (dx_var 1) dx_int (fun _ _ => rfl)) da_nil))))
    (dss_cons (ds_if (dt_cmp op_eq od_eq (dx_var 5) dx_str (nomark _)) (dss_one (ds_ret (dx_calC c_after_recall hr (by decide) (by rfl) (da_cons (dx_var 0) (da_cons (dx_var 1) da_nil))))) dss_nil)
    (dss_cons (ds_if (dt_cmp op_eq od_eq (dx_var 5) dx_str (nomark _)) (dss_one (ds_ret (dx_tup (da_cons (dx_tup (da_cons (dx_calC c_without_line hr (by decide) (by rfl) (da_cons (dx_var 2) (da_cons (dx_var 7) da_nil))) (da_cons (dx_var 3) (da_cons (dx_var 4) da_nil)))) (da_cons (dx_tup (da_cons (dx_tup (da_cons dx_str (da_cons (dx_var 6) (da_cons (dx_var 7) da_nil)))) da_nil)) da_nil))))) dss_nil)
    (dss_cons (ds_if (dt_cmp op_eq od_eq (dx_var 5) dx_str (nomark _)) (dss_cons (ds_set (i := 8) sc_cache_receives.nd rfl (Or.inl rfl) (dx_op op_addA od_add (dx_calC c_without_line hr (by decide) (by rfl) (da_cons (dx_var 2) (da_cons (dx_var 7) da_nil))) (dx_tup (da_cons (dx_tup (da_cons (dx_var 7) (da_cons (dx_ix (dx_var 1) dx_int (fun _ _ => rfl)) (da_cons (dx_ix (dx_var 1) dx_int (fun _ _ => rfl)) da_nil)))) da_nil))))
    (dss_one (ds_ret (dx_tup (da_cons (dx_tup (da_cons (dx_var 8) (da_cons (dx_calC c_without_line hr (by decide) (by rfl) (da_cons (dx_var 3) (da_cons (dx_var 7) da_nil))) (da_cons (dx_var 4) da_nil)))) (da_cons (dx_tup (da_cons (dx_tup (da_cons dx_str (da_cons (dx_var 6) (da_cons (dx_var 7) da_nil)))) da_nil)) da_nil)))))) dss_nil)
    (dss_one (ds_ret (dx_tup (da_cons (dx_tup (da_cons (dx_var 2) (da_cons (dx_var 3) (da_cons (dx_calC c_without_line hr (by decide) (by rfl) (da_cons (dx_var 4) (da_cons (dx_var 7) da_nil))) da_nil)))) (da_cons (dx_tup da_nil) da_nil))))))))))

abbrev s_can_receive : Stmt := top 13
abbrev n_can_receive : List Str := ["home", "message"]
theorem sc_can_receive : FnScope n_can_receive ["home", "message"] (defScope s_can_receive) := ⟨rfl, rfl, rfl, by decide +kernel, rfl, by decide +kernel, by decide +kernel⟩
def g_can_receive : Env → Option Res :=
  (gret (eor (e2 isnD (e2 ixD (ev 0) (ec (.int 2))) (ec .none)) (e2 ninD (e2 ixD (ev 1) (ec (.int 0))) (ec dWaits))))
def F_can_receive : List PyData → Option PyData := fnD 2 g_can_receive
theorem ok_can_receive {f : Addr} {fd : FuncData} (F : Fun K "can_receive" "can_receive" s_can_receive f fd) (T : Txt K mg C) : FnOk P w K mg base CX0 1 f fd ["home", "message"] (SpF K C 2 F_can_receive) :=
  fn_ok (N := n_can_receive) (g := g_can_receive) F sc_can_receive fun cdv A outer s H E hr => by
    unfold g_can_receive
    exact (dss_one (ds_ret (dx_or (dx_cmp op_isN od_isN (dx_ix (dx_var 0) dx_int (fun _ _ => rfl)) dx_non (nomark _)) (dx_one (dx_cmp op_notIn_seq od_nin (dx_ix (dx_var 1) dx_int (fun _ _ => rfl)) (dx_glob (by rfl) T.WAITS_FOR_SERVICE) (by rfl))))))

abbrev s_begun : Stmt := top 14
abbrev n_begun : List Str := ["home", "words", "message", "owner", "sharers", "core", "line", "exclusive", "serving", "awaited", "messages", "sharer"]
theorem sc_begun : FnScope n_begun ["home", "words", "message"] (defScope s_begun) := ⟨rfl, rfl, rfl, by decide +kernel, rfl, by decide +kernel, by decide +kernel⟩
def g_begun : Env → Option Res :=
  (gseq (gunp [3, 4] (etup (acons (e2 ixD (ev 0) (ec (.int 0))) (acons (e2 ixD (ev 0) (ec (.int 1))) anil))))
  (gseq (gunp [5, 6, 7] (etup (acons (e2 ixD (ev 2) (ec (.int 1))) (acons (e2 ixD (ev 2) (ec (.int 2))) (acons (e2 eqD (e2 ixD (ev 2) (ec (.int 0))) (ec (.str (tg .getM)))) anil)))))
  (gseq (gif (tb (e2 notnD (ev 3) (ec .none))) (gseq (gset 8 (etup (acons (ev 5) (acons (ev 7) (acons (etup anil) (acons (ec (.bool true)) (acons (ec .none) (acons (ec (.bool false)) anil))))))))
  (gret (etup (acons (etup (acons (ev 3) (acons (ev 4) (acons (ev 8) anil)))) (acons (etup (acons (etup (acons (ec (.str (tg .recall))) (acons (ev 3) (acons (ev 6) (acons (e1 notD (ev 7)) anil))))) anil)) anil))))) gnil)
  (gseq (gset 9 (etup anil))
  (gseq (gif (ttru (ev 7)) (gset 9 (e1 tupD (elc 11 (itup (ev 4)) (tb (e2 neD (ev 11) (ev 5))) (ev 11)))) gnil)
  (gseq (gset 10 (e1 tupD (elc 11 (itup (ev 9)) tyes (etup (acons (ec (.str (tg .invalidate))) (acons (ev 11) (acons (ev 6) anil)))))))
  (gret (etup (acons (etup (acons (ev 3) (acons (ev 4) (acons (etup (acons (ev 5) (acons (ev 7) (acons (ev 9) (acons (ec (.bool false)) (acons (ev 1) (acons (ec (.bool false)) anil))))))) anil)))) (acons (ev 10) anil))))))))))
def F_begun : List PyData → Option PyData := fnD 12 g_begun
theorem ok_begun {f : Addr} {fd : FuncData} (F : Fun K "begun" "begun" s_begun f fd) (T : Txt K mg C) : FnOk P w K mg base CX0 1 f fd ["home", "words", "message"] (SpF K C 3 F_begun) :=
  fn_ok (N := n_begun) (g := g_begun) F sc_begun fun cdv A outer s H E hr => by
    unfold g_begun
    exact (dss_cons (ds_par2 (i := 3) (j := 4) rfl sc_begun.nd rfl rfl (by decide) rfl rfl (da_cons (dx_ix (dx_var 0) dx_int (fun _ _ => rfl)) (da_cons (dx_ix (dx_var 0) dx_int (fun _ _ => rfl)) da_nil)))
    (dss_cons (ds_unp (is := [5, 6, 7]) rfl (dx_tup (da_cons (dx_ix (dx_var 2) dx_int (fun _ _ => rfl)) (da_cons (dx_ix (dx_var 2) dx_int (fun _ _ => rfl)) (da_cons (dx_cmp op_eq od_eq (dx_ix (dx_var 2) dx_int (fun _ _ => rfl)) dx_str (nomark _)) da_nil)))) (pgs_cons (pg_name (i := 5) sc_begun.nd rfl (Or.inr rfl)) (pgs_cons (pg_name (i := 6) sc_begun.nd rfl (Or.inr rfl)) (pgs_cons (pg_name (i := 7) sc_begun.nd rfl (Or.inl rfl)) pgs_nil))))
    (dss_cons (ds_if (dt_cmp op_notN od_notN (dx_var 3) dx_non (nomark _)) (dss_cons (ds_set (i := 8) sc_begun.nd rfl (Or.inl rfl) (dx_tup (da_cons (dx_var 5) (da_cons (dx_var 7) (da_cons (dx_tup da_nil) (da_cons dx_bl (da_cons dx_non (da_cons dx_bl da_nil))))))))
    (dss_one (ds_ret (dx_tup (da_cons (dx_tup (da_cons (dx_var 3) (da_cons (dx_var 4) (da_cons (dx_var 8) da_nil)))) (da_cons (dx_tup (da_cons (dx_tup (da_cons dx_str (da_cons (dx_var 3) (da_cons (dx_var 6) (da_cons (dx_not (dx_var 7)) da_nil))))) da_nil)) da_nil)))))) dss_nil)
    (dss_cons (ds_set (i := 9) sc_begun.nd rfl (Or.inl rfl) (dx_tup da_nil))
    (dss_cons (ds_if (dt_tru (dx_var 7)) (dss_one (ds_set (i := 9) sc_begun.nd rfl (Or.inl rfl) (dx_callTy call_tuple_of cd_tup (by rfl) T.m_tuple (by decide +kernel) (dx_lc rfl sc_begun.nd (di_tup (dx_var 4)) (blkOk_by (own := [(("sharer" : Str), 11)]) (N := n_begun) (sc := defScope s_begun) (by decide +kernel)) (fun _ _ _ _ _ => pg_name (i := 11) sc_begun.nd rfl (Or.inl rfl)) (fun _ _ _ _ _ => (dts_one (dt_cmp op_ne od_ne (dx_var 11) (dx_var 5) (nomark _)))) (fun _ _ _ _ _ => (dx_var 11)))))) dss_nil)
    (dss_cons (ds_set (i := 10) sc_begun.nd rfl (Or.inl rfl) (dx_callTy call_tuple_of cd_tup (by rfl) T.m_tuple (by decide +kernel) (dx_lc rfl sc_begun.nd (di_tup (dx_var 9)) (blkOk_by (own := [(("sharer" : Str), 11)]) (N := n_begun) (sc := defScope s_begun) (by decide +kernel)) (fun _ _ _ _ _ => pg_name (i := 11) sc_begun.nd rfl (Or.inl rfl)) (fun _ _ _ _ _ => dts_nil) (fun _ _ _ _ _ => (dx_tup (da_cons dx_str (da_cons (dx_var 11) (da_cons (dx_var 6) da_nil))))))))
    (dss_one (ds_ret (dx_tup (da_cons (dx_tup (da_cons (dx_var 3) (da_cons (dx_var 4) (da_cons (dx_tup (da_cons (dx_var 5) (da_cons (dx_var 7) (da_cons (dx_var 9) (da_cons dx_bl (da_cons (dx_var 1) (da_cons dx_bl da_nil))))))) da_nil)))) (da_cons (dx_var 10) da_nil)))))))))))

abbrev s_invalidated : Stmt := top 15
abbrev n_invalidated : List Str := ["home", "sharer", "owner", "sharers", "serving", "core", "exclusive", "awaited", "recalled", "words", "granted", "other"]
theorem sc_invalidated : FnScope n_invalidated ["home", "sharer"] (defScope s_invalidated) := ⟨rfl, rfl, rfl, by decide +kernel, rfl, by decide +kernel, by decide +kernel⟩
def g_invalidated : Env → Option Res :=
  (gseq (gunp [2, 3, 4] (ev 0))
  (gseq (gunp [5, 6, 7, 8, 9, 10] (ev 4))
  (gseq (gset 3 (e1 tupD (elc 11 (itup (ev 3)) (tb (e2 neD (ev 11) (ev 1))) (ev 11))))
  (gseq (gset 7 (e1 tupD (elc 11 (itup (ev 7)) (tb (e2 neD (ev 11) (ev 1))) (ev 11))))
  (gret (etup (acons (ev 2) (acons (ev 3) (acons (etup (acons (ev 5) (acons (ev 6) (acons (ev 7) (acons (ev 8) (acons (ev 9) (acons (ev 10) anil))))))) anil)))))))))
def F_invalidated : List PyData → Option PyData := fnD 12 g_invalidated
theorem ok_invalidated {f : Addr} {fd : FuncData} (F : Fun K "invalidated" "invalidated" s_invalidated f fd) (T : Txt K mg C) : FnOk P w K mg base CX0 1 f fd ["home", "sharer"] (SpF K C 2 F_invalidated) :=
  fn_ok (N := n_invalidated) (g := g_invalidated) F sc_invalidated fun cdv A outer s H E hr => by
    unfold g_invalidated
    exact (dss_cons (ds_unp (is := [2, 3, 4]) rfl (dx_var 0) (pgs_cons (pg_name (i := 2) sc_invalidated.nd rfl (Or.inl rfl)) (pgs_cons (pg_name (i := 3) sc_invalidated.nd rfl (Or.inl rfl)) (pgs_cons (pg_name (i := 4) sc_invalidated.nd rfl (Or.inl rfl)) pgs_nil))))
    (dss_cons (ds_unp (is := [5, 6, 7, 8, 9, 10]) rfl (dx_var 4) (pgs_cons (pg_name (i := 5) sc_invalidated.nd rfl (Or.inl rfl)) (pgs_cons (pg_name (i := 6) sc_invalidated.nd rfl (Or.inl rfl)) (pgs_cons (pg_name (i := 7) sc_invalidated.nd rfl (Or.inl rfl)) (pgs_cons (pg_name (i := 8) sc_invalidated.nd rfl (Or.inl rfl)) (pgs_cons (pg_name (i := 9) sc_invalidated.nd rfl (Or.inl rfl)) (pgs_cons (pg_name (i := 10) sc_invalidated.nd rfl (Or.inl rfl)) pgs_nil)))))))
    (dss_cons (ds_set (i := 3) sc_invalidated.nd rfl (Or.inl rfl) (dx_callTy call_tuple_of cd_tup (by rfl) T.m_tuple (by decide +kernel) (dx_lc rfl sc_invalidated.nd (di_tup (dx_var 3)) (blkOk_by (own := [(("other" : Str), 11)]) (N := n_invalidated) (sc := defScope s_invalidated) (by decide +kernel)) (fun _ _ _ _ _ => pg_name (i := 11) sc_invalidated.nd rfl (Or.inl rfl)) (fun _ _ _ _ _ => (dts_one (dt_cmp op_ne od_ne (dx_var 11) (dx_var 1) (nomark _)))) (fun _ _ _ _ _ => (dx_var 11)))))
    (dss_cons (ds_set (i := 7) sc_invalidated.nd rfl (Or.inl rfl) (dx_callTy call_tuple_of cd_tup (by rfl) T.m_tuple (by decide +kernel) (dx_lc rfl sc_invalidated.nd (di_tup (dx_var 7)) (blkOk_by (own := [(("other" : Str), 11)]) (N := n_invalidated) (sc := defScope s_invalidated) (by decide +kernel)) (fun _ _ _ _ _ => pg_name (i := 11) sc_invalidated.nd rfl (Or.inl rfl)) (fun _ _ _ _ _ => (dts_one (dt_cmp op_ne od_ne (dx_var 11) (dx_var 1) (nomark _)))) (fun _ _ _ _ _ => (dx_var 11)))))
    (dss_one (ds_ret (dx_tup (da_cons (dx_var 2) (da_cons (dx_var 3) (da_cons (dx_tup (da_cons (dx_var 5) (da_cons (dx_var 6) (da_cons (dx_var 7) (da_cons (dx_var 8) (da_cons (dx_var 9) (da_cons (dx_var 10) da_nil))))))) da_nil))))))))))

abbrev s_returned : Stmt := top 16
abbrev n_returned : List Str := ["home", "message", "serving", "core", "exclusive", "awaited", "granted", "sharers"]
theorem sc_returned : FnScope n_returned ["home", "message"] (defScope s_returned) := ⟨rfl, rfl, rfl, by decide +kernel, rfl, by decide +kernel, by decide +kernel⟩
def g_returned : Env → Option Res :=
  (gseq (gset 2 (e2 ixD (ev 0) (ec (.int 2))))
  (gseq (gunp [3, 4, 5, 6] (etup (acons (e2 ixD (ev 2) (ec (.int 0))) (acons (e2 ixD (ev 2) (ec (.int 1))) (acons (e2 ixD (ev 2) (ec (.int 2))) (acons (e2 ixD (ev 2) (ec (.int 5))) anil))))))
  (gseq (gset 7 (eif (ttru (ev 4)) (etup anil) (etup (acons (e2 ixD (ev 1) (ec (.int 1))) anil))))
  (gret (etup (acons (ec .none) (acons (ev 7) (acons (etup (acons (ev 3) (acons (ev 4) (acons (ev 5) (acons (ec (.bool false)) (acons (e2 ixD (ev 1) (ec (.int 3))) (acons (ev 6) anil))))))) anil))))))))
def F_returned : List PyData → Option PyData := fnD 8 g_returned
theorem ok_returned {f : Addr} {fd : FuncData} (F : Fun K "returned" "returned" s_returned f fd) (T : Txt K mg C) : FnOk P w K mg base CX0 1 f fd ["home", "message"] (SpF K C 2 F_returned) :=
  fn_ok (N := n_returned) (g := g_returned) F sc_returned fun cdv A outer s H E hr => by
    unfold g_returned
    exact (dss_cons (ds_set (i := 2) sc_returned.nd rfl (Or.inl rfl) (dx_ix (dx_var 0) dx_int (fun _ _ => rfl)))
    (dss_cons (ds_unp (is := [3, 4, 5, 6]) rfl (dx_tup (da_cons (dx_ix (dx_var 2) dx_int (fun _ _ => rfl)) (da_cons (dx_ix (dx_var 2) dx_int (fun _ _ => rfl)) (da_cons (dx_ix (dx_var 2) dx_int (fun _ _ => rfl)) (da_cons (dx_ix (dx_var 2) dx_int (fun _ _ => rfl)) da_nil))))) (pgs_cons (pg_name (i := 3) sc_returned.nd rfl (Or.inl rfl)) (pgs_cons (pg_name (i := 4) sc_returned.nd rfl (Or.inl rfl)) (pgs_cons (pg_name (i := 5) sc_returned.nd rfl (Or.inl rfl)) (pgs_cons (pg_name (i := 6) sc_returned.nd rfl (Or.inl rfl)) pgs_nil)))))
    (dss_cons (ds_set (i := 7) sc_returned.nd rfl (Or.inl rfl) (dx_if (dt_tru (dx_var 4)) (dx_tup da_nil) (dx_tup (da_cons (dx_ix (dx_var 1) dx_int (fun _ _ => rfl)) da_nil))))
    (dss_one (ds_ret (dx_tup (da_cons dx_non (da_cons (dx_var 7) (da_cons (dx_tup (da_cons (dx_var 3) (da_cons (dx_var 4) (da_cons (dx_var 5) (da_cons dx_bl (da_cons (dx_ix (dx_var 1) dx_int (fun _ _ => rfl)) (da_cons (dx_var 6) da_nil))))))) da_nil)))))))))

abbrev s_grant_if_ready : Stmt := top 17
abbrev n_grant_if_ready : List Str := ["config", "home", "line", "owner", "sharers", "serving", "core", "exclusive", "awaited", "recalled", "words", "granted", "state"]
theorem sc_grant_if_ready : FnScope n_grant_if_ready ["config", "home", "line"] (defScope s_grant_if_ready) := ⟨rfl, rfl, rfl, by decide +kernel, rfl, by decide +kernel, by decide +kernel⟩
def g_grant_if_ready : Env → Option Res :=
  (gseq (gunp [3, 4, 5] (ev 1))
  (gseq (gunp [6, 7, 8, 9, 10, 11] (ev 5))
  (gseq (gif (tor (ttru (ev 11)) (tor (ttru (ev 8)) (tor (ttru (ev 9)) (tb (e2 isnD (ev 10) (ec .none)))))) (gret (etup (acons (ev 1) (acons (etup anil) anil)))) gnil)
  (gseq (gset 12 (ec (.str (tg .shared))))
  (gseq (gif (ttru (ev 7)) (gunp [12, 3, 4] (etup (acons (ec (.str (tg .modified))) (acons (ev 6) (acons (etup anil) anil))))) (gif (tand (ttru (e1 (attrD "exclusive_state") (ev 0))) (tnot (ttru (ev 4)))) (gunp [12, 3] (etup (acons (ec (.str (tg .exclusive))) (acons (ev 6) anil)))) (gif (tb (e2 ninD (ev 6) (ev 4))) (gset 4 (e2 addD (ev 4) (etup (acons (ev 6) anil)))) gnil)))
  (gseq (gset 5 (etup (acons (ev 6) (acons (ev 7) (acons (ev 8) (acons (ev 9) (acons (ev 10) (acons (ec (.bool true)) anil))))))))
  (gret (etup (acons (etup (acons (ev 3) (acons (ev 4) (acons (ev 5) anil)))) (acons (etup (acons (etup (acons (ec (.str (tg .grant))) (acons (ev 6) (acons (ev 2) (acons (ev 12) (acons (ev 10) anil)))))) anil)) anil))))))))))
def F_grant_if_ready : List PyData → Option PyData := fnD 13 g_grant_if_ready
theorem ok_grant_if_ready {f : Addr} {fd : FuncData} (F : Fun K "grant_if_ready" "grant_if_ready" s_grant_if_ready f fd) (T : Txt K mg C) : FnOk P w K mg base CX0 1 f fd ["config", "home", "line"] (SpF K C 3 F_grant_if_ready) :=
  fn_ok (N := n_grant_if_ready) (g := g_grant_if_ready) F sc_grant_if_ready fun cdv A outer s H E hr => by
    unfold g_grant_if_ready
    exact (dss_cons (ds_unp (is := [3, 4, 5]) rfl (dx_var 1) (pgs_cons (pg_name (i := 3) sc_grant_if_ready.nd rfl (Or.inl rfl)) (pgs_cons (pg_name (i := 4) sc_grant_if_ready.nd rfl (Or.inl rfl)) (pgs_cons (pg_name (i := 5) sc_grant_if_ready.nd rfl (Or.inl rfl)) pgs_nil))))
    (dss_cons (ds_unp (is := [6, 7, 8, 9, 10, 11]) rfl (dx_var 5) (pgs_cons (pg_name (i := 6) sc_grant_if_ready.nd rfl (Or.inl rfl)) (pgs_cons (pg_name (i := 7) sc_grant_if_ready.nd rfl (Or.inl rfl)) (pgs_cons (pg_name (i := 8) sc_grant_if_ready.nd rfl (Or.inl rfl)) (pgs_cons (pg_name (i := 9) sc_grant_if_ready.nd rfl (Or.inl rfl)) (pgs_cons (pg_name (i := 10) sc_grant_if_ready.nd rfl (Or.inl rfl)) (pgs_cons (pg_name (i := 11) sc_grant_if_ready.nd rfl (Or.inl rfl)) pgs_nil)))))))
    (dss_cons (ds_if (PW.pt (dt_or (dt_tru (dx_var 11)) (dt_or (dt_tru (dx_var 8)) (dt_or (dt_tru (dx_var 9)) (dt_or1 (dt_cmp op_isN od_isN (dx_var 10) dx_non (nomark _))))))) (dss_one (ds_ret (dx_tup (da_cons (dx_var 1) (da_cons (dx_tup da_nil) da_nil))))) dss_nil)
    (dss_cons (ds_set (i := 12) sc_grant_if_ready.nd rfl (Or.inl rfl) dx_str)
    (dss_cons (ds_if (dt_tru (dx_var 7)) (dss_one (ds_par3 (i := 12) (j := 3) (l := 4) rfl sc_grant_if_ready.nd rfl rfl rfl (by decide) (by decide) (by decide) rfl rfl rfl (da_cons dx_str (da_cons (dx_var 6) (da_cons (dx_tup da_nil) da_nil))))) (dss_one (ds_if (PW.pt (dt_and (dt_tru (dx_attr T.cl T.a_exclusive_state (dx_var 0) rfl)) (dt_and1 (dt_not (dt_tru (dx_var 4)))))) (dss_one (ds_par2 (i := 12) (j := 3) rfl sc_grant_if_ready.nd rfl rfl (by decide) rfl rfl (da_cons dx_str (da_cons (dx_var 6) da_nil)))) (dss_one (ds_if (dt_cmp op_notIn_seq od_nin (dx_var 6) (dx_var 4) (by rfl)) (dss_one (ds_set (i := 4) sc_grant_if_ready.nd rfl (Or.inl rfl) (dx_op op_addA od_add (dx_var 4) (dx_tup (da_cons (dx_var 6) da_nil))))) dss_nil)))))
    (dss_cons (ds_set (i := 5) sc_grant_if_ready.nd rfl (Or.inl rfl) (dx_tup (da_cons (dx_var 6) (da_cons (dx_var 7) (da_cons (dx_var 8) (da_cons (dx_var 9) (da_cons (dx_var 10) (da_cons dx_bl da_nil))))))))
    (dss_one (ds_ret (dx_tup (da_cons (dx_tup (da_cons (dx_var 3) (da_cons (dx_var 4) (da_cons (dx_var 5) da_nil)))) (da_cons (dx_tup (da_cons (dx_tup (da_cons dx_str (da_cons (dx_var 6) (da_cons (dx_var 2) (da_cons (dx_var 12) (da_cons (dx_var 10) da_nil)))))) da_nil)) da_nil)))))))))))

abbrev s_home_receives : Stmt := top 18
abbrev n_home_receives : List Str := ["config", "home", "words", "message", "owner", "sharers", "serving", "kind", "core", "line", "messages", "grants"]
theorem sc_home_receives : FnScope n_home_receives ["config", "home", "words", "message"] (defScope s_home_receives) := ⟨rfl, rfl, rfl, by decide +kernel, rfl, by decide +kernel, by decide +kernel⟩
def g_home_receives : Env → Option Res :=
  (gseq (gunp [4, 5, 6] (ev 1))
  (gseq (gunp [7, 8, 9] (etup (acons (e2 ixD (ev 3) (ec (.int 0))) (acons (e2 ixD (ev 3) (ec (.int 1))) (acons (e2 ixD (ev 3) (ec (.int 2))) anil)))))
  (gseq (gif (tb (e2 eqD (ev 7) (ec (.str (tg .giveUp))))) (gseq (gif (tb (e2 eqD (ev 4) (ev 8))) (gseq (gset 4 (ec .none))
  (gset 2 (eif (ttru (e2 ixD (ev 3) (ec (.int 4)))) (e2 ixD (ev 3) (ec (.int 3))) (ev 2)))) gnil)
  (gret (etup (acons (etup (acons (ev 4) (acons (ev 5) (acons (ec .none) anil)))) (acons (ev 2) (acons (etup (acons (etup (acons (ec (.str (tg .confirm))) (acons (ev 8) (acons (ev 9) anil)))) anil)) anil)))))) gnil)
  (gseq (gif (tb (e2 eqD (ev 7) (ec (.str (tg .received))))) (gret (etup (acons (etup (acons (ev 4) (acons (ev 5) (acons (ec .none) anil)))) (acons (ev 2) (acons (etup anil) anil))))) gnil)
  (gseq (gset 10 (etup anil))
  (gseq (gif (tb (e2 eqD (ev 7) (ec (.str (tg .invalidated))))) (gset 1 (ecl 2 F_invalidated (acons (ev 1) (acons (ev 8) anil)))) (gif (tb (e2 eqD (ev 7) (ec (.str (tg .returned))))) (gseq (gset 1 (ecl 2 F_returned (acons (ev 1) (acons (ev 3) anil))))
  (gset 2 (eif (ttru (e2 ixD (ev 3) (ec (.int 4)))) (e2 ixD (ev 3) (ec (.int 3))) (ev 2)))) (gunp [1, 10] (ecl 3 F_begun (acons (ev 1) (acons (ev 2) (acons (ev 3) anil)))))))
  (gseq (gunp [1, 11] (ecl 3 F_grant_if_ready (acons (ev 0) (acons (ev 1) (acons (ev 9) anil)))))
  (gret (etup (acons (ev 1) (acons (ev 2) (acons (e2 addD (ev 10) (ev 11)) anil))))))))))))
def F_home_receives : List PyData → Option PyData := fnD 12 g_home_receives
theorem ok_home_receives {f : Addr} {fd : FuncData} (F : Fun K "home_receives" "home_receives" s_home_receives f fd) (T : Txt K mg C) (c_invalidated : CalD P w K mg base C 1 "invalidated" 2 F_invalidated) (c_returned : CalD P w K mg base C 1 "returned" 2 F_returned) (c_begun : CalD P w K mg base C 1 "begun" 3 F_begun) (c_grant_if_ready : CalD P w K mg base C 1 "grant_if_ready" 3 F_grant_if_ready) : FnOk P w K mg base CX0 2 f fd ["config", "home", "words", "message"] (SpF K C 4 F_home_receives) :=
  fn_ok (N := n_home_receives) (g := g_home_receives) F sc_home_receives fun cdv A outer s H E hr => by
    unfold g_home_receives
    exact (dss_cons (ds_unp (is := [4, 5, 6]) rfl (dx_var 1) (pgs_cons (pg_name (i := 4) sc_home_receives.nd rfl (Or.inl rfl)) (pgs_cons (pg_name (i := 5) sc_home_receives.nd rfl (Or.inl rfl)) (pgs_cons (pg_name (i := 6) sc_home_receives.nd rfl (Or.inl rfl)) pgs_nil))))
    (dss_cons (ds_par3 (i := 7) (j := 8) (l := 9) rfl sc_home_receives.nd rfl rfl rfl (by decide) (by decide) (by decide) rfl rfl rfl (da_cons (dx_ix (dx_var 3) dx_int (fun _ _ => rfl)) (da_cons (dx_ix (dx_var 3) dx_int (fun _ _ => rfl)) (da_cons (dx_ix (dx_var 3) dx_int (fun _ _ => rfl)) da_nil))))
    (dss_cons (ds_if (dt_cmp op_eq od_eq (dx_var 7) dx_str (nomark _)) (dss_cons (ds_if (dt_cmp op_eq od_eq (dx_var 4) (dx_var 8) (nomark _)) (dss_cons (ds_set (i := 4) sc_home_receives.nd rfl (Or.inl rfl) dx_non)
    (dss_one (ds_set (i := 2) sc_home_receives.nd rfl (Or.inl rfl) (dx_if (dt_tru (dx_ix (dx_var 3) dx_int (fun _ _ => rfl))) (dx_ix (dx_var 3) dx_int (fun _ _ => rfl)) (dx_var 2))))) dss_nil)
    (dss_one (ds_ret (dx_tup (da_cons (dx_tup (da_cons (dx_var 4) (da_cons (dx_var 5) (da_cons dx_non da_nil)))) (da_cons (dx_var 2) (da_cons (dx_tup (da_cons (dx_tup (da_cons dx_str (da_cons (dx_var 8) (da_cons (dx_var 9) da_nil)))) da_nil)) da_nil))))))) dss_nil)
    (dss_cons (ds_if (dt_cmp op_eq od_eq (dx_var 7) dx_str (nomark _)) (dss_one (ds_ret (dx_tup (da_cons (dx_tup (da_cons (dx_var 4) (da_cons (dx_var 5) (da_cons dx_non da_nil)))) (da_cons (dx_var 2) (da_cons (dx_tup da_nil) da_nil)))))) dss_nil)
    (dss_cons (ds_set (i := 10) sc_home_receives.nd rfl (Or.inl rfl) (dx_tup da_nil))
    (dss_cons (ds_if (dt_cmp op_eq od_eq (dx_var 7) dx_str (nomark _)) (dss_one (ds_set (i := 1) sc_home_receives.nd rfl (Or.inl rfl) (dx_calC c_invalidated hr (by decide) (by rfl) (da_cons (dx_var 1) (da_cons (dx_var 8) da_nil))))) (dss_one (ds_if (dt_cmp op_eq od_eq (dx_var 7) dx_str (nomark _)) (dss_cons (ds_set (i := 1) sc_home_receives.nd rfl (Or.inl rfl) (dx_calC c_returned hr (by decide) (by rfl) (da_cons (dx_var 1) (da_cons (dx_var 3) da_nil))))
    (dss_one (ds_set (i := 2) sc_home_receives.nd rfl (Or.inl rfl) (dx_if (dt_tru (dx_ix (dx_var 3) dx_int (fun _ _ => rfl))) (dx_ix (dx_var 3) dx_int (fun _ _ => rfl)) (dx_var 2))))) (dss_one (ds_unp (is := [1, 10]) rfl (dx_calC c_begun hr (by decide) (by rfl) (da_cons (dx_var 1) (da_cons (dx_var 2) (da_cons (dx_var 3) da_nil)))) (pgs_cons (pg_name (i := 1) sc_home_receives.nd rfl (Or.inl rfl)) (pgs_cons (pg_name (i := 10) sc_home_receives.nd rfl (Or.inl rfl)) pgs_nil)))))))
    (dss_cons (ds_unp (is := [1, 11]) rfl (dx_calC c_grant_if_ready hr (by decide) (by rfl) (da_cons (dx_var 0) (da_cons (dx_var 1) (da_cons (dx_var 9) da_nil)))) (pgs_cons (pg_name (i := 1) sc_home_receives.nd rfl (Or.inl rfl)) (pgs_cons (pg_name (i := 11) sc_home_receives.nd rfl (Or.inl rfl)) pgs_nil)))
    (dss_one (ds_ret (dx_tup (da_cons (dx_var 1) (da_cons (dx_var 2) (da_cons (dx_op op_addA od_add (dx_var 10) (dx_var 11)) da_nil)))))))))))))

abbrev s_replaced : Stmt := top 21
abbrev n_replaced : List Str := ["parts", "index", "part"]
theorem sc_replaced : FnScope n_replaced ["parts", "index", "part"] (defScope s_replaced) := ⟨rfl, rfl, rfl, by decide +kernel, rfl, by decide +kernel, by decide +kernel⟩
def g_replaced : Env → Option Res :=
  (gret (e2 addD (e2 addD (esl (ev 0) onone (osome (ev 1))) (etup (acons (ev 2) anil))) (esl (ev 0) (osome (e2 addD (ev 1) (ec (.int 1)))) onone)))
def F_replaced : List PyData → Option PyData := fnD 3 g_replaced
theorem ok_replaced {f : Addr} {fd : FuncData} (F : Fun K "replaced" "replaced" s_replaced f fd) (T : Txt K mg C) : FnOk P w K mg base CX0 1 f fd ["parts", "index", "part"] (SpF K C 3 F_replaced) :=
  fn_ok (N := n_replaced) (g := g_replaced) F sc_replaced fun cdv A outer s H E hr => by
    unfold g_replaced
    exact (dss_one (ds_ret (dx_op op_addA od_add (dx_op op_addA od_add (dx_sl (dx_var 0) do_none (do_some (dx_var 1))) (dx_tup (da_cons (dx_var 2) da_nil))) (dx_sl (dx_var 0) (do_some (dx_op op_addA od_add (dx_var 1) dx_int)) do_none))))

abbrev s_start_system : Stmt := top 22
abbrev n_start_system : List Str := ["program", "config", "memory", "many", "caches", "entry", "line"]
theorem sc_start_system : FnScope n_start_system ["program", "config"] (defScope s_start_system) := ⟨rfl, rfl, rfl, by decide +kernel, rfl, by decide +kernel, by decide +kernel⟩
def g_start_system : Env → Option Res :=
  (gseq (gset 2 (e2 ixD (ev 0) (ec (.int 2))))
  (gseq (gset 3 (e2 divD (e2 subD (e2 addD (e1 lenD (ev 2)) (e1 (attrD "line_words") (ev 1))) (ec (.int 1))) (e1 (attrD "line_words") (ev 1))))
  (gseq (gset 4 (e1 tupD (elc 5 (itup (e2 ixD (ev 0) (ec (.int 1)))) tyes (ec dEmptyCache))))
  (gret (etup (acons (ev 4) (acons (e1 tupD (elc 6 (irng (ev 3)) tyes (ec dStartHome))) (acons (ev 2) (acons (etup anil) anil)))))))))
def F_start_system : List PyData → Option PyData := fnD 7 g_start_system
theorem ok_start_system {f : Addr} {fd : FuncData} (F : Fun K "start_system" "start_system" s_start_system f fd) (T : Txt K mg C) : FnOk P w K mg base CX0 1 f fd ["program", "config"] (SpF K C 2 F_start_system) :=
  fn_ok (N := n_start_system) (g := g_start_system) F sc_start_system fun cdv A outer s H E hr => by
    unfold g_start_system
    exact (dss_cons (ds_set (i := 2) sc_start_system.nd rfl (Or.inl rfl) (dx_ix (dx_var 0) dx_int (fun _ _ => rfl)))
    (dss_cons (ds_set (i := 3) sc_start_system.nd rfl (Or.inl rfl) (dx_op op_fdiv od_div (dx_op op_sub od_sub (dx_op op_addA od_add (dx_callB call_len_seq cd_len (by rfl) T.m_len PySem.boot_len (dx_var 2)) (dx_attr T.cl T.a_line_words (dx_var 1) rfl)) dx_int) (dx_attr T.cl T.a_line_words (dx_var 1) rfl)))
    (dss_cons (ds_set (i := 4) sc_start_system.nd rfl (Or.inl rfl) (dx_callTy call_tuple_of cd_tup (by rfl) T.m_tuple (by decide +kernel) (dx_lc rfl sc_start_system.nd (di_tup (dx_ix (dx_var 0) dx_int (fun _ _ => rfl))) (blkOk_by (own := [(("entry" : Str), 5)]) (N := n_start_system) (sc := defScope s_start_system) (by decide +kernel)) (fun _ _ _ _ _ => pg_name (i := 5) sc_start_system.nd rfl (Or.inl rfl)) (fun _ _ _ _ _ => dts_nil) (fun _ _ _ _ _ => (dx_glob (by rfl) T.EMPTY_CACHE)))))
    (dss_one (ds_ret (dx_tup (da_cons (dx_var 4) (da_cons (dx_callTy call_tuple_of cd_tup (by rfl) T.m_tuple (by decide +kernel) (dx_lc rfl sc_start_system.nd (di_rng (by rfl) T.m_range (dx_var 3)) (blkOk_by (own := [(("line" : Str), 6)]) (N := n_start_system) (sc := defScope s_start_system) (by decide +kernel)) (fun _ _ _ _ _ => pg_name (i := 6) sc_start_system.nd rfl (Or.inl rfl)) (fun _ _ _ _ _ => dts_nil) (fun _ _ _ _ _ => (dx_glob (by rfl) T.START_HOME)))) (da_cons (dx_var 2) (da_cons (dx_tup da_nil) da_nil))))))))))

end
end DL

/-! W2: deliverable, by hand (a list of its own that grows). -/
namespace DL
open PySem PySem.Spec PyProof.Rows L2
section
variable {P : Program} {w : World} {K : PySem.W.Frag} {mg : Str → Option Value} {base : Heap} {C : Addr}
/-- slots: system, homes, network, found, index, message -/
def t_del : Env → Option Bool := tor (tb (e2 inD (e2 ixD (ev 5) (ec (.int 0))) (ec dToCaches))) (ttru (ecl 2 F_can_receive (acons (e2 ixD (ev 1) (e2 ixD (ev 5) (ec (.int 2)))) (acons (ev 5) anil))))
def delGo (s h n : PyData) : Nat → List PyData → Option (List PyData)
  | _, [] => some []
  | i, m :: ms => match t_del [some s, some h, some n, none, some (.int (i : Nat)), some m] with
    | some true => (match delGo s h n (i + 1) ms with | some r => some (.int (i : Nat) :: r) | none => none)
    | some false => delGo s h n (i + 1) ms
    | none => none
def F_deliverable : List PyData → Option PyData
  | [s] => match ixD s (.int 1) with
    | some h => (match ixD s (.int 3) with
      | some (.tuple ms) => if ms.length ≤ 1000 then (match delGo s h (.tuple ms) 0 ms with | some r => some (.tuple r) | none => none) else none
      | _ => none)
    | none => none
  | _ => none
theorem F_deliverable_inv {sd d : PyData} (h : F_deliverable [sd] = some d) : ∃ hd ms out, ixD sd (.int 1) = some hd ∧ ixD sd (.int 3) = some (.tuple ms) ∧ ms.length ≤ 1000 ∧ delGo sd hd (.tuple ms) 0 ms = some out ∧ d = .tuple out := by
  unfold F_deliverable at h
  dsimp only at h
  cases e1 : ixD sd (.int 1) with
  | none => rw [e1] at h; cases h
  | some hd =>
    rw [e1] at h
    dsimp only at h
    cases e3 : ixD sd (.int 3) with
    | none => rw [e3] at h; cases h
    | some nd =>
      rw [e3] at h
      cases nd with
      | tuple ms =>
        dsimp only at h
        split at h
        · rename_i hlen
          cases eg : delGo sd hd (.tuple ms) 0 ms with
          | none => rw [eg] at h; cases h
          | some out =>
            rw [eg] at h
            cases h
            exact ⟨hd, ms, out, rfl, rfl, hlen, eg, rfl⟩
        · cases h
      | _ => cases h
abbrev s_deliverable : Stmt := top 23
abbrev n_deliverable : List Str := ["system", "homes", "network", "found", "index", "message"]
theorem sc_deliverable : FnScope n_deliverable ["system"] (defScope s_deliverable) := ⟨rfl, rfl, rfl, by decide +kernel, rfl, by decide +kernel, by decide +kernel⟩
theorem ok_deliverable {f : Addr} {fd : FuncData} (F : Fun K "deliverable" "deliverable" s_deliverable f fd) (T : Txt K mg C) (c_can_receive : CalD P w K mg base C 1 "can_receive" 2 F_can_receive) : FnOk P w K mg base CX0 2 f fd ["system"] (SpF K C 1 F_deliverable) := by
  refine F.ok sc_deliverable (fun vs H Q E h => ?_) (fun cdv A outer s H vs Q E hr h => ?_)
  · obtain ⟨ds, d, hl, r, _⟩ := h
    rw [r.length, hl]
    rfl
  · obtain ⟨ds, d, hl, r, hf, q⟩ := h
    match ds, vs, hl, r with
    | [sd], [sv], _, .cons rs .nil =>
    refine ⟨_, pss_cons (ps_par (i := 1) (j := 2) rfl sc_deliverable.nd rfl rfl (by decide) rfl rfl (da_cons (C := C) (dx_ix (dx_var 0) dx_int (fun _ _ => rfl)) (da_cons (dx_ix (dx_var 0) dx_int (fun _ _ => rfl)) da_nil)) (by rfl))
      (pss_cons (ps_set (i := 3) sc_deliverable.nd rfl (Or.inl rfl) (pe_lst pa_nil))
      (pss_cons (ps_for PassesOwn.never rfl (pi_enumT (by rfl) T.m_enumerate (pa_cons (pv 2) pa_nil)) (pg_tup rfl (pgs_cons (pg_name (i := 4) sc_deliverable.nd rfl (Or.inl rfl)) (pgs_cons (pg_name (i := 5) sc_deliverable.nd rfl (Or.inl rfl)) pgs_nil)))
        (pss_one (ps_if (PW.pt (dt_or (C := C) (dt_cmp op_in_seq od_in (dx_ix (dx_var 5) dx_int (fun _ _ => rfl)) (dx_glob (by rfl) T.TO_CACHES) (by rfl)) (dt_or1 (dt_tru (dx_calC c_can_receive hr (by decide) (by rfl) (da_cons (dx_ix (dx_var 1) (dx_ix (dx_var 5) dx_int (fun _ _ => rfl)) (fun _ _ => rfl)) (da_cons (dx_var 5) da_nil)))))))
          (pss_one (ps_expr (pe_bm PySem.F.plainAttrs_list PySem.F.slot_list_append PySem.F.type_list_append mt_append (pv 3) (pa_cons (pv 4) pa_nil)))) pss_nil)))
      (pss_one (ps_ret (pe_callTy call_tuple_of (by rfl) T.m_tuple (by decide +kernel) (pa_cons (pv 3) pa_nil)))))), ?_⟩
    obtain ⟨hd, ms, out, e1, e3, hlen, eg, rfl⟩ := F_deliverable_inv hf
    have hs0 : Rs K C H (L2.start n_deliverable [sv]) [some sd, none, none, none, none, none] := Rs.start (vs := [sv]) (ds := [sd]) 5 (.cons rs .nil)
    refine ⟨_, [hd, .tuple ms], hs0, ?_, fun vs H1 s1 r1 => ?_⟩
    · have a1 : e2 ixD (ev 0) (ec (.int 1)) [some sd, none, none, none, none, none] = some hd := e1
      have a3 : e2 ixD (ev 0) (ec (.int 3)) [some sd, none, none, none, none, none] = some (.tuple ms) := e3
      unfold acons
      rw [a1]
      dsimp only
      rw [a3]
      rfl
    · match vs, r1 with
      | [hv, nv], .cons rh (.cons rn .nil) =>
      obtain ⟨a, xs, rfl, ha, ra⟩ := rn.tupI
      refine ⟨hv, .ref a, rfl, Nat.zero_le _, fun l hl => ?_⟩
      have sl : Same H1 (upd H1 l (.lst [])) := same_new hl
      have rs1 := rs.mn s1
      refine ⟨.ref a, rfl, a, xs, rfl, same_t sl ha, ?_⟩
      refine for_it (walk_enumT (K := K) (a := a) (xs := xs)) (fun j σ' H' => Same H1 H' ∧ ∃ o4 o5 acc outs rest, σ' = [some sv, some hv, some (.ref a), some (.ref l), o4, o5] ∧ H' l = some (.lst acc) ∧ RpAll K C H' acc outs ∧ noLs outs = true ∧ delGo sd hd (.tuple ms) j (ms.drop j) = some rest ∧ out = outs ++ rest ∧ acc.length ≤ j)
        ⟨sl, none, none, [], [], out, rfl, upd_same, .nil, rfl, by simpa using eg, rfl, Nat.le_refl _⟩ (fun j σ' H' _ p => same_t p.1 ha) ?_ ?_
      · rintro j x σ' H3 H4 hj ⟨s3, o4, o5, acc, outs, rest, rfl, hacc, hro, hno, hgo, hout, hle⟩ ⟨Tn, x1, x2, rfl, hTn, rfl, hx1, hx2⟩
        cases hx1
        obtain ⟨md, hmd, rmd⟩ := ra.getV hx2
        have hjm : j < ms.length := by rw [← ra.length]; exact hj
        have ejd : ms.drop j = md :: ms.drop (j + 1) := by
          obtain ⟨h1, h2⟩ := List.getElem?_eq_some_iff.mp hmd
          rw [List.drop_eq_getElem_cons h1, h2]
        rw [ejd] at hgo
        have sT : Same H3 (upd H3 Tn (.tup [.int (j : Nat), x2])) := same_new hTn
        have s14 : Same H1 (upd H3 Tn (.tup [.int (j : Nat), x2])) := s3.trans sT
        refine ⟨Tn, [.int (j : Nat), x2], rfl, SqT.of upd_same, rfl, .int (j : Nat), [x2], rfl, x2, [], rfl, rfl, ?_⟩
        have hs4 : Rs K C (upd H3 Tn (.tup [.int (j : Nat), x2])) [some sv, some hv, some (.ref a), some (.ref l), some (.int (j : Nat)), some x2] [some sd, some hd, some (.tuple ms), none, some (.int (j : Nat)), some md] :=
          .cons (fun d q => by cases q; exact ⟨_, rfl, rs1.mn s14⟩) (.cons (fun d q => by cases q; exact ⟨_, rfl, rh.mn s14⟩) (.cons (fun d q => by cases q; exact ⟨_, rfl, rn.mn s14⟩) (.cons (fun d q => by cases q) (.cons (fun d q => by cases q; exact ⟨_, rfl, .sc (.int _)⟩) (.cons (fun d q => by cases q; exact ⟨_, rfl, rmd.mn s14⟩) .nil)))))
        unfold delGo at hgo
        cases et : t_del [some sd, some hd, some (.tuple ms), none, some (.int (j : Nat)), some md] with
        | none => rw [et] at hgo; cases hgo
        | some b =>
          rw [et] at hgo
          refine ⟨_, b, hs4, et, fun H5 s5 => ?_⟩
          have s35 := sT.trans s5
          have hacc5 := s35 l _ hacc
          cases b with
          | true =>
            dsimp only at hgo
            cases er : delGo sd hd (.tuple ms) (j + 1) (ms.drop (j + 1)) with
            | none => rw [er] at hgo; cases hgo
            | some r =>
              rw [er] at hgo
              cases hgo
              refine iteT ⟨.ref l, rfl, .inl ⟨rfl, _, SqL.of hacc5⟩, .int (j : Nat), rfl, l, acc, .int (j : Nat), rfl, rfl, hacc5, Nat.lt_of_le_of_lt (Nat.le_trans hle (Nat.le_trans (Nat.le_of_lt hjm) hlen)) (by decide), ?_⟩
              exact ⟨same_mut (s3.trans s35) hl, _, _, acc ++ [.int (j : Nat)], outs ++ [.int (j : Nat)], r, rfl, upd_same,
                ((hro.mn s35).monoL (kept_list hacc5) outs hno).append (.cons (.sc (.int _)) .nil), by rw [noLs_append, hno]; simp [noLs, noL], rfl, by rw [hout]; simp, by rw [List.length_append]; simp; exact hle⟩
          | false =>
            exact iteF ⟨s3.trans s35, _, _, acc, outs, rest, rfl, hacc5, hro.mn s35, hno, hgo, hout, Nat.le_succ_of_le hle⟩
      · rintro σ' H3 ⟨s3, o4, o5, acc, outs, rest, rfl, hacc, hro, hno, hgo, hout, hle⟩
        have e0 : ms.drop xs.length = [] := by rw [ra.length]; exact List.drop_length
        rw [e0] at hgo
        unfold delGo at hgo
        cases hgo
        rw [List.append_nil] at hout
        subst hout
        refine ⟨.ref l, rfl, l, acc, rfl, .inl ⟨SqL.of hacc, fun p hp => ?_⟩⟩
        exact q _ _ ((s1.trans s3).trans (same_new hp)) (.tup (SqT.of upd_same) (hro.mn (same_new hp)))
end
end DL

/-! W3: delivered, next_system, the law's receiver (printed by gen.py). -/
namespace DL
open PySem PySem.Spec PyProof.Rows L2
section
variable {P : Program} {w : World} {K : PySem.W.Frag} {mg : Str → Option Value} {base : Heap} {C : Addr}
abbrev s_delivered : Stmt := top 24
abbrev n_delivered : List Str := ["config", "system", "index", "caches", "homes", "memory", "network", "message", "rest", "core", "line", "cache", "messages", "first", "words", "home"]
theorem sc_delivered : FnScope n_delivered ["config", "system", "index"] (defScope s_delivered) := ⟨rfl, rfl, rfl, by decide +kernel, rfl, by decide +kernel, by decide +kernel⟩
def g_delivered : Env → Option Res :=
  (gseq (gunp [3, 4, 5, 6] (ev 1))
  (gseq (gset 7 (e2 ixD (ev 6) (ev 2)))
  (gseq (gset 8 (e2 addD (esl (ev 6) onone (osome (ev 2))) (esl (ev 6) (osome (e2 addD (ev 2) (ec (.int 1)))) onone)))
  (gseq (gunp [9, 10] (etup (acons (e2 ixD (ev 7) (ec (.int 1))) (acons (e2 ixD (ev 7) (ec (.int 2))) anil))))
  (gseq (gif (tb (e2 inD (e2 ixD (ev 7) (ec (.int 0))) (ec dToCaches))) (gseq (gunp [11, 12] (ecl 2 F_cache_receives (acons (e2 ixD (ev 3) (ev 9)) (acons (ev 7) anil))))
  (gret (etup (acons (ecl 3 F_replaced (acons (ev 3) (acons (ev 9) (acons (ev 11) anil)))) (acons (ev 4) (acons (ev 5) (acons (e2 addD (ev 8) (ev 12)) anil))))))) gnil)
  (gseq (gset 13 (e2 mulD (ev 10) (e1 (attrD "line_words") (ev 0))))
  (gseq (gset 14 (esl (ev 5) (osome (ev 13)) (osome (e2 addD (ev 13) (e1 (attrD "line_words") (ev 0))))))
  (gseq (gunp [15, 14, 12] (ecl 4 F_home_receives (acons (ev 0) (acons (e2 ixD (ev 4) (ev 10)) (acons (ev 14) (acons (ev 7) anil))))))
  (gseq (gset 5 (e2 addD (e2 addD (esl (ev 5) onone (osome (ev 13))) (ev 14)) (esl (ev 5) (osome (e2 addD (ev 13) (e1 (attrD "line_words") (ev 0)))) onone)))
  (gret (etup (acons (ev 3) (acons (ecl 3 F_replaced (acons (ev 4) (acons (ev 10) (acons (ev 15) anil)))) (acons (ev 5) (acons (e2 addD (ev 8) (ev 12)) anil)))))))))))))))
def F_delivered : List PyData → Option PyData := fnD 16 g_delivered
theorem ok_delivered {f : Addr} {fd : FuncData} (F : Fun K "delivered" "delivered" s_delivered f fd) (T : Txt K mg C) (c_cache_receives : CalD P w K mg base C 3 "cache_receives" 2 F_cache_receives) (c_replaced : CalD P w K mg base C 1 "replaced" 3 F_replaced) (c_home_receives : CalD P w K mg base C 2 "home_receives" 4 F_home_receives) : FnOk P w K mg base CX0 4 f fd ["config", "system", "index"] (SpF K C 3 F_delivered) :=
  fn_ok (N := n_delivered) (g := g_delivered) F sc_delivered fun cdv A outer s H E hr => by
    unfold g_delivered
    exact (dss_cons (ds_unp (is := [3, 4, 5, 6]) rfl (dx_var 1) (pgs_cons (pg_name (i := 3) sc_delivered.nd rfl (Or.inl rfl)) (pgs_cons (pg_name (i := 4) sc_delivered.nd rfl (Or.inl rfl)) (pgs_cons (pg_name (i := 5) sc_delivered.nd rfl (Or.inl rfl)) (pgs_cons (pg_name (i := 6) sc_delivered.nd rfl (Or.inl rfl)) pgs_nil)))))
    (dss_cons (ds_set (i := 7) sc_delivered.nd rfl (Or.inl rfl) (dx_ix (dx_var 6) (dx_var 2) (fun _ _ => rfl)))
    (dss_cons (ds_set (i := 8) sc_delivered.nd rfl (Or.inl rfl) (dx_op op_addA od_add (dx_sl (dx_var 6) do_none (do_some (dx_var 2))) (dx_sl (dx_var 6) (do_some (dx_op op_addA od_add (dx_var 2) dx_int)) do_none)))
    (dss_cons (ds_par2 (i := 9) (j := 10) rfl sc_delivered.nd rfl rfl (by decide) rfl rfl (da_cons (dx_ix (dx_var 7) dx_int (fun _ _ => rfl)) (da_cons (dx_ix (dx_var 7) dx_int (fun _ _ => rfl)) da_nil)))
    (dss_cons (ds_if (dt_cmp op_in_seq od_in (dx_ix (dx_var 7) dx_int (fun _ _ => rfl)) (dx_glob (by rfl) T.TO_CACHES) (by rfl)) (dss_cons (ds_unp (is := [11, 12]) rfl (dx_calC c_cache_receives hr (by decide) (by rfl) (da_cons (dx_ix (dx_var 3) (dx_var 9) (fun _ _ => rfl)) (da_cons (dx_var 7) da_nil))) (pgs_cons (pg_name (i := 11) sc_delivered.nd rfl (Or.inl rfl)) (pgs_cons (pg_name (i := 12) sc_delivered.nd rfl (Or.inl rfl)) pgs_nil)))
    (dss_one (ds_ret (dx_tup (da_cons (dx_calC c_replaced hr (by decide) (by rfl) (da_cons (dx_var 3) (da_cons (dx_var 9) (da_cons (dx_var 11) da_nil)))) (da_cons (dx_var 4) (da_cons (dx_var 5) (da_cons (dx_op op_addA od_add (dx_var 8) (dx_var 12)) da_nil)))))))) dss_nil)
    (dss_cons (ds_set (i := 13) sc_delivered.nd rfl (Or.inl rfl) (dx_op op_mulA od_mul (dx_var 10) (dx_attr T.cl T.a_line_words (dx_var 0) rfl)))
    (dss_cons (ds_set (i := 14) sc_delivered.nd rfl (Or.inl rfl) (dx_sl (dx_var 5) (do_some (dx_var 13)) (do_some (dx_op op_addA od_add (dx_var 13) (dx_attr T.cl T.a_line_words (dx_var 0) rfl)))))
    (dss_cons (ds_unp (is := [15, 14, 12]) rfl (dx_calC c_home_receives hr (by decide) (by rfl) (da_cons (dx_var 0) (da_cons (dx_ix (dx_var 4) (dx_var 10) (fun _ _ => rfl)) (da_cons (dx_var 14) (da_cons (dx_var 7) da_nil))))) (pgs_cons (pg_name (i := 15) sc_delivered.nd rfl (Or.inl rfl)) (pgs_cons (pg_name (i := 14) sc_delivered.nd rfl (Or.inl rfl)) (pgs_cons (pg_name (i := 12) sc_delivered.nd rfl (Or.inl rfl)) pgs_nil))))
    (dss_cons (ds_set (i := 5) sc_delivered.nd rfl (Or.inl rfl) (dx_op op_addA od_add (dx_op op_addA od_add (dx_sl (dx_var 5) do_none (do_some (dx_var 13))) (dx_var 14)) (dx_sl (dx_var 5) (do_some (dx_op op_addA od_add (dx_var 13) (dx_attr T.cl T.a_line_words (dx_var 0) rfl))) do_none)))
    (dss_one (ds_ret (dx_tup (da_cons (dx_var 3) (da_cons (dx_calC c_replaced hr (by decide) (by rfl) (da_cons (dx_var 4) (da_cons (dx_var 10) (da_cons (dx_var 15) da_nil)))) (da_cons (dx_var 5) (da_cons (dx_op op_addA od_add (dx_var 8) (dx_var 12)) da_nil))))))))))))))))

abbrev s_next_system : Stmt := top 25
abbrev n_next_system : List Str := ["config", "system", "action", "caches", "homes", "memory", "network", "core", "line", "changed"]
theorem sc_next_system : FnScope n_next_system ["config", "system", "action"] (defScope s_next_system) := ⟨rfl, rfl, rfl, by decide +kernel, rfl, by decide +kernel, by decide +kernel⟩
def g_next_system : Env → Option Res :=
  (gseq (gunp [3, 4, 5, 6] (ev 1))
  (gseq (gif (tb (e2 eqD (e2 ixD (ev 2) (ec (.int 0))) (ec (.str (tg .deliver))))) (gseq (gif (tb (e2 ninD (e2 ixD (ev 2) (ec (.int 1))) (ecl 1 F_deliverable (acons (ev 1) anil)))) (gret (ec .none)) gnil)
  (gret (ecl 3 F_delivered (acons (ev 0) (acons (ev 1) (acons (e2 ixD (ev 2) (ec (.int 1))) anil)))))) gnil)
  (gseq (gunp [7, 8] (etup (acons (e2 ixD (ev 2) (ec (.int 1))) (acons (e2 ixD (ev 2) (ec (.int 2))) anil))))
  (gseq (gif (tnot (tand (echain leD ltD (ec (.int 0)) (ev 7) (e1 lenD (ev 3))) (echain leD ltD (ec (.int 0)) (ev 8) (e1 lenD (ev 4))))) (gret (ec .none)) gnil)
  (gseq (gif (tb (e2 eqD (e2 ixD (ev 2) (ec (.int 0))) (ec (.str (tg .request))))) (gset 9 (ecl 5 F_request_line (acons (ev 0) (acons (e2 ixD (ev 3) (ev 7)) (acons (ev 7) (acons (ev 8) (acons (e2 ixD (ev 2) (ec (.int 3))) anil))))))) (gset 9 (ecl 3 F_give_up_line (acons (e2 ixD (ev 3) (ev 7)) (acons (ev 7) (acons (ev 8) anil))))))
  (gseq (gif (tb (e2 isnD (ev 9) (ec .none))) (gret (ec .none)) gnil)
  (gret (etup (acons (ecl 3 F_replaced (acons (ev 3) (acons (ev 7) (acons (e2 ixD (ev 9) (ec (.int 0))) anil)))) (acons (ev 4) (acons (ev 5) (acons (e2 addD (ev 6) (e2 ixD (ev 9) (ec (.int 1)))) anil))))))))))))
def F_next_system : List PyData → Option PyData := fnD 10 g_next_system
theorem ok_next_system {f : Addr} {fd : FuncData} (F : Fun K "next_system" "next_system" s_next_system f fd) (T : Txt K mg C) (c_deliverable : CalD P w K mg base C 2 "deliverable" 1 F_deliverable) (c_delivered : CalD P w K mg base C 4 "delivered" 3 F_delivered) (c_request_line : CalD P w K mg base C 2 "request_line" 5 F_request_line) (c_give_up_line : CalD P w K mg base C 2 "give_up_line" 3 F_give_up_line) (c_replaced : CalD P w K mg base C 1 "replaced" 3 F_replaced) : FnOk P w K mg base CX0 5 f fd ["config", "system", "action"] (SpF K C 3 F_next_system) :=
  fn_ok (N := n_next_system) (g := g_next_system) F sc_next_system fun cdv A outer s H E hr => by
    unfold g_next_system
    exact (dss_cons (ds_unp (is := [3, 4, 5, 6]) rfl (dx_var 1) (pgs_cons (pg_name (i := 3) sc_next_system.nd rfl (Or.inl rfl)) (pgs_cons (pg_name (i := 4) sc_next_system.nd rfl (Or.inl rfl)) (pgs_cons (pg_name (i := 5) sc_next_system.nd rfl (Or.inl rfl)) (pgs_cons (pg_name (i := 6) sc_next_system.nd rfl (Or.inl rfl)) pgs_nil)))))
    (dss_cons (ds_if (dt_cmp op_eq od_eq (dx_ix (dx_var 2) dx_int (fun _ _ => rfl)) dx_str (nomark _)) (dss_cons (ds_if (dt_cmp op_notIn_seq od_nin (dx_ix (dx_var 2) dx_int (fun _ _ => rfl)) (dx_calC c_deliverable hr (by decide) (by rfl) (da_cons (dx_var 1) da_nil)) (by rfl)) (dss_one (ds_ret dx_non)) dss_nil)
    (dss_one (ds_ret (dx_calC c_delivered hr (by decide) (by rfl) (da_cons (dx_var 0) (da_cons (dx_var 1) (da_cons (dx_ix (dx_var 2) dx_int (fun _ _ => rfl)) da_nil))))))) dss_nil)
    (dss_cons (ds_par2 (i := 7) (j := 8) rfl sc_next_system.nd rfl rfl (by decide) rfl rfl (da_cons (dx_ix (dx_var 2) dx_int (fun _ _ => rfl)) (da_cons (dx_ix (dx_var 2) dx_int (fun _ _ => rfl)) da_nil)))
    (dss_cons (ds_if (dt_not (PW.pt (dt_and (dt_chain op_le op_lt od_le od_lt dx_int (dx_var 7) (dx_callB call_len_seq cd_len (by rfl) T.m_len PySem.boot_len (dx_var 3))) (dt_and1 (dt_chain op_le op_lt od_le od_lt dx_int (dx_var 8) (dx_callB call_len_seq cd_len (by rfl) T.m_len PySem.boot_len (dx_var 4))))))) (dss_one (ds_ret dx_non)) dss_nil)
    (dss_cons (ds_if (dt_cmp op_eq od_eq (dx_ix (dx_var 2) dx_int (fun _ _ => rfl)) dx_str (nomark _)) (dss_one (ds_set (i := 9) sc_next_system.nd rfl (Or.inl rfl) (dx_calC c_request_line hr (by decide) (by rfl) (da_cons (dx_var 0) (da_cons (dx_ix (dx_var 3) (dx_var 7) (fun _ _ => rfl)) (da_cons (dx_var 7) (da_cons (dx_var 8) (da_cons (dx_ix (dx_var 2) dx_int (fun _ _ => rfl)) da_nil)))))))) (dss_one (ds_set (i := 9) sc_next_system.nd rfl (Or.inl rfl) (dx_calC c_give_up_line hr (by decide) (by rfl) (da_cons (dx_ix (dx_var 3) (dx_var 7) (fun _ _ => rfl)) (da_cons (dx_var 7) (da_cons (dx_var 8) da_nil)))))))
    (dss_cons (ds_if (dt_cmp op_isN od_isN (dx_var 9) dx_non (nomark _)) (dss_one (ds_ret dx_non)) dss_nil)
    (dss_one (ds_ret (dx_tup (da_cons (dx_calC c_replaced hr (by decide) (by rfl) (da_cons (dx_var 3) (da_cons (dx_var 7) (da_cons (dx_ix (dx_var 9) dx_int (fun _ _ => rfl)) da_nil)))) (da_cons (dx_var 4) (da_cons (dx_var 5) (da_cons (dx_op op_addA od_add (dx_var 6) (dx_ix (dx_var 9) dx_int (fun _ _ => rfl))) da_nil)))))))))))))

abbrev s__law_receiver : Stmt := top 35
abbrev n__law_receiver : List Str := ["_law_message"]
theorem sc__law_receiver : FnScope n__law_receiver ["_law_message"] (defScope s__law_receiver) := ⟨rfl, rfl, rfl, by decide +kernel, rfl, by decide +kernel, by decide +kernel⟩
def g__law_receiver : Env → Option Res :=
  (gseq (gif (tb (e2 inD (e2 ixD (ev 0) (ec (.int 0))) (elst (acons (ec (.str (tg .invalidate))) (acons (ec (.str (tg .recall))) (acons (ec (.str (tg .grant))) (acons (ec (.str (tg .confirm))) anil))))))) (gret (etup (acons (ec (.str (tg .cache))) (acons (e2 ixD (ev 0) (ec (.int 1))) anil)))) gnil)
  (gret (etup (acons (ec (.str (tg .home))) (acons (e2 ixD (ev 0) (ec (.int 2))) anil)))))
def F__law_receiver : List PyData → Option PyData := fnD 1 g__law_receiver
theorem ok__law_receiver {f : Addr} {fd : FuncData} (F : Fun K "_law_receiver" "_law_receiver" s__law_receiver f fd) (T : Txt K mg C) : FnOk P w K mg base CX0 1 f fd ["_law_message"] (SpF K C 1 F__law_receiver) :=
  fn_ok (N := n__law_receiver) (g := g__law_receiver) F sc__law_receiver fun cdv A outer s H E hr => by
    unfold g__law_receiver
    exact (dss_cons (ds_if (dt_cmp op_in_seq od_in (dx_ix (dx_var 0) dx_int (fun _ _ => rfl)) (dx_lst (da_cons dx_str (da_cons dx_str (da_cons dx_str (da_cons dx_str da_nil))))) (by rfl)) (dss_one (ds_ret (dx_tup (da_cons dx_str (da_cons (dx_ix (dx_var 0) dx_int (fun _ _ => rfl)) da_nil))))) dss_nil)
    (dss_one (ds_ret (dx_tup (da_cons dx_str (da_cons (dx_ix (dx_var 0) dx_int (fun _ _ => rfl)) da_nil))))))

end
end DL

/-! M0: evaluation of the data functions by simp. -/
namespace DL
open PySem PySem.Spec PyProof.Rows L2
section
variable {f g h fa fb : Env → Option PyData} {t u : Env → Option Bool} {fs : Env → Option (List PyData)} {F : PyData → PyData → Option PyData} {G : PyData → Option PyData} {L : List PyData → Option PyData} {s1 s2 : Env → Option Res} {Δ : Env} {i : Nat} {d : PyData} {o : Option PyData}
@[simp] theorem ev_0 : ev 0 (some d :: Δ) = some d := rfl
@[simp] theorem ev_s : ev (i + 1) (o :: Δ) = ev i Δ := by unfold ev; rw [List.getElem?_cons_succ]
@[simp] theorem ev_1 : ev 1 (o :: Δ) = ev 0 Δ := rfl
@[simp] theorem ev_2 : ev 2 (o :: Δ) = ev 1 Δ := rfl
@[simp] theorem ev_3 : ev 3 (o :: Δ) = ev 2 Δ := rfl
@[simp] theorem ev_4 : ev 4 (o :: Δ) = ev 3 Δ := rfl
@[simp] theorem ev_5 : ev 5 (o :: Δ) = ev 4 Δ := rfl
@[simp] theorem ev_6 : ev 6 (o :: Δ) = ev 5 Δ := rfl
@[simp] theorem ev_7 : ev 7 (o :: Δ) = ev 6 Δ := rfl
@[simp] theorem ev_8 : ev 8 (o :: Δ) = ev 7 Δ := rfl
@[simp] theorem ev_9 : ev 9 (o :: Δ) = ev 8 Δ := rfl
@[simp] theorem ev_10 : ev 10 (o :: Δ) = ev 9 Δ := rfl
@[simp] theorem ev_11 : ev 11 (o :: Δ) = ev 10 Δ := rfl
@[simp] theorem ec_e : ec d Δ = some d := rfl
@[simp] theorem e1_e : e1 G fa Δ = match fa Δ with | some x => G x | none => none := rfl
@[simp] theorem e2_e : e2 F fa fb Δ = match fa Δ with | some x => (match fb Δ with | some y => F x y | none => none) | none => none := rfl
@[simp] theorem anil_e : anil Δ = some [] := rfl
@[simp] theorem acons_e : acons fa fs Δ = match fa Δ with | some x => (match fs Δ with | some r => some (x :: r) | none => none) | none => none := rfl
@[simp] theorem etup_e : etup fs Δ = match fs Δ with | some ds => if ds.length ≤ 1000 then some (.tuple ds) else none | none => none := rfl
@[simp] theorem elst_e : elst fs Δ = match fs Δ with | some ds => if ds.length ≤ 1000 then some (.list ds) else none | none => none := rfl
@[simp] theorem eif_e : eif t fa fb Δ = match t Δ with | some true => fa Δ | some false => fb Δ | none => none := rfl
@[simp] theorem ecl_e {n : Nat} : ecl n L fs Δ = match fs Δ with | some ds => if ds.length = n then L ds else none | none => none := rfl
@[simp] theorem tb_e : tb fa Δ = match fa Δ with | some (.bool b) => some b | _ => none := rfl
@[simp] theorem ttru_e : ttru fa Δ = match fa Δ with | some d => truD d | none => none := rfl
@[simp] theorem tand_e : tand t u Δ = match t Δ with | some true => u Δ | some false => some false | none => none := rfl
@[simp] theorem tor_e : tor t u Δ = match t Δ with | some false => u Δ | some true => some true | none => none := rfl
@[simp] theorem tnot_e : tnot t Δ = match t Δ with | some b => some (!b) | none => none := rfl
@[simp] theorem tyes_e : tyes Δ = some true := rfl
@[simp] theorem eor_e : eor fa fb Δ = match fa Δ with | some (.bool true) => some (.bool true) | some (.bool false) => fb Δ | _ => none := rfl
@[simp] theorem gnil_e : gnil Δ = some (.nx Δ) := rfl
@[simp] theorem gset_e : gset i fa Δ = match fa Δ with | some d => some (.nx (Δ.set i (some d))) | none => none := rfl
@[simp] theorem gunp_e {is : List Nat} : gunp is fa Δ = match fa Δ with | some (.tuple ds) => if ds.length = is.length then some (.nx (setAll Δ is ds)) else none | _ => none := rfl
@[simp] theorem gret_e : gret fa Δ = match fa Δ with | some d => some (.rt d) | none => none := rfl
@[simp] theorem gif_e : gif t s1 s2 Δ = match t Δ with | some true => s1 Δ | some false => s2 Δ | none => none := rfl
@[simp] theorem gseq_e : gseq s1 s2 Δ = match s1 Δ with | some (.nx Δ') => s2 Δ' | some (.rt d) => some (.rt d) | none => none := rfl
@[simp] theorem gfor_e {fi : Env → Option (List PyData)} : gfor i fi s1 Δ = match fi Δ with | some ds => gloop i s1 ds Δ | none => none := rfl
@[simp] theorem elc_e {fi : Env → Option (List PyData)} : elc i fi t fa Δ = match fi Δ with | some ds => if ds.length ≤ 1000 then (match lcGo i t fa Δ ds with | some r => some (.list r) | none => none) else none | none => none := rfl
@[simp] theorem itup_e : itup fa Δ = match fa Δ with | some (.tuple ds) => some ds | _ => none := rfl
@[simp] theorem onone_e : onone Δ = some none := rfl
@[simp] theorem osome_e : osome fa Δ = match fa Δ with | some (.int i) => some (some i) | _ => none := rfl
@[simp] theorem esl_e {l h : Env → Option (Option Int)} : esl fa l h Δ = match fa Δ with
  | some (.tuple ds) => (match l Δ with | some lo => (match h Δ with | some hi => some (.tuple (cutD ds lo hi)) | none => none) | none => none)
  | _ => none := rfl
@[simp] theorem setAll_nil {ds : List PyData} : setAll Δ [] ds = Δ := by cases ds <;> rfl
@[simp] theorem setAll_cons {is : List Nat} {ds : List PyData} : setAll Δ (i :: is) (d :: ds) = setAll (Δ.set i (some d)) is ds := rfl
@[simp] theorem tru_b {b : Bool} : truD (.bool b) = some b := rfl
@[simp] theorem tru_t {ds : List PyData} : truD (.tuple ds) = some (!ds.isEmpty) := rfl
@[simp] theorem tru_n : truD .none = some false := rfl
@[simp] theorem notD_b {b : Bool} : notD (.bool b) = some (.bool (!b)) := rfl
@[simp] theorem isn_n {x : PyData} : isnD x .none = some (.bool (isNone x)) := rfl
@[simp] theorem notn_n {x : PyData} : notnD x .none = some (.bool (!isNone x)) := rfl
@[simp] theorem isNone_n : isNone .none = true := rfl
@[simp] theorem isNone_t {ds : List PyData} : isNone (.tuple ds) = false := rfl
@[simp] theorem isNone_i {j : Int} : isNone (.int j) = false := rfl
@[simp] theorem tupD_l {ds : List PyData} : tupD (.list ds) = some (.tuple ds) := rfl
@[simp] theorem lenD_t {ds : List PyData} : lenD (.tuple ds) = some (.int ds.length) := rfl
@[simp] theorem lenD_l {ds : List PyData} : lenD (.list ds) = some (.int ds.length) := rfl
@[simp] theorem intD_b {b : Bool} : intD (.bool b) = some (.int (if b then 1 else 0)) := rfl
@[simp] theorem add_i {i j : Int} : addD (.int i) (.int j) = some (.int (i + j)) := rfl
@[simp] theorem add_t {a b : List PyData} : addD (.tuple a) (.tuple b) = if a.length + b.length ≤ 1000 then some (.tuple (a ++ b)) else none := rfl
@[simp] theorem sub_i {i j : Int} : subD (.int i) (.int j) = some (.int (i - j)) := rfl
@[simp] theorem mul_i {i j : Int} : mulD (.int i) (.int j) = if (-(2 ^ 64) < i ∧ i < 2 ^ 64) ∨ (-(2 ^ 64) < j ∧ j < 2 ^ 64) then some (.int (i * j)) else none := rfl
@[simp] theorem div_i {i j : Int} : divD (.int i) (.int j) = if 0 < j ∧ j < 1073741824 then some (.int (i / j)) else none := rfl
@[simp] theorem mod_i {i j : Int} : modD (.int i) (.int j) = if 0 < j then some (.int (i % j)) else none := rfl
@[simp] theorem ge_i {i j : Int} : geD (.int i) (.int j) = some (.bool (decide (j ≤ i))) := rfl
@[simp] theorem lt_i {i j : Int} : ltD (.int i) (.int j) = some (.bool (decide (i < j))) := rfl
@[simp] theorem le_i {i j : Int} : leD (.int i) (.int j) = some (.bool (decide (i ≤ j))) := rfl
@[simp] theorem eq_tg {a b : Tag} : eqD (.str (tg a)) (.str (tg b)) = some (.bool (decide (a = b))) := by
  show (some (decide (tg a = tg b))).map PyData.bool = _
  rw [tg_dec]
  rfl
@[simp] theorem eq_i {i j : Int} : eqD (.int i) (.int j) = some (.bool (decide (i = j))) := rfl
@[simp] theorem ne_i {i j : Int} : neD (.int i) (.int j) = some (.bool (!decide (i = j))) := rfl
@[simp] theorem eq_ni {j : Int} : eqD .none (.int j) = some (.bool false) := rfl
end
end DL

/-! M1: the typed model, how it is written as data; evaluation of the data functions. -/
namespace DL
open PySem PySem.Spec PyProof.Rows L2

/-! ### the typed model -/
structure Ln where
  line : Nat
  st : Tag
  ws : List Int
structure Rq where
  line : Nat
  ex : Bool
structure Lv where
  line : Nat
  ws : Option (List Int)
  dirty : Bool
structure Ca where
  lines : List Ln
  req : List Rq
  lea : List Lv
structure Sv where
  core : Nat
  ex : Bool
  aw : List Nat
  rcl : Bool
  ws : Option (List Int)
  gr : Bool
structure Ho where
  owner : Option Nat
  sh : List Nat
  sv : Option Sv
inductive Ms where
  | getS (c l : Nat)
  | getM (c l : Nat)
  | giveUp (c l : Nat) (ws : List Int) (d : Bool)
  | returned (c l : Nat) (ws : List Int) (d : Bool)
  | invalidated (c l : Nat)
  | received (c l : Nat)
  | invalidate (c l : Nat)
  | recall (c l : Nat) (keep : Bool)
  | grant (c l : Nat) (st : Tag) (ws : List Int)
  | confirm (c l : Nat)
structure Sy where
  ca : List Ca
  ho : List Ho
  mem : List Int
  net : List Ms
structure Cf where
  order : Str
  lw : Nat
  sets : Nat
  ways : Nat
  req : Nat
  ex : Bool

def Ms.core : Ms → Nat
  | .getS c _ | .getM c _ | .giveUp c _ _ _ | .returned c _ _ _ | .invalidated c _ | .received c _ | .invalidate c _ | .recall c _ _ | .grant c _ _ _ | .confirm c _ => c
def Ms.line : Ms → Nat
  | .getS _ l | .getM _ l | .giveUp _ l _ _ | .returned _ l _ _ | .invalidated _ l | .received _ l | .invalidate _ l | .recall _ l _ | .grant _ l _ _ | .confirm _ l => l
def Ms.tag : Ms → Tag
  | .getS .. => .getS | .getM .. => .getM | .giveUp .. => .giveUp | .returned .. => .returned | .invalidated .. => .invalidated | .received .. => .received | .invalidate .. => .invalidate | .recall .. => .recall | .grant .. => .grant | .confirm .. => .confirm
def Ms.toCa : Ms → Bool
  | .invalidate .. | .recall .. | .grant .. | .confirm .. => true
  | _ => false
def Ms.waits : Ms → Bool
  | .getS .. | .getM .. | .giveUp .. => true
  | _ => false

/-! ### as data -/
def dN (n : Nat) : PyData := .int (n : Int)
def dW (ws : List Int) : PyData := .tuple (ws.map .int)
def dOW : Option (List Int) → PyData
  | none => .none
  | some ws => dW ws
def dON : Option Nat → PyData
  | none => .none
  | some n => dN n
def dLn (e : Ln) : PyData := .tuple [dN e.line, .str (tg e.st), dW e.ws]
def dRq (e : Rq) : PyData := .tuple [dN e.line, .bool e.ex]
def dLv (e : Lv) : PyData := .tuple [dN e.line, dOW e.ws, .bool e.dirty]
def dCa (c : Ca) : PyData := .tuple [.tuple (c.lines.map dLn), .tuple (c.req.map dRq), .tuple (c.lea.map dLv)]
def dSv (s : Sv) : PyData := .tuple [dN s.core, .bool s.ex, .tuple (s.aw.map dN),   .bool s.rcl, dOW s.ws, .bool s.gr]
def dOSv : Option Sv → PyData
  | none => .none
  | some s => dSv s
def dHo (h : Ho) : PyData := .tuple [dON h.owner, .tuple (h.sh.map dN), dOSv h.sv]
def dMs : Ms → PyData
  | .getS c l => .tuple [.str (tg .getS), dN c, dN l]
  | .getM c l => .tuple [.str (tg .getM), dN c, dN l]
  | .giveUp c l ws d => .tuple [.str (tg .giveUp), dN c, dN l, dW ws, .bool d]
  | .returned c l ws d => .tuple [.str (tg .returned), dN c, dN l, dW ws, .bool d]
  | .invalidated c l => .tuple [.str (tg .invalidated), dN c, dN l]
  | .received c l => .tuple [.str (tg .received), dN c, dN l]
  | .invalidate c l => .tuple [.str (tg .invalidate), dN c, dN l]
  | .recall c l k => .tuple [.str (tg .recall), dN c, dN l, .bool k]
  | .grant c l st ws => .tuple [.str (tg .grant), dN c, dN l, .str (tg st), dW ws]
  | .confirm c l => .tuple [.str (tg .confirm), dN c, dN l]
def dMss (ms : List Ms) : PyData := .tuple (ms.map dMs)
def dSy (s : Sy) : PyData := .tuple [.tuple (s.ca.map dCa), .tuple (s.ho.map dHo), dW s.mem, dMss s.net]
def dCf (c : Cf) : PyData := .dict [(.str "order", .str c.order), (.str "line_words", dN c.lw), (.str "sets", dN c.sets), (.str "ways", dN c.ways), (.str "requests", dN c.req), (.str "exclusive_state", .bool c.ex)]

/-! ### evaluation -/
section
variable {α : Type} {a b c d e f : PyData} {r : List PyData} {Δ : Env}
@[simp] theorem ix_0 : ixD (.tuple (a :: r)) (.int 0) = some a := by show atI (a :: r) ((0 : Nat) : Int) = _; exact atI_nat rfl
@[simp] theorem ix_1 : ixD (.tuple (a :: b :: r)) (.int 1) = some b := by show atI (a :: b :: r) ((1 : Nat) : Int) = _; exact atI_nat rfl
@[simp] theorem ix_2 : ixD (.tuple (a :: b :: c :: r)) (.int 2) = some c := by show atI (a :: b :: c :: r) ((2 : Nat) : Int) = _; exact atI_nat rfl
@[simp] theorem ix_3 : ixD (.tuple (a :: b :: c :: d :: r)) (.int 3) = some d := by show atI (a :: b :: c :: d :: r) ((3 : Nat) : Int) = _; exact atI_nat rfl
@[simp] theorem ix_4 : ixD (.tuple (a :: b :: c :: d :: e :: r)) (.int 4) = some e := by show atI (a :: b :: c :: d :: e :: r) ((4 : Nat) : Int) = _; exact atI_nat rfl
@[simp] theorem ix_5 : ixD (.tuple (a :: b :: c :: d :: e :: f :: r)) (.int 5) = some f := by show atI (a :: b :: c :: d :: e :: f :: r) ((5 : Nat) : Int) = _; exact atI_nat rfl
theorem ix_nat {ds : List PyData} {i : Nat} {x : PyData} (h : ds[i]? = some x) : ixD (.tuple ds) (dN i) = some x := atI_nat h
theorem attr_lw (c : Cf) : attrD "line_words" (dCf c) = some (dN c.lw) := by
  show cget _ _ = _
  unfold cget
  rw [if_neg (by decide +kernel)]
  unfold cget
  rw [if_pos rfl]
theorem attr_sets (c : Cf) : attrD "sets" (dCf c) = some (dN c.sets) := by
  show cget _ _ = _
  unfold cget
  rw [if_neg (by decide +kernel)]
  unfold cget
  rw [if_neg (by decide +kernel)]
  unfold cget
  rw [if_pos rfl]
theorem attr_ways (c : Cf) : attrD "ways" (dCf c) = some (dN c.ways) := by
  show cget _ _ = _
  iterate 3 (unfold cget; rw [if_neg (by decide +kernel)])
  unfold cget
  rw [if_pos rfl]
theorem attr_req (c : Cf) : attrD "requests" (dCf c) = some (dN c.req) := by
  show cget _ _ = _
  iterate 4 (unfold cget; rw [if_neg (by decide +kernel)])
  unfold cget
  rw [if_pos rfl]
theorem attr_ex (c : Cf) : attrD "exclusive_state" (dCf c) = some (.bool c.ex) := by
  show cget _ _ = _
  iterate 5 (unfold cget; rw [if_neg (by decide +kernel)])
  unfold cget
  rw [if_pos rfl]
end

/-! noL of the data -/
theorem noLs_all {α : Type} (f : α → PyData) (h : ∀ x, noL (f x) = true) : ∀ xs : List α, noLs (xs.map f) = true
  | [] => rfl
  | x :: xs => by simp [noLs, h x, noLs_all f h xs]
theorem noL_N (n : Nat) : noL (dN n) = true := rfl
theorem noL_W (ws : List Int) : noL (dW ws) = true := by show noLs _ = true; exact noLs_all _ (fun _ => rfl) ws
theorem noL_OW : ∀ o, noL (dOW o) = true
  | none => rfl
  | some ws => noL_W ws
theorem noL_ON : ∀ o, noL (dON o) = true
  | none => rfl
  | some ws => rfl
theorem noL_Ln (e : Ln) : noL (dLn e) = true := by simp [dLn, noL, noLs, noL_N, noL_W]
theorem noL_Rq (e : Rq) : noL (dRq e) = true := by simp [dRq, noL, noLs, noL_N]
theorem noL_Lv (e : Lv) : noL (dLv e) = true := by simp [dLv, noL, noLs, noL_N, noL_OW]
theorem noL_Ca (e : Ca) : noL (dCa e) = true := by simp [dCa, noL, noLs, noLs_all dLn noL_Ln, noLs_all dRq noL_Rq, noLs_all dLv noL_Lv]
theorem noL_Sv (s : Sv) : noL (dSv s) = true := by simp [dSv, noL, noLs, noL_N, noLs_all dN noL_N, noL_OW]
theorem noL_OSv : ∀ s, noL (dOSv s) = true
  | none => rfl
  | some s => noL_Sv s
theorem noL_Ho (h : Ho) : noL (dHo h) = true := by simp [dHo, noL, noLs, noL_ON, noLs_all dN noL_N, noL_OSv]
theorem noL_Ms (m : Ms) : noL (dMs m) = true := by cases m <;> simp [dMs, noL, noLs, noL_N, noL_W]
theorem noL_Sy (s : Sy) : noL (dSy s) = true := by simp [dSy, dMss, noL, noLs, noLs_all dCa noL_Ca, noLs_all dHo noL_Ho, noL_W, noLs_all dMs noL_Ms]

/-! a comprehension over a mapped list -/
theorem lcGo_map {α : Type} {i : Nat} {t : Env → Option Bool} {e : Env → Option PyData} {Δ : Env} (enc : α → PyData) (p : α → Bool) (g : α → PyData) (ht : ∀ x, t (Δ.set i (some (enc x))) = some (p x)) (he : ∀ x, p x = true → e (Δ.set i (some (enc x))) = some (g x)) (hn : ∀ x, noL (g x) = true) :
    ∀ xs : List α, lcGo i t e Δ (xs.map enc) = some ((xs.filter p).map g)
  | [] => rfl
  | x :: xs => by
    have ih := lcGo_map enc p g ht he hn xs
    rw [List.map_cons]
    unfold lcGo
    rw [ht x]
    cases hp : p x with
    | true =>
      dsimp only
      rw [he x hp]
      dsimp only
      rw [if_pos (hn x), ih, List.filter_cons_of_pos hp]
      rfl
    | false =>
      dsimp only
      rw [ih, List.filter_cons_of_neg (by rw [hp]; exact Bool.false_ne_true)]

/-! ### the helpers -/
section
variable {α : Type} (enc : α → PyData) (ln : α → Nat) (h0 : ∀ e, ixD (enc e) (.int 0) = some (dN (ln e)))
include h0
theorem E_entry_of : ∀ (xs : List α) (l : Nat), F_entry_of [.tuple (xs.map enc), dN l] = some (match xs.find? (fun e => ln e == l) with | some e => enc e | none => .none) := by
  intro xs l
  have go : ∀ (xs : List α) (T : PyData) (o : Option PyData), gloop 2 (gif (tb (e2 eqD (e2 ixD (ev 2) (ec (.int 0))) (ev 1))) (gret (ev 2)) gnil) (xs.map enc) [some T, some (dN l), o] =
      some (match xs.find? (fun e => ln e == l) with | some e => .rt (enc e) | none => .nx [some T, some (dN l), match xs.getLast? with | some e => some (enc e) | none => o]) := by
    intro xs T
    induction xs with
    | nil => intro o; rfl
    | cons x xs ih =>
      intro o
      rw [List.map_cons]
      unfold gloop
      have e1 : gif (tb (e2 eqD (e2 ixD (ev 2) (ec (.int 0))) (ev 1))) (gret (ev 2)) gnil ([some T, some (dN l), o].set 2 (some (enc x))) = if ln x == l then some (.rt (enc x)) else some (.nx [some T, some (dN l), some (enc x)]) := by
        have e2' : e2 ixD (ev 2) (ec (.int 0)) [some T, some (dN l), some (enc x)] = some (dN (ln x)) := h0 x
        have e3 : tb (e2 eqD (e2 ixD (ev 2) (ec (.int 0))) (ev 1)) [some T, some (dN l), some (enc x)] = some (ln x == l) := by
          unfold tb
          have : e2 eqD (e2 ixD (ev 2) (ec (.int 0))) (ev 1) [some T, some (dN l), some (enc x)] = some (.bool (ln x == l)) := by
            unfold e2 at e2' ⊢
            rw [e2']
            show eqD (dN (ln x)) (dN l) = _
            unfold eqD dN
            show (some (decide ((ln x : Int) = (l : Int)))).map PyData.bool = _
            have : decide ((ln x : Int) = (l : Int)) = (ln x == l) := by
              by_cases h : ln x = l
              · simp [h]
              · have : ¬ (ln x : Int) = (l : Int) := by omega
                simp [h, this]
            rw [this]
            rfl
          rw [this]
        show (match tb (e2 eqD (e2 ixD (ev 2) (ec (.int 0))) (ev 1)) [some T, some (dN l), some (enc x)] with | some true => _ | some false => _ | none => _) = _
        rw [e3]
        cases (ln x == l) <;> rfl
      rw [e1]
      by_cases h : (ln x == l) = true
      · rw [if_pos h]
        simp only [List.find?_cons, h]
      · rw [if_neg h]
        have h' : (ln x == l) = false := by simpa using h
        simp only [List.find?_cons, h']
        rw [ih]
        cases xs.find? (fun e => ln e == l) with
        | some _ => rfl
        | none =>
          cases xs with
          | nil => rfl
          | cons y ys => rfl
  have e := go xs (.tuple (xs.map enc)) none
  simp [F_entry_of, fnD, g_entry_of]
  skip
  rw [e]
  cases xs.find? (fun e => ln e == l) <;> rfl
end
end DL

/-! M2: the caches' functions on the typed model. -/
namespace DL
open PySem PySem.Spec PyProof.Rows L2

section
variable {α : Type} (enc : α → PyData) (ln : α → Nat) (h0 : ∀ e, ixD (enc e) (.int 0) = some (dN (ln e))) (hn : ∀ e, noL (enc e) = true)
include h0 hn
theorem E_without_line (xs : List α) (l : Nat) (hl : xs.length ≤ 1000) : F_without_line [.tuple (xs.map enc), dN l] = some (.tuple ((xs.filter fun e => ln e != l).map enc)) := by
  have e := lcGo_map (i := 2) (Δ := [some (.tuple (xs.map enc)), some (dN l), none]) (t := tb (e2 neD (e2 ixD (ev 2) (ec (.int 0))) (ev 1))) (e := ev 2) enc (fun e => ln e != l) enc (fun x => by
    simp [h0, dN]
    by_cases h : ln x = l
    · simp [h]
    · have : ¬ (ln x : Int) = (l : Int) := by omega
      simp [h, this]) (fun x _ => by simp) hn xs
  simp [F_without_line, fnD, g_without_line, hl, e]
theorem E_with_entry (xs : List α) (z : α) (hl : xs.length ≤ 1000) : F_with_entry [.tuple (xs.map enc), enc z] = some (.tuple ((xs.map fun e => if ln e = ln z then z else e).map enc)) := by
  have e := lcGo_map (i := 2) (Δ := [some (.tuple (xs.map enc)), some (enc z), none]) (t := tyes) (e := eif (tb (e2 eqD (e2 ixD (ev 2) (ec (.int 0))) (e2 ixD (ev 1) (ec (.int 0))))) (ev 1) (ev 2)) enc (fun _ => true) (fun e => enc (if ln e = ln z then z else e)) (fun x => by simp) (fun x _ => by
    simp [h0, dN]
    by_cases h : ln x = ln z
    · simp [h]
    · have : ¬ (ln x : Int) = (ln z : Int) := by omega
      simp [h, this]) (fun x => hn _) xs
  have ef : xs.filter (fun _ => true) = xs := List.filter_eq_self.mpr fun _ _ => rfl
  rw [ef] at e
  simp [F_with_entry, fnD, g_with_entry, hl, e]
end
theorem ix_Ln (e : Ln) : ixD (dLn e) (.int 0) = some (dN e.line) := by simp [dLn]
theorem ix_Rq (e : Rq) : ixD (dRq e) (.int 0) = some (dN e.line) := by simp [dRq]
theorem ix_Lv (e : Lv) : ixD (dLv e) (.int 0) = some (dN e.line) := by simp [dLv]

/-! ### the cache receives -/
def Ca.recv (c : Ca) : Ms → Option (Ca × List Ms)
  | .recall core l keep => match c.lines.find? (fun e => e.line == l) with
    | some e => some (⟨if keep then c.lines.map (fun x => if x.line = l then ⟨l, .shared, e.ws⟩ else x) else c.lines.filter (fun x => x.line != l), c.req, c.lea⟩, [.returned core l e.ws (decide (e.st = .modified))])
    | none => match c.lea.find? (fun e => e.line == l) with
      | some ⟨_, some ws, d⟩ => some (⟨c.lines, c.req, c.lea.map (fun x => if x.line = l then ⟨l, none, d⟩ else x)⟩, [.returned core l ws d])
      | _ => none
  | .invalidate core l => some (⟨c.lines.filter (fun x => x.line != l), c.req, c.lea⟩, [.invalidated core l])
  | .grant core l st ws => some (⟨c.lines.filter (fun x => x.line != l) ++ [⟨l, st, ws⟩], c.req.filter (fun x => x.line != l), c.lea⟩, [.received core l])
  | .confirm _ l => some (⟨c.lines, c.req, c.lea.filter (fun x => x.line != l)⟩, [])
  | _ => none
def Ca.small (c : Ca) : Prop := c.lines.length ≤ 900 ∧ c.req.length ≤ 900 ∧ c.lea.length ≤ 900
theorem len_fl {α : Type} (p : α → Bool) (xs : List α) : (xs.filter p).length ≤ xs.length := List.length_filter_le p xs
def dRes (r : Ca × List Ms) : PyData := .tuple [dCa r.1, dMss r.2]
theorem E_after_recall (c : Ca) (core l : Nat) (k : Bool) (hc : c.small) (r : Ca × List Ms) (hr : c.recv (.recall core l k) = some r) : F_after_recall [dCa c, dMs (.recall core l k)] = some (dRes r) := by
  obtain ⟨h1, h2, h3⟩ := hc
  have e1 := E_entry_of dLn Ln.line ix_Ln c.lines l
  have e2' := E_entry_of dLv Lv.line ix_Lv c.lea l
  have e3 := E_without_line dLn Ln.line ix_Ln noL_Ln c.lines l (by omega)
  unfold Ca.recv at hr
  dsimp only at hr
  cases ef : c.lines.find? (fun e => e.line == l) with
  | some e =>
    rw [ef] at hr e1
    dsimp only at hr
    cases hr
    have e4 := E_with_entry dLn Ln.line ix_Ln noL_Ln c.lines ⟨l, .shared, e.ws⟩ (by omega)
    have e5 : dLn ⟨l, .shared, e.ws⟩ = .tuple [dN l, .str (tg .shared), dW e.ws] := rfl
    rw [e5] at e4
    dsimp only at e1 e4
    have e6 : ixD (dLn e) (.int 2) = some (dW e.ws) := by simp [dLn]
    have e7 : ixD (dLn e) (.int 1) = some (.str (tg e.st)) := by simp [dLn]
    have e8 : isNone (dLn e) = false := by simp [dLn]
    cases k with
    | true =>
      simp [F_after_recall, fnD, g_after_recall, dCa, dMs, e1, e3, e4, e6, e7, e8, dRes, dMss]
    | false =>
      simp [F_after_recall, fnD, g_after_recall, dCa, dMs, e1, e3, e4, e6, e7, e8, dRes, dMss]
  | none =>
    rw [ef] at hr e1
    dsimp only at hr e1
    cases eg : c.lea.find? (fun e => e.line == l) with
    | none => rw [eg] at hr; cases hr
    | some e =>
      rw [eg] at hr e2'
      obtain ⟨ell, ews, ed⟩ := e
      cases ews with
      | none => cases hr
      | some ws =>
        cases hr
        have e4 := E_with_entry dLv Lv.line ix_Lv noL_Lv c.lea ⟨l, none, ed⟩ (by omega)
        have e5 : dLv ⟨l, none, ed⟩ = .tuple [dN l, .none, .bool ed] := rfl
        rw [e5] at e4
        dsimp only at e2' e4
        have e6 : ixD (dLv ⟨ell, some ws, ed⟩) (.int 2) = some (.bool ed) := by simp [dLv]
        have e7 : ixD (dLv ⟨ell, some ws, ed⟩) (.int 1) = some (dW ws) := by simp [dLv, dOW]
        simp [F_after_recall, fnD, g_after_recall, dCa, dMs, e1, e2', e3, e4, e6, e7, dRes, dMss]
theorem E_cache_receives (c : Ca) (m : Ms) (hc : c.small) (r : Ca × List Ms) (hr : c.recv m = some r) : F_cache_receives [dCa c, dMs m] = some (dRes r) := by
  have hc' := hc
  obtain ⟨h1, h2, h3⟩ := hc
  cases m with
  | recall core l k =>
    have e := E_after_recall c core l k hc' r hr
    have ex : dMs (.recall core l k) = .tuple [.str (tg .recall), dN core, dN l, .bool k] := rfl
    rw [ex] at e ⊢
    simp only [dCa] at e ⊢
    simp [F_cache_receives, fnD, g_cache_receives, e]
  | invalidate core l =>
    cases hr
    have e := E_without_line dLn Ln.line ix_Ln noL_Ln c.lines l (by omega)
    simp [F_cache_receives, fnD, g_cache_receives, dCa, dMs, e, dRes, dMss]
  | grant core l st ws =>
    cases hr
    have e := E_without_line dLn Ln.line ix_Ln noL_Ln c.lines l (by omega)
    have e' := E_without_line dRq Rq.line ix_Rq noL_Rq c.req l (by omega)
    have hl : (c.lines.filter fun e => e.line != l).length + 1 ≤ 1000 := by have := len_fl (fun e : Ln => e.line != l) c.lines; omega
    simp [F_cache_receives, fnD, g_cache_receives, dCa, dMs, e, e', dRes, dMss, dLn, hl]
  | confirm core l =>
    cases hr
    have e := E_without_line dLv Lv.line ix_Lv noL_Lv c.lea l (by omega)
    simp [F_cache_receives, fnD, g_cache_receives, dCa, dMs, e, dRes, dMss]
  | _ => cases hr
end DL

/-! M3: the homes' functions on the typed model. -/
namespace DL
open PySem PySem.Spec PyProof.Rows L2

theorem all_flatN : ∀ xs : List Nat, (xs.map dN).all flatD = true
  | [] => rfl
  | x :: xs => by rw [List.map_cons, List.all_cons, all_flatN xs]; rfl
theorem any_N (c : Nat) : ∀ xs : List Nat, ((xs.map dN).any fun e => eqF e (dN c)) = decide (c ∈ xs)
  | [] => by simp
  | x :: xs => by
    rw [List.map_cons, List.any_cons, any_N c xs]
    show (((x : Int) == (c : Int)) || _) = _
    by_cases h : x = c
    · subst h
      simp
    · have h1 : ((x : Int) == (c : Int)) = false := beq_eq_false_iff_ne.mpr (by omega)
      have h2 : ¬ c = x := fun e => h e.symm
      rw [h1]
      simp [h2]
@[simp] theorem in_N (c : Nat) (xs : List Nat) : inD (dN c) (.tuple (xs.map dN)) = some (.bool (decide (c ∈ xs))) := by
  show (if flatD (dN c) = true ∧ (xs.map dN).all flatD = true then some (PyData.bool ((xs.map dN).any fun e => eqF e (dN c))) else none) = _
  rw [if_pos ⟨rfl, all_flatN xs⟩, any_N]
@[simp] theorem nin_N (c : Nat) (xs : List Nat) : ninD (dN c) (.tuple (xs.map dN)) = some (.bool (!decide (c ∈ xs))) := by
  show (if flatD (dN c) = true ∧ (xs.map dN).all flatD = true then some (PyData.bool (!(xs.map dN).any fun e => eqF e (dN c))) else none) = _
  rw [if_pos ⟨rfl, all_flatN xs⟩, any_N]
theorem eq_N (a b : Nat) : eqD (dN a) (dN b) = some (.bool (decide (a = b))) := by
  show (some (decide ((a : Int) = (b : Int)))).map PyData.bool = _
  by_cases h : a = b
  · simp [h]
  · have : ¬ (a : Int) = (b : Int) := by omega
    simp [h, this]
theorem ne_N (a b : Nat) : neD (dN a) (dN b) = some (.bool (decide (a ≠ b))) := by
  show (some (decide ((a : Int) = (b : Int)))).map (fun b => PyData.bool (!b)) = _
  by_cases h : a = b
  · simp [h]
  · have : ¬ (a : Int) = (b : Int) := by omega
    simp [h, this]
@[simp] theorem isNone_N (a : Nat) : isNone (dN a) = false := rfl
@[simp] theorem isNone_W (a : List Int) : isNone (dW a) = false := rfl
theorem in_waits (m : Ms) : ninD (.str (tg m.tag)) dWaits = some (.bool (!m.waits)) := by
  show (if flatD (.str (tg m.tag)) = true ∧ [PyData.str (tg .getS), .str (tg .getM), .str (tg .giveUp)].all flatD = true then some (PyData.bool (!([PyData.str (tg .getS), .str (tg .getM), .str (tg .giveUp)].any fun e => eqF e (.str (tg m.tag))))) else none) = _
  rw [if_pos ⟨rfl, rfl⟩]
  simp only [List.any_cons, List.any_nil, eqF, tg_beq]
  cases m <;> simp [Ms.tag, Ms.waits]
theorem in_toCa (m : Ms) : inD (.str (tg m.tag)) dToCaches = some (.bool m.toCa) := by
  show (if flatD (.str (tg m.tag)) = true ∧ [PyData.str (tg .invalidate), .str (tg .recall), .str (tg .grant), .str (tg .confirm)].all flatD = true then some (PyData.bool ([PyData.str (tg .invalidate), .str (tg .recall), .str (tg .grant), .str (tg .confirm)].any fun e => eqF e (.str (tg m.tag)))) else none) = _
  rw [if_pos ⟨rfl, rfl⟩]
  simp only [List.any_cons, List.any_nil, eqF, tg_beq]
  cases m <;> simp [Ms.tag, Ms.toCa]
theorem d_getS {c l : Nat} : dMs (.getS c l) = .tuple [.str (tg .getS), dN c, dN l] := rfl
theorem d_getM {c l : Nat} : dMs (.getM c l) = .tuple [.str (tg .getM), dN c, dN l] := rfl
theorem d_giveUp {c l : Nat} {ws : List Int} {d : Bool} : dMs (.giveUp c l ws d) = .tuple [.str (tg .giveUp), dN c, dN l, dW ws, .bool d] := rfl
theorem d_returned {c l : Nat} {ws : List Int} {d : Bool} : dMs (.returned c l ws d) = .tuple [.str (tg .returned), dN c, dN l, dW ws, .bool d] := rfl
theorem d_invalidated {c l : Nat} : dMs (.invalidated c l) = .tuple [.str (tg .invalidated), dN c, dN l] := rfl
theorem d_received {c l : Nat} : dMs (.received c l) = .tuple [.str (tg .received), dN c, dN l] := rfl
theorem d_invalidate {c l : Nat} : dMs (.invalidate c l) = .tuple [.str (tg .invalidate), dN c, dN l] := rfl
theorem d_recall {c l : Nat} {k : Bool} : dMs (.recall c l k) = .tuple [.str (tg .recall), dN c, dN l, .bool k] := rfl
theorem d_grant {c l : Nat} {st : Tag} {ws : List Int} : dMs (.grant c l st ws) = .tuple [.str (tg .grant), dN c, dN l, .str (tg st), dW ws] := rfl
theorem d_confirm {c l : Nat} : dMs (.confirm c l) = .tuple [.str (tg .confirm), dN c, dN l] := rfl
theorem ms_0 (m : Ms) : ixD (dMs m) (.int 0) = some (.str (tg m.tag)) := by cases m <;> simp [dMs, Ms.tag]
theorem ms_1 (m : Ms) : ixD (dMs m) (.int 1) = some (dN m.core) := by cases m <;> simp [dMs, Ms.core]
theorem ms_2 (m : Ms) : ixD (dMs m) (.int 2) = some (dN m.line) := by cases m <;> simp [dMs, Ms.line]

theorem E_can_receive (h : Ho) (m : Ms) : F_can_receive [dHo h, dMs m] = some (.bool (h.sv.isNone || !m.waits)) := by
  obtain ⟨o, sh, sv⟩ := h
  cases sv with
  | none => simp [F_can_receive, fnD, g_can_receive, dHo, dOSv]
  | some s =>
    have e1 : isNone (dSv s) = false := rfl
    simp [F_can_receive, fnD, g_can_receive, dHo, dOSv, e1, ms_0, in_waits]

def Ho.grantIf (ex : Bool) (h : Ho) (l : Nat) : Ho × List Ms := match h.sv with
  | none => (h, [])
  | some s => if s.gr = true ∨ s.aw ≠ [] ∨ s.rcl = true then (h, []) else match s.ws with
    | none => (h, [])
    | some ws =>
      if s.ex = true then (⟨some s.core, [], some ⟨s.core, s.ex, s.aw, s.rcl, s.ws, true⟩⟩, [.grant s.core l .modified ws])
      else if ex = true ∧ h.sh = [] then (⟨some s.core, h.sh, some ⟨s.core, s.ex, s.aw, s.rcl, s.ws, true⟩⟩, [.grant s.core l .exclusive ws])
      else if s.core ∈ h.sh then (⟨h.owner, h.sh, some ⟨s.core, s.ex, s.aw, s.rcl, s.ws, true⟩⟩, [.grant s.core l .shared ws])
      else (⟨h.owner, h.sh ++ [s.core], some ⟨s.core, s.ex, s.aw, s.rcl, s.ws, true⟩⟩, [.grant s.core l .shared ws])
def dRH (r : Ho × List Ms) : PyData := .tuple [dHo r.1, dMss r.2]
theorem E_grant_if_ready (cf : Cf) (h : Ho) (l : Nat) (hl : h.sh.length ≤ 900) (hs : h.sv ≠ none) : F_grant_if_ready [dCf cf, dHo h, dN l] = some (dRH (h.grantIf cf.ex l)) := by
  obtain ⟨o, sh, sv⟩ := h
  cases sv with
  | none => exact absurd rfl hs
  | some s =>
    obtain ⟨core, ex, aw, rcl, ws, gr⟩ := s
    have hl' : sh.length + 1 ≤ 1000 := by dsimp only at hl; omega
    have hae := attr_ex cf
    cases gr with
    | true => simp [F_grant_if_ready, fnD, g_grant_if_ready, dHo, dOSv, dSv, Ho.grantIf, dRH, dMss]
    | false =>
      cases aw with
      | cons a as => simp [F_grant_if_ready, fnD, g_grant_if_ready, dHo, dOSv, dSv, Ho.grantIf, dRH, dMss]
      | nil =>
        cases rcl with
        | true => simp [F_grant_if_ready, fnD, g_grant_if_ready, dHo, dOSv, dSv, Ho.grantIf, dRH, dMss]
        | false =>
          cases ws with
          | none => simp [F_grant_if_ready, fnD, g_grant_if_ready, dHo, dOSv, dSv, Ho.grantIf, dRH, dMss, dOW]
          | some ws =>
            cases ex with
            | true => simp [F_grant_if_ready, fnD, g_grant_if_ready, dHo, dOSv, dSv, Ho.grantIf, dRH, dMss, dOW, dMs, dON]
            | false =>
              have hw : ∀ b, cf.ex = b → attrD "exclusive_state" (dCf cf) = some (.bool b) := fun b e => by rw [hae, e]
              cases sh with
              | nil =>
                cases hb : cf.ex with
                | true =>
                  have hae := hw _ hb
                  simp [F_grant_if_ready, fnD, g_grant_if_ready, dHo, dOSv, dSv, Ho.grantIf, dRH, dMss, dOW, dMs, dON, hae]
                | false =>
                  have hae := hw _ hb
                  have e0 := nin_N core []
                  rw [List.map_nil] at e0
                  simp [F_grant_if_ready, fnD, g_grant_if_ready, dHo, dOSv, dSv, Ho.grantIf, dRH, dMss, dOW, dMs, dON, hae, e0]
              | cons a as =>
                have e0 := nin_N core (a :: as)
                rw [List.map_cons] at e0
                have hl2 : as.length + 1 + 1 ≤ 1000 := by simpa using hl'
                by_cases hm : core ∈ a :: as
                · rw [decide_eq_true hm] at e0
                  cases hb : cf.ex <;>
                  · have hae := hw _ hb
                    simp [F_grant_if_ready, fnD, g_grant_if_ready, dHo, dOSv, dSv, dRH, dMss, dOW, dMs, dON, hae, e0, hl2]
                    simp [Ho.grantIf, hm, dHo, dOSv, dSv, dOW, dMs, dON]
                · rw [decide_eq_false hm] at e0
                  cases hb : cf.ex <;>
                  · have hae := hw _ hb
                    simp [F_grant_if_ready, fnD, g_grant_if_ready, dHo, dOSv, dSv, dRH, dMss, dOW, dMs, dON, hae, e0, hl2]
                    simp [Ho.grantIf, hm, dHo, dOSv, dSv, dOW, dMs, dON]

def Ho.begun (h : Ho) (words : List Int) (core l : Nat) (ex : Bool) : Ho × List Ms := match h.owner with
  | some o => (⟨some o, h.sh, some ⟨core, ex, [], true, none, false⟩⟩, [.recall o l (!ex)])
  | none => (⟨none, h.sh, some ⟨core, ex, if ex then h.sh.filter (fun c => c != core) else [], false, some words, false⟩⟩, (if ex then h.sh.filter (fun c => c != core) else []).map fun c => .invalidate c l)
theorem E_begun (h : Ho) (words : List Int) (m : Ms) (ex : Bool) (hm : m = (if ex then .getM m.core m.line else .getS m.core m.line)) (hl : h.sh.length ≤ 900) : F_begun [dHo h, dW words, dMs m] = some (dRH (h.begun words m.core m.line ex)) := by
  obtain ⟨o, sh, sv⟩ := h
  have et : decide (m.tag = .getM) = ex := by
    rw [hm]
    cases ex <;> rfl
  generalize hc : m.core = core at *
  generalize hln : m.line = l at *
  have m1 := ms_1 m
  have m2 := ms_2 m
  have m0 := ms_0 m
  rw [hc] at m1
  rw [hln] at m2
  clear hm
  generalize dMs m = dm at *
  cases o with
  | some o =>
    simp [F_begun, fnD, g_begun, dHo, dON, m0, m1, m2, et, Ho.begun, dRH, dMss, d_recall, dOSv, dSv, dOW]
  | none =>
    cases ex with
    | false =>
      simp [F_begun, fnD, g_begun, dHo, dON, m0, m1, m2, et, Ho.begun, dRH, dMss, dOSv, dSv, dOW, lcGo]
    | true =>
      have hl1 : sh.length ≤ 1000 := by dsimp only at hl; omega
      have hl2 : (sh.filter fun c => c != core).length ≤ 1000 := Nat.le_trans (len_fl _ _) hl1
      have e1 : ∀ (a0 a1 a2 a3 a4 a6 a7 a8 a9 a10 a11 : Option PyData) (xs : List Nat), lcGo 11 (tb (e2 neD (ev 11) (ev 5))) (ev 11) [a0, a1, a2, a3, a4, some (dN core), a6, a7, a8, a9, a10, a11] (xs.map dN) = some ((xs.filter fun c => c != core).map dN) := by
        intro a0 a1 a2 a3 a4 a6 a7 a8 a9 a10 a11 xs
        refine lcGo_map dN (fun c => c != core) dN (fun x => ?_) (fun x _ => by simp) noL_N xs
        simp [ne_N]
        by_cases h : x = core <;> simp [h]
      have e3 : ∀ (a0 a1 a2 a3 a4 a5 a7 a8 a9 a10 a11 : Option PyData) (xs : List Nat), lcGo 11 tyes (etup (acons (ec (.str (tg .invalidate))) (acons (ev 11) (acons (ev 6) anil)))) [a0, a1, a2, a3, a4, a5, some (dN l), a7, a8, a9, a10, a11] (xs.map dN) = some (xs.map fun c => dMs (.invalidate c l)) := by
        intro a0 a1 a2 a3 a4 a5 a7 a8 a9 a10 a11 xs
        have e := lcGo_map (i := 11) (Δ := [a0, a1, a2, a3, a4, a5, some (dN l), a7, a8, a9, a10, a11]) (t := tyes) (e := etup (acons (ec (.str (tg .invalidate))) (acons (ev 11) (acons (ev 6) anil)))) dN (fun _ => true) (fun c => dMs (.invalidate c l)) (fun x => by simp) (fun x _ => by simp [d_invalidate]) (fun x => noL_Ms _) xs
        rw [e, List.filter_eq_self.mpr fun _ _ => rfl]
      simp [F_begun, fnD, g_begun, dHo, dON, m0, m1, m2, et, Ho.begun, dRH, dMss, dOSv, dSv, dOW, e1, e3, hl1, hl2]
theorem E_invalidated (h : Ho) (s : Sv) (c : Nat) (hs : h.sv = some s) (hl : h.sh.length ≤ 900 ∧ s.aw.length ≤ 900) : F_invalidated [dHo h, dN c] = some (dHo ⟨h.owner, h.sh.filter (fun o => o != c), some ⟨s.core, s.ex, s.aw.filter (fun o => o != c), s.rcl, s.ws, s.gr⟩⟩) := by
  obtain ⟨o, sh, sv⟩ := h
  dsimp only at hs
  subst hs
  obtain ⟨core, ex, aw, rcl, ws, gr⟩ := s
  have hl1 : sh.length ≤ 1000 := by dsimp only at hl; omega
  have hl2 : aw.length ≤ 1000 := by dsimp only at hl; omega
  have e1 : ∀ (a0 a2 a3 a4 a5 a6 a7 a8 a9 a10 a11 : Option PyData) (xs : List Nat), lcGo 11 (tb (e2 neD (ev 11) (ev 1))) (ev 11) [a0, some (dN c), a2, a3, a4, a5, a6, a7, a8, a9, a10, a11] (xs.map dN) = some ((xs.filter fun o => o != c).map dN) := by
    intro a0 a2 a3 a4 a5 a6 a7 a8 a9 a10 a11 xs
    refine lcGo_map dN (fun o => o != c) dN (fun x => ?_) (fun x _ => by simp) noL_N xs
    simp [ne_N]
    by_cases h : x = c <;> simp [h]
  simp [F_invalidated, fnD, g_invalidated, dHo, dOSv, dSv, e1, hl1, hl2]
theorem E_returned (h : Ho) (s : Sv) (c l : Nat) (ws : List Int) (d : Bool) (hs : h.sv = some s) : F_returned [dHo h, dMs (.returned c l ws d)] = some (dHo ⟨none, if s.ex then [] else [c], some ⟨s.core, s.ex, s.aw, false, some ws, s.gr⟩⟩) := by
  obtain ⟨o, sh, sv⟩ := h
  dsimp only at hs
  subst hs
  obtain ⟨core, ex, aw, rcl, ws', gr⟩ := s
  cases ex <;> simp [F_returned, fnD, g_returned, dHo, dOSv, dSv, d_returned, dON, dOW]

def Ho.recv (ex : Bool) (h : Ho) (words : List Int) : Ms → Option (Ho × List Int × List Ms)
  | .giveUp c l ws d => if h.owner = some c then some (⟨none, h.sh, none⟩, if d then ws else words, [.confirm c l]) else some (⟨h.owner, h.sh, none⟩, words, [.confirm c l])
  | .received _ _ => some (⟨h.owner, h.sh, none⟩, words, [])
  | .invalidated c l => match h.sv with
    | none => none
    | some s => let r := (Ho.mk h.owner (h.sh.filter (fun o => o != c)) (some ⟨s.core, s.ex, s.aw.filter (fun o => o != c), s.rcl, s.ws, s.gr⟩)).grantIf ex l
      some (r.1, words, r.2)
  | .returned c l ws d => match h.sv with
    | none => none
    | some s => let r := (Ho.mk none (if s.ex then [] else [c]) (some ⟨s.core, s.ex, s.aw, false, some ws, s.gr⟩)).grantIf ex l
      some (r.1, if d then ws else words, r.2)
  | .getS c l => let b := h.begun words c l false
    let r := b.1.grantIf ex l
    some (r.1, words, b.2 ++ r.2)
  | .getM c l => let b := h.begun words c l true
    let r := b.1.grantIf ex l
    some (r.1, words, b.2 ++ r.2)
  | _ => none
def dRR (r : Ho × List Int × List Ms) : PyData := .tuple [dHo r.1, dW r.2.1, dMss r.2.2]
theorem begun_sv (h : Ho) (words : List Int) (c l : Nat) (ex : Bool) : (h.begun words c l ex).1.sv ≠ none := by
  unfold Ho.begun
  cases h.owner <;> simp
theorem begun_sh (h : Ho) (words : List Int) (c l : Nat) (ex : Bool) : (h.begun words c l ex).1.sh = h.sh := by
  unfold Ho.begun
  cases h.owner <;> simp
theorem grantIf_len (ex : Bool) (h : Ho) (l : Nat) : (h.grantIf ex l).2.length ≤ 1 := by
  unfold Ho.grantIf
  split
  · simp
  · split
    · simp
    · split
      · simp
      · split
        · simp
        · split
          · simp
          · split <;> simp
theorem begun_len (h : Ho) (words : List Int) (c l : Nat) (ex : Bool) : (h.begun words c l ex).2.length ≤ h.sh.length + 1 := by
  unfold Ho.begun
  cases h.owner with
  | none =>
    dsimp only
    rw [List.length_map]
    split
    · have := len_fl (fun o : Nat => o != c) h.sh; omega
    · simp
  | some o => simp
theorem E_home_receives (cf : Cf) (h : Ho) (words : List Int) (m : Ms) (hm : m.toCa = false) (hl : h.sh.length ≤ 900) (ha : ∀ s, h.sv = some s → s.aw.length ≤ 900) (r : Ho × List Int × List Ms) (hr : h.recv cf.ex words m = some r) :
    F_home_receives [dCf cf, dHo h, dW words, dMs m] = some (dRR r) := by
  cases m with
  | giveUp c l ws d =>
    obtain ⟨o, sh, sv⟩ := h
    unfold Ho.recv at hr
    dsimp only at hr
    cases o with
    | none =>
      rw [if_neg (by simp)] at hr
      cases hr
      simp [F_home_receives, fnD, g_home_receives, dHo, d_giveUp, dON, dRR, dMss, d_confirm, dOSv, dN]
    | some o =>
      by_cases e : o = c
      · subst e
        rw [if_pos rfl] at hr
        cases hr
        cases d <;> simp [F_home_receives, fnD, g_home_receives, dHo, d_giveUp, dON, dRR, dMss, d_confirm, dOSv, eq_N]
      · rw [if_neg (by simpa using e)] at hr
        cases hr
        simp [F_home_receives, fnD, g_home_receives, dHo, d_giveUp, dON, dRR, dMss, d_confirm, dOSv, eq_N, e]
  | received c l =>
    cases hr
    simp [F_home_receives, fnD, g_home_receives, dHo, d_received, dON, dRR, dMss, dOSv]
  | invalidated c l =>
    unfold Ho.recv at hr
    dsimp only at hr
    cases es : h.sv with
    | none => rw [es] at hr; cases hr
    | some s =>
      rw [es] at hr
      cases hr
      have e1 := E_invalidated h s c es ⟨hl, ha s es⟩
      have e2' := E_grant_if_ready cf ⟨h.owner, h.sh.filter (fun o => o != c), some ⟨s.core, s.ex, s.aw.filter (fun o => o != c), s.rcl, s.ws, s.gr⟩⟩ l (Nat.le_trans (len_fl _ _) hl) (by simp)
      have hx := grantIf_len cf.ex ⟨h.owner, h.sh.filter (fun o => o != c), some ⟨s.core, s.ex, s.aw.filter (fun o => o != c), s.rcl, s.ws, s.gr⟩⟩ l
      generalize Ho.grantIf cf.ex ⟨h.owner, h.sh.filter (fun o => o != c), some ⟨s.core, s.ex, s.aw.filter (fun o => o != c), s.rcl, s.ws, s.gr⟩⟩ l = R at *
      generalize (Ho.mk h.owner (h.sh.filter (fun o => o != c)) (some ⟨s.core, s.ex, s.aw.filter (fun o => o != c), s.rcl, s.ws, s.gr⟩)) = h2 at *
      have h3 : R.2.length ≤ 1000 := by omega
      have ed : ∃ a b e, dHo h = .tuple [a, b, e] := ⟨_, _, _, rfl⟩
      obtain ⟨a, b, e, ed⟩ := ed
      rw [ed] at e1 ⊢
      simp [F_home_receives, fnD, g_home_receives, d_invalidated, e1, e2', dRH, dRR, dMss, h3]
  | returned c l ws d =>
    unfold Ho.recv at hr
    dsimp only at hr
    cases es : h.sv with
    | none => rw [es] at hr; cases hr
    | some s =>
      rw [es] at hr
      cases hr
      have e1 := E_returned h s c l ws d es
      have e2' := E_grant_if_ready cf ⟨none, if s.ex then [] else [c], some ⟨s.core, s.ex, s.aw, false, some ws, s.gr⟩⟩ l (by dsimp only; split <;> simp) (by simp)
      have hx := grantIf_len cf.ex ⟨none, if s.ex then [] else [c], some ⟨s.core, s.ex, s.aw, false, some ws, s.gr⟩⟩ l
      generalize Ho.grantIf cf.ex ⟨none, if s.ex then [] else [c], some ⟨s.core, s.ex, s.aw, false, some ws, s.gr⟩⟩ l = R at *
      generalize (Ho.mk none (if s.ex then [] else [c]) (some ⟨s.core, s.ex, s.aw, false, some ws, s.gr⟩)) = h2 at *
      have h3 : R.2.length ≤ 1000 := by omega
      have ed : ∃ a b e, dHo h = .tuple [a, b, e] := ⟨_, _, _, rfl⟩
      obtain ⟨a, b, e, ed⟩ := ed
      rw [ed] at e1 ⊢
      rw [d_returned] at e1 ⊢
      cases d <;> simp [F_home_receives, fnD, g_home_receives, e1, e2', dRH, dRR, dMss, h3]
  | getS c l =>
    cases hr
    have e1 := E_begun h words (.getS c l) false rfl hl
    have hb := begun_len h words c l false
    have e2' := E_grant_if_ready cf (h.begun words c l false).1 l (by rw [begun_sh]; exact hl) (begun_sv h words c l false)
    have hx := grantIf_len cf.ex (h.begun words c l false).1 l
    dsimp only [Ms.core, Ms.line] at e1
    generalize h.begun words c l false = B at *
    generalize B.1.grantIf cf.ex l = R at *
    have h3 : B.2.length + R.2.length ≤ 1000 := by omega
    have ed : ∃ a b e, dHo h = .tuple [a, b, e] := ⟨_, _, _, rfl⟩
    obtain ⟨a, b, e, ed⟩ := ed
    rw [ed] at e1 ⊢
    rw [d_getS] at e1 ⊢
    simp [F_home_receives, fnD, g_home_receives, e1, e2', dRH, dRR, dMss, h3]
  | getM c l =>
    cases hr
    have e1 := E_begun h words (.getM c l) true rfl hl
    have hb := begun_len h words c l true
    have e2' := E_grant_if_ready cf (h.begun words c l true).1 l (by rw [begun_sh]; exact hl) (begun_sv h words c l true)
    have hx := grantIf_len cf.ex (h.begun words c l true).1 l
    dsimp only [Ms.core, Ms.line] at e1
    generalize h.begun words c l true = B at *
    generalize B.1.grantIf cf.ex l = R at *
    have h3 : B.2.length + R.2.length ≤ 1000 := by omega
    have ed : ∃ a b e, dHo h = .tuple [a, b, e] := ⟨_, _, _, rfl⟩
    obtain ⟨a, b, e, ed⟩ := ed
    rw [ed] at e1 ⊢
    rw [d_getM] at e1 ⊢
    simp [F_home_receives, fnD, g_home_receives, e1, e2', dRH, dRR, dMss, h3]
  | _ => cases hm
end DL

/-! M4: requests, givings up; the parts of the network's functions. -/
namespace DL
open PySem PySem.Spec PyProof.Rows L2

@[simp] theorem nin_NL (c : Nat) (xs : List Nat) : ninD (dN c) (.list (xs.map dN)) = some (.bool (!decide (c ∈ xs))) := by
  show (if flatD (dN c) = true ∧ (xs.map dN).all flatD = true then some (PyData.bool (!(xs.map dN).any fun e => eqF e (dN c))) else none) = _
  rw [if_pos ⟨rfl, all_flatN xs⟩, any_N]
theorem ge_N {i j : Nat} : geD (.int i) (dN j) = some (.bool (decide (j ≤ i))) := by
  show some (PyData.bool (decide ((j : Int) ≤ (i : Int)))) = _
  by_cases h : j ≤ i
  · have : (j : Int) ≤ (i : Int) := by omega
    simp [h, this]
  · have : ¬ (j : Int) ≤ (i : Int) := by omega
    simp [h, this]
theorem mod_N (a s : Nat) (h : 0 < s) : modD (dN a) (dN s) = some (dN (a % s)) := by
  show (if (0 : Int) < (s : Int) then some (PyData.int ((a : Int) % (s : Int))) else none) = _
  rw [if_pos (by omega)]
  rfl
theorem E_occupied_ways (cf : Cf) (c : Ca) (l : Nat) (hs : 0 < cf.sets) (hc : c.small) : ∃ n : Nat, F_occupied_ways [dCf cf, dCa c, dN l] = some (dN n) := by
  obtain ⟨h1, h2, h3⟩ := hc
  have ha := attr_sets cf
  have k1 : ∀ (a1 a2 a4 a5 a6 : Option PyData) (xs : List Ln), lcGo 6 (tb (e2 eqD (e2 modD (e2 ixD (ev 6) (ec (.int 0))) (e1 (attrD "sets") (ev 0))) (ev 3))) (e2 ixD (ev 6) (ec (.int 0))) [some (dCf cf), a1, a2, some (dN (l % cf.sets)), a4, a5, a6] (xs.map dLn) = some ((xs.filter fun e => decide (e.line % cf.sets = l % cf.sets)).map fun e => dN e.line) := by
    intro a1 a2 a4 a5 a6 xs
    refine lcGo_map dLn (fun e => decide (e.line % cf.sets = l % cf.sets)) (fun e => dN e.line) (fun x => ?_) (fun x _ => by simp [ix_Ln]) (fun x => rfl) xs
    simp [ix_Ln, ha, mod_N _ _ hs, eq_N]
  have k3 : ∀ (a1 a2 a5 a6 : Option PyData) (ps : List Nat) (xs : List Rq), lcGo 6 (tand (tb (e2 eqD (e2 modD (e2 ixD (ev 6) (ec (.int 0))) (e1 (attrD "sets") (ev 0))) (ev 3))) (tb (e2 ninD (e2 ixD (ev 6) (ec (.int 0))) (ev 4)))) (e2 ixD (ev 6) (ec (.int 0))) [some (dCf cf), a1, a2, some (dN (l % cf.sets)), some (.list (ps.map dN)), a5, a6] (xs.map dRq) =
      some ((xs.filter fun e => decide (e.line % cf.sets = l % cf.sets) && !decide (e.line ∈ ps)).map fun e => dN e.line) := by
    intro a1 a2 a5 a6 ps xs
    refine lcGo_map dRq (fun e => decide (e.line % cf.sets = l % cf.sets) && !decide (e.line ∈ ps)) (fun e => dN e.line) (fun x => ?_) (fun x _ => by simp [ix_Rq]) (fun x => rfl) xs
    simp [ix_Rq, ha, mod_N _ _ hs, eq_N]
    by_cases h : x.line % cf.sets = l % cf.sets <;> simp [h]
  have h1' : c.lines.length ≤ 1000 := by omega
  have h2' : c.req.length ≤ 1000 := by omega
  have hm : ∀ xs : List Ln, xs.map (fun e => dN e.line) = (xs.map Ln.line).map dN := fun xs => by rw [List.map_map]; rfl
  refine ⟨(c.lines.filter fun e => decide (e.line % cf.sets = l % cf.sets)).length + (c.req.filter fun e => decide (e.line % cf.sets = l % cf.sets) && !decide (e.line ∈ (c.lines.filter fun e => decide (e.line % cf.sets = l % cf.sets)).map Ln.line)).length, ?_⟩
  simp only [F_occupied_ways, fnD, g_occupied_ways, dCa, List.map_cons, List.map_nil, List.length_cons, List.length_nil, List.replicate, List.cons_append, List.nil_append, gseq_e, gset_e, e2_e, e1_e, ev_0, ev_1, ev_2, ev_3, ev_4, ev_5, ec_e, ix_0, ix_1, ha, mod_N _ _ hs, List.set_cons_succ, List.set_cons_zero, elc_e, itup_e, List.length_map, h1', h2', if_true, k1]
  rw [hm]
  simp only [k3]
  simp [dN]

def rqMs (core l : Nat) (ex : Bool) : Ms := if ex then .getM core l else .getS core l
theorem d_rqMs {core l : Nat} {ex : Bool} : dMs (rqMs core l ex) = .tuple [.str (tg (if ex then .getM else .getS)), dN core, dN l] := by cases ex <;> rfl
theorem E_request_line (cf : Cf) (c : Ca) (core l : Nat) (ex : Bool) (hs : 0 < cf.sets) (hc : c.small) :
    F_request_line [dCf cf, dCa c, dN core, dN l, .bool ex] = some .none ∨ (c.req.find? (fun e => e.line == l) = none ∧ c.lea.find? (fun e => e.line == l) = none ∧ F_request_line [dCf cf, dCa c, dN core, dN l, .bool ex] = some (dRes (⟨c.lines, c.req ++ [⟨l, ex⟩], c.lea⟩, [rqMs core l ex]))) := by
  obtain ⟨n, hn⟩ := E_occupied_ways cf c l hs hc
  obtain ⟨h1, h2, h3⟩ := hc
  have a1 := attr_req cf
  have a2 := attr_ways cf
  have e1 := E_entry_of dLn Ln.line ix_Ln c.lines l
  have e2' := E_entry_of dRq Rq.line ix_Rq c.req l
  have e3 := E_entry_of dLv Lv.line ix_Lv c.lea l
  have h2' : c.req.length + 1 ≤ 1000 := by omega
  have hn' : F_occupied_ways [dCf cf, PyData.tuple [.tuple (c.lines.map dLn), .tuple (c.req.map dRq), .tuple (c.lea.map dLv)], dN l] = some (.int (n : Nat)) := hn
  cases er : c.req.find? (fun e => e.line == l) with
  | some e =>
    rw [er] at e2'
    have i2 : isNone (dRq e) = false := rfl
    refine .inl ?_
    simp [F_request_line, fnD, g_request_line, dCa, e2', i2]
  | none =>
    rw [er] at e2'
    cases el : c.lea.find? (fun e => e.line == l) with
    | some e =>
      rw [el] at e3
      have i3 : isNone (dLv e) = false := rfl
      refine .inl ?_
      simp [F_request_line, fnD, g_request_line, dCa, e2', e3, i3]
    | none =>
      rw [el] at e3
      by_cases hq : cf.req ≤ c.req.length
      · refine .inl ?_
        simp [F_request_line, fnD, g_request_line, dCa, e2', e3, a1, ge_N, hq]
      · cases ef : c.lines.find? (fun e => e.line == l) with
        | none =>
          rw [ef] at e1
          by_cases hw : cf.ways ≤ n
          · refine .inl ?_
            simp [F_request_line, fnD, g_request_line, dCa, e1, e2', e3, a1, a2, ge_N, hq, hn', hw]
          · refine .inr ⟨rfl, rfl, ?_⟩
            cases ex <;> simp [F_request_line, fnD, g_request_line, dCa, e1, e2', e3, a1, a2, ge_N, hq, hn', hw, dRes, dMss, d_rqMs, dRq, h2']
        | some e =>
          rw [ef] at e1
          have i1 : isNone (dLn e) = false := rfl
          have i2 : ixD (dLn e) (.int 1) = some (.str (tg e.st)) := by simp [dLn]
          cases ex with
          | false =>
            refine .inl ?_
            simp [F_request_line, fnD, g_request_line, dCa, e1, e2', e3, a1, a2, ge_N, hq, i1]
          | true =>
            by_cases hsh : e.st = .shared
            · refine .inr ⟨rfl, rfl, ?_⟩
              simp [F_request_line, fnD, g_request_line, dCa, e1, e2', e3, a1, a2, ge_N, hq, i1, i2, hsh, dRes, dMss, d_rqMs, dRq, h2']
            · refine .inl ?_
              simp [F_request_line, fnD, g_request_line, dCa, e1, e2', e3, a1, a2, ge_N, hq, i1, i2, hsh]

def Ca.giveUp (c : Ca) (core l : Nat) : Option (Ca × List Ms) := match c.lines.find? (fun e => e.line == l) with
  | none => none
  | some e => if (c.req.find? (fun e => e.line == l)).isSome = true then none
    else if e.st = .shared then some (⟨c.lines.filter (fun x => x.line != l), c.req, c.lea⟩, [])
    else some (⟨c.lines.filter (fun x => x.line != l), c.req, c.lea ++ [⟨l, some e.ws, decide (e.st = .modified)⟩]⟩, [.giveUp core l e.ws (decide (e.st = .modified))])
theorem E_give_up_line (c : Ca) (core l : Nat) (hc : c.small) : F_give_up_line [dCa c, dN core, dN l] = some (match c.giveUp core l with | some r => dRes r | none => .none) := by
  obtain ⟨h1, h2, h3⟩ := hc
  have e1 := E_entry_of dLn Ln.line ix_Ln c.lines l
  have e2' := E_entry_of dRq Rq.line ix_Rq c.req l
  have e3 := E_without_line dLn Ln.line ix_Ln noL_Ln c.lines l (by omega)
  have h3' : c.lea.length + 1 ≤ 1000 := by omega
  unfold Ca.giveUp
  cases ef : c.lines.find? (fun e => e.line == l) with
  | none =>
    rw [ef] at e1
    simp [F_give_up_line, fnD, g_give_up_line, dCa, e1]
  | some e =>
    rw [ef] at e1
    have i1 : isNone (dLn e) = false := rfl
    have i2 : ixD (dLn e) (.int 1) = some (.str (tg e.st)) := by simp [dLn]
    have i3 : ixD (dLn e) (.int 2) = some (dW e.ws) := by simp [dLn]
    cases er : c.req.find? (fun e => e.line == l) with
    | some q =>
      rw [er] at e2'
      have j : isNone (dRq q) = false := rfl
      simp [F_give_up_line, fnD, g_give_up_line, dCa, e1, e2', i1, j]
    | none =>
      rw [er] at e2'
      by_cases hsh : e.st = .shared
      · simp [F_give_up_line, fnD, g_give_up_line, dCa, e1, e2', i1, i2, e3, hsh, dRes, dMss]
      · simp [F_give_up_line, fnD, g_give_up_line, dCa, e1, e2', i1, i2, i3, e3, hsh, dRes, dMss, d_giveUp, dLv, dOW, h3']

/-! ### slices -/
theorem cut_to (xs : List PyData) (i : Nat) : cutD xs none (some (i : Int)) = xs.take i := by
  unfold cutD
  rw [HT.sIx_none, HT.sIx_nat]
  simp
theorem cut_from (xs : List PyData) (i : Nat) : cutD xs (some (i : Int)) none = xs.drop i := by
  unfold cutD
  rw [HT.sIx_none, HT.sIx_nat]
  by_cases h : i ≤ xs.length
  · rw [Nat.min_eq_left h]
    exact List.take_of_length_le (by rw [List.length_drop]; exact Nat.le_refl _)
  · rw [Nat.min_eq_right (by omega), List.drop_of_length_le (by omega : xs.length ≤ i)]
    simp
theorem cut_mid (xs : List PyData) (i k : Nat) : cutD xs (some (i : Int)) (some ((i + k : Nat) : Int)) = (xs.drop i).take k := by
  unfold cutD
  rw [HT.sIx_nat, HT.sIx_nat]
  by_cases h : i ≤ xs.length
  · rw [Nat.min_eq_left h]
    by_cases h2 : i + k ≤ xs.length
    · rw [Nat.min_eq_left h2, Nat.add_sub_cancel_left]
    · rw [Nat.min_eq_right (by omega), List.take_of_length_le (by rw [List.length_drop]; exact Nat.le_refl _), List.take_of_length_le (by rw [List.length_drop]; omega)]
  · rw [Nat.min_eq_right (by omega : xs.length ≤ i), Nat.min_eq_right (by omega : xs.length ≤ i + k), List.drop_of_length_le (by omega : xs.length ≤ i)]
    simp
theorem E_replaced (xs : List PyData) (i : Nat) (p : PyData) (hi : i < xs.length) (hl : xs.length ≤ 900) : F_replaced [.tuple xs, dN i, p] = some (.tuple (xs.set i p)) := by
  have c1 := cut_to xs i
  have c2 := cut_from xs (i + 1)
  have e : xs.set i p = xs.take i ++ p :: xs.drop (i + 1) := List.set_eq_take_append_cons_drop .. |>.trans (by rw [if_pos hi])
  have hc : ((i + 1 : Nat) : Int) = (i : Int) + 1 := by omega
  rw [hc] at c2
  rw [e]
  have l1 : (xs.take i).length = i := by rw [List.length_take]; omega
  have l2 : (xs.drop (i + 1)).length = xs.length - (i + 1) := List.length_drop
  have q1 : i + 1 ≤ 1000 := by omega
  have q2 : i + 1 + (xs.length - (i + 1)) ≤ 1000 := by omega
  simp only [F_replaced, fnD, g_replaced, dN, List.map_cons, List.map_nil, List.length_cons, List.length_nil, List.replicate, List.cons_append, List.nil_append, gret_e, e2_e, esl_e, ev_0, ev_1, ev_2, ec_e, osome_e, onone_e, add_i, c1, c2, etup_e, acons_e, anil_e]
  simp [l1, l2, q1, q2]
end DL

/-! M5: the network's functions on the typed model. -/
namespace DL
open PySem PySem.Spec PyProof.Rows L2

/-! ### deliverable -/
def Sy.can (ho : List Ho) (m : Ms) : Bool := m.toCa || (match ho[m.line]? with | some h => h.sv.isNone || !m.waits | none => false)
def delIx (ho : List Ho) : Nat → List Ms → List Nat
  | _, [] => []
  | i, m :: ms => if Sy.can ho m = true then i :: delIx ho (i + 1) ms else delIx ho (i + 1) ms
theorem mem_delIx (ho : List Ho) : ∀ (ms : List Ms) (i j : Nat), j ∈ delIx ho i ms ↔ ∃ k m, ms[k]? = some m ∧ j = i + k ∧ Sy.can ho m = true
  | [], i, j => by simp [delIx]
  | m :: ms, i, j => by
    have ih := mem_delIx ho ms (i + 1) j
    have e : (∃ k m', (m :: ms)[k]? = some m' ∧ j = i + k ∧ Sy.can ho m' = true) ↔ ((j = i ∧ Sy.can ho m = true) ∨ ∃ k m', ms[k]? = some m' ∧ j = i + 1 + k ∧ Sy.can ho m' = true) := by
      constructor
      · rintro ⟨k, m', h1, h2, h3⟩
        cases k with
        | zero =>
          have : m = m' := by simpa using h1
          subst this
          exact .inl ⟨by omega, h3⟩
        | succ k => exact .inr ⟨k, m', by simpa using h1, by omega, h3⟩
      · rintro (⟨h2, h3⟩ | ⟨k, m', h1, h2, h3⟩)
        · exact ⟨0, m, by simp, by omega, h3⟩
        · exact ⟨k + 1, m', by simpa using h1, by omega, h3⟩
    rw [e, ← ih]
    by_cases h : Sy.can ho m = true
    · have e : delIx ho i (m :: ms) = i :: delIx ho (i + 1) ms := if_pos h
      rw [e]
      simp [h]
    · have e : delIx ho i (m :: ms) = delIx ho (i + 1) ms := if_neg h
      rw [e]
      simp [h]
theorem delIx_len (ho : List Ho) : ∀ (ms : List Ms) (i : Nat), (delIx ho i ms).length ≤ ms.length
  | [], i => Nat.le_refl _
  | m :: ms, i => by
    have ih := delIx_len ho ms (i + 1)
    unfold delIx
    split
    · simp; exact ih
    · simp; omega
theorem E_delGo (S : PyData) (ho : List Ho) (N : PyData) : ∀ (ms : List Ms) (i : Nat), (∀ m ∈ ms, m.line < ho.length) → delGo S (.tuple (ho.map dHo)) N i (ms.map dMs) = some ((delIx ho i ms).map dN)
  | [], i, _ => rfl
  | m :: ms, i, h => by
    have ih := E_delGo S ho N ms (i + 1) fun m' hm => h m' (List.mem_cons_of_mem _ hm)
    have hl := h m List.mem_cons_self
    have hg : ho[m.line]? = some ho[m.line] := List.getElem?_eq_getElem hl
    have e1 : ixD (.tuple (ho.map dHo)) (dN m.line) = some (dHo ho[m.line]) := ix_nat (by rw [List.getElem?_map, hg]; rfl)
    have et : t_del [some S, some (.tuple (ho.map dHo)), some N, none, some (.int (i : Nat)), some (dMs m)] = some (Sy.can ho m) := by
      unfold Sy.can
      rw [hg]
      have e2' := E_can_receive ho[m.line] m
      cases ht : m.toCa <;> simp [t_del, ms_0, ms_2, in_toCa, ht, e1, e2']
    rw [List.map_cons]
    unfold delGo delIx
    rw [et]
    cases Sy.can ho m with
    | true => simp [ih, dN]
    | false => simp [ih]
theorem E_deliverable (s : Sy) (hl : s.net.length ≤ 900) (h : ∀ m ∈ s.net, m.line < s.ho.length) : F_deliverable [dSy s] = some (.tuple ((delIx s.ho 0 s.net).map dN)) := by
  have e := E_delGo (dSy s) s.ho (dMss s.net) s.net 0 h
  unfold F_deliverable
  have e1 : ixD (dSy s) (.int 1) = some (.tuple (s.ho.map dHo)) := by simp [dSy]
  have e3 : ixD (dSy s) (.int 3) = some (.tuple (s.net.map dMs)) := by simp [dSy, dMss]
  have hl' : (s.net.map dMs).length ≤ 1000 := by rw [List.length_map]; omega
  dsimp only
  rw [e1]
  dsimp only
  rw [e3]
  dsimp only
  rw [if_pos hl']
  unfold dMss at e
  rw [e]

/-! ### delivered -/
def sliceW (mem : List Int) (first lw : Nat) : List Int := (mem.drop first).take lw
def spliceW (mem : List Int) (first lw : Nat) (ws : List Int) : List Int := mem.take first ++ ws ++ mem.drop (first + lw)
def Sy.deliver (cf : Cf) (s : Sy) (i : Nat) : Option Sy := match s.net[i]? with
  | none => none
  | some m => if m.toCa = true then
      (match s.ca[m.core]? with
      | none => none
      | some c => match c.recv m with
        | none => none
        | some r => some ⟨s.ca.set m.core r.1, s.ho, s.mem, s.net.take i ++ s.net.drop (i + 1) ++ r.2⟩)
    else (match s.ho[m.line]? with
      | none => none
      | some h => match h.recv cf.ex (sliceW s.mem (m.line * cf.lw) cf.lw) m with
        | none => none
        | some r => some ⟨s.ca, s.ho.set m.line r.1, spliceW s.mem (m.line * cf.lw) cf.lw r.2.1, s.net.take i ++ s.net.drop (i + 1) ++ r.2.2⟩)
def Ms.wlen : Ms → Nat
  | .giveUp _ _ ws _ => ws.length
  | .returned _ _ ws _ => ws.length
  | .grant _ _ _ ws => ws.length
  | _ => 0
structure Sy.Sm (s : Sy) : Prop where
  ca : s.ca.length ≤ 900
  ho : s.ho.length ≤ 900
  mem : s.mem.length ≤ 300
  net : s.net.length ≤ 100
  c : ∀ c ∈ s.ca, c.small
  h : ∀ h ∈ s.ho, h.sh.length ≤ 100 ∧ ∀ v, h.sv = some v → v.aw.length ≤ 100
  w : ∀ m ∈ s.net, m.wlen ≤ 300 ∧ m.line < s.ho.length
theorem recvC_len {c : Ca} {m : Ms} {r : Ca × List Ms} (h : c.recv m = some r) : r.2.length ≤ 1 := by
  cases m with
  | recall core l k =>
    unfold Ca.recv at h
    dsimp only at h
    split at h
    · cases h; simp
    · split at h
      · cases h; simp
      · cases h
  | _ => first | (cases h; simp; done) | cases h
theorem recvH_len {ex : Bool} {h : Ho} {words : List Int} {m : Ms} {r : Ho × List Int × List Ms} (e : h.recv ex words m = some r) : r.2.2.length ≤ h.sh.length + 2 ∧ r.2.1.length ≤ max words.length m.wlen := by
  cases m with
  | giveUp c l ws d =>
    unfold Ho.recv at e
    dsimp only at e
    split at e
    · cases e
      refine ⟨by simp, ?_⟩
      dsimp only [Ms.wlen]
      split <;> omega
    · cases e
      refine ⟨by simp, ?_⟩
      dsimp only
      omega
  | received c l =>
    cases e
    refine ⟨by simp, ?_⟩
    dsimp only
    omega
  | invalidated c l =>
    unfold Ho.recv at e
    dsimp only at e
    split at e
    · cases e
    · cases e
      dsimp only
      refine ⟨?_, by omega⟩
      exact Nat.le_trans (grantIf_len ..) (by omega)
  | returned c l ws d =>
    unfold Ho.recv at e
    dsimp only at e
    split at e
    · cases e
    · cases e
      dsimp only
      refine ⟨Nat.le_trans (grantIf_len ..) (by omega), ?_⟩
      dsimp only [Ms.wlen]
      split <;> omega
  | getS c l =>
    cases e
    dsimp only
    rw [List.length_append]
    have h1 := begun_len h words c l false
    have h2 := grantIf_len ex (h.begun words c l false).1 l
    exact ⟨by omega, by omega⟩
  | getM c l =>
    cases e
    dsimp only
    rw [List.length_append]
    have h1 := begun_len h words c l true
    have h2 := grantIf_len ex (h.begun words c l true).1 l
    exact ⟨by omega, by omega⟩
  | _ => cases e
theorem delivered_cache {cfg dm A : PyData} {CA CA' HO MEM NET T1 T2 B : List PyData} {i core line : Int} {t : Tag} (k0 : ixD (.tuple NET) (.int i) = some dm) (m0 : ixD dm (.int 0) = some (.str (tg t))) (m1 : ixD dm (.int 1) = some (.int core)) (m2 : ixD dm (.int 2) = some (.int line))
    (ht : inD (.str (tg t)) dToCaches = some (.bool true)) (c1 : cutD NET none (some i) = T1) (c2 : cutD NET (some (i + 1)) none = T2) (q1 : T1.length + T2.length ≤ 1000) (c : PyData) (k2 : ixD (.tuple CA) (.int core) = some c) (k1 : F_cache_receives [c, dm] = some (.tuple [A, .tuple B]))
    (k3 : F_replaced [.tuple CA, .int core, A] = some (.tuple CA')) (q2 : T1.length + T2.length + B.length ≤ 1000) :
    F_delivered [cfg, .tuple [.tuple CA, .tuple HO, .tuple MEM, .tuple NET], .int i] = some (.tuple [.tuple CA', .tuple HO, .tuple MEM, .tuple (T1 ++ T2 ++ B)]) := by
  simp [F_delivered, fnD, g_delivered, k0, m0, m1, m2, ht, c1, c2, q1, k2, k1, k3, q2]
theorem delivered_home {cfg dm A : PyData} {CA HO HO' MEM NET T1 T2 B W W' P1 P2 : List PyData} {i core line lw : Int} {t : Tag} (k0 : ixD (.tuple NET) (.int i) = some dm) (m0 : ixD dm (.int 0) = some (.str (tg t))) (m1 : ixD dm (.int 1) = some (.int core)) (m2 : ixD dm (.int 2) = some (.int line))
    (ht : inD (.str (tg t)) dToCaches = some (.bool false)) (c1 : cutD NET none (some i) = T1) (c2 : cutD NET (some (i + 1)) none = T2) (q1 : T1.length + T2.length ≤ 1000) (ha : attrD "line_words" cfg = some (.int lw)) (hm : -18446744073709551616 < line ∧ line < 18446744073709551616)
    (c3 : cutD MEM (some (line * lw)) (some (line * lw + lw)) = W) (h : PyData) (k2 : ixD (.tuple HO) (.int line) = some h) (k1 : F_home_receives [cfg, h, .tuple W, dm] = some (.tuple [A, .tuple W', .tuple B]))
    (c4 : cutD MEM none (some (line * lw)) = P1) (c5 : cutD MEM (some (line * lw + lw)) none = P2) (q3 : P1.length + W'.length ≤ 1000) (q4 : P1.length + W'.length + P2.length ≤ 1000)
    (k3 : F_replaced [.tuple HO, .int line, A] = some (.tuple HO')) (q2 : T1.length + T2.length + B.length ≤ 1000) :
    F_delivered [cfg, .tuple [.tuple CA, .tuple HO, .tuple MEM, .tuple NET], .int i] = some (.tuple [.tuple CA, .tuple HO', .tuple (P1 ++ W' ++ P2), .tuple (T1 ++ T2 ++ B)]) := by
  simp [F_delivered, fnD, g_delivered, k0, m0, m1, m2, ht, c1, c2, q1, ha, hm, c3, k2, k1, c4, c5, q3, q4, k3, q2]
theorem E_delivered (cf : Cf) (s s' : Sy) (i : Nat) (sm : s.Sm) (hlw : cf.lw ≤ 900) (h : s.deliver cf i = some s') : F_delivered [dCf cf, dSy s, dN i] = some (dSy s') := by
  unfold Sy.deliver at h
  cases em : s.net[i]? with
  | none => rw [em] at h; cases h
  | some m =>
    rw [em] at h
    dsimp only at h
    have hmem := List.mem_of_getElem? em
    obtain ⟨hi, _⟩ := List.getElem?_eq_some_iff.mp em
    obtain ⟨hwl, hml⟩ := sm.w m hmem
    have hnet := sm.net
    have k0 : ixD (.tuple (s.net.map dMs)) (dN i) = some (dMs m) := ix_nat (by rw [List.getElem?_map, em]; rfl)
    have c1 : cutD (s.net.map dMs) none (some (i : Int)) = (s.net.take i).map dMs := by rw [cut_to, List.map_take]
    have c2 : cutD (s.net.map dMs) (some ((i : Int) + 1)) none = (s.net.drop (i + 1)).map dMs := by
      have e := cut_from (s.net.map dMs) (i + 1)
      rw [List.map_drop]
      exact e
    have l1 : ((s.net.take i).map dMs).length = i := by rw [List.length_map, List.length_take]; omega
    have l2 : ((s.net.drop (i + 1)).map dMs).length = s.net.length - (i + 1) := by rw [List.length_map]; exact List.length_drop
    have hin := in_toCa m
    by_cases ht : m.toCa = true
    · rw [if_pos ht] at h
      rw [ht] at hin
      cases ec' : s.ca[m.core]? with
      | none => rw [ec'] at h; cases h
      | some c =>
        rw [ec'] at h
        dsimp only at h
        cases er : c.recv m with
        | none => rw [er] at h; cases h
        | some r =>
          rw [er] at h
          cases h
          have hc := sm.c c (List.mem_of_getElem? ec')
          have k1 := E_cache_receives c m hc r er
          have kl := recvC_len er
          obtain ⟨hcl, _⟩ := List.getElem?_eq_some_iff.mp ec'
          have k2 : ixD (.tuple (s.ca.map dCa)) (dN m.core) = some (dCa c) := ix_nat (by rw [List.getElem?_map, ec']; rfl)
          have k3 := E_replaced (s.ca.map dCa) m.core (dCa r.1) (by rw [List.length_map]; exact hcl) (by rw [List.length_map]; exact sm.ca)
          have l3 : (r.2.map dMs).length = r.2.length := List.length_map ..
          have e := delivered_cache (cfg := dCf cf) (HO := s.ho.map dHo) (MEM := s.mem.map .int) k0 (ms_0 m) (ms_1 m) (ms_2 m) hin c1 c2 (by rw [l1, l2]; omega) (dCa c) k2 k1 k3 (by rw [l1, l2, l3]; omega)
          refine e.trans ?_
          unfold dSy dMss dW
          rw [List.map_append, List.map_append, List.map_set]
    · rw [if_neg ht] at h
      have ht' : m.toCa = false := by simpa using ht
      rw [ht'] at hin
      cases eh : s.ho[m.line]? with
      | none => rw [eh] at h; cases h
      | some hh =>
        rw [eh] at h
        dsimp only at h
        cases er : hh.recv cf.ex (sliceW s.mem (m.line * cf.lw) cf.lw) m with
        | none => rw [er] at h; cases h
        | some r =>
          rw [er] at h
          cases h
          have hmm := List.mem_of_getElem? eh
          obtain ⟨hs1, hs2⟩ := sm.h hh hmm
          have k1 := E_home_receives cf hh (sliceW s.mem (m.line * cf.lw) cf.lw) m ht' (by omega) (fun v e => by have := hs2 v e; omega) r er
          obtain ⟨kl, kw⟩ := recvH_len er
          have hml := (List.getElem?_eq_some_iff.mp eh).1
          have hmem' := sm.mem
          have hsl : (sliceW s.mem (m.line * cf.lw) cf.lw).length ≤ s.mem.length := by unfold sliceW; rw [List.length_take, List.length_drop]; omega
          have k2 : ixD (.tuple (s.ho.map dHo)) (dN m.line) = some (dHo hh) := ix_nat (by rw [List.getElem?_map, eh]; rfl)
          have k3 := E_replaced (s.ho.map dHo) m.line (dHo r.1) (by rw [List.length_map]; exact hml) (by rw [List.length_map]; exact sm.ho)
          have l3 : (r.2.2.map dMs).length = r.2.2.length := List.length_map ..
          have hho := sm.ho
          have hcast : ((m.line : Int) * (cf.lw : Int)) = ((m.line * cf.lw : Nat) : Int) := by rw [Int.natCast_mul]
          have hcast2 : ((m.line : Int) * (cf.lw : Int)) + (cf.lw : Int) = ((m.line * cf.lw + cf.lw : Nat) : Int) := by rw [hcast]; omega
          have hm : -18446744073709551616 < (m.line : Int) ∧ (m.line : Int) < 18446744073709551616 := ⟨by omega, by omega⟩
          have c3 : cutD (s.mem.map PyData.int) (some ((m.line : Int) * (cf.lw : Int))) (some ((m.line : Int) * (cf.lw : Int) + (cf.lw : Int))) = (sliceW s.mem (m.line * cf.lw) cf.lw).map .int := by
            rw [hcast2, hcast, cut_mid]
            unfold sliceW
            rw [List.map_take, List.map_drop]
          have c4 : cutD (s.mem.map PyData.int) none (some ((m.line : Int) * (cf.lw : Int))) = (s.mem.take (m.line * cf.lw)).map .int := by rw [hcast, cut_to, List.map_take]
          have c5 : cutD (s.mem.map PyData.int) (some ((m.line : Int) * (cf.lw : Int) + (cf.lw : Int))) none = (s.mem.drop (m.line * cf.lw + cf.lw)).map .int := by rw [hcast2, cut_from, List.map_drop]
          have l4 : ((s.mem.take (m.line * cf.lw)).map PyData.int).length ≤ 300 := by rw [List.length_map, List.length_take]; omega
          have l5 : ((s.mem.drop (m.line * cf.lw + cf.lw)).map PyData.int).length ≤ 300 := by rw [List.length_map, List.length_drop]; omega
          have l6 : (r.2.1.map PyData.int).length ≤ 300 := by rw [List.length_map]; omega
          have e := delivered_home (cfg := dCf cf) (CA := s.ca.map dCa) k0 (ms_0 m) (ms_1 m) (ms_2 m) hin c1 c2 (by rw [l1, l2]; omega) (attr_lw cf) hm c3 (dHo hh) k2 k1 c4 c5 (by omega) (by omega) k3 (by rw [l1, l2, l3]; omega)
          refine e.trans ?_
          unfold dSy dMss dW spliceW
          rw [List.map_append, List.map_append, List.map_set, List.map_append, List.map_append]
end DL

/-! M6: the start, the steps, the receiver. -/
namespace DL
open PySem PySem.Spec PyProof.Rows L2

theorem lcGo_const {i : Nat} {Δ : Env} (d : PyData) (hn : noL d = true) : ∀ xs : List PyData, lcGo i tyes (ec d) Δ xs = some (List.replicate xs.length d)
  | [] => rfl
  | x :: xs => by
    have ih := lcGo_const (i := i) (Δ := Δ) d hn xs
    unfold lcGo
    simp [hn, ih, List.replicate_succ]
def ca0 : Ca := ⟨[], [], []⟩
def ho0 : Ho := ⟨none, [], none⟩
theorem d_ca0 : dCa ca0 = dEmptyCache := rfl
theorem d_ho0 : dHo ho0 = dStartHome := rfl
def manyOf (n lw : Nat) : Nat := (n + lw - 1) / lw
def Sy.start (cf : Cf) (cores : Nat) (mem : List Int) : Sy := ⟨List.replicate cores ca0, List.replicate (manyOf mem.length cf.lw) ho0, mem, []⟩
theorem E_start_system (cf : Cf) (p0 : PyData) (cs : List PyData) (mem : List Int) (h1 : 0 < cf.lw) (h2 : cf.lw ≤ 900) (h3 : mem.length ≤ 50) (h4 : cs.length ≤ 1000) (hm : manyOf mem.length cf.lw ≤ 1000) :
    F_start_system [.tuple [p0, .tuple cs, dW mem], dCf cf] = some (dSy (Sy.start cf cs.length mem)) := by
  have ha := attr_lw cf
  have e1 : ((mem.length : Int) + (cf.lw : Int) - 1) / (cf.lw : Int) = ((manyOf mem.length cf.lw : Nat) : Int) := by
    unfold manyOf
    have : ((mem.length : Int) + (cf.lw : Int) - 1) = ((mem.length + cf.lw - 1 : Nat) : Int) := by omega
    rw [this]
    omega
  have hd : (0 : Int) < (cf.lw : Int) ∧ (cf.lw : Int) < 1073741824 := ⟨by omega, by omega⟩
  have n1 : noL dEmptyCache = true := rfl
  have n2 : noL dStartHome = true := rfl
  have el : ∀ n : Nat, (rngL (n : Int)).length = n := fun n => by rw [rngL_length]; omega
  generalize hMe : manyOf mem.length cf.lw = M at *
  have ir : ∀ (f : Env → Option PyData) (Δ : Env), irng f Δ = match f Δ with | some (.int n) => if 0 ≤ n ∧ n ≤ 1000 then some (rngL n) else none | _ => none := fun _ _ => rfl
  have hM : (M : Int) ≤ 1000 := by omega
  have hM0 : (0 : Int) ≤ (M : Int) := by omega
  simp [F_start_system, fnD, g_start_system, dW, ha, dN, e1, h1, hd.2, lcGo_const _ n1, lcGo_const _ n2, h4, ir, hM, hM0, el, hm]
  unfold Sy.start
  rw [hMe]
  simp [dSy, dW, dMss, d_ca0, d_ho0]

/-! ### steps -/
def Sy.req (s : Sy) (core l : Nat) (ex : Bool) : Option Sy := match s.ca[core]? with
  | none => none
  | some c => some ⟨s.ca.set core ⟨c.lines, c.req ++ [⟨l, ex⟩], c.lea⟩, s.ho, s.mem, s.net ++ [rqMs core l ex]⟩
def Sy.evict (s : Sy) (core l : Nat) : Option Sy := match s.ca[core]? with
  | none => none
  | some c => match c.giveUp core l with
    | none => none
    | some r => some ⟨s.ca.set core r.1, s.ho, s.mem, s.net ++ r.2⟩
theorem E_next_deliver (cf : Cf) (s : Sy) (i : Nat) (hl : s.net.length ≤ 900) (h : ∀ m ∈ s.net, m.line < s.ho.length) :
    F_next_system [dCf cf, dSy s, .tuple [.str (tg .deliver), dN i]] = if i ∈ delIx s.ho 0 s.net then F_delivered [dCf cf, dSy s, dN i] else some .none := by
  have e := E_deliverable s hl h
  unfold dSy at e ⊢
  by_cases hi : i ∈ delIx s.ho 0 s.net
  · rw [if_pos hi]
    simp [F_next_system, fnD, g_next_system, e, hi]
    cases F_delivered [dCf cf, .tuple [.tuple (s.ca.map dCa), .tuple (s.ho.map dHo), dW s.mem, dMss s.net], dN i] <;> rfl
  · rw [if_neg hi]
    simp [F_next_system, fnD, g_next_system, e, hi]
section
variable {cfg c A : PyData} {CA CA' HO MEM NET B : List PyData} {core line : Int} {ex : Bool}
theorem next_evict_n (h1 : 0 ≤ core) (h2 : core < CA.length) (h3 : 0 ≤ line) (h4 : line < HO.length) (k2 : ixD (.tuple CA) (.int core) = some c) (k1 : F_give_up_line [c, .int core, .int line] = some .none) :
    F_next_system [cfg, .tuple [.tuple CA, .tuple HO, .tuple MEM, .tuple NET], .tuple [.str (tg .evict), .int core, .int line]] = some .none := by
  simp [F_next_system, fnD, g_next_system, echain, h1, h2, h3, h4, k2, k1]
theorem next_evict_s (h1 : 0 ≤ core) (h2 : core < CA.length) (h3 : 0 ≤ line) (h4 : line < HO.length) (k2 : ixD (.tuple CA) (.int core) = some c) (k1 : F_give_up_line [c, .int core, .int line] = some (.tuple [A, .tuple B])) (k3 : F_replaced [.tuple CA, .int core, A] = some (.tuple CA')) (q : NET.length + B.length ≤ 1000) :
    F_next_system [cfg, .tuple [.tuple CA, .tuple HO, .tuple MEM, .tuple NET], .tuple [.str (tg .evict), .int core, .int line]] = some (.tuple [.tuple CA', .tuple HO, .tuple MEM, .tuple (NET ++ B)]) := by
  simp [F_next_system, fnD, g_next_system, echain, h1, h2, h3, h4, k2, k1, k3, q]
theorem next_req_n (h1 : 0 ≤ core) (h2 : core < CA.length) (h3 : 0 ≤ line) (h4 : line < HO.length) (k2 : ixD (.tuple CA) (.int core) = some c) (k1 : F_request_line [cfg, c, .int core, .int line, .bool ex] = some .none) :
    F_next_system [cfg, .tuple [.tuple CA, .tuple HO, .tuple MEM, .tuple NET], .tuple [.str (tg .request), .int core, .int line, .bool ex]] = some .none := by
  simp [F_next_system, fnD, g_next_system, echain, h1, h2, h3, h4, k2, k1]
theorem next_req_s (h1 : 0 ≤ core) (h2 : core < CA.length) (h3 : 0 ≤ line) (h4 : line < HO.length) (k2 : ixD (.tuple CA) (.int core) = some c) (k1 : F_request_line [cfg, c, .int core, .int line, .bool ex] = some (.tuple [A, .tuple B])) (k3 : F_replaced [.tuple CA, .int core, A] = some (.tuple CA')) (q : NET.length + B.length ≤ 1000) :
    F_next_system [cfg, .tuple [.tuple CA, .tuple HO, .tuple MEM, .tuple NET], .tuple [.str (tg .request), .int core, .int line, .bool ex]] = some (.tuple [.tuple CA', .tuple HO, .tuple MEM, .tuple (NET ++ B)]) := by
  simp [F_next_system, fnD, g_next_system, echain, h1, h2, h3, h4, k2, k1, k3, q]
end
theorem giveUp_len {c : Ca} {core l : Nat} {r : Ca × List Ms} (h : c.giveUp core l = some r) : r.2.length ≤ 1 := by
  unfold Ca.giveUp at h
  split at h
  · cases h
  · split at h
    · cases h
    · split at h
      · cases h; simp
      · cases h; simp
theorem E_next_evict (cf : Cf) (s : Sy) (core l : Nat) (sm : s.Sm) (hc : core < s.ca.length) (hl : l < s.ho.length) : F_next_system [dCf cf, dSy s, .tuple [.str (tg .evict), dN core, dN l]] = some (match s.evict core l with | some s' => dSy s' | none => .none) := by
  have hg : s.ca[core]? = some s.ca[core] := List.getElem?_eq_getElem hc
  have hcs := sm.c _ (List.getElem_mem hc)
  generalize s.ca[core] = c at *
  have k2 : ixD (.tuple (s.ca.map dCa)) (dN core) = some (dCa c) := ix_nat (by rw [List.getElem?_map, hg]; rfl)
  have k1 := E_give_up_line c core l hcs
  have hnet := sm.net
  have b1 : (0 : Int) ≤ (core : Int) := by omega
  have b2 : (core : Int) < ((s.ca.map dCa).length : Int) := by rw [List.length_map]; omega
  have b3 : (0 : Int) ≤ (l : Int) := by omega
  have b4 : (l : Int) < ((s.ho.map dHo).length : Int) := by rw [List.length_map]; omega
  unfold Sy.evict
  rw [hg]
  dsimp only
  cases er : c.giveUp core l with
  | none =>
    rw [er] at k1
    exact next_evict_n b1 b2 b3 b4 k2 k1
  | some r =>
    rw [er] at k1
    have k3 := E_replaced (s.ca.map dCa) core (dCa r.1) (by rw [List.length_map]; exact hc) (by rw [List.length_map]; exact sm.ca)
    have kl := giveUp_len er
    refine (next_evict_s b1 b2 b3 b4 k2 k1 k3 (by rw [List.length_map, List.length_map]; omega)).trans ?_
    unfold dSy dMss dW
    dsimp only
    rw [List.map_append, List.map_set]
theorem E_next_req (cf : Cf) (s : Sy) (core l : Nat) (ex : Bool) (sm : s.Sm) (hs : 0 < cf.sets) (c : Ca) (hg : s.ca[core]? = some c) (hl : l < s.ho.length) :
    F_next_system [dCf cf, dSy s, .tuple [.str (tg .request), dN core, dN l, .bool ex]] = some .none ∨ (c.req.find? (fun e => e.line == l) = none ∧ c.lea.find? (fun e => e.line == l) = none ∧
      F_next_system [dCf cf, dSy s, .tuple [.str (tg .request), dN core, dN l, .bool ex]] = some (dSy ⟨s.ca.set core ⟨c.lines, c.req ++ [⟨l, ex⟩], c.lea⟩, s.ho, s.mem, s.net ++ [rqMs core l ex]⟩)) := by
  have hc := (List.getElem?_eq_some_iff.mp hg).1
  have hcs := sm.c _ (List.mem_of_getElem? hg)
  have k2 : ixD (.tuple (s.ca.map dCa)) (dN core) = some (dCa c) := ix_nat (by rw [List.getElem?_map, hg]; rfl)
  have hnet := sm.net
  have b1 : (0 : Int) ≤ (core : Int) := by omega
  have b2 : (core : Int) < ((s.ca.map dCa).length : Int) := by rw [List.length_map]; omega
  have b3 : (0 : Int) ≤ (l : Int) := by omega
  have b4 : (l : Int) < ((s.ho.map dHo).length : Int) := by rw [List.length_map]; omega
  rcases E_request_line cf c core l ex hs hcs with k1 | ⟨q1, q2, k1⟩
  · exact .inl (next_req_n b1 b2 b3 b4 k2 k1)
  · refine .inr ⟨q1, q2, ?_⟩
    have k3 := E_replaced (s.ca.map dCa) core (dCa ⟨c.lines, c.req ++ [⟨l, ex⟩], c.lea⟩) (by rw [List.length_map]; exact hc) (by rw [List.length_map]; exact sm.ca)
    refine (next_req_s b1 b2 b3 b4 k2 k1 k3 (by rw [List.length_map, List.length_map]; simp; omega)).trans ?_
    unfold dSy dMss dW
    rw [List.map_append, List.map_set]

/-! ### the receiver -/
def rcvD (m : Ms) : PyData := if m.toCa = true then .tuple [.str (tg .cache), dN m.core] else .tuple [.str (tg .home), dN m.line]
theorem E_receiver (m : Ms) : F__law_receiver [dMs m] = some (rcvD m) := by
  have e := in_toCa m
  have e' : inD (.str (tg m.tag)) (.list [.str (tg .invalidate), .str (tg .recall), .str (tg .grant), .str (tg .confirm)]) = some (.bool m.toCa) := e
  unfold rcvD
  cases ht : m.toCa <;> simp [F__law_receiver, fnD, g__law_receiver, ms_0, ms_1, ms_2, e', ht]
end DL

/-! P1: the invariant of the protocol, line by line (plain Lean over the typed model). -/
namespace DL
open PySem

def isGet (c l : Nat) : Ms → Bool
  | .getS c' l' => c' == c && l' == l
  | .getM c' l' => c' == c && l' == l
  | _ => false
def isInv (c l : Nat) : Ms → Bool
  | .invalidate c' l' => c' == c && l' == l
  | .invalidated c' l' => c' == c && l' == l
  | _ => false
def isRec (l : Nat) : Ms → Bool
  | .recall _ l' _ => l' == l
  | .returned _ l' _ _ => l' == l
  | _ => false
def isGr (l : Nat) : Ms → Bool
  | .grant _ l' _ _ => l' == l
  | .received _ l' => l' == l
  | _ => false
def isGrant (c l : Nat) : Ms → Bool
  | .grant c' l' _ _ => c' == c && l' == l
  | _ => false
def isLeave (c l : Nat) : Ms → Bool
  | .giveUp c' l' _ _ => c' == c && l' == l
  | .confirm c' l' => c' == c && l' == l
  | _ => false
def nL (l : Nat) (c : Ca) : Nat := c.lines.countP (fun e => e.line == l)
def nR (l : Nat) (c : Ca) : Nat := c.req.countP (fun e => e.line == l)
def nV (l : Nat) (c : Ca) : Nat := c.lea.countP (fun e => e.line == l)

def Ho.aws (h : Ho) : List Nat := match h.sv with | some s => s.aw | none => []
def Ho.rcn (h : Ho) : Nat := match h.sv with | some s => if s.rcl = true then 1 else 0 | none => 0
def Ho.grn (h : Ho) : Nat := match h.sv with | some s => if s.gr = true then 1 else 0 | none => 0
def Ho.svn (h : Ho) (c : Nat) : Nat := match h.sv with | some s => if s.core = c ∧ s.gr = false then 1 else 0 | none => 0

/-- the words that a message bears are as many as its line has -/
def Ms.wok (W : Nat → List Int → Prop) : Ms → Prop
  | .giveUp _ l ws _ => W l ws
  | .returned _ l ws _ => W l ws
  | .grant _ l _ ws => W l ws
  | _ => True
structure HInv (W : Nat → List Int → Prop) (n l : Nat) (h : Ho) (net : List Ms) : Prop where
  aw : ∀ c, net.countP (isInv c l) = h.aws.count c
  awnd : h.aws.Nodup
  rec_ : net.countP (isRec l) = h.rcn
  gr_ : net.countP (isGr l) = h.grn
  p2 : ∀ s, h.sv = some s → s.gr = true → s.aw = [] ∧ s.rcl = false
  p3 : ∀ s, h.sv = some s → s.rcl = true → s.aw = [] ∧ h.owner ≠ none ∧ s.ws = none
  p4 : ∀ s, h.sv = some s → s.rcl = false → ∃ ws, s.ws = some ws ∧ W l ws
  p5 : ∀ s, h.sv = some s → s.gr = false → s.rcl = false → h.owner = none
  recO : ∀ m ∈ net, isRec l m = true → h.owner = some m.core
  grO : ∀ c st ws, Ms.grant c l st ws ∈ net → (h.owner = some c ∧ st ≠ .shared) ∨ h.owner = none
  shnd : h.sh.Nodup
  shlt : ∀ c ∈ h.sh, c < n
  ownlt : ∀ c, h.owner = some c → c < n
  svlt : ∀ s, h.sv = some s → s.core < n
structure CInv (l : Nat) (h : Ho) (c : Nat) (C : Ca) (net : List Ms) : Prop where
  rq : net.countP (isGet c l) + h.svn c + net.countP (isGrant c l) = nR l C
  rq1 : nR l C ≤ 1
  lv : net.countP (isLeave c l) = nV l C
  x : nR l C = 0 ∨ nV l C = 0
  y : nL l C + nV l C ≤ 1
  own : h.owner = some c → (∃ ws d, Ms.returned c l ws d ∈ net) ∨ (∃ st ws, Ms.grant c l st ws ∈ net ∧ st ≠ .shared) ∨ (∃ e ∈ C.lines, e.line = l ∧ e.st ≠ .shared) ∨ (∃ ws d, Lv.mk l (some ws) d ∈ C.lea ∧ Ms.giveUp c l ws d ∈ net)

structure Chg (net rm ms net' : List Ms) : Prop where
  cnt : ∀ p : Ms → Bool, net'.countP p + rm.countP p = net.countP p + ms.countP p
  new : ∀ x ∈ net', x ∈ net ∨ x ∈ ms
  old : ∀ x ∈ net, x ∈ net' ∨ x ∈ rm
  add : ∀ x ∈ ms, x ∈ net'
theorem chg_add (net ms : List Ms) : Chg net [] ms (net ++ ms) :=
  ⟨fun p => by simp, fun x hx => by simpa using hx, fun x hx => .inl (by simp [hx]), fun x hx => by simp [hx]⟩
theorem chg_at {net : List Ms} {i : Nat} {m : Ms} (h : net[i]? = some m) (ms : List Ms) : Chg net [m] ms (net.take i ++ net.drop (i + 1) ++ ms) := by
  obtain ⟨hi, hm⟩ := List.getElem?_eq_some_iff.mp h
  have e : net = net.take i ++ m :: net.drop (i + 1) := by
    rw [← hm, ← List.drop_eq_getElem_cons hi, List.take_append_drop]
  refine ⟨fun p => ?_, fun x hx => ?_, fun x hx => ?_, fun x hx => by simp [hx]⟩
  · have e2 : net.countP p = (net.take i).countP p + (m :: net.drop (i + 1)).countP p := by rw [← List.countP_append, ← e]
    rw [e2]
    simp only [List.countP_append, List.countP_cons, List.countP_nil]
    omega
  · rcases List.mem_append.mp hx with hx | hx
    · left
      rw [e]
      rcases List.mem_append.mp hx with hx | hx
      · exact List.mem_append_left _ hx
      · exact List.mem_append_right _ (List.mem_cons_of_mem _ hx)
    · exact .inr hx
  · rw [e] at hx
    rcases List.mem_append.mp hx with hx | hx
    · left; simp [hx]
    · rcases List.mem_cons.mp hx with hx | hx
      · right; simp [hx]
      · left; simp [hx]

theorem isGet_at {c l : Nat} {m : Ms} (h : isGet c l m = true) : m.line = l ∧ m.core = c := by
  cases m <;> simp [isGet, Ms.line, Ms.core] at * <;> exact ⟨h.2, h.1⟩
theorem isInv_at {c l : Nat} {m : Ms} (h : isInv c l m = true) : m.line = l ∧ m.core = c := by
  cases m <;> simp [isInv, Ms.line, Ms.core] at * <;> exact ⟨h.2, h.1⟩
theorem isGrant_at {c l : Nat} {m : Ms} (h : isGrant c l m = true) : m.line = l ∧ m.core = c := by
  cases m <;> simp [isGrant, Ms.line, Ms.core] at * <;> exact ⟨h.2, h.1⟩
theorem isLeave_at {c l : Nat} {m : Ms} (h : isLeave c l m = true) : m.line = l ∧ m.core = c := by
  cases m <;> simp [isLeave, Ms.line, Ms.core] at * <;> exact ⟨h.2, h.1⟩
theorem isRec_at {l : Nat} {m : Ms} (h : isRec l m = true) : m.line = l := by
  cases m <;> simp [isRec, Ms.line] at * <;> exact h
theorem isGr_at {l : Nat} {m : Ms} (h : isGr l m = true) : m.line = l := by
  cases m <;> simp [isGr, Ms.line] at * <;> exact h
theorem cnt0 {p : Ms → Bool} {xs : List Ms} (h : ∀ x ∈ xs, p x = true → False) : xs.countP p = 0 := List.countP_eq_zero.mpr fun x hx e => h x hx e
theorem cnt_pos {p : Ms → Bool} {xs : List Ms} {x : Ms} (h : x ∈ xs) (e : p x = true) : 0 < xs.countP p := List.countP_pos_iff.mpr ⟨x, h, e⟩

/-! ### other lines, other cores -/
theorem HInv.frame {W : Nat → List Int → Prop} {n l : Nat} {h : Ho} {net rm ms net' : List Ms} (I : HInv W n l h net) (g : Chg net rm ms net') (h1 : ∀ x ∈ rm, x.line ≠ l) (h2 : ∀ x ∈ ms, x.line ≠ l) : HInv W n l h net' := by
  have same : ∀ p : Ms → Bool, (∀ m, p m = true → m.line = l) → net'.countP p = net.countP p := fun p hp => by
    have e1 := cnt0 (p := p) (xs := rm) fun x hx e => h1 x hx (hp x e)
    have e2 := cnt0 (p := p) (xs := ms) fun x hx e => h2 x hx (hp x e)
    have := g.cnt p
    omega
  refine ⟨fun c => (same _ fun m e => (isInv_at e).1).trans (I.aw c), I.awnd, (same _ fun m e => isRec_at e).trans I.rec_, (same _ fun m e => isGr_at e).trans I.gr_, I.p2, I.p3, I.p4, I.p5, fun m hm e => ?_, fun c st ws hm => ?_, I.shnd, I.shlt, I.ownlt, I.svlt⟩
  · rcases g.new m hm with q | q
    · exact I.recO m q e
    · exact absurd (isRec_at e) (h2 m q)
  · rcases g.new _ hm with q | q
    · exact I.grO c st ws q
    · exact absurd rfl (h2 _ q)
/-- messages that do not concern core c and line l, a cache that is the same as to the line -/
theorem CInv.frame {l c : Nat} {h h' : Ho} {C C' : Ca} {net rm ms net' : List Ms} (I : CInv l h c C net) (g : Chg net rm ms net') (h1 : ∀ x ∈ rm, x.line = l → x.core ≠ c) (h2 : ∀ x ∈ ms, x.line = l → x.core ≠ c)
    (hs : h'.svn c = h.svn c) (ho : h'.owner = some c → h.owner = some c) (eL : nL l C' = nL l C) (eR : nR l C' = nR l C) (eV : nV l C' = nV l C) (mL : ∀ e ∈ C.lines, e.line = l → e ∈ C'.lines) (mV : ∀ e ∈ C.lea, e.line = l → e ∈ C'.lea) : CInv l h' c C' net' := by
  have same : ∀ p : Ms → Bool, (∀ m, p m = true → m.line = l ∧ m.core = c) → net'.countP p = net.countP p := fun p hp => by
    have e1 := cnt0 (p := p) (xs := rm) fun x hx e => h1 x hx (hp x e).1 (hp x e).2
    have e2 := cnt0 (p := p) (xs := ms) fun x hx e => h2 x hx (hp x e).1 (hp x e).2
    have := g.cnt p
    omega
  have keep : ∀ x ∈ net, x.line = l → x.core = c → x ∈ net' := fun x hx a b => by
    rcases g.old x hx with q | q
    · exact q
    · exact absurd b (h1 x q a)
  refine ⟨?_, by rw [eR]; exact I.rq1, by rw [same _ fun m e => isLeave_at e, eV]; exact I.lv, by rw [eR, eV]; exact I.x, by rw [eL, eV]; exact I.y, fun hw => ?_⟩
  · rw [same _ fun m e => isGet_at e, same _ fun m e => isGrant_at e, hs, eR]
    exact I.rq
  · rcases I.own (ho hw) with ⟨ws, d, q⟩ | ⟨st, ws, q, r⟩ | ⟨e, q, r, t⟩ | ⟨ws, d, q, r⟩
    · exact .inl ⟨ws, d, keep _ q rfl rfl⟩
    · exact .inr (.inl ⟨st, ws, keep _ q rfl rfl, r⟩)
    · exact .inr (.inr (.inl ⟨e, mL e q r, r, t⟩))
    · exact .inr (.inr (.inr ⟨ws, d, mV _ q rfl, keep _ r rfl rfl⟩))

/-! counts of cache entries -/
theorem cF_self {α : Type} (f : α → Nat) (l : Nat) : ∀ xs : List α, (xs.filter fun e => f e != l).countP (fun e => f e == l) = 0 := fun xs => by
  rw [List.countP_eq_zero]
  intro a ha e
  have := (List.mem_filter.mp ha).2
  simp at this e
  exact this e
theorem cF_other {α : Type} (f : α → Nat) {l k : Nat} (h : k ≠ l) : ∀ xs : List α, (xs.filter fun e => f e != l).countP (fun e => f e == k) = xs.countP (fun e => f e == k) := fun xs => by
  rw [List.countP_filter]
  refine List.countP_congr fun a _ => ?_
  constructor
  · intro q
    simp at q
    simp [q.1]
  · intro q
    have q' : f a = k := by simpa using q
    simp [q', h]
theorem mF_other {α : Type} (f : α → Nat) {l k : Nat} (h : k ≠ l) {xs : List α} {e : α} (he : e ∈ xs) (q : f e = k) : e ∈ xs.filter fun e => f e != l := by
  rw [List.mem_filter]
  exact ⟨he, by simp [q, h]⟩
theorem one_of {α : Type} {p : α → Bool} : ∀ {xs : List α}, xs.countP p ≤ 1 → ∀ {a b : α}, a ∈ xs → b ∈ xs → p a = true → p b = true → a = b
  | [], _, a, b, ha, _, _, _ => by cases ha
  | x :: xs, h, a, b, ha, hb, pa, pb => by
    rw [List.countP_cons] at h
    rcases List.mem_cons.mp ha with rfl | ha'
    · rcases List.mem_cons.mp hb with rfl | hb'
      · rfl
      · have : 0 < xs.countP p := List.countP_pos_iff.mpr ⟨b, hb', pb⟩
        rw [if_pos pa] at h
        omega
    · rcases List.mem_cons.mp hb with rfl | hb'
      · have : 0 < xs.countP p := List.countP_pos_iff.mpr ⟨a, ha', pa⟩
        rw [if_pos pb] at h
        omega
      · exact one_of (xs := xs) (by split at h <;> omega) ha' hb' pa pb
theorem find_of {α : Type} {p : α → Bool} {xs : List α} (h : xs.countP p ≤ 1) {a : α} (ha : a ∈ xs) (pa : p a = true) : xs.find? p = some a := by
  cases e : xs.find? p with
  | none => exact absurd pa (by have := List.find?_eq_none.mp e a ha; simpa using this)
  | some b =>
    have hb := List.mem_of_find?_eq_some e
    have pb := List.find?_some e
    rw [one_of h ha hb pa pb]
theorem cnt_none {α : Type} {p : α → Bool} {xs : List α} (h : xs.find? p = none) : xs.countP p = 0 := by
  rw [List.countP_eq_zero]
  intro a ha e
  have := List.find?_eq_none.mp h a ha
  exact this e
end DL

/-! P2: what each delivery and each action does to the invariant of its own line. -/
namespace DL
open PySem
section
variable {W : Nat → List Int → Prop} {n l c : Nat} {h : Ho} {C : Ca} {net net' rm ms : List Ms}

theorem HInv.swap (I : HInv W n l h net) (g : Chg net rm ms net') (cI : ∀ c', rm.countP (isInv c' l) = ms.countP (isInv c' l)) (cR : rm.countP (isRec l) = ms.countP (isRec l)) (cG : rm.countP (isGr l) = ms.countP (isGr l))
    (hr : ∀ m ∈ ms, isRec l m = true → h.owner = some m.core) (hg : ∀ c st ws, Ms.grant c l st ws ∈ ms → False) : HInv W n l h net' := by
  refine ⟨fun c' => ?_, I.awnd, ?_, ?_, I.p2, I.p3, I.p4, I.p5, fun m hm e => ?_, fun c' st ws hm => ?_, I.shnd, I.shlt, I.ownlt, I.svlt⟩
  · have := g.cnt (isInv c' l); have := I.aw c'; have := cI c'; omega
  · have := g.cnt (isRec l); have := I.rec_; omega
  · have := g.cnt (isGr l); have := I.gr_; omega
  · rcases g.new m hm with q | q
    · exact I.recO m q e
    · exact hr m q e
  · rcases g.new _ hm with q | q
    · exact I.grO c' st ws q
    · exact (hg _ _ _ q).elim

/-! what is known where a message is in flight -/
theorem HInv.inv_sv (I : HInv W n l h net) {m : Ms} (hm : m ∈ net) (e : isInv c l m = true) : ∃ s, h.sv = some s ∧ s.aw.count c = 1 ∧ s.gr = false ∧ s.rcl = false ∧ h.owner = none := by
  have h1 := I.aw c
  have h2 := cnt_pos hm e
  rw [h1] at h2
  have hnd := I.awnd
  unfold Ho.aws at h2 hnd
  cases es : h.sv with
  | none => rw [es] at h2; simp at h2
  | some s =>
    rw [es] at h2 hnd
    dsimp only at h2 hnd
    have ne : s.aw ≠ [] := fun z => by rw [z] at h2; simp at h2
    have hle := List.nodup_iff_count.mp hnd c
    have g0 : s.gr = false := by
      cases eg : s.gr with
      | false => rfl
      | true => exact absurd (I.p2 s es eg).1 ne
    have r0 : s.rcl = false := by
      cases eg : s.rcl with
      | false => rfl
      | true => exact absurd (I.p3 s es eg).1 ne
    exact ⟨s, rfl, by omega, g0, r0, I.p5 s es g0 r0⟩
theorem HInv.rec_sv (I : HInv W n l h net) {m : Ms} (hm : m ∈ net) (e : isRec l m = true) : ∃ s, h.sv = some s ∧ s.rcl = true ∧ s.gr = false ∧ s.aw = [] ∧ h.owner = some m.core := by
  have h1 := I.rec_
  have h2 := cnt_pos hm e
  rw [h1] at h2
  unfold Ho.rcn at h2
  cases es : h.sv with
  | none => rw [es] at h2; simp at h2
  | some s =>
    rw [es] at h2
    dsimp only at h2
    have r1 : s.rcl = true := by
      cases eg : s.rcl with
      | true => rfl
      | false => rw [eg] at h2; simp at h2
    have g0 : s.gr = false := by
      cases eg : s.gr with
      | false => rfl
      | true => have := (I.p2 s es eg).2; rw [r1] at this; cases this
    exact ⟨s, rfl, r1, g0, (I.p3 s es r1).1, I.recO m hm e⟩
theorem HInv.gr_sv (I : HInv W n l h net) {m : Ms} (hm : m ∈ net) (e : isGr l m = true) : ∃ s, h.sv = some s ∧ s.gr = true ∧ s.aw = [] ∧ s.rcl = false := by
  have h1 := I.gr_
  have h2 := cnt_pos hm e
  rw [h1] at h2
  unfold Ho.grn at h2
  cases es : h.sv with
  | none => rw [es] at h2; simp at h2
  | some s =>
    rw [es] at h2
    dsimp only at h2
    have r1 : s.gr = true := by
      cases eg : s.gr with
      | true => rfl
      | false => rw [eg] at h2; simp at h2
    exact ⟨s, rfl, r1, I.p2 s es r1⟩
theorem HInv.no_rec (I : HInv W n l h net) (e : h.rcn = 0) : ∀ m ∈ net, isRec l m = true → False := fun m hm q => by
  have := cnt_pos hm q
  rw [I.rec_, e] at this
  omega
theorem HInv.no_gr (I : HInv W n l h net) (e : h.grn = 0) : ∀ m ∈ net, isGr l m = true → False := fun m hm q => by
  have := cnt_pos hm q
  rw [I.gr_, e] at this
  omega
theorem HInv.no_inv (I : HInv W n l h net) (e : h.aws = []) : ∀ c, ∀ m ∈ net, isInv c l m = true → False := fun c m hm q => by
  have := cnt_pos hm q
  rw [I.aw c, e] at this
  simp at this

/-! ### a cache receives -/
theorem tr_invalidate (H : HInv W n l h net) (I : CInv l h c C net) (hm : Ms.invalidate c l ∈ net) (g : Chg net [.invalidate c l] [.invalidated c l] net') :
    HInv W n l h net' ∧ CInv l h c ⟨C.lines.filter (fun x => x.line != l), C.req, C.lea⟩ net' := by
  obtain ⟨s, es, _, _, _, ho⟩ := H.inv_sv hm (c := c) (by simp [isInv])
  refine ⟨H.swap g (fun c' => by simp [isInv, List.countP_cons]) (by simp [isRec, List.countP_cons]) (by simp [isGr, List.countP_cons]) (fun m q e => by simp at q; subst q; simp [isRec] at e) (fun _ _ _ q => by simp at q), ?_⟩
  have e1 := g.cnt (isGet c l)
  have e2 := g.cnt (isGrant c l)
  have e3 := g.cnt (isLeave c l)
  simp [isGet, isGrant, isLeave, List.countP_cons] at e1 e2 e3
  refine ⟨?_, I.rq1, ?_, I.x, ?_, fun hw => ?_⟩
  · rw [e1, e2]; exact I.rq
  · rw [e3]; exact I.lv
  · have := I.y
    have z : nL l ⟨C.lines.filter (fun x => x.line != l), C.req, C.lea⟩ = 0 := cF_self Ln.line l C.lines
    have z2 : nV l ⟨C.lines.filter (fun x => x.line != l), C.req, C.lea⟩ = nV l C := rfl
    omega
  · rw [ho] at hw; cases hw
theorem tr_grant {st : Tag} {ws : List Int} (H : HInv W n l h net) (I : CInv l h c C net) (hm : Ms.grant c l st ws ∈ net) (g : Chg net [.grant c l st ws] [.received c l] net') :
    HInv W n l h net' ∧ CInv l h c ⟨C.lines.filter (fun x => x.line != l) ++ [⟨l, st, ws⟩], C.req.filter (fun x => x.line != l), C.lea⟩ net' := by
  obtain ⟨s, es, gr, aw0, rc0⟩ := H.gr_sv hm (by simp [isGr])
  refine ⟨H.swap g (fun c' => by simp [isInv, List.countP_cons]) (by simp [isRec, List.countP_cons]) (by simp [isGr, List.countP_cons]) (fun m q e => by simp at q; subst q; simp [isRec] at e) (fun _ _ _ q => by simp at q), ?_⟩
  have e1 := g.cnt (isGet c l)
  have e2 := g.cnt (isGrant c l)
  have e3 := g.cnt (isLeave c l)
  simp [isGet, isGrant, isLeave, List.countP_cons] at e1 e2 e3
  have p1 : 0 < net.countP (isGrant c l) := cnt_pos hm (by simp [isGrant])
  have rq := I.rq
  have rq1 := I.rq1
  have z1 : nR l ⟨C.lines.filter (fun x => x.line != l) ++ [⟨l, st, ws⟩], C.req.filter (fun x => x.line != l), C.lea⟩ = 0 := cF_self Rq.line l C.req
  have z2 : nV l ⟨C.lines.filter (fun x => x.line != l) ++ [⟨l, st, ws⟩], C.req.filter (fun x => x.line != l), C.lea⟩ = nV l C := rfl
  have z3 : nL l ⟨C.lines.filter (fun x => x.line != l) ++ [⟨l, st, ws⟩], C.req.filter (fun x => x.line != l), C.lea⟩ = 1 := by
    unfold nL
    rw [List.countP_append, cF_self Ln.line l C.lines]
    simp [List.countP_cons]
  have hV : nV l C = 0 := by
    rcases I.x with q | q
    · omega
    · exact q
  refine ⟨?_, by omega, by rw [e3, z2]; exact I.lv, .inl z1, by omega, fun hw => ?_⟩
  · rw [z1]; omega
  · rcases H.grO c st ws hm with ⟨_, q⟩ | q
    · exact .inr (.inr (.inl ⟨⟨l, st, ws⟩, by simp, rfl, q⟩))
    · rw [q] at hw; cases hw
theorem tr_confirm (H : HInv W n l h net) (I : CInv l h c C net) (hm : Ms.confirm c l ∈ net) (g : Chg net [.confirm c l] [] net') :
    HInv W n l h net' ∧ CInv l h c ⟨C.lines, C.req, C.lea.filter (fun x => x.line != l)⟩ net' := by
  refine ⟨H.swap g (fun c' => by simp [isInv, List.countP_cons]) (by simp [isRec, List.countP_cons]) (by simp [isGr, List.countP_cons]) (fun m q e => by simp at q) (fun _ _ _ q => by simp at q), ?_⟩
  have e1 := g.cnt (isGet c l)
  have e2 := g.cnt (isGrant c l)
  have e3 := g.cnt (isLeave c l)
  simp [isGet, isGrant, isLeave, List.countP_cons] at e1 e2 e3
  have y := I.y
  have lv := I.lv
  have z1 : nV l ⟨C.lines, C.req, C.lea.filter (fun x => x.line != l)⟩ = 0 := cF_self Lv.line l C.lea
  have z2 : nL l ⟨C.lines, C.req, C.lea.filter (fun x => x.line != l)⟩ = nL l C := rfl
  have p1 : 0 < net.countP (isLeave c l) := cnt_pos hm (by simp [isLeave])
  refine ⟨by rw [e1, e2]; exact I.rq, I.rq1, by rw [z1]; omega, .inr z1, by omega, fun hw => ?_⟩
  rcases I.own hw with ⟨ws, d, q⟩ | ⟨st, ws, q, r⟩ | q | ⟨ws, d, q, r⟩
  · rcases g.old _ q with q | q
    · exact .inl ⟨ws, d, q⟩
    · simp at q
  · rcases g.old _ q with q | q
    · exact .inr (.inl ⟨st, ws, q, r⟩)
    · simp at q
  · exact .inr (.inr (.inl q))
  · have e : Ms.giveUp c l ws d = Ms.confirm c l := one_of (p := isLeave c l) (by omega) r hm (by simp [isLeave]) (by simp [isLeave])
    cases e
/-- the cache that is recalled holds the line or is giving it up -/
theorem recall_ok {k : Bool} (H : HInv W n l h net) (I : CInv l h c C net) (hm : Ms.recall c l k ∈ net) : (∃ e, C.lines.find? (fun e => e.line == l) = some e ∧ e.st ≠ .shared) ∨ (C.lines.find? (fun e => e.line == l) = none ∧ ∃ ws d, C.lea.find? (fun e => e.line == l) = some ⟨l, some ws, d⟩ ∧ Lv.mk l (some ws) d ∈ C.lea) := by
  obtain ⟨s, es, rc, gr, aw0, ho⟩ := H.rec_sv hm (by simp [isRec])
  have ho : h.owner = some c := ho
  have y := I.y
  rcases I.own ho with ⟨ws, d, q⟩ | ⟨st, ws, q, r⟩ | ⟨e, q, r, t⟩ | ⟨ws, d, q, r⟩
  · have hr := H.rec_
    unfold Ho.rcn at hr
    rw [es] at hr
    dsimp only at hr
    rw [if_pos rc] at hr
    have e : Ms.returned c l ws d = Ms.recall c l k := one_of (p := isRec l) (by omega) q hm (by simp [isRec]) (by simp [isRec])
    cases e
  · obtain ⟨s', es', gr', _⟩ := H.gr_sv q (by simp [isGr])
    rw [es] at es'
    cases es'
    rw [gr] at gr'
    cases gr'
  · exact .inl ⟨e, find_of (by unfold nL at y; omega) q (by simp [r]), t⟩
  · have hp : 0 < C.lea.countP (fun e => e.line == l) := List.countP_pos_iff.mpr ⟨_, q, by simp⟩
    have hz : C.lines.countP (fun e => e.line == l) = 0 := by unfold nL nV at y; omega
    refine .inr ⟨?_, ws, d, find_of (by unfold nV at y; omega) q (by simp), q⟩
    rw [List.find?_eq_none]
    intro a ha e
    exact (List.countP_eq_zero.mp hz a ha) e
theorem tr_recall {k : Bool} {r : Ca × List Ms} (H : HInv W n l h net) (I : CInv l h c C net) (hm : Ms.recall c l k ∈ net) (hr : C.recv (.recall c l k) = some r) (g : Chg net [.recall c l k] r.2 net') :
    HInv W n l h net' ∧ CInv l h c r.1 net' := by
  obtain ⟨s, es, rc, gr, aw0, ho⟩ := H.rec_sv hm (by simp [isRec])
  have ho : h.owner = some c := ho
  have hms : ∃ ws d, r.2 = [.returned c l ws d] ∧ nR l r.1 = nR l C ∧ nV l r.1 = nV l C ∧ nL l r.1 ≤ nL l C := by
    unfold Ca.recv at hr
    dsimp only at hr
    split at hr
    · rename_i e he
      cases hr
      refine ⟨_, _, rfl, rfl, rfl, ?_⟩
      unfold nL
      dsimp only
      split
      · rw [List.countP_map]
        refine Nat.le_of_eq (List.countP_congr fun a _ => ?_)
        simp
        by_cases q : a.line = l <;> simp [q]
      · rw [cF_self Ln.line l C.lines]
        exact Nat.zero_le _
    · split at hr
      · rename_i e1 ln ws d he
        cases hr
        refine ⟨_, _, rfl, rfl, ?_, Nat.le_refl _⟩
        unfold nV
        dsimp only
        rw [List.countP_map]
        refine List.countP_congr fun a _ => ?_
        simp
        by_cases q : a.line = l <;> simp [q]
      · cases hr
  obtain ⟨ws, d, hms, nr, nv, nl⟩ := hms
  rw [hms] at g
  have e1 := g.cnt (isGet c l)
  have e2 := g.cnt (isGrant c l)
  have e3 := g.cnt (isLeave c l)
  simp [isGet, isGrant, isLeave, List.countP_cons] at e1 e2 e3
  refine ⟨H.swap g (fun c' => by simp [isInv, List.countP_cons]) (by simp [isRec, List.countP_cons]) (by simp [isGr, List.countP_cons]) (fun m q e => by simp at q; subst q; exact ho) (fun _ _ _ q => by simp at q), ?_⟩
  refine ⟨by rw [e1, e2, nr]; exact I.rq, by rw [nr]; exact I.rq1, by rw [e3, nv]; exact I.lv, by rw [nr, nv]; exact I.x, by have := I.y; omega, fun _ => .inl ⟨ws, d, g.add _ (by simp)⟩⟩

/-! ### actions -/
theorem tr_req {ex : Bool} (H : HInv W n l h net) (I : CInv l h c C net) (hq : C.req.find? (fun e => e.line == l) = none) (hv : C.lea.find? (fun e => e.line == l) = none) (g : Chg net [] [rqMs c l ex] net') :
    HInv W n l h net' ∧ CInv l h c ⟨C.lines, C.req ++ [⟨l, ex⟩], C.lea⟩ net' := by
  have r0 : nR l C = 0 := cnt_none hq
  have v0 : nV l C = 0 := cnt_none hv
  have rr : nR l ⟨C.lines, C.req ++ [⟨l, ex⟩], C.lea⟩ = 1 := by
    unfold nR at r0 ⊢
    rw [List.countP_append, r0]
    simp [List.countP_cons]
  have e1 := g.cnt (isGet c l)
  have e2 := g.cnt (isGrant c l)
  have e3 := g.cnt (isLeave c l)
  have k1 : [rqMs c l ex].countP (isGet c l) = 1 := by cases ex <;> simp [rqMs, isGet, List.countP_cons]
  have k2 : [rqMs c l ex].countP (isGrant c l) = 0 := by cases ex <;> simp [rqMs, isGrant, List.countP_cons]
  have k3 : [rqMs c l ex].countP (isLeave c l) = 0 := by cases ex <;> simp [rqMs, isLeave, List.countP_cons]
  simp only [List.countP_nil] at e1 e2 e3
  have rq := I.rq
  have lv := I.lv
  have y := I.y
  have z2 : nL l ⟨C.lines, C.req ++ [⟨l, ex⟩], C.lea⟩ = nL l C := rfl
  have z3 : nV l ⟨C.lines, C.req ++ [⟨l, ex⟩], C.lea⟩ = nV l C := rfl
  refine ⟨H.swap g (fun c' => by cases ex <;> simp [rqMs, isInv, List.countP_cons]) (by cases ex <;> simp [rqMs, isRec, List.countP_cons]) (by cases ex <;> simp [rqMs, isGr, List.countP_cons]) (fun m q e => by simp at q; subst q; cases ex <;> simp [rqMs, isRec] at e) (fun _ _ _ q => by cases ex <;> simp [rqMs] at q), ?_⟩
  refine ⟨by rw [rr]; omega, by omega, by omega, .inr (by omega), by omega, fun hw => ?_⟩
  rcases I.own hw with ⟨ws, d, q⟩ | ⟨st, ws, q, r⟩ | q | ⟨ws, d, q, r⟩
  · exact .inl ⟨ws, d, (g.old _ q).resolve_right (by simp)⟩
  · exact .inr (.inl ⟨st, ws, (g.old _ q).resolve_right (by simp), r⟩)
  · exact .inr (.inr (.inl q))
  · exact .inr (.inr (.inr ⟨ws, d, q, (g.old _ r).resolve_right (by simp)⟩))
theorem tr_evict {r : Ca × List Ms} (H : HInv W n l h net) (I : CInv l h c C net) (hr : C.giveUp c l = some r) (g : Chg net [] r.2 net') :
    HInv W n l h net' ∧ CInv l h c r.1 net' := by
  unfold Ca.giveUp at hr
  split at hr
  · cases hr
  · rename_i e he
    have hmem := List.mem_of_find?_eq_some he
    have hln : e.line = l := by simpa using List.find?_some he
    have pL : 0 < nL l C := List.countP_pos_iff.mpr ⟨e, hmem, by simp [hln]⟩
    have y := I.y
    have rq := I.rq
    have lv := I.lv
    split at hr
    · cases hr
    · rename_i hq
      have hq' : C.req.find? (fun e => e.line == l) = none := by
        cases z : C.req.find? (fun e => e.line == l) with
        | none => rfl
        | some v => rw [z] at hq; simp at hq
      have r0 : nR l C = 0 := cnt_none hq'
      split at hr
      · rename_i hsh
        cases hr
        have e1 := g.cnt (isGet c l)
        have e2 := g.cnt (isGrant c l)
        have e3 := g.cnt (isLeave c l)
        simp at e1 e2 e3
        have z1 : nL l ⟨C.lines.filter (fun x => x.line != l), C.req, C.lea⟩ = 0 := cF_self Ln.line l C.lines
        have z2 : nV l ⟨C.lines.filter (fun x => x.line != l), C.req, C.lea⟩ = nV l C := rfl
        refine ⟨H.swap g (fun c' => by simp) (by simp) (by simp) (fun m q e => by simp at q) (fun _ _ _ q => by simp at q), ?_⟩
        refine ⟨by rw [e1, e2]; exact rq, I.rq1, by rw [e3]; exact lv, .inl r0, by dsimp only; omega, fun hw => ?_⟩
        rcases I.own hw with ⟨ws, d, q⟩ | ⟨st, ws, q, r⟩ | ⟨e', q, r, t⟩ | ⟨ws, d, q, r⟩
        · exact .inl ⟨ws, d, (g.old _ q).resolve_right (by simp)⟩
        · exact .inr (.inl ⟨st, ws, (g.old _ q).resolve_right (by simp), r⟩)
        · have ee : e' = e := one_of (p := fun e => e.line == l) (by unfold nL at y; omega) q hmem (by simp [r]) (by simp [hln])
          rw [ee] at t
          exact absurd hsh t
        · have : 0 < nV l C := List.countP_pos_iff.mpr ⟨_, q, by simp⟩
          omega
      · rename_i hsh
        cases hr
        have e1 := g.cnt (isGet c l)
        have e2 := g.cnt (isGrant c l)
        have e3 := g.cnt (isLeave c l)
        simp [isGet, isGrant, isLeave, List.countP_cons] at e1 e2 e3
        have z1 : nL l ⟨C.lines.filter (fun x => x.line != l), C.req, C.lea ++ [⟨l, some e.ws, decide (e.st = .modified)⟩]⟩ = 0 := cF_self Ln.line l C.lines
        have z2 : nV l ⟨C.lines.filter (fun x => x.line != l), C.req, C.lea ++ [⟨l, some e.ws, decide (e.st = .modified)⟩]⟩ = nV l C + 1 := by
          unfold nV
          rw [List.countP_append]
          simp [List.countP_cons]
        refine ⟨H.swap g (fun c' => by simp [isInv, List.countP_cons]) (by simp [isRec, List.countP_cons]) (by simp [isGr, List.countP_cons]) (fun m q e => by simp at q; subst q; simp [isRec] at e) (fun _ _ _ q => by simp at q), ?_⟩
        refine ⟨by rw [e1, e2]; exact rq, I.rq1, by dsimp only; omega, .inl r0, by dsimp only; omega, fun hw => ?_⟩
        exact .inr (.inr (.inr ⟨e.ws, decide (e.st = .modified), by simp, g.add _ (by simp)⟩))
end
end DL

/-! P3: a home receives. -/
namespace DL
open PySem
section
variable {W : Nat → List Int → Prop} {n l c : Nat} {h : Ho} {net net' rm ms : List Ms}

/-- one core's view where the home changes and the messages are of its line -/
theorem cinv_home {h' : Ho} {c' : Nat} {C : Ca} (I : CInv l h c' C net) (g : Chg net rm ms net') (e1 : ms.countP (isGet c' l) + ms.countP (isGrant c' l) + h'.svn c' = rm.countP (isGet c' l) + rm.countP (isGrant c' l) + h.svn c') (e3 : ms.countP (isLeave c' l) = rm.countP (isLeave c' l))
    (own : h'.owner = some c' → (∃ ws d, Ms.returned c' l ws d ∈ net') ∨ (∃ st ws, Ms.grant c' l st ws ∈ net' ∧ st ≠ .shared) ∨ (∃ e ∈ C.lines, e.line = l ∧ e.st ≠ .shared) ∨ (∃ ws d, Lv.mk l (some ws) d ∈ C.lea ∧ Ms.giveUp c' l ws d ∈ net')) : CInv l h' c' C net' := by
  have a1 := g.cnt (isGet c' l)
  have a2 := g.cnt (isGrant c' l)
  have a3 := g.cnt (isLeave c' l)
  have rq := I.rq
  have lv := I.lv
  exact ⟨by omega, I.rq1, by omega, I.x, I.y, own⟩

/-! the grant, as a step of its own -/
theorem tr_grantIf (ex : Bool) (H : HInv W n l h net) :
    HInv W n l (h.grantIf ex l).1 (net ++ (h.grantIf ex l).2) ∧ (∀ (c : Nat) (C : Ca), CInv l h c C net → CInv l (h.grantIf ex l).1 c C (net ++ (h.grantIf ex l).2)) ∧ (∀ m ∈ (h.grantIf ex l).2, m.line = l ∧ m.core < n ∧ m.wok W) := by
  unfold Ho.grantIf
  cases es : h.sv with
  | none => exact ⟨by simpa using H, fun c C i => by simpa using i, fun m hm => by simp at hm⟩
  | some s =>
    dsimp only
    split
    · exact ⟨by simpa using H, fun c C i => by simpa using i, fun m hm => by simp at hm⟩
    · rename_i hno
      have gr : s.gr = false := by
        cases z : s.gr with
        | false => rfl
        | true => exact absurd (.inl z) hno
      have aw0 : s.aw = [] := Decidable.byContradiction fun z => hno (.inr (.inl z))
      have rc : s.rcl = false := by
        cases z : s.rcl with
        | false => rfl
        | true => exact absurd (.inr (.inr z)) hno
      obtain ⟨ws, ews, hwl⟩ := H.p4 s es rc
      have ho := H.p5 s es gr rc
      have aws0 : h.aws = [] := by unfold Ho.aws; rw [es]; exact aw0
      have rcn0 : h.rcn = 0 := by unfold Ho.rcn; rw [es]; dsimp only; rw [rc]; simp
      have grn0 : h.grn = 0 := by unfold Ho.grn; rw [es]; dsimp only; rw [gr]; simp
      rw [ews]
      dsimp only
      -- the new home: any owner and sharers that fit, the grant's state with them
      have key : ∀ (o' : Option Nat) (sh' : List Nat) (st : Tag), ((o' = some s.core ∧ st ≠ .shared) ∨ o' = none) → sh'.Nodup → (∀ c ∈ sh', c < n) →
          HInv W n l ⟨o', sh', some ⟨s.core, s.ex, s.aw, s.rcl, some ws, true⟩⟩ (net ++ [.grant s.core l st ws]) ∧
          (∀ (c : Nat) (C : Ca), CInv l h c C net → CInv l ⟨o', sh', some ⟨s.core, s.ex, s.aw, s.rcl, some ws, true⟩⟩ c C (net ++ [.grant s.core l st ws])) ∧
          (∀ m ∈ [Ms.grant s.core l st ws], m.line = l ∧ m.core < n ∧ m.wok W) := by
        intro o' sh' st hos hnd hlt
        refine ⟨⟨fun c' => ?_, ?_, ?_, ?_, ?_, ?_, ?_, ?_, fun m hm e => ?_, fun c' st' ws' hm => ?_, hnd, hlt, fun c' hc => ?_, fun s' e => ?_⟩, fun c' C I => ?_, fun m hm => ?_⟩
        · rw [List.countP_append, H.aw c', aws0]
          show _ = s.aw.count c'
          rw [aw0]
          simp [isInv, List.countP_cons]
        · show s.aw.Nodup
          rw [aw0]
          exact List.nodup_nil
        · rw [List.countP_append, H.rec_, rcn0]
          show _ = if s.rcl = true then 1 else 0
          rw [rc]
          simp [isRec, List.countP_cons]
        · rw [List.countP_append, H.gr_, grn0]
          show _ = if true = true then 1 else 0
          simp [isGr, List.countP_cons]
        · intro s' e _
          cases e
          exact ⟨aw0, rc⟩
        · intro s' e q
          cases e
          rw [rc] at q
          cases q
        · intro s' e _
          cases e
          exact ⟨ws, rfl, hwl⟩
        · intro s' e q
          cases e
          cases q
        · rcases List.mem_append.mp hm with q | q
          · exact (H.no_rec rcn0 m q e).elim
          · simp at q
            subst q
            simp [isRec] at e
        · rcases List.mem_append.mp hm with q | q
          · exact (H.no_gr grn0 _ q (by simp [isGr])).elim
          · simp at q
            obtain ⟨rfl, rfl, rfl⟩ := q
            rcases hos with q | q
            · exact .inl q
            · exact .inr q
        · rcases hos with ⟨q, _⟩ | q
          · have hc : o' = some c' := hc
            rw [q] at hc
            cases hc
            exact H.svlt s es
          · have hc : o' = some c' := hc
            rw [q] at hc
            cases hc
        · cases e
          exact H.svlt s es
        · refine cinv_home I (chg_add net _) ?_ (by simp [isLeave, List.countP_cons]) fun hw => ?_
          · have v1 : Ho.svn ⟨o', sh', some ⟨s.core, s.ex, s.aw, s.rcl, some ws, true⟩⟩ c' = 0 := by unfold Ho.svn; simp
            have v2 : h.svn c' = if s.core = c' then 1 else 0 := by unfold Ho.svn; rw [es]; dsimp only; rw [gr]; simp
            rw [v1, v2]
            simp [isGet, isGrant, List.countP_cons]
          · rcases hos with ⟨q, r⟩ | q
            · have hw : o' = some c' := hw
              rw [q] at hw
              cases hw
              exact .inr (.inl ⟨st, ws, by simp, r⟩)
            · have hw : o' = some c' := hw
              rw [q] at hw
              cases hw
        · simp at hm
          subst hm
          exact ⟨rfl, H.svlt s es, hwl⟩
      split
      · exact key (some s.core) [] .modified (.inl ⟨rfl, by decide⟩) List.nodup_nil (fun _ q => by cases q)
      · split
        · rename_i hx
          exact key (some s.core) h.sh .exclusive (.inl ⟨rfl, by decide⟩) H.shnd H.shlt
        · split
          · exact key h.owner h.sh .shared (.inr ho) H.shnd H.shlt
          · rename_i hx
            refine key h.owner (h.sh ++ [s.core]) .shared (.inr ho) ?_ fun c' hc => ?_
            · rw [List.nodup_append]
              refine ⟨H.shnd, by simp, fun a ha b hb => ?_⟩
              simp at hb
              subst hb
              exact fun z => hx (z ▸ ha)
            · rcases List.mem_append.mp hc with q | q
              · exact H.shlt c' q
              · simp at q
                rw [q]
                exact H.svlt s es

theorem tr_giveUp {ws : List Int} {d : Bool} (H : HInv W n l h net) (hs : h.sv = none) (g : Chg net [.giveUp c l ws d] [.confirm c l] net') (o' : Option Nat) (ho : o' = if h.owner = some c then none else h.owner) :
    HInv W n l ⟨o', h.sh, none⟩ net' ∧ (∀ (c' : Nat) (C : Ca), CInv l h c' C net → CInv l ⟨o', h.sh, none⟩ c' C net') := by
  have aws0 : h.aws = [] := by unfold Ho.aws; rw [hs]
  have rcn0 : h.rcn = 0 := by unfold Ho.rcn; rw [hs]
  have grn0 : h.grn = 0 := by unfold Ho.grn; rw [hs]
  have hlt : ∀ c', o' = some c' → h.owner = some c' ∧ c' ≠ c := fun c' q => by
    rw [ho] at q
    split at q
    · cases q
    · rename_i hn
      exact ⟨q, fun z => hn (z ▸ q)⟩
  refine ⟨⟨fun c' => ?_, List.nodup_nil, ?_, ?_, (fun s q => by cases q), (fun s q => by cases q), (fun s q => by cases q), (fun s q => by cases q), fun m hm e => ?_, fun c' st' ws' hm => ?_, H.shnd, H.shlt, fun c' hc => H.ownlt c' (hlt c' hc).1, (fun s q => by cases q)⟩, fun c' C I => ?_⟩
  · have := g.cnt (isInv c' l)
    have q := H.aw c'
    rw [aws0, List.count_nil] at q
    have z1 : [Ms.giveUp c l ws d].countP (isInv c' l) = 0 := rfl
    have z2 : [Ms.confirm c l].countP (isInv c' l) = 0 := rfl
    show _ = ([] : List Nat).count c'
    rw [List.count_nil]
    omega
  · have := g.cnt (isRec l)
    have q := H.rec_
    have z1 : [Ms.giveUp c l ws d].countP (isRec l) = 0 := rfl
    have z2 : [Ms.confirm c l].countP (isRec l) = 0 := rfl
    show _ = 0
    omega
  · have := g.cnt (isGr l)
    have q := H.gr_
    have z1 : [Ms.giveUp c l ws d].countP (isGr l) = 0 := rfl
    have z2 : [Ms.confirm c l].countP (isGr l) = 0 := rfl
    show _ = 0
    omega
  · rcases g.new m hm with q | q
    · exact (H.no_rec rcn0 m q e).elim
    · simp at q
      subst q
      simp [isRec] at e
  · rcases g.new _ hm with q | q
    · exact (H.no_gr grn0 _ q (by simp [isGr])).elim
    · simp at q
  · refine cinv_home I g ?_ (by simp [isLeave, List.countP_cons]) fun hw => ?_
    · have v1 : h.svn c' = 0 := by unfold Ho.svn; rw [hs]
      have v2 : Ho.svn ⟨o', h.sh, none⟩ c' = 0 := rfl
      simp [isGet, isGrant, List.countP_cons, v1, v2]
    · obtain ⟨h1, h2⟩ := hlt c' hw
      rcases I.own h1 with ⟨ws', d', q⟩ | ⟨st', ws', q, r⟩ | q | ⟨ws', d', q, r⟩
      · exact .inl ⟨ws', d', (g.old _ q).resolve_right (by simp)⟩
      · exact .inr (.inl ⟨st', ws', (g.old _ q).resolve_right (by simp), r⟩)
      · exact .inr (.inr (.inl q))
      · exact .inr (.inr (.inr ⟨ws', d', q, (g.old _ r).resolve_right (by simp; intro z; exact absurd z h2)⟩))

theorem tr_received (H : HInv W n l h net) (hm : Ms.received c l ∈ net) (g : Chg net [.received c l] [] net') :
    HInv W n l ⟨h.owner, h.sh, none⟩ net' ∧ (∀ (c' : Nat) (C : Ca), CInv l h c' C net → CInv l ⟨h.owner, h.sh, none⟩ c' C net') := by
  obtain ⟨s, es, gr, aw0, rc⟩ := H.gr_sv hm (by simp [isGr])
  have aws0 : h.aws = [] := by unfold Ho.aws; rw [es]; exact aw0
  have rcn0 : h.rcn = 0 := by unfold Ho.rcn; rw [es]; dsimp only; rw [rc]; simp
  have grn1 : h.grn = 1 := by unfold Ho.grn; rw [es]; dsimp only; rw [gr]; simp
  have gr0 : net'.countP (isGr l) = 0 := by
    have := g.cnt (isGr l)
    have q := H.gr_
    simp [isGr, List.countP_cons] at this
    omega
  refine ⟨⟨fun c' => ?_, List.nodup_nil, ?_, gr0, (fun s q => by cases q), (fun s q => by cases q), (fun s q => by cases q), (fun s q => by cases q), fun m hm e => ?_, fun c' st' ws' hm => ?_, H.shnd, H.shlt, H.ownlt, (fun s q => by cases q)⟩, fun c' C I => ?_⟩
  · have := g.cnt (isInv c' l)
    have q := H.aw c'
    rw [aws0, List.count_nil] at q
    have z1 : [Ms.received c l].countP (isInv c' l) = 0 := rfl
    rw [List.countP_nil] at this
    show _ = ([] : List Nat).count c'
    rw [List.count_nil]
    omega
  · have := g.cnt (isRec l)
    have q := H.rec_
    have z1 : [Ms.received c l].countP (isRec l) = 0 := rfl
    rw [List.countP_nil] at this
    show _ = 0
    omega
  · rcases g.new m hm with q | q
    · exact (H.no_rec rcn0 m q e).elim
    · simp at q
  · have := cnt_pos hm (p := isGr l) (by simp [isGr])
    omega
  · refine cinv_home I g ?_ (by simp [isLeave, List.countP_cons]) fun hw => ?_
    · have v1 : h.svn c' = 0 := by unfold Ho.svn; rw [es]; dsimp only; rw [gr]; simp
      have v2 : Ho.svn ⟨h.owner, h.sh, none⟩ c' = 0 := rfl
      simp [isGet, isGrant, List.countP_cons, v1, v2]
    · rcases I.own hw with ⟨ws', d', q⟩ | ⟨st', ws', q, r⟩ | q | ⟨ws', d', q, r⟩
      · exact .inl ⟨ws', d', (g.old _ q).resolve_right (by simp)⟩
      · exact .inr (.inl ⟨st', ws', (g.old _ q).resolve_right (by simp), r⟩)
      · exact .inr (.inr (.inl q))
      · exact .inr (.inr (.inr ⟨ws', d', q, (g.old _ r).resolve_right (by simp)⟩))

theorem count_filter_ne (a b : Nat) (xs : List Nat) : (xs.filter fun o => o != a).count b = if b = a then 0 else xs.count b := by
  split
  · rename_i e
    subst e
    rw [List.count_eq_zero]
    intro z
    have := (List.mem_filter.mp z).2
    simp at this
  · rename_i e
    rw [List.count_filter]
    simp [e]
theorem tr_invalidated {s : Sv} (H : HInv W n l h net) (hm : Ms.invalidated c l ∈ net) (es : h.sv = some s) (g : Chg net [.invalidated c l] [] net') :
    HInv W n l ⟨h.owner, h.sh.filter (fun o => o != c), some ⟨s.core, s.ex, s.aw.filter (fun o => o != c), s.rcl, s.ws, s.gr⟩⟩ net' ∧
    (∀ (c' : Nat) (C : Ca), CInv l h c' C net → CInv l ⟨h.owner, h.sh.filter (fun o => o != c), some ⟨s.core, s.ex, s.aw.filter (fun o => o != c), s.rcl, s.ws, s.gr⟩⟩ c' C net') := by
  obtain ⟨s', es', aw1, gr, rc, ho⟩ := H.inv_sv hm (c := c) (by simp [isInv])
  rw [es] at es'
  cases es'
  have nd : s.aw.Nodup := by have := H.awnd; unfold Ho.aws at this; rw [es] at this; exact this
  refine ⟨⟨fun c' => ?_, nd.filter _, ?_, ?_, ?_, ?_, ?_, fun _ _ _ _ => ho, fun m hm e => ?_, fun c' st' ws' hm => ?_, H.shnd.filter _, fun c' hc => H.shlt c' (List.mem_filter.mp hc).1, H.ownlt, fun s' e => ?_⟩, fun c' C I => ?_⟩
  · have := g.cnt (isInv c' l)
    have q := H.aw c'
    unfold Ho.aws at q
    rw [es] at q
    dsimp only at q
    show _ = (s.aw.filter fun o => o != c).count c'
    rw [count_filter_ne]
    by_cases e : c' = c
    · subst e
      rw [if_pos rfl]
      have z1 : [Ms.invalidated c' l].countP (isInv c' l) = 1 := by simp [isInv, List.countP_cons]
      rw [List.countP_nil] at this
      omega
    · rw [if_neg e]
      have e' : ¬ c = c' := fun z => e z.symm
      have z1 : [Ms.invalidated c l].countP (isInv c' l) = 0 := by simp [isInv, List.countP_cons, e']
      rw [List.countP_nil] at this
      omega
  · have := g.cnt (isRec l)
    have q := H.rec_
    unfold Ho.rcn at q
    rw [es] at q
    simp [isRec, List.countP_cons] at this
    exact this.trans q
  · have := g.cnt (isGr l)
    have q := H.gr_
    unfold Ho.grn at q
    rw [es] at q
    simp [isGr, List.countP_cons] at this
    exact this.trans q
  · intro s' e q
    cases e
    rw [gr] at q
    cases q
  · intro s' e q
    cases e
    rw [rc] at q
    cases q
  · intro s' e q
    cases e
    exact H.p4 s es rc
  · rcases g.new m hm with q | q
    · exact H.recO m q e
    · simp at q
  · rcases g.new _ hm with q | q
    · exact H.grO c' st' ws' q
    · simp at q
  · cases e
    exact H.svlt s es
  · refine cinv_home I g ?_ (by simp [isLeave, List.countP_cons]) fun hw => ?_
    · have v1 : h.svn c' = if s.core = c' ∧ s.gr = false then 1 else 0 := by unfold Ho.svn; rw [es]
      have v2 : Ho.svn ⟨h.owner, h.sh.filter (fun o => o != c), some ⟨s.core, s.ex, s.aw.filter (fun o => o != c), s.rcl, s.ws, s.gr⟩⟩ c' = if s.core = c' ∧ s.gr = false then 1 else 0 := rfl
      rw [v1, v2]
      simp [isGet, isGrant, List.countP_cons]
    · rw [ho] at hw
      cases hw
theorem tr_returned {s : Sv} {ws : List Int} {d : Bool} (H : HInv W n l h net) (hm : Ms.returned c l ws d ∈ net) (es : h.sv = some s) (hc : c < n) (hw : W l ws) (g : Chg net [.returned c l ws d] [] net') :
    HInv W n l ⟨none, if s.ex then [] else [c], some ⟨s.core, s.ex, s.aw, false, some ws, s.gr⟩⟩ net' ∧
    (∀ (c' : Nat) (C : Ca), CInv l h c' C net → CInv l ⟨none, if s.ex then [] else [c], some ⟨s.core, s.ex, s.aw, false, some ws, s.gr⟩⟩ c' C net') := by
  obtain ⟨s', es', rc, gr, aw0, ho⟩ := H.rec_sv hm (by simp [isRec])
  rw [es] at es'
  cases es'
  have aws0 : h.aws = [] := by unfold Ho.aws; rw [es]; exact aw0
  have rcn1 : h.rcn = 1 := by unfold Ho.rcn; rw [es]; dsimp only; rw [rc]; simp
  have grn0 : h.grn = 0 := by unfold Ho.grn; rw [es]; dsimp only; rw [gr]; simp
  have rec0 : net'.countP (isRec l) = 0 := by
    have := g.cnt (isRec l)
    have q := H.rec_
    simp [isRec, List.countP_cons] at this
    omega
  refine ⟨⟨fun c' => ?_, ?_, ?_, ?_, ?_, ?_, ?_, fun _ _ _ _ => rfl, fun m hm e => ?_, fun c' st' ws' hm => .inr rfl, ?_, fun c' hc' => ?_, (fun c' q => by cases q), fun s' e => ?_⟩, fun c' C I => ?_⟩
  · have := g.cnt (isInv c' l)
    have q := H.aw c'
    rw [aws0, List.count_nil] at q
    show _ = s.aw.count c'
    rw [aw0, List.count_nil]
    have z1 : [Ms.returned c l ws d].countP (isInv c' l) = 0 := rfl
    rw [List.countP_nil] at this
    omega
  · show s.aw.Nodup
    rw [aw0]
    exact List.nodup_nil
  · rw [rec0]
    rfl
  · have := g.cnt (isGr l)
    have q := H.gr_
    unfold Ho.grn at q
    rw [es] at q
    simp [isGr, List.countP_cons] at this
    exact this.trans q
  · intro s' e q
    cases e
    rw [gr] at q
    cases q
  · intro s' e q
    cases e
    cases q
  · intro s' e q
    cases e
    exact ⟨ws, rfl, hw⟩
  · have := cnt_pos hm e
    omega
  · split <;> simp
  · split at hc'
    · cases hc'
    · simp at hc'
      rw [hc']
      exact hc
  · cases e
    exact H.svlt s es
  · refine cinv_home I g ?_ (by simp [isLeave, List.countP_cons]) fun hw => ?_
    · have v1 : h.svn c' = if s.core = c' ∧ s.gr = false then 1 else 0 := by unfold Ho.svn; rw [es]
      have v2 : Ho.svn ⟨none, if s.ex then [] else [c], some ⟨s.core, s.ex, s.aw, false, some ws, s.gr⟩⟩ c' = if s.core = c' ∧ s.gr = false then 1 else 0 := rfl
      rw [v1, v2]
      simp [isGet, isGrant, List.countP_cons]
    · cases hw

theorem cnt_inval (l c' : Nat) : ∀ xs : List Nat, (xs.map fun c => Ms.invalidate c l).countP (isInv c' l) = xs.count c'
  | [] => rfl
  | x :: xs => by
    rw [List.map_cons, List.countP_cons, cnt_inval l c' xs, List.count_cons]
    simp [isInv]
theorem tr_begun {ex : Bool} {words : List Int} (H : HInv W n l h net) (hs : h.sv = none) (hc : c < n) (hw : W l words) (g : Chg net [rqMs c l ex] (h.begun words c l ex).2 net') :
    HInv W n l (h.begun words c l ex).1 net' ∧ (∀ (c' : Nat) (C : Ca), CInv l h c' C net → CInv l (h.begun words c l ex).1 c' C net') ∧ (∀ m ∈ (h.begun words c l ex).2, m.line = l ∧ m.core < n ∧ m.wok W) := by
  have aws0 : h.aws = [] := by unfold Ho.aws; rw [hs]
  have rcn0 : h.rcn = 0 := by unfold Ho.rcn; rw [hs]
  have grn0 : h.grn = 0 := by unfold Ho.grn; rw [hs]
  have v1 : ∀ c', h.svn c' = 0 := fun c' => by unfold Ho.svn; rw [hs]
  have k1 : ∀ c', [rqMs c l ex].countP (isGet c' l) = if c = c' then 1 else 0 := fun c' => by cases ex <;> simp [rqMs, isGet, List.countP_cons]
  have k2 : ∀ c', [rqMs c l ex].countP (isGrant c' l) = 0 := fun c' => by cases ex <;> simp [rqMs, isGrant, List.countP_cons]
  have k3 : ∀ c', [rqMs c l ex].countP (isLeave c' l) = 0 := fun c' => by cases ex <;> simp [rqMs, isLeave, List.countP_cons]
  have k4 : ∀ c', [rqMs c l ex].countP (isInv c' l) = 0 := fun c' => by cases ex <;> simp [rqMs, isInv, List.countP_cons]
  have k5 : [rqMs c l ex].countP (isRec l) = 0 := by cases ex <;> simp [rqMs, isRec, List.countP_cons]
  have k6 : [rqMs c l ex].countP (isGr l) = 0 := by cases ex <;> simp [rqMs, isGr, List.countP_cons]
  have kn : ∀ x ∈ [rqMs c l ex], isRec l x = false ∧ isLeave x.core l x = false ∧ isGr l x = false := fun x hx => by
    simp at hx
    subst hx
    cases ex <;> simp [rqMs, isRec, isLeave, isGr]
  have keepR : ∀ {x : Ms}, x ∈ net → (isRec l x = true ∨ isGr l x = true ∨ isLeave x.core l x = true) → x ∈ net' := fun {x} hx q => by
    rcases g.old x hx with z | z
    · exact z
    · obtain ⟨a, b, d⟩ := kn x z
      rw [a, b, d] at q
      simp at q
  cases eo : h.owner with
  | some o =>
    have eb : h.begun words c l ex = (⟨some o, h.sh, some ⟨c, ex, [], true, none, false⟩⟩, [.recall o l (!ex)]) := by unfold Ho.begun; rw [eo]
    rw [eb] at g ⊢
    dsimp only at g ⊢
    refine ⟨⟨fun c' => ?_, List.nodup_nil, ?_, ?_, ?_, ?_, ?_, ?_, fun m hm e => ?_, fun c' st' ws' hm => ?_, H.shnd, H.shlt, fun c' q => ?_, fun s' e => ?_⟩, fun c' C I => ?_, fun m hm => ?_⟩
    · have := g.cnt (isInv c' l)
      have q := H.aw c'
      rw [aws0, List.count_nil] at q
      rw [k4] at this
      show _ = ([] : List Nat).count c'
      rw [List.count_nil]
      have z1 : [Ms.recall o l (!ex)].countP (isInv c' l) = 0 := rfl
      omega
    · have := g.cnt (isRec l)
      have q := H.rec_
      rw [k5] at this
      simp [isRec, List.countP_cons] at this
      show _ = 1
      omega
    · have := g.cnt (isGr l)
      have q := H.gr_
      rw [k6] at this
      simp [isGr, List.countP_cons] at this
      show _ = 0
      omega
    · intro s' e q
      cases e
      cases q
    · intro s' e q
      cases e
      exact ⟨rfl, by simp, rfl⟩
    · intro s' e q
      cases e
      cases q
    · intro s' e _ q
      cases e
      cases q
    · rcases g.new m hm with q | q
      · exact (H.no_rec rcn0 m q e).elim
      · simp at q
        subst q
        rfl
    · rcases g.new _ hm with q | q
      · exact (H.no_gr grn0 _ q (by simp [isGr])).elim
      · simp at q
    · cases q
      exact H.ownlt _ eo
    · cases e
      exact hc
    · refine cinv_home I g ?_ ?_ fun hw => ?_
      · have v2 : Ho.svn ⟨some o, h.sh, some ⟨c, ex, [], true, none, false⟩⟩ c' = if c = c' then 1 else 0 := by unfold Ho.svn; simp
        rw [v1, v2, k1, k2]
        simp [isGet, isGrant, List.countP_cons]
      · rw [k3]
        simp [isLeave, List.countP_cons]
      · have hw' : h.owner = some c' := by rw [eo]; exact hw
        rcases I.own hw' with ⟨ws', d', q⟩ | ⟨st', ws', q, r⟩ | q | ⟨ws', d', q, r⟩
        · exact .inl ⟨ws', d', keepR q (by simp [isRec])⟩
        · exact .inr (.inl ⟨st', ws', keepR q (by simp [isGr]), r⟩)
        · exact .inr (.inr (.inl q))
        · exact .inr (.inr (.inr ⟨ws', d', q, keepR r (by simp [isLeave, Ms.core])⟩))
    · simp at hm
      subst hm
      exact ⟨rfl, H.ownlt _ eo, trivial⟩
  | none =>
    have eb : h.begun words c l ex = (⟨none, h.sh, some ⟨c, ex, if ex then h.sh.filter (fun o => o != c) else [], false, some words, false⟩⟩, (if ex then h.sh.filter (fun o => o != c) else []).map fun c => .invalidate c l) := by unfold Ho.begun; rw [eo]
    rw [eb] at g ⊢
    dsimp only at g ⊢
    have nd : (if ex then h.sh.filter (fun o => o != c) else []).Nodup := by
      split
      · exact H.shnd.filter _
      · exact List.nodup_nil
    have lt : ∀ o ∈ (if ex then h.sh.filter (fun o => o != c) else []), o < n := fun o ho => by
      split at ho
      · exact H.shlt o (List.mem_filter.mp ho).1
      · cases ho
    generalize (if ex then h.sh.filter (fun o => o != c) else []) = A at *
    have z : ∀ p : Ms → Bool, (∀ c, p (.invalidate c l) = false) → (A.map fun c => Ms.invalidate c l).countP p = 0 := fun p hp => cnt0 fun x hx e => by
      obtain ⟨o, _, rfl⟩ := List.mem_map.mp hx
      rw [hp] at e
      cases e
    refine ⟨⟨fun c' => ?_, nd, ?_, ?_, ?_, ?_, ?_, fun _ _ _ _ => rfl, fun m hm e => ?_, fun c' st' ws' hm => .inr rfl, H.shnd, H.shlt, (fun c' q => by cases q), fun s' e => ?_⟩, fun c' C I => ?_, fun m hm => ?_⟩
    · have := g.cnt (isInv c' l)
      have q := H.aw c'
      rw [aws0, List.count_nil] at q
      rw [k4, cnt_inval] at this
      show _ = A.count c'
      omega
    · have := g.cnt (isRec l)
      have q := H.rec_
      rw [k5, z _ (fun _ => rfl)] at this
      show _ = 0
      omega
    · have := g.cnt (isGr l)
      have q := H.gr_
      rw [k6, z _ (fun _ => rfl)] at this
      show _ = 0
      omega
    · intro s' e q
      cases e
      cases q
    · intro s' e q
      cases e
      cases q
    · intro s' e q
      cases e
      exact ⟨words, rfl, hw⟩
    · rcases g.new m hm with q | q
      · exact (H.no_rec rcn0 m q e).elim
      · obtain ⟨o, _, rfl⟩ := List.mem_map.mp q
        cases e
    · cases e
      exact hc
    · refine cinv_home I g ?_ ?_ (fun hw => by cases hw)
      · have v2 : Ho.svn ⟨none, h.sh, some ⟨c, ex, A, false, some words, false⟩⟩ c' = if c = c' then 1 else 0 := by unfold Ho.svn; simp
        rw [v1, v2, k1, k2, z _ (fun _ => rfl), z _ (fun _ => rfl)]
        omega
      · rw [k3, z _ (fun _ => rfl)]
    · obtain ⟨o, ho, rfl⟩ := List.mem_map.mp hm
      exact ⟨rfl, lt o ho, trivial⟩
end
end DL

/-! P4: the invariant of the whole memory system; each step keeps it, each delivery that can be made is made. -/
namespace DL
open PySem

theorem nodup_lt : ∀ (n : Nat) {xs : List Nat}, xs.Nodup → (∀ x ∈ xs, x < n) → xs.length ≤ n
  | 0, xs, _, h => by
    cases xs with
    | nil => exact Nat.le_refl _
    | cons x xs => exact absurd (h x List.mem_cons_self) (Nat.not_lt_zero x)
  | n + 1, xs, nd, h => by
    by_cases hn : n ∈ xs
    · have ih := nodup_lt n (nd.erase n) fun x hx => by
        have h1 := h x (List.mem_of_mem_erase hx)
        have h2 : x ≠ n := ((nd.mem_erase_iff).mp hx).1
        omega
      rw [List.length_erase_of_mem hn] at ih
      omega
    · have ih := nodup_lt n nd fun x hx => by
        have h1 := h x hx
        have h2 : x ≠ n := fun e => hn (e ▸ hx)
        omega
      omega
theorem nodup_lt_ne {n c : Nat} {xs : List Nat} (hc : c < n) (nd : xs.Nodup) (h : ∀ x ∈ xs, x < n) (hn : c ∉ xs) : xs.length + 1 ≤ n := by
  have := nodup_lt n (xs := c :: xs) (List.nodup_cons.mpr ⟨hn, nd⟩) fun x hx => by
    rcases List.mem_cons.mp hx with rfl | hx
    · exact hc
    · exact h x hx
  simpa using this

def isReq : Ms → Bool
  | .getS .. | .getM .. => true
  | _ => false
def wl (cf : Cf) (M l : Nat) : Nat := min cf.lw (M - l * cf.lw)

/-- what a line's words are -/
def WP (cf : Cf) (M l : Nat) (ws : List Int) : Prop := l < manyOf M cf.lw ∧ ws.length = wl cf M l ∧ ∀ x ∈ ws, 0 ≤ x ∧ x < 65536
def Bd (xs : List Int) : Prop := ∀ x ∈ xs, 0 ≤ x ∧ x < 65536
structure Inv (cf : Cf) (M n k : Nat) (s : Sy) : Prop where
  nca : s.ca.length = n
  nho : s.ho.length = manyOf M cf.lw
  nmem : s.mem.length = M
  ms : ∀ m ∈ s.net, m.core < n ∧ m.line < s.ho.length ∧ m.wok (WP cf M)
  wL : ∀ c ∈ s.ca, ∀ e ∈ c.lines, WP cf M e.line e.ws
  wV : ∀ c ∈ s.ca, ∀ e ∈ c.lea, ∀ ws, e.ws = some ws → WP cf M e.line ws
  wQ : ∀ c ∈ s.ca, (∀ e ∈ c.req, e.line < manyOf M cf.lw) ∧ (∀ e ∈ c.lea, e.line < manyOf M cf.lw)
  bm : Bd s.mem
  hi : ∀ l h, s.ho[l]? = some h → HInv (WP cf M) n l h s.net
  ci : ∀ l h c C, s.ho[l]? = some h → s.ca[c]? = some C → CInv l h c C s.net
  sz : ∀ c ∈ s.ca, c.lines.length ≤ k ∧ c.req.length ≤ k ∧ c.lea.length ≤ k
  sn : 2 * s.net.length + s.net.countP isReq ≤ 3 * k

/-- the sizes of the world -/
structure Wd (cf : Cf) (M n : Nat) : Prop where
  lw0 : 0 < cf.lw
  lw1 : cf.lw ≤ 16
  sets : 0 < cf.sets
  M1 : M ≤ 16
  n1 : n ≤ 4
theorem manyOf_le {M lw : Nat} (h : 0 < lw) : manyOf M lw ≤ M := by
  unfold manyOf
  rw [Nat.div_le_iff_le_mul_add_pred h]
  have : M ≤ lw * M := Nat.le_mul_of_pos_left M h
  omega
theorem many_lt {M lw l : Nat} (h : 0 < lw) (hl : l < manyOf M lw) : l * lw < M := by
  unfold manyOf at hl
  rw [Nat.lt_div_iff_mul_lt h] at hl
  have := Nat.mul_comm l lw
  omega

theorem Inv.len {cf : Cf} {M n k : Nat} {s : Sy} (I : Inv cf M n k s) : s.net.length ≤ 3 * k / 2 := by
  have := I.sn
  omega
theorem HInv.aw_len {W : Nat → List Int → Prop} {n l : Nat} {h : Ho} {net : List Ms} (H : HInv W n l h net) (hms : ∀ m ∈ net, m.core < n) : h.aws.length ≤ n := by
  refine nodup_lt n H.awnd fun x hx => ?_
  have h1 : 0 < h.aws.count x := List.count_pos_iff.mpr hx
  rw [← H.aw x] at h1
  obtain ⟨m, hm, e⟩ := List.countP_pos_iff.mp h1
  have := hms m hm
  rw [(isInv_at e).2] at this
  exact this
theorem Inv.sm {cf : Cf} {M n k : Nat} {s : Sy} (w : Wd cf M n) (I : Inv cf M n k s) (hk : k ≤ 40) : s.Sm := by
  have hl := I.len
  refine ⟨by rw [I.nca]; have := w.n1; omega, by rw [I.nho]; have := manyOf_le (M := M) w.lw0; have := w.M1; omega, by rw [I.nmem]; have := w.M1; omega, by omega, fun c hc => ?_, fun h hh => ?_, fun m hm => ?_⟩
  · obtain ⟨a, b, d⟩ := I.sz c hc
    exact ⟨by omega, by omega, by omega⟩
  · obtain ⟨l, hl⟩ := List.getElem?_of_mem hh
    have H := I.hi l h hl
    have h1 := nodup_lt n H.shnd H.shlt
    have h2 := H.aw_len fun m hm => (I.ms m hm).1
    have := w.n1
    refine ⟨by omega, fun v e => ?_⟩
    unfold Ho.aws at h2
    rw [e] at h2
    dsimp only at h2
    omega
  · obtain ⟨a, b, d⟩ := I.ms m hm
    refine ⟨?_, b⟩
    have hw : ∀ l, wl cf M l ≤ 16 := fun l => by unfold wl; have := w.lw1; omega
    cases m with
    | giveUp c l ws d' => show ws.length ≤ _; have := hw l; have d : WP _ _ _ _ := d; have := d.2.1; omega
    | returned c l ws d' => show ws.length ≤ _; have := hw l; have d : WP _ _ _ _ := d; have := d.2.1; omega
    | grant c l st ws => show ws.length ≤ _; have := hw l; have d : WP _ _ _ _ := d; have := d.2.1; omega
    | _ => exact Nat.zero_le _

/-! ### the start -/
theorem inv_start {cf : Cf} {n : Nat} {mem : List Int} (w : Wd cf mem.length n) (hb : Bd mem) : Inv cf mem.length n 0 (Sy.start cf n mem) := by
  have hh : ∀ l h, (Sy.start cf n mem).ho[l]? = some h → h = ho0 := fun l h e => by
    have := List.mem_of_getElem? e
    exact (List.mem_replicate.mp this).2
  have hc : ∀ c, c ∈ (Sy.start cf n mem).ca → c = ca0 := fun c e => (List.mem_replicate.mp e).2
  refine ⟨List.length_replicate, List.length_replicate, rfl, (fun m hm => by cases hm), fun c h e he => ?_, fun c h e he => ?_, fun c h => ⟨fun e he => ?_, fun e he => ?_⟩, hb, fun l h e => ?_, fun l h c C e1 e2 => ?_, fun c h => ?_, Nat.le_refl _⟩
  · rw [hc c h] at he; cases he
  · rw [hc c h] at he; cases he
  · rw [hc c h] at he; cases he
  · rw [hc c h] at he; cases he
  · rw [hh l h e]
    exact ⟨fun c => rfl, List.nodup_nil, rfl, rfl, (fun s q => by cases q), (fun s q => by cases q), (fun s q => by cases q), (fun s q => by cases q), (fun m q => by cases q), (fun _ _ _ q => by cases q), List.nodup_nil, (fun _ q => by cases q), (fun _ q => by cases q), (fun _ q => by cases q)⟩
  · rw [hh l h e1, hc C (List.mem_of_getElem? e2)]
    exact ⟨rfl, Nat.zero_le _, rfl, .inl rfl, Nat.zero_le _, (fun q => by cases q)⟩
  · rw [hc c h]
    exact ⟨Nat.le_refl _, Nat.le_refl _, Nat.le_refl _⟩

/-! ### one cache changes -/
theorem cache_step {cf : Cf} {M n k : Nat} {s : Sy} {core l : Nat} {C C' : Ca} {rm ms net' : List Ms} (I : Inv cf M n k s) (hC : s.ca[core]? = some C) (hl : l < s.ho.length) (g : Chg s.net rm ms net')
    (h1 : ∀ x ∈ rm, x.line = l ∧ x.core = core) (h2 : ∀ x ∈ ms, x.line = l ∧ x.core = core ∧ x.wok (WP cf M))
    (hfr : ∀ l', l' ≠ l → nL l' C' = nL l' C ∧ nR l' C' = nR l' C ∧ nV l' C' = nV l' C ∧ (∀ e ∈ C.lines, e.line = l' → e ∈ C'.lines) ∧ (∀ e ∈ C.lea, e.line = l' → e ∈ C'.lea))
    (htr : ∀ h, s.ho[l]? = some h → HInv (WP cf M) n l h s.net → CInv l h core C s.net → HInv (WP cf M) n l h net' ∧ CInv l h core C' net')
    (w1 : ∀ e ∈ C'.lines, WP cf M e.line e.ws) (w2 : ∀ e ∈ C'.lea, ∀ ws, e.ws = some ws → WP cf M e.line ws)
    (w3 : (∀ e ∈ C'.req, e.line < manyOf M cf.lw) ∧ (∀ e ∈ C'.lea, e.line < manyOf M cf.lw))
    (z : C'.lines.length ≤ C.lines.length + 1 ∧ C'.req.length ≤ C.req.length + 1 ∧ C'.lea.length ≤ C.lea.length + 1) (zn : 2 * ms.length + ms.countP isReq ≤ 2 * rm.length + rm.countP isReq + 3) :
    Inv cf M n (k + 1) ⟨s.ca.set core C', s.ho, s.mem, net'⟩ := by
  have hcl := (List.getElem?_eq_some_iff.mp hC).1
  have hmem : ∀ c ∈ s.ca.set core C', c ∈ s.ca ∨ c = C' := fun c hc => List.mem_or_eq_of_mem_set hc
  have hCm := List.mem_of_getElem? hC
  have hcn : core < n := by rw [← I.nca]; exact hcl
  refine ⟨by rw [List.length_set]; exact I.nca, I.nho, I.nmem, fun m hm => ?_, fun c hc e he => ?_, fun c hc e he => ?_, fun c hc => ?_, I.bm, fun l' h hh => ?_, fun l' h c D hh hD => ?_, fun c hc => ?_, ?_⟩
  · rcases g.new m hm with q | q
    · exact I.ms m q
    · obtain ⟨a, b, d⟩ := h2 m q
      exact ⟨by rw [b]; exact hcn, by show m.line < s.ho.length; rw [a]; exact hl, d⟩
  · rcases hmem c hc with q | q
    · exact I.wL c q e he
    · subst q; exact w1 e he
  · rcases hmem c hc with q | q
    · exact I.wV c q e he
    · subst q; exact w2 e he
  · rcases hmem c hc with q | q
    · exact I.wQ c q
    · subst q; exact w3
  · have hh : s.ho[l']? = some h := hh
    by_cases e : l' = l
    · subst e
      exact (htr h hh (I.hi _ h hh) (I.ci _ h core C hh hC)).1
    · exact (I.hi l' h hh).frame g (fun x hx => by rw [(h1 x hx).1]; exact fun z => e z.symm) (fun x hx => by rw [(h2 x hx).1]; exact fun z => e z.symm)
  · have hh : s.ho[l']? = some h := hh
    have hD : (s.ca.set core C')[c]? = some D := hD
    by_cases ec : c = core
    · subst ec
      rw [List.getElem?_set_self hcl] at hD
      cases hD
      by_cases e : l' = l
      · subst e
        exact (htr h hh (I.hi _ h hh) (I.ci _ h c C hh hC)).2
      · obtain ⟨a1, a2, a3, a4, a5⟩ := hfr l' e
        exact (I.ci l' h c C hh hC).frame g (fun x hx z => absurd (z.symm.trans (h1 x hx).1) e) (fun x hx z => absurd (z.symm.trans (h2 x hx).1) e) rfl id a1 a2 a3 a4 a5
    · rw [List.getElem?_set_ne (fun z => ec z.symm)] at hD
      exact (I.ci l' h c D hh hD).frame g (fun x hx _ => by rw [(h1 x hx).2]; exact fun z => ec z.symm) (fun x hx _ => by rw [(h2 x hx).2.1]; exact fun z => ec z.symm) rfl id rfl rfl rfl (fun _ q _ => q) (fun _ q _ => q)
  · rcases hmem c hc with q | q
    · obtain ⟨a, b, d⟩ := I.sz c q
      exact ⟨by omega, by omega, by omega⟩
    · subst q
      obtain ⟨a, b, d⟩ := I.sz C hCm
      exact ⟨by omega, by omega, by omega⟩
  · have c1 := g.cnt (fun _ => true)
    have c2 := g.cnt isReq
    simp only [List.countP_true] at c1
    have := I.sn
    show 2 * net'.length + net'.countP isReq ≤ _
    omega
/-! ### one home changes -/
theorem home_step {cf : Cf} {M n k : Nat} {s : Sy} {l : Nat} {h h' : Ho} {rm ms net' : List Ms} {mem' : List Int} (I : Inv cf M n k s) (hh : s.ho[l]? = some h) (g : Chg s.net rm ms net')
    (h1 : ∀ x ∈ rm, x.line = l) (h2 : ∀ x ∈ ms, x.line = l ∧ x.core < n ∧ x.wok (WP cf M)) (hm' : mem'.length = M ∧ Bd mem')
    (htr : HInv (WP cf M) n l h' net' ∧ ∀ c C, CInv l h c C s.net → CInv l h' c C net') (zn : 2 * ms.length + ms.countP isReq ≤ 2 * rm.length + rm.countP isReq + 3) :
    Inv cf M n (k + 1) ⟨s.ca, s.ho.set l h', mem', net'⟩ := by
  have hl := (List.getElem?_eq_some_iff.mp hh).1
  refine ⟨I.nca, by rw [List.length_set]; exact I.nho, hm'.1, fun m hm => ?_, I.wL, I.wV, I.wQ, hm'.2, fun l' h3 e3 => ?_, fun l' h3 c D e3 hD => ?_, fun c hc => ?_, ?_⟩
  · show m.core < n ∧ m.line < (s.ho.set l h').length ∧ _
    rw [List.length_set]
    rcases g.new m hm with q | q
    · exact I.ms m q
    · obtain ⟨a, b, d⟩ := h2 m q
      exact ⟨b, by rw [a]; exact hl, d⟩
  · have e3 : (s.ho.set l h')[l']? = some h3 := e3
    by_cases e : l' = l
    · subst e
      rw [List.getElem?_set_self hl] at e3
      cases e3
      exact htr.1
    · rw [List.getElem?_set_ne (fun z => e z.symm)] at e3
      exact (I.hi l' h3 e3).frame g (fun x hx => by rw [h1 x hx]; exact fun z => e z.symm) (fun x hx => by rw [(h2 x hx).1]; exact fun z => e z.symm)
  · have e3 : (s.ho.set l h')[l']? = some h3 := e3
    by_cases e : l' = l
    · subst e
      rw [List.getElem?_set_self hl] at e3
      cases e3
      exact htr.2 c D (I.ci _ h c D hh hD)
    · rw [List.getElem?_set_ne (fun z => e z.symm)] at e3
      exact (I.ci l' h3 c D e3 hD).frame g (fun x hx z => absurd (z.symm.trans (h1 x hx)) e) (fun x hx z => absurd (z.symm.trans (h2 x hx).1) e) rfl id rfl rfl rfl (fun _ q _ => q) (fun _ q _ => q)
  · obtain ⟨a, b, d⟩ := I.sz c hc
    exact ⟨by omega, by omega, by omega⟩
  · have c1 := g.cnt (fun _ => true)
    have c2 := g.cnt isReq
    simp only [List.countP_true] at c1
    have := I.sn
    show 2 * net'.length + net'.countP isReq ≤ _
    omega
end DL

/-! P5: the steps keep the invariant. -/
namespace DL
open PySem

theorem map_other {α : Type} (f : α → Nat) (z : α) {l l' : Nat} (hz : f z = l) (h : l' ≠ l) (xs : List α) [∀ x, Decidable (f x = l)] : (xs.map fun x => if f x = l then z else x).countP (fun e => f e == l') = xs.countP (fun e => f e == l') := by
  rw [List.countP_map]
  refine List.countP_congr fun a _ => ?_
  show ((f (if f a = l then z else a) == l') = true) ↔ _
  by_cases q : f a = l
  · rw [if_pos q]
    simp [hz, q]
  · rw [if_neg q]
theorem mem_map_other {α : Type} (f : α → Nat) (z : α) {l l' : Nat} (h : l' ≠ l) {xs : List α} [∀ x, Decidable (f x = l)] {e : α} (he : e ∈ xs) (q : f e = l') : e ∈ xs.map fun x => if f x = l then z else x := by
  rw [List.mem_map]
  exact ⟨e, he, by rw [if_neg (by rw [q]; exact h)]⟩

theorem step_req {cf : Cf} {M n k : Nat} {s : Sy} {core l : Nat} {C : Ca} {ex : Bool} (I : Inv cf M n k s) (hC : s.ca[core]? = some C) (hl : l < s.ho.length) (hq : C.req.find? (fun e => e.line == l) = none) (hv : C.lea.find? (fun e => e.line == l) = none) :
    Inv cf M n (k + 1) ⟨s.ca.set core ⟨C.lines, C.req ++ [⟨l, ex⟩], C.lea⟩, s.ho, s.mem, s.net ++ [rqMs core l ex]⟩ := by
  have hm := List.mem_of_getElem? hC
  refine cache_step I hC hl (chg_add s.net [rqMs core l ex]) (fun x hx => by cases hx) (fun x hx => ?_) (fun l' e => ⟨rfl, ?_, rfl, fun _ q _ => q, fun _ q _ => q⟩) (fun h hh H i => tr_req H i hq hv (chg_add _ _)) (I.wL C hm) (I.wV C hm) ⟨fun e he => ?_, (I.wQ C hm).2⟩ ⟨Nat.le_succ _, by simp, Nat.le_succ _⟩ ?_
  · simp at hx
    subst hx
    cases ex <;> exact ⟨rfl, rfl, trivial⟩
  · unfold nR
    dsimp only
    rw [List.countP_append]
    have : ¬ l = l' := fun z => e z.symm
    simp [List.countP_cons, this]
  · rcases List.mem_append.mp he with q | q
    · exact (I.wQ C hm).1 e q
    · simp at q
      subst q
      rw [← I.nho]
      exact hl
  · cases ex <;> simp [rqMs, isReq, List.countP_cons]
theorem step_evict {cf : Cf} {M n k : Nat} {s s' : Sy} {core l : Nat} (I : Inv cf M n k s) (hl : l < s.ho.length) (h : s.evict core l = some s') : Inv cf M n (k + 1) s' := by
  unfold Sy.evict at h
  split at h
  · cases h
  · rename_i C hC
    split at h
    · cases h
    · rename_i r hr
      cases h
      have hm := List.mem_of_getElem? hC
      have hr' := hr
      unfold Ca.giveUp at hr
      split at hr
      · cases hr
      · rename_i e he
        have hem := List.mem_of_find?_eq_some he
        have hln : e.line = l := by simpa using List.find?_some he
        have hw := I.wL C hm e hem
        rw [hln] at hw
        split at hr
        · cases hr
        · split at hr
          · cases hr
            refine cache_step I hC hl (chg_add s.net []) (fun x hx => by cases hx) (fun x hx => by cases hx) (fun l' e => ⟨cF_other Ln.line e C.lines, rfl, rfl, fun x hx q => mF_other Ln.line e hx q, fun _ q _ => q⟩) (fun h hh H i => tr_evict H i hr' (chg_add _ _)) (fun x hx => I.wL C hm x (List.mem_filter.mp hx).1) (I.wV C hm) (I.wQ C hm) ⟨?_, Nat.le_succ _, Nat.le_succ _⟩ (by simp)
            exact Nat.le_succ_of_le (List.length_filter_le _ _)
          · cases hr
            refine cache_step I hC hl (chg_add s.net _) (fun x hx => by cases hx) (fun x hx => ?_) (fun l' e' => ⟨cF_other Ln.line e' C.lines, rfl, ?_, fun x hx q => mF_other Ln.line e' hx q, fun x hx _ => List.mem_append_left _ hx⟩) (fun h hh H i => tr_evict H i hr' (chg_add _ _)) (fun x hx => I.wL C hm x (List.mem_filter.mp hx).1) (fun x hx ws hws => ?_) ⟨(I.wQ C hm).1, fun x hx => ?_⟩ ⟨Nat.le_succ_of_le (List.length_filter_le _ _), Nat.le_succ _, by simp⟩ (by simp [isReq, List.countP_cons])
            · simp at hx
              subst hx
              exact ⟨rfl, rfl, hw⟩
            · unfold nV
              dsimp only
              rw [List.countP_append]
              have : ¬ l = l' := fun z => e' z.symm
              simp [List.countP_cons, this]
            · rcases List.mem_append.mp hx with q | q
              · exact I.wV C hm x q ws hws
              · simp at q
                subst q
                cases hws
                exact hw
            · rcases List.mem_append.mp hx with q | q
              · exact (I.wQ C hm).2 x q
              · simp at q
                subst q
                rw [← I.nho]
                exact hl

theorem slice_len {cf : Cf} {M l : Nat} {mem : List Int} (hl : l < manyOf M cf.lw) (h : mem.length = M) (hb : Bd mem) : WP cf M l (sliceW mem (l * cf.lw) cf.lw) := by
  refine ⟨hl, ?_, fun x hx => ?_⟩
  · unfold sliceW wl
    rw [List.length_take, List.length_drop, h]
  · exact hb x (List.mem_of_mem_drop (List.mem_of_mem_take hx))
theorem splice_len {cf : Cf} {M l : Nat} {mem ws : List Int} (h : mem.length = M) (hb : Bd mem) (hl : l * cf.lw < M) (hw : WP cf M l ws) : (spliceW mem (l * cf.lw) cf.lw ws).length = M ∧ Bd (spliceW mem (l * cf.lw) cf.lw ws) := by
  refine ⟨?_, fun x hx => ?_⟩
  · unfold spliceW
    rw [List.length_append, List.length_append, List.length_take, List.length_drop, h, hw.2.1]
    unfold wl
    omega
  · unfold spliceW at hx
    rcases List.mem_append.mp hx with q | q
    · rcases List.mem_append.mp q with q | q
      · exact hb x (List.mem_of_mem_take q)
      · exact hw.2.2 x q
    · exact hb x (List.mem_of_mem_drop q)

theorem begun_len3 {W : Nat → List Int → Prop} {n l c : Nat} {h : Ho} {net : List Ms} {words : List Int} {ex x : Bool} (H : HInv W n l h net) (hc : c < n) (hn : n ≤ 4) : (h.begun words c l ex).2.length + ((h.begun words c l ex).1.grantIf x l).2.length ≤ 3 := by
  have h2 := grantIf_len x (h.begun words c l ex).1 l
  cases eo : h.owner with
  | some o =>
    have eb : h.begun words c l ex = (⟨some o, h.sh, some ⟨c, ex, [], true, none, false⟩⟩, [.recall o l (!ex)]) := by unfold Ho.begun; rw [eo]
    rw [eb] at h2 ⊢
    dsimp only at h2 ⊢
    simp only [List.length_cons, List.length_nil]
    omega
  | none =>
    have eb : h.begun words c l ex = (⟨none, h.sh, some ⟨c, ex, if ex then h.sh.filter (fun o => o != c) else [], false, some words, false⟩⟩, (if ex then h.sh.filter (fun o => o != c) else []).map fun c => .invalidate c l) := by unfold Ho.begun; rw [eo]
    rw [eb] at h2 ⊢
    dsimp only at h2 ⊢
    rw [List.length_map]
    cases ex with
    | false => simp at h2 ⊢; omega
    | true =>
      have hl : (h.sh.filter fun o => o != c).length + 1 ≤ n := nodup_lt_ne hc (H.shnd.filter _) (fun x hx => H.shlt x (List.mem_filter.mp hx).1) (fun q => by have := (List.mem_filter.mp q).2; simp at this)
      simp only [if_true] at h2 ⊢
      cases ea : (h.sh.filter fun o => o != c) with
      | nil =>
        rw [ea] at h2
        simp only [List.length_nil]
        omega
      | cons a as =>
        have hg : (Ho.grantIf x ⟨none, h.sh, some ⟨c, true, a :: as, false, some words, false⟩⟩ l).2 = [] := by unfold Ho.grantIf; simp
        rw [hg]
        rw [ea] at hl
        simp only [List.length_nil]
        omega

theorem grantIf_req (x : Bool) (h : Ho) (l : Nat) : (h.grantIf x l).2.countP isReq = 0 := by
  unfold Ho.grantIf
  split
  · rfl
  · split
    · rfl
    · split
      · rfl
      · split
        · rfl
        · split
          · rfl
          · split <;> rfl
theorem begun_req (h : Ho) (words : List Int) (c l : Nat) (ex : Bool) : (h.begun words c l ex).2.countP isReq = 0 := by
  unfold Ho.begun
  cases h.owner with
  | some o => rfl
  | none =>
    refine cnt0 fun x hx e => ?_
    obtain ⟨o, _, rfl⟩ := List.mem_map.mp hx
    cases e
theorem step_deliver {cf : Cf} {M n k : Nat} {s : Sy} {i : Nat} {m : Ms} (w : Wd cf M n) (I : Inv cf M n k s) (hm : s.net[i]? = some m) (hcan : Sy.can s.ho m = true) : ∃ s', s.deliver cf i = some s' ∧ Inv cf M n (k + 1) s' := by
  have hmem := List.mem_of_getElem? hm
  obtain ⟨hcn, hln, hwk⟩ := I.ms m hmem
  unfold Sy.deliver
  rw [hm]
  dsimp only
  have hch := fun ms => chg_at hm ms
  obtain ⟨h, hh⟩ : ∃ h, s.ho[m.line]? = some h := ⟨_, List.getElem?_eq_getElem hln⟩
  have H := I.hi _ h hh
  by_cases ht : m.toCa = true
  · rw [if_pos ht]
    obtain ⟨C, hC⟩ : ∃ C, s.ca[m.core]? = some C := ⟨_, List.getElem?_eq_getElem (by rw [I.nca]; exact hcn)⟩
    have hCm := List.mem_of_getElem? hC
    have i0 := I.ci _ h _ C hh hC
    rw [hC]
    dsimp only
    cases m with
    | invalidate c l =>
      refine ⟨_, rfl, cache_step I hC hln (hch _) (fun x hx => by simp at hx; subst hx; exact ⟨rfl, rfl⟩) (fun x hx => by simp at hx; subst hx; exact ⟨rfl, rfl, trivial⟩) (fun l' e => ⟨cF_other Ln.line e C.lines, rfl, rfl, fun x hx q => mF_other Ln.line e hx q, fun _ q _ => q⟩) (fun h' hh' H' i' => tr_invalidate H' i' hmem (hch _)) (fun x hx => I.wL C hCm x (List.mem_filter.mp hx).1) (I.wV C hCm) (I.wQ C hCm) ⟨Nat.le_succ_of_le (List.length_filter_le _ _), Nat.le_succ _, Nat.le_succ _⟩ (by simp [isReq, List.countP_cons])⟩
    | grant c l st ws =>
      refine ⟨_, rfl, cache_step I hC hln (hch _) (fun x hx => by simp at hx; subst hx; exact ⟨rfl, rfl⟩) (fun x hx => by simp at hx; subst hx; exact ⟨rfl, rfl, trivial⟩) (fun l' e => ⟨?_, cF_other Rq.line e C.req, rfl, fun x hx q => List.mem_append_left _ (mF_other Ln.line e hx q), fun _ q _ => q⟩) (fun h' hh' H' i' => tr_grant H' i' hmem (hch _)) (fun x hx => ?_) (I.wV C hCm) ⟨fun x hx => (I.wQ C hCm).1 x (List.mem_filter.mp hx).1, (I.wQ C hCm).2⟩ ⟨?_, Nat.le_succ_of_le (List.length_filter_le _ _), Nat.le_succ _⟩ (by simp [isReq, List.countP_cons])⟩
      · unfold nL
        dsimp only
        rw [List.countP_append]
        have e1 := cF_other Ln.line e C.lines
        have e2 : ¬ l = l' := fun z => e z.symm
        rw [show (C.lines.filter fun x => x.line != (Ms.grant c l st ws).line) = C.lines.filter fun x => x.line != l from rfl] at e1
        rw [e1]
        simp [List.countP_cons, e2]
      · rcases List.mem_append.mp hx with q | q
        · exact I.wL C hCm x (List.mem_filter.mp q).1
        · simp at q
          subst q
          exact hwk
      · dsimp only
        rw [List.length_append]
        have := List.length_filter_le (fun x : Ln => x.line != l) C.lines
        simp
        omega
    | confirm c l =>
      refine ⟨_, rfl, cache_step I hC hln (hch _) (fun x hx => by simp at hx; subst hx; exact ⟨rfl, rfl⟩) (fun x hx => by cases hx) (fun l' e => ⟨rfl, rfl, cF_other Lv.line e C.lea, fun _ q _ => q, fun x hx q => mF_other Lv.line e hx q⟩) (fun h' hh' H' i' => tr_confirm H' i' hmem (hch _)) (I.wL C hCm) (fun x hx => I.wV C hCm x (List.mem_filter.mp hx).1) ⟨(I.wQ C hCm).1, fun x hx => (I.wQ C hCm).2 x (List.mem_filter.mp hx).1⟩ ⟨Nat.le_succ _, Nat.le_succ _, Nat.le_succ_of_le (List.length_filter_le _ _)⟩ (by simp [isReq, List.countP_cons])⟩
    | recall c l kp =>
      dsimp only [Ms.line, Ms.core] at *
      have hC' : s.ca[c]? = some C := hC
      have hln' : l < s.ho.length := hln
      rcases recall_ok H i0 hmem with ⟨e, he, hst⟩ | ⟨he, ws, d, hv, hvm⟩
      · have hem := List.mem_of_find?_eq_some he
        have hel : e.line = l := by simpa using List.find?_some he
        have hw := I.wL C hCm e hem
        rw [hel] at hw
        have er : C.recv (.recall c l kp) = some (⟨if kp then C.lines.map (fun x => if x.line = l then ⟨l, .shared, e.ws⟩ else x) else C.lines.filter (fun x => x.line != l), C.req, C.lea⟩, [.returned c l e.ws (decide (e.st = .modified))]) := by
          unfold Ca.recv
          dsimp only
          rw [he]
        rw [er]
        refine ⟨_, rfl, cache_step I hC' hln' (hch _) (fun x hx => by simp at hx; subst hx; exact ⟨rfl, rfl⟩) (fun x hx => by simp at hx; subst hx; exact ⟨rfl, rfl, hw⟩) (fun l' e' => ⟨?_, rfl, rfl, fun x hx q => ?_, fun _ q _ => q⟩) (fun h' hh' H' i' => tr_recall H' i' hmem er (hch _)) (fun x hx => ?_) (I.wV C hCm) (I.wQ C hCm) ⟨?_, Nat.le_succ _, Nat.le_succ _⟩ (by simp [isReq, List.countP_cons])⟩
        · unfold nL
          cases kp with
          | true => exact map_other Ln.line ⟨l, .shared, e.ws⟩ rfl e' C.lines
          | false => exact cF_other Ln.line e' C.lines
        · cases kp with
          | true => exact mem_map_other Ln.line ⟨l, .shared, e.ws⟩ e' hx q
          | false => exact mF_other Ln.line e' hx q
        · cases kp with
          | true =>
            obtain ⟨y, hy, rfl⟩ := List.mem_map.mp hx
            split
            · exact hw
            · exact I.wL C hCm y hy
          | false => exact I.wL C hCm x (List.mem_filter.mp hx).1
        · cases kp with
          | true => simp
          | false => exact Nat.le_succ_of_le (List.length_filter_le _ _)
      · have hw := I.wV C hCm _ hvm ws rfl
        have er : C.recv (.recall c l kp) = some (⟨C.lines, C.req, C.lea.map (fun x => if x.line = l then ⟨l, none, d⟩ else x)⟩, [.returned c l ws d]) := by
          unfold Ca.recv
          dsimp only
          rw [he]
          dsimp only
          rw [hv]
        rw [er]
        refine ⟨_, rfl, cache_step I hC' hln' (hch _) (fun x hx => by simp at hx; subst hx; exact ⟨rfl, rfl⟩) (fun x hx => by simp at hx; subst hx; exact ⟨rfl, rfl, hw⟩) (fun l' e' => ⟨rfl, rfl, ?_, fun _ q _ => q, fun x hx q => ?_⟩) (fun h' hh' H' i' => tr_recall H' i' hmem er (hch _)) (I.wL C hCm) (fun x hx ws' hws => ?_) ⟨(I.wQ C hCm).1, fun x hx => ?_⟩ ⟨Nat.le_succ _, Nat.le_succ _, by simp⟩ (by simp [isReq, List.countP_cons])⟩
        · exact map_other Lv.line ⟨l, none, d⟩ rfl e' C.lea
        · exact mem_map_other Lv.line ⟨l, none, d⟩ e' hx q
        · obtain ⟨y, hy, rfl⟩ := List.mem_map.mp hx
          split at hws
          · cases hws
          · rename_i hne
            rw [if_neg hne]
            exact I.wV C hCm y hy ws' hws
        · obtain ⟨y, hy, rfl⟩ := List.mem_map.mp hx
          split
          · exact by rw [← I.nho]; exact hln'
          · exact (I.wQ C hCm).2 y hy
    | _ => cases ht
  · rw [if_neg ht, hh]
    dsimp only
    have ht' : m.toCa = false := by simpa using ht
    have hlM : m.line * cf.lw < M := many_lt w.lw0 (by rw [← I.nho]; exact hln)
    have hslice := slice_len (cf := cf) (l := m.line) (by rw [← I.nho]; exact hln) I.nmem I.bm
    have hsv : m.waits = true → h.sv = none := fun hw => by
      unfold Sy.can at hcan
      rw [ht', hh, hw] at hcan
      simpa using hcan
    have keep := splice_len I.nmem I.bm hlM hslice
    generalize sliceW s.mem (m.line * cf.lw) cf.lw = sl at *
    cases m with
    | giveUp c l ws d =>
      have hs := hsv rfl
      have hk := splice_len I.nmem I.bm hlM hwk
      unfold Ho.recv
      dsimp only
      by_cases ho : h.owner = some c
      · rw [if_pos ho]
        refine ⟨_, rfl, home_step I hh (hch _) (fun x hx => by simp at hx; subst hx; rfl) (fun x hx => by simp at hx; subst hx; exact ⟨rfl, hcn, trivial⟩) ?_ (tr_giveUp H hs (hch _) none (by rw [if_pos ho])) (by simp [isReq, List.countP_cons])⟩
        dsimp only
        split
        · exact hk
        · exact keep
      · rw [if_neg ho]
        exact ⟨_, rfl, home_step I hh (hch _) (fun x hx => by simp at hx; subst hx; rfl) (fun x hx => by simp at hx; subst hx; exact ⟨rfl, hcn, trivial⟩) keep (tr_giveUp H hs (hch _) h.owner (by rw [if_neg ho])) (by simp [isReq, List.countP_cons])⟩
    | received c l =>
      exact ⟨_, rfl, home_step I hh (hch _) (fun x hx => by simp at hx; subst hx; rfl) (fun x hx => by cases hx) keep (tr_received H hmem (hch _)) (by simp [isReq, List.countP_cons])⟩
    | invalidated c l =>
      dsimp only [Ms.line, Ms.core] at *
      obtain ⟨sv, es, _⟩ := H.inv_sv hmem (c := c) (by simp [isInv])
      unfold Ho.recv
      dsimp only
      rw [es]
      dsimp only
      obtain ⟨t1, t2⟩ := tr_invalidated H hmem es (hch [])
      rw [List.append_nil] at t1 t2
      obtain ⟨u1, u2, u3⟩ := tr_grantIf cf.ex t1
      have gl := grantIf_len cf.ex ⟨h.owner, h.sh.filter (fun o => o != c), some ⟨sv.core, sv.ex, sv.aw.filter (fun o => o != c), sv.rcl, sv.ws, sv.gr⟩⟩ l
      refine ⟨_, rfl, home_step I hh (hch _) (fun x hx => by simp at hx; subst hx; rfl) u3 keep ⟨u1, fun c' C i => u2 c' C (t2 c' C i)⟩ ?_⟩
      have := List.countP_le_length (p := isReq) (l := (Ho.grantIf cf.ex ⟨h.owner, h.sh.filter (fun o => o != c), some ⟨sv.core, sv.ex, sv.aw.filter (fun o => o != c), sv.rcl, sv.ws, sv.gr⟩⟩ l).2)
      simp only [List.length_cons, List.length_nil]
      have z : [Ms.invalidated c l].countP isReq = 0 := rfl
      rw [z]
      omega
    | returned c l ws d =>
      dsimp only [Ms.line, Ms.core] at *
      obtain ⟨sv, es, _⟩ := H.rec_sv hmem (by simp [isRec])
      unfold Ho.recv
      dsimp only
      rw [es]
      dsimp only
      obtain ⟨t1, t2⟩ := tr_returned H hmem es hcn hwk (hch [])
      rw [List.append_nil] at t1 t2
      obtain ⟨u1, u2, u3⟩ := tr_grantIf cf.ex t1
      have gl := grantIf_len cf.ex ⟨none, if sv.ex then [] else [c], some ⟨sv.core, sv.ex, sv.aw, false, some ws, sv.gr⟩⟩ l
      have hk := splice_len I.nmem I.bm hlM hwk
      refine ⟨_, rfl, home_step I hh (hch _) (fun x hx => by simp at hx; subst hx; rfl) u3 ?_ ⟨u1, fun c' C i => u2 c' C (t2 c' C i)⟩ ?_⟩
      · split
        · exact hk
        · exact keep
      · have := List.countP_le_length (p := isReq) (l := (Ho.grantIf cf.ex ⟨none, if sv.ex then [] else [c], some ⟨sv.core, sv.ex, sv.aw, false, some ws, sv.gr⟩⟩ l).2)
        simp only [List.length_cons, List.length_nil]
        have z : [Ms.returned c l ws d].countP isReq = 0 := rfl
        rw [z]
        omega
    | getS c l =>
      dsimp only [Ms.line, Ms.core] at *
      have hs := hsv rfl
      obtain ⟨t1, t2, t3⟩ := tr_begun (ex := false) H hs hcn hslice (hch _)
      obtain ⟨u1, u2, u3⟩ := tr_grantIf cf.ex t1
      have gl := begun_len3 (words := sl) (ex := false) (x := cf.ex) H hcn w.n1
      have q1 : (h.begun sl c l false).2.countP isReq = 0 := begun_req h sl c l false
      have q2 : ((h.begun sl c l false).1.grantIf cf.ex l).2.countP isReq = 0 := grantIf_req _ _ _
      refine ⟨_, rfl, home_step I hh (hch _) (fun x hx => by simp at hx; subst hx; rfl) (fun x hx => ?_) keep ⟨?_, fun c' C i => ?_⟩ ?_⟩
      · rcases List.mem_append.mp hx with q | q
        · exact t3 x q
        · exact u3 x q
      · rw [List.append_assoc] at u1
        exact u1
      · have := u2 c' C (t2 c' C i)
        rw [List.append_assoc] at this
        exact this
      · have z : [Ms.getS c l].countP isReq = 1 := rfl
        rw [z, List.countP_append, q1, q2, List.length_append]
        simp only [List.length_cons, List.length_nil]
        omega
    | getM c l =>
      dsimp only [Ms.line, Ms.core] at *
      have hs := hsv rfl
      obtain ⟨t1, t2, t3⟩ := tr_begun (ex := true) H hs hcn hslice (hch _)
      obtain ⟨u1, u2, u3⟩ := tr_grantIf cf.ex t1
      have gl := begun_len3 (words := sl) (ex := true) (x := cf.ex) H hcn w.n1
      have q1 : (h.begun sl c l true).2.countP isReq = 0 := begun_req h sl c l true
      have q2 : ((h.begun sl c l true).1.grantIf cf.ex l).2.countP isReq = 0 := grantIf_req _ _ _
      refine ⟨_, rfl, home_step I hh (hch _) (fun x hx => by simp at hx; subst hx; rfl) (fun x hx => ?_) keep ⟨?_, fun c' C i => ?_⟩ ?_⟩
      · rcases List.mem_append.mp hx with q | q
        · exact t3 x q
        · exact u3 x q
      · rw [List.append_assoc] at u1
        exact u1
      · have := u2 c' C (t2 c' C i)
        rw [List.append_assoc] at this
        exact this
      · have z : [Ms.getM c l].countP isReq = 1 := rfl
        rw [z, List.countP_append, q1, q2, List.length_append]
        simp only [List.length_cons, List.length_nil]
        omega
    | _ => cases ht'
end DL

/-! P6: deliveries to different receivers commute. -/
namespace DL
open PySem

/-! ### memory -/
theorem slice_get (mem : List Int) (f lw x : Nat) : (sliceW mem f lw)[x]? = if x < lw then mem[f + x]? else none := by
  unfold sliceW
  rw [List.getElem?_take]
  split
  · rw [List.getElem?_drop]
  · rfl
theorem splice_get {mem ws : List Int} {f lw : Nat} (hf : f < mem.length) (hw : ws.length = min lw (mem.length - f)) (x : Nat) : (spliceW mem f lw ws)[x]? = if x < f then mem[x]? else if x < f + lw then ws[x - f]? else mem[x]? := by
  unfold spliceW
  have h1 : (mem.take f).length = f := by rw [List.length_take]; omega
  by_cases a : x < f
  · rw [if_pos a, List.getElem?_append_left (by rw [List.length_append, h1]; omega), List.getElem?_append_left (by rw [h1]; exact a), List.getElem?_take, if_pos a]
  · rw [if_neg a]
    by_cases b : x < f + ws.length
    · rw [if_pos (by omega), List.getElem?_append_left (by rw [List.length_append, h1]; exact b), List.getElem?_append_right (by rw [h1]; omega), h1]
    · rw [List.getElem?_append_right (by rw [List.length_append, h1]; omega), List.length_append, h1, List.getElem?_drop]
      by_cases d : x < f + lw
      · rw [if_pos d]
        have hm : mem.length ≤ x := by omega
        rw [List.getElem?_eq_none (by omega), List.getElem?_eq_none (by omega)]
      · rw [if_neg d]
        by_cases e : f + lw ≤ mem.length
        · have : f + lw + (x - (f + ws.length)) = x := by omega
          rw [this]
        · rw [List.getElem?_eq_none (by omega), List.getElem?_eq_none (by omega)]
theorem apart {l1 l2 lw : Nat} (h : l1 ≠ l2) : l1 * lw + lw ≤ l2 * lw ∨ l2 * lw + lw ≤ l1 * lw := by
  rcases Nat.lt_or_gt_of_ne h with q | q
  · left
    have := Nat.mul_le_mul_right lw (show l1 + 1 ≤ l2 by omega)
    rw [Nat.succ_mul] at this
    exact this
  · right
    have := Nat.mul_le_mul_right lw (show l2 + 1 ≤ l1 by omega)
    rw [Nat.succ_mul] at this
    exact this
theorem slice_splice {mem ws : List Int} {l1 l2 lw : Nat} (h : l1 ≠ l2) (hf : l1 * lw < mem.length) (hw : ws.length = min lw (mem.length - l1 * lw)) : sliceW (spliceW mem (l1 * lw) lw ws) (l2 * lw) lw = sliceW mem (l2 * lw) lw := by
  refine List.ext_getElem? fun x => ?_
  rw [slice_get, slice_get]
  split
  · rw [splice_get hf hw]
    have := apart (lw := lw) h
    split
    · rfl
    · rw [if_neg (by omega)]
  · rfl
theorem splice_comm {mem ws1 ws2 : List Int} {l1 l2 lw : Nat} (h : l1 ≠ l2) (hf1 : l1 * lw < mem.length) (hf2 : l2 * lw < mem.length) (hw1 : ws1.length = min lw (mem.length - l1 * lw)) (hw2 : ws2.length = min lw (mem.length - l2 * lw))
    (e1 : (spliceW mem (l1 * lw) lw ws1).length = mem.length) (e2 : (spliceW mem (l2 * lw) lw ws2).length = mem.length) :
    spliceW (spliceW mem (l1 * lw) lw ws1) (l2 * lw) lw ws2 = spliceW (spliceW mem (l2 * lw) lw ws2) (l1 * lw) lw ws1 := by
  refine List.ext_getElem? fun x => ?_
  rw [splice_get (mem := spliceW mem (l1 * lw) lw ws1) (ws := ws2) (f := l2 * lw) (by rw [e1]; exact hf2) (by rw [e1]; exact hw2), splice_get (mem := spliceW mem (l2 * lw) lw ws2) (ws := ws1) (f := l1 * lw) (by rw [e2]; exact hf1) (by rw [e2]; exact hw1), splice_get (mem := mem) (ws := ws1) (f := l1 * lw) hf1 hw1, splice_get (mem := mem) (ws := ws2) (f := l2 * lw) hf2 hw2]
  have := apart (lw := lw) h
  by_cases a1 : x < l1 * lw <;> by_cases a2 : x < l2 * lw <;> by_cases b1 : x < l1 * lw + lw <;> by_cases b2 : x < l2 * lw + lw <;> simp only [a1, a2, b1, b2, if_true, if_false] <;> omega

/-! ### the network's list -/
theorem perm_at {net : List Ms} {i : Nat} {m : Ms} (h : net[i]? = some m) : List.Perm net (m :: (net.take i ++ net.drop (i + 1))) := by
  obtain ⟨hi, hm⟩ := List.getElem?_eq_some_iff.mp h
  have e : net = net.take i ++ m :: net.drop (i + 1) := by
    rw [← hm, ← List.drop_eq_getElem_cons hi, List.take_append_drop]
  exact (List.Perm.of_eq e).trans List.perm_middle
theorem other_at {net ms : List Ms} {i j : Nat} {m : Ms} (hi : i < net.length) (hj : net[j]? = some m) (hij : i ≠ j) : (net.take i ++ net.drop (i + 1) ++ ms)[j - (if i < j then 1 else 0)]? = some m := by
  have hjl := (List.getElem?_eq_some_iff.mp hj).1
  have h1 : (net.take i).length = i := by rw [List.length_take]; omega
  have h2 : (net.drop (i + 1)).length = net.length - (i + 1) := List.length_drop
  rw [List.getElem?_append_left (by rw [List.length_append, h1, h2]; split <;> omega)]
  split
  · rename_i h
    rw [List.getElem?_append_right (by rw [h1]; omega), h1, List.getElem?_drop]
    have : i + 1 + (j - 1 - i) = j := by omega
    rw [this]
    exact hj
  · rename_i h
    rw [List.getElem?_append_left (by rw [h1]; omega), List.getElem?_take, if_pos (by omega)]
    exact hj

/-! ### one delivery, taken apart and put together -/
theorem del_ca {cf : Cf} {s s' : Sy} {i : Nat} {m : Ms} (hm : s.net[i]? = some m) (ht : m.toCa = true) (h : s.deliver cf i = some s') : ∃ C r, s.ca[m.core]? = some C ∧ C.recv m = some r ∧ s' = ⟨s.ca.set m.core r.1, s.ho, s.mem, s.net.take i ++ s.net.drop (i + 1) ++ r.2⟩ := by
  unfold Sy.deliver at h
  rw [hm] at h
  dsimp only at h
  rw [if_pos ht] at h
  split at h
  · cases h
  · rename_i C hC
    split at h
    · cases h
    · rename_i r hr
      cases h
      exact ⟨C, r, hC, hr, rfl⟩
theorem ca_del {cf : Cf} {s : Sy} {i : Nat} {m : Ms} {C : Ca} {r : Ca × List Ms} (hm : s.net[i]? = some m) (ht : m.toCa = true) (hC : s.ca[m.core]? = some C) (hr : C.recv m = some r) : s.deliver cf i = some ⟨s.ca.set m.core r.1, s.ho, s.mem, s.net.take i ++ s.net.drop (i + 1) ++ r.2⟩ := by
  unfold Sy.deliver
  rw [hm]
  dsimp only
  rw [if_pos ht, hC]
  dsimp only
  rw [hr]
theorem del_ho {cf : Cf} {s s' : Sy} {i : Nat} {m : Ms} (hm : s.net[i]? = some m) (ht : m.toCa = false) (h : s.deliver cf i = some s') : ∃ H r, s.ho[m.line]? = some H ∧ H.recv cf.ex (sliceW s.mem (m.line * cf.lw) cf.lw) m = some r ∧
    s' = ⟨s.ca, s.ho.set m.line r.1, spliceW s.mem (m.line * cf.lw) cf.lw r.2.1, s.net.take i ++ s.net.drop (i + 1) ++ r.2.2⟩ := by
  unfold Sy.deliver at h
  rw [hm] at h
  dsimp only at h
  rw [if_neg (by rw [ht]; exact Bool.false_ne_true)] at h
  split at h
  · cases h
  · rename_i C hC
    split at h
    · cases h
    · rename_i r hr
      cases h
      exact ⟨C, r, hC, hr, rfl⟩
theorem ho_del {cf : Cf} {s : Sy} {i : Nat} {m : Ms} {H : Ho} {r : Ho × List Int × List Ms} (hm : s.net[i]? = some m) (ht : m.toCa = false) (hH : s.ho[m.line]? = some H) (hr : H.recv cf.ex (sliceW s.mem (m.line * cf.lw) cf.lw) m = some r) :
    s.deliver cf i = some ⟨s.ca, s.ho.set m.line r.1, spliceW s.mem (m.line * cf.lw) cf.lw r.2.1, s.net.take i ++ s.net.drop (i + 1) ++ r.2.2⟩ := by
  unfold Sy.deliver
  rw [hm]
  dsimp only
  rw [if_neg (by rw [ht]; exact Bool.false_ne_true), hH]
  dsimp only
  rw [hr]
theorem recv_words {W : Nat → List Int → Prop} {ex : Bool} {h : Ho} {words : List Int} {m : Ms} {r : Ho × List Int × List Ms} (e : h.recv ex words m = some r) (hk : m.wok W) (hw : W m.line words) : W m.line r.2.1 := by
  cases m with
  | giveUp c l ws d =>
    unfold Ho.recv at e
    dsimp only at e
    split at e
    · cases e
      dsimp only
      split
      · exact hk
      · exact hw
    · cases e
      exact hw
  | received c l => cases e; exact hw
  | invalidated c l =>
    unfold Ho.recv at e
    dsimp only at e
    split at e
    · cases e
    · cases e; exact hw
  | returned c l ws d =>
    unfold Ho.recv at e
    dsimp only at e
    split at e
    · cases e
    · cases e
      dsimp only
      split
      · exact hk
      · exact hw
  | getS c l => cases e; exact hw
  | getM c l => cases e; exact hw
  | _ => cases e

/-! ### both orders -/
structure Both (cf : Cf) (M n k : Nat) (s : Sy) (i j : Nat) (s' : Sy) : Prop where
  ex : ∃ s1, s.deliver cf i = some s1 ∧ i ∈ delIx s.ho 0 s.net ∧ Inv cf M n (k + 1) s1 ∧ s1.deliver cf (j - (if i < j then 1 else 0)) = some s' ∧ (j - (if i < j then 1 else 0)) ∈ delIx s1.ho 0 s1.net ∧ Inv cf M n (k + 2) s'
theorem can_in {ho : List Ho} {net : List Ms} {i : Nat} {m : Ms} (h : net[i]? = some m) (c : Sy.can ho m = true) : i ∈ delIx ho 0 net := (mem_delIx ho net 0 i).mpr ⟨i, m, h, by omega, c⟩
theorem nets_perm {net x1 x2 y1 y2 : List Ms} {i j : Nat} {m1 m2 : Ms} (h1 : net[i]? = some m1) (h2 : net[j]? = some m2) (hij : i ≠ j) (e1 : x1 = net.take i ++ net.drop (i + 1) ++ y1) (e2 : x2 = net.take j ++ net.drop (j + 1) ++ y2) :
    List.Perm (x1.take (j - (if i < j then 1 else 0)) ++ x1.drop (j - (if i < j then 1 else 0) + 1) ++ y2) (x2.take (i - (if j < i then 1 else 0)) ++ x2.drop (i - (if j < i then 1 else 0) + 1) ++ y1) := by
  have a1 := (List.getElem?_eq_some_iff.mp h1).1
  have a2 := (List.getElem?_eq_some_iff.mp h2).1
  have o1 : x1[j - (if i < j then 1 else 0)]? = some m2 := by rw [e1]; exact other_at a1 h2 hij
  have o2 : x2[i - (if j < i then 1 else 0)]? = some m1 := by rw [e2]; exact other_at a2 h1 (fun e => hij e.symm)
  have p1 := perm_at o1
  have p2 := perm_at o2
  have q1 := perm_at h1
  have q2 := perm_at h2
  generalize x1.take (j - (if i < j then 1 else 0)) ++ x1.drop (j - (if i < j then 1 else 0) + 1) = X at *
  generalize x2.take (i - (if j < i then 1 else 0)) ++ x2.drop (i - (if j < i then 1 else 0) + 1) = Y at *
  generalize net.take i ++ net.drop (i + 1) = R1 at *
  generalize net.take j ++ net.drop (j + 1) = R2 at *
  subst e1 e2
  -- m1 :: m2 :: (X ++ y2) ~ net ++ y1 ++ y2, and so the other
  have b1 : List.Perm (m1 :: m2 :: (X ++ y2)) (net ++ y1 ++ y2) := by
    have c1 : List.Perm (m1 :: (m2 :: X)) (m1 :: (R1 ++ y1)) := (p1.symm).cons m1
    have c2 : List.Perm (m1 :: (R1 ++ y1)) (net ++ y1) := (q1.symm).append_right y1
    exact (c1.trans c2).append_right y2
  have b2 : List.Perm (m2 :: m1 :: (Y ++ y1)) (net ++ y2 ++ y1) := by
    have c1 : List.Perm (m2 :: (m1 :: Y)) (m2 :: (R2 ++ y2)) := (p2.symm).cons m2
    have c2 : List.Perm (m2 :: (R2 ++ y2)) (net ++ y2) := (q2.symm).append_right y2
    exact (c1.trans c2).append_right y1
  have b3 : List.Perm (net ++ y1 ++ y2) (net ++ y2 ++ y1) := by
    rw [List.append_assoc, List.append_assoc]
    exact List.perm_append_comm.append_left net
  have b4 : List.Perm (m1 :: m2 :: (X ++ y2)) (m1 :: m2 :: (Y ++ y1)) := (b1.trans b3).trans (b2.symm.trans (List.Perm.swap m1 m2 _))
  exact (b4.cons_inv).cons_inv

theorem commute {cf : Cf} {M n k : Nat} {s : Sy} {i j : Nat} {m1 m2 : Ms} (w : Wd cf M n) (I : Inv cf M n k s) (h1 : s.net[i]? = some m1) (h2 : s.net[j]? = some m2) (c1 : Sy.can s.ho m1 = true) (c2 : Sy.can s.ho m2 = true)
    (hd : (m1.toCa = true ∧ m2.toCa = true ∧ m1.core ≠ m2.core) ∨ (m1.toCa = false ∧ m2.toCa = false ∧ m1.line ≠ m2.line) ∨ m1.toCa ≠ m2.toCa) :
    ∃ s12 s21, Both cf M n k s i j s12 ∧ Both cf M n k s j i s21 ∧ s12.ca = s21.ca ∧ s12.ho = s21.ho ∧ s12.mem = s21.mem ∧ List.Perm s12.net s21.net := by
  have hij : i ≠ j := fun e => by
    subst e
    rw [h1] at h2
    cases h2
    rcases hd with ⟨_, _, q⟩ | ⟨_, _, q⟩ | q <;> exact q rfl
  have a1 := (List.getElem?_eq_some_iff.mp h1).1
  have a2 := (List.getElem?_eq_some_iff.mp h2).1
  obtain ⟨s1, d1, I1⟩ := step_deliver w I h1 c1
  obtain ⟨s2, d2, I2⟩ := step_deliver w I h2 c2
  obtain ⟨_, l1, k1⟩ := I.ms m1 (List.mem_of_getElem? h1)
  obtain ⟨_, l2, k2⟩ := I.ms m2 (List.mem_of_getElem? h2)
  have hM := I.nmem
  have f1 : m1.line * cf.lw < s.mem.length := by rw [hM]; exact many_lt w.lw0 (by rw [← I.nho]; exact l1)
  have f2 : m2.line * cf.lw < s.mem.length := by rw [hM]; exact many_lt w.lw0 (by rw [← I.nho]; exact l2)
  have sl1 := slice_len (cf := cf) (l := m1.line) (by rw [← I.nho]; exact l1) hM I.bm
  have sl2 := slice_len (cf := cf) (l := m2.line) (by rw [← I.nho]; exact l2) hM I.bm
  -- it suffices to know what the second deliveries give
  suffices H : ∀ s12 s21, s1.deliver cf (j - (if i < j then 1 else 0)) = some s12 → s2.deliver cf (i - (if j < i then 1 else 0)) = some s21 → Sy.can s1.ho m2 = true → Sy.can s2.ho m1 = true → s1.net[j - (if i < j then 1 else 0)]? = some m2 → s2.net[i - (if j < i then 1 else 0)]? = some m1 →
      s12.ca = s21.ca ∧ s12.ho = s21.ho ∧ s12.mem = s21.mem ∧ List.Perm s12.net s21.net → ∃ s12 s21, Both cf M n k s i j s12 ∧ Both cf M n k s j i s21 ∧ s12.ca = s21.ca ∧ s12.ho = s21.ho ∧ s12.mem = s21.mem ∧ List.Perm s12.net s21.net by
    cases t1 : m1.toCa with
    | true =>
      obtain ⟨C1, r1, hC1, hr1, e1⟩ := del_ca h1 t1 d1
      have n1 : s1.net[j - (if i < j then 1 else 0)]? = some m2 := by rw [e1]; exact other_at a1 h2 hij
      cases t2 : m2.toCa with
      | true =>
        have hne : m1.core ≠ m2.core := by
          rcases hd with ⟨_, _, q⟩ | ⟨q, _⟩ | q
          · exact q
          · rw [t1] at q; cases q
          · rw [t1, t2] at q; exact absurd rfl q
        obtain ⟨C2, r2, hC2, hr2, e2⟩ := del_ca h2 t2 d2
        have n2 : s2.net[i - (if j < i then 1 else 0)]? = some m1 := by rw [e2]; exact other_at a2 h1 fun e => hij e.symm
        have x1 := ca_del (cf := cf) n1 t2 (C := C2) (r := r2) (by rw [e1]; show (s.ca.set m1.core r1.1)[m2.core]? = _; rw [List.getElem?_set_ne hne]; exact hC2) hr2
        have x2 := ca_del (cf := cf) n2 t1 (C := C1) (r := r1) (by rw [e2]; show (s.ca.set m2.core r2.1)[m1.core]? = _; rw [List.getElem?_set_ne (fun e => hne e.symm)]; exact hC1) hr1
        refine H _ _ x1 x2 (by rw [e1]; exact c2) (by rw [e2]; exact c1) n1 n2 ?_
        refine ⟨?_, by rw [e1, e2], by rw [e1, e2], nets_perm h1 h2 hij (by rw [e1]) (by rw [e2])⟩
        rw [e1, e2]
        exact List.set_comm _ _ hne
      | false =>
        obtain ⟨H2, r2, hH2, hr2, e2⟩ := del_ho h2 t2 d2
        have n2 : s2.net[i - (if j < i then 1 else 0)]? = some m1 := by rw [e2]; exact other_at a2 h1 fun e => hij e.symm
        have x1 := ho_del (cf := cf) n1 t2 (H := H2) (r := r2) (by rw [e1]; exact hH2) (by rw [e1]; exact hr2)
        have x2 := ca_del (cf := cf) n2 t1 (C := C1) (r := r1) (by rw [e2]; exact hC1) hr1
        refine H _ _ x1 x2 (by rw [e1]; exact c2) (by unfold Sy.can; rw [t1]; rfl) n1 n2 ?_
        exact ⟨by rw [e1, e2], by rw [e1, e2], by rw [e1, e2], nets_perm h1 h2 hij (by rw [e1]) (by rw [e2])⟩
    | false =>
      obtain ⟨H1, r1, hH1, hr1, e1⟩ := del_ho h1 t1 d1
      have n1 : s1.net[j - (if i < j then 1 else 0)]? = some m2 := by rw [e1]; exact other_at a1 h2 hij
      cases t2 : m2.toCa with
      | true =>
        obtain ⟨C2, r2, hC2, hr2, e2⟩ := del_ca h2 t2 d2
        have n2 : s2.net[i - (if j < i then 1 else 0)]? = some m1 := by rw [e2]; exact other_at a2 h1 fun e => hij e.symm
        have x1 := ca_del (cf := cf) n1 t2 (C := C2) (r := r2) (by rw [e1]; exact hC2) hr2
        have x2 := ho_del (cf := cf) n2 t1 (H := H1) (r := r1) (by rw [e2]; exact hH1) (by rw [e2]; exact hr1)
        refine H _ _ x1 x2 (by unfold Sy.can; rw [t2]; rfl) (by rw [e2]; exact c1) n1 n2 ?_
        exact ⟨by rw [e1, e2], by rw [e1, e2], by rw [e1, e2], nets_perm h1 h2 hij (by rw [e1]) (by rw [e2])⟩
      | false =>
        have hne : m1.line ≠ m2.line := by
          rcases hd with ⟨q, _⟩ | ⟨_, _, q⟩ | q
          · rw [t1] at q; cases q
          · exact q
          · rw [t1, t2] at q; exact absurd rfl q
        obtain ⟨H2, r2, hH2, hr2, e2⟩ := del_ho h2 t2 d2
        have n2 : s2.net[i - (if j < i then 1 else 0)]? = some m1 := by rw [e2]; exact other_at a2 h1 fun e => hij e.symm
        have w1 : r1.2.1.length = min cf.lw (s.mem.length - m1.line * cf.lw) := by rw [hM]; exact (recv_words hr1 k1 sl1).2.1
        have w2 : r2.2.1.length = min cf.lw (s.mem.length - m2.line * cf.lw) := by rw [hM]; exact (recv_words hr2 k2 sl2).2.1
        have g1 : (s.ho.set m1.line r1.1)[m2.line]? = some H2 := by rw [List.getElem?_set_ne hne]; exact hH2
        have g2 : (s.ho.set m2.line r2.1)[m1.line]? = some H1 := by rw [List.getElem?_set_ne (fun e => hne e.symm)]; exact hH1
        have x1 := ho_del (cf := cf) n1 t2 (H := H2) (r := r2) (by rw [e1]; exact g1) (by rw [e1]; dsimp only; rw [slice_splice hne f1 w1]; exact hr2)
        have x2 := ho_del (cf := cf) n2 t1 (H := H1) (r := r1) (by rw [e2]; exact g2) (by rw [e2]; dsimp only; rw [slice_splice (fun e => hne e.symm) f2 w2]; exact hr1)
        refine H _ _ x1 x2 ?_ ?_ n1 n2 ?_
        · unfold Sy.can at c2 ⊢
          rw [e1]
          dsimp only
          rw [g1]
          rw [hH2] at c2
          exact c2
        · unfold Sy.can at c1 ⊢
          rw [e2]
          dsimp only
          rw [g2]
          rw [hH1] at c1
          exact c1
        · refine ⟨by rw [e1, e2], ?_, ?_, nets_perm h1 h2 hij (by rw [e1]) (by rw [e2])⟩
          · rw [e1, e2]
            exact List.set_comm _ _ hne
          · rw [e1, e2]
            dsimp only
            refine splice_comm hne f1 f2 w1 w2 ?_ ?_
            · rw [hM]; exact (splice_len hM I.bm (by rw [← hM]; exact f1) (recv_words hr1 k1 sl1)).1
            · rw [hM]; exact (splice_len hM I.bm (by rw [← hM]; exact f2) (recv_words hr2 k2 sl2)).1
  intro s12 s21 x1 x2 y1 y2 z1 z2 hq
  obtain ⟨t12, u1, v1⟩ := step_deliver w I1 z1 y1
  obtain ⟨t21, u2, v2⟩ := step_deliver w I2 z2 y2
  rw [x1] at u1
  cases u1
  rw [x2] at u2
  cases u2
  exact ⟨s12, s21, ⟨⟨s1, d1, can_in h1 c1, I1, x1, can_in z1 y1, v1⟩⟩, ⟨⟨s2, d2, can_in h2 c2, I2, x2, can_in z2 y2, v2⟩⟩, hq⟩
end DL

/-! W4: the law's tape and its draws. -/
namespace DL
open PySem PySem.Spec PyProof.Rows L2

/-- a def of the module that keeps a promise of its own kind -/
structure CalS (P : Program) (w : World) (K : PySem.W.Frag) (mg : Str → Option Value) (base : Heap) (k : Nat) (x : Str) (sp : Sp) : Prop where
  ex : ∃ (f : Addr) (fd : FuncData) (ps : List Str), FnOk P w K mg base CX0 k f fd ps sp ∧ mg x = some (.ref f) ∧ PySem.W.keepIn K (.ref f) = true ∧ Binds K fd ps []
def tSp (sp : Sp) (t : TA) : TE := fun σ H Q => t σ H fun vs H1 => sp vs H1 Q (fun _ _ _ => False)
section
variable {X : Cx} {e : Expr} {es : List Expr} {t : TA} {sp : Sp} {pos : Pos}
theorem pe_calS {x : Str} {p : Pos} {k k' : Nat} (c : CalS X.prog X.w X.K X.mg X.base k x sp) (hr : Room k' X.A) (hk : k ≤ k') (hg : Gl X x)
    (ha : PA X (e :: es) t) (hdb : (x == ("__debug__" : Str)) = false := by decide) (he : starEach (e :: es) X.env = (false, eval e X.env) :: starEach es X.env := by rfl) (hpl : (backTo pos (starEach es X.env)).any (·.1) = false := by rfl) :
    PE X (.Call (.Name x p) (e :: es) [] pos) (tSp sp t) := by
  obtain ⟨f, fd, ps, G, hm, hkp, hb⟩ := c.ex
  refine pe_imp (pe_call G (hr.mono hk) hg hm hkp hb .nil pass0 ha hdb he hpl) fun σ H Q q => ?_
  have e : tCall sp [] (fun _ _ _ => False) t σ H Q = t σ H fun vs H1 => sp (vs ++ []) H1 Q (fun _ _ _ => False) := rfl
  rw [e]
  simp only [List.append_nil]
  exact q
end

/-! ### the tape -/
def TpOk (t : Addr) (H : Hp) : Prop := ∃ (l : Addr) (ns : List Int) (place big tot : Int), H t = some (.lst [.ref l, .int place, .int big, .int tot]) ∧ H l = some (.lst (ns.map V.int)) ∧ l ≠ t ∧ 0 ≤ place ∧ ns.length ≤ 63
/-- all stays but t, whose list keeps its head -/
structure Kt (t : Addr) (H H' : Hp) : Prop where
  k : ∀ a o, a ≠ t → H a = some o → H' a = some o
  hd : ∀ x r, H t = some (.lst (x :: r)) → ∃ r', H' t = some (.lst (x :: r'))
theorem Kt.refl {t : Addr} {H : Hp} : Kt t H H := ⟨fun _ _ _ e => e, fun x r e => ⟨r, e⟩⟩
theorem Kt.trans {t : Addr} {H H1 H2 : Hp} (a : Kt t H H1) (b : Kt t H1 H2) : Kt t H H2 := ⟨fun x o n e => b.k x o n (a.k x o n e), fun x r e => by
  obtain ⟨r', e'⟩ := a.hd x r e
  exact b.hd x r' e'⟩
theorem Kt.of {t : Addr} {H H' : Hp} (e : Same H H') : Kt t H H' := ⟨fun a o _ q => e a o q, fun x r q => ⟨r, e _ _ q⟩⟩
theorem Kt.mut {t : Addr} {H : Hp} {x : V} {r r' : List V} (h : H t = some (.lst (x :: r))) : Kt t H (upd H t (.lst (x :: r'))) := ⟨fun a u n e => by
  rw [upd_ne n]
  exact e, fun y s e => by
    rw [h] at e
    cases e
    exact ⟨r', upd_same⟩⟩
theorem TpOk.mn {t : Addr} {H H' : Hp} (h : TpOk t H) (e : Same H H') : TpOk t H' := by
  obtain ⟨l, ns, place, big, tot, h1, h2, h3⟩ := h
  exact ⟨l, ns, place, big, tot, e _ _ h1, e _ _ h2, h3⟩
/-- a new object is not the tape's -/
theorem TpOk.ne {t l : Addr} {H : Hp} (h : TpOk t H) (n : H l = none) : l ≠ t := fun e => by
  obtain ⟨_, _, _, _, _, h1, _⟩ := h
  rw [← e, n] at h1
  cases h1
/-- data without lists stand -/
theorem Kt.rp {K : PySem.W.Frag} {C t : Addr} {H H' : Hp} {v : V} {d : PyData} (k : Kt t H H') (h : TpOk t H) (r : Rp K C H v d) (n : noL d = true) : Rp K C H' v d := by
  refine r.monoL (fun a o hn e => k.k a o (fun z => ?_) e) d n
  obtain ⟨_, _, _, _, _, h1, _⟩ := h
  rw [z, h1] at e
  cases e
  exact hn _ rfl
/-- a draw: at least 0, below the greater of many and 1 -/
def SpDraw : Sp := fun vs H Q _ => ∃ (t : Addr) (m : Int), vs = [.ref t, .int m] ∧ TpOk t H ∧ m < 1073741824 ∧ ∀ (r : Int) (H' : Hp), 0 ≤ r → r < max m 1 → Kt t H H' → TpOk t H' → Q (.int r) H'
def SpTape (K : PySem.W.Frag) : Sp := fun vs H Q _ => ∃ (a : Addr) (ns : List Int), vs = [.ref a] ∧ SqL K H a (ns.map V.int) ∧ ns.length ≤ 63 ∧ ∀ (t : Addr) (H' : Hp), H t = none → Same H H' → TpOk t H' → Q (.ref t) H'

section
variable {P : Program} {w : World} {K : PySem.W.Frag} {mg : Str → Option Value} {base : Heap} {C : Addr}
abbrev s__law_tape : Stmt := top 29
abbrev n__law_tape : List Str := ["_law_script", "_law_total", "_law_cell"]
theorem sc__law_tape : FnScope n__law_tape ["_law_script"] (defScope s__law_tape) := ⟨rfl, rfl, rfl, by decide +kernel, rfl, by decide +kernel, by decide +kernel⟩
theorem ok__law_tape {f : Addr} {fd : FuncData} (F : Fun K "_law_tape" "_law_tape" s__law_tape f fd) (T : Txt K mg C) : FnOk P w K mg base CX0 1 f fd ["_law_script"] (SpTape K) := by
  refine F.ok sc__law_tape (fun vs H Q E h => by obtain ⟨a, ns, rfl, _⟩ := h; rfl) (fun cdv A outer s H vs Q E hr h => ?_)
  obtain ⟨a, ns, rfl, ha, hlen, q⟩ := h
  refine ⟨_, (pss_cons (ps_set (i := 1) sc__law_tape.nd rfl (Or.inl rfl) pe_int)
    (pss_cons (ps_for PassesOwn.never rfl (pi_list (pv 0)) (pg_name (i := 2) sc__law_tape.nd rfl (Or.inl rfl)) (pss_one (ps_set (i := 1) sc__law_tape.nd rfl (Or.inl rfl) (pe_op op_mod (pe_callTy call_int1 (by rfl) T.m_int (by decide +kernel) (pa_cons (pe_op op_add (pe_op op_mul (pv 1) pe_int) (pe_callB call_abs (by rfl) T.m_abs (by decide +kernel) (pa_cons (pe_callTy call_int1 (by rfl) T.m_int (by decide +kernel) (pa_cons (pv 2) pa_nil)) pa_nil))) pa_nil)) pe_int))))
    (pss_one (ps_ret (pe_lst (pa_cons (pe_callTy call_list_of (by rfl) T.m_list (by decide +kernel) (pa_cons (pv 0) pa_nil)) (pa_cons pe_int (pa_cons pe_int (pa_cons (pv 1) pa_nil))))))))), ?_⟩
  refine ⟨.ref a, rfl, a, rfl, ⟨_, ha⟩, ?_⟩
  refine for_it (walk_list (K := K) (a := a) (xs := ns.map V.int)) (fun j σ' H' => H' = H ∧ ∃ tot o, σ' = [some (.ref a), some (.int tot), o]) ⟨rfl, 7, none, rfl⟩ (fun i σ' H' _ p => by rw [p.1]; exact ha) ?_ ?_
  · rintro j x σ' H3 H4 hj ⟨rfl, tot, o, rfl⟩ ⟨rfl, hx⟩
    obtain ⟨z, hz⟩ : ∃ z : Int, x = .int z := by
      rw [List.getElem?_map] at hx
      cases e : ns[j]? with
      | none => rw [e] at hx; cases hx
      | some z => rw [e] at hx; cases hx; exact ⟨z, rfl⟩
    subst hz
    refine ⟨_, rfl, _, _, rfl, rfl, .inr ⟨by decide, by decide⟩, _, rfl, .inl ⟨_, rfl, ?_⟩⟩
    refine ⟨_, rfl, _, _, rfl, rfl, ?_⟩
    refine .inl ⟨_, rfl, ?_⟩
    exact ⟨_, _, rfl, rfl, (by show (0 : Int) < 2147483647; decide), rfl, _, _, rfl⟩
  · rintro σ' H3 ⟨rfl, tot, o, rfl⟩
    refine ⟨_, rfl, a, _, rfl, .inl ha, fun l hl => ?_⟩
    refine ⟨_, rfl, (by show 4 ≤ sizeLine; decide), fun t ht => ?_⟩
    have hlt : l ≠ t := fun e => by
      subst e
      rw [upd_same] at ht
      cases ht
    have ht' : H3 t = none := by rw [upd_ne (Ne.symm hlt)] at ht; exact ht
    refine q t _ ht' ((same_new hl).trans (same_new ht)) ⟨l, ns, 0, 0, tot, upd_same, ?_, hlt, Int.le_refl 0, hlen⟩
    rw [upd_ne hlt]
    exact upd_same
abbrev s__law_draw : Stmt := top 30
abbrev n__law_draw : List Str := ["_law_tape_here", "_law_many", "_law_place", "_law_number"]
theorem sc__law_draw : FnScope n__law_draw ["_law_tape_here", "_law_many"] (defScope s__law_draw) := ⟨rfl, rfl, rfl, by decide +kernel, rfl, by decide +kernel, by decide +kernel⟩
theorem ok__law_draw {f : Addr} {fd : FuncData} (F : Fun K "_law_draw" "_law_draw" s__law_draw f fd) (T : Txt K mg C) : FnOk P w K mg base CX0 1 f fd ["_law_tape_here", "_law_many"] SpDraw := by
  refine F.ok sc__law_draw (fun vs H Q E h => by obtain ⟨t, m, rfl, _⟩ := h; rfl) (fun cdv A outer s H vs Q E hr h => ?_)
  obtain ⟨t, m, rfl, ht, hm, q⟩ := h
  obtain ⟨l, ns, place, big, tot, h1, h2, hlt, hp, hn⟩ := ht
  have fin : ∀ (z : Int) (H' : Hp), Kt t H H' → TpOk t H' → Q (.int (z % (if (1 : Int) > m then 1 else m))) H' := fun z H' hk ho => by
    have e0 : (0 : Int) < if (1 : Int) > m then 1 else m := by split <;> omega
    have e1 := Int.emod_lt_of_pos z e0
    refine q _ H' (Int.emod_nonneg _ (by omega)) ?_ hk ho
    have e2 : (if (1 : Int) > m then 1 else m) = max m 1 := by split <;> omega
    rw [e2] at e1 ⊢
    exact e1
  have mk : ∀ (H' : Hp) (p b o : Int), Kt t H H' → H' t = some (.lst [.ref l, .int p, .int b, .int o]) → 0 ≤ p → TpOk t H' := fun H' p b o hk e hp => ⟨l, ns, p, b, o, e, hk.k l _ hlt h2, hlt, hp, hn⟩
  have ls : ∀ {H' : Hp}, Kt t H H' → H' l = some (.lst (ns.map V.int)) := fun hk => hk.k l _ hlt h2
  refine ⟨_, (C8.pss_cut (ps_if (pt_cmpR op_eq (pe_ix ix_seq (pv 0) pe_int (fun _ _ => rfl)) pe_int (nomark _)) (pss_cons (ps_set (i := 2) sc__law_draw.nd rfl (Or.inl rfl) (pe_ix ix_seq (pv 0) pe_int (fun _ _ => rfl)))
    (pss_cons (ps_set (i := 3) sc__law_draw.nd rfl (Or.inl rfl) pe_int)
    (C8.pss_cut (ps_if (pt_cmpR op_lt (pv 2) (pe_callB call_len_seq (by rfl) T.m_len PySem.boot_len (pa_cons (pe_ix ix_seq (pv 0) pe_int (fun _ _ => rfl)) pa_nil)) (nomark _)) (pss_one (ps_set (i := 3) sc__law_draw.nd rfl (Or.inl rfl) (pe_callB call_abs (by rfl) T.m_abs (by decide +kernel) (pa_cons (pe_callTy call_int1 (by rfl) T.m_int (by decide +kernel) (pa_cons (pe_ix ix_seq (pe_ix ix_seq (pv 0) pe_int (fun _ _ => rfl)) (pv 2) (fun _ _ => rfl)) pa_nil)) pa_nil)))) (pss_cons (ps_asg (pe_op op_mod (pe_callTy call_int1 (by rfl) T.m_int (by decide +kernel) (pa_cons (pe_op op_add (pe_op op_add (pe_op op_mul (pe_ix ix_seq (pv 0) pe_int (fun _ _ => rfl)) pe_int) (pv 2)) pe_int) pa_nil)) pe_int) (pg_sub (pv 0) pe_int set_list))
    (pss_one (ps_set (i := 3) sc__law_draw.nd rfl (Or.inl rfl) (pe_ix ix_seq (pv 0) pe_int (fun _ _ => rfl))))))
    (pss_cons (ps_asg (pe_op op_add (pv 2) pe_int) (pg_sub (pv 0) pe_int set_list))
    (pss_cons (ps_if (pt_cmpR op_lt (pv 3) (pe_op op_pow pe_int pe_int) (nomark _)) (pss_cons (ps_set (i := 3) sc__law_draw.nd rfl (Or.inl rfl) (pe_op op_mod (pe_callTy call_int1 (by rfl) T.m_int (by decide +kernel) (pa_cons (pe_op op_add (pe_op op_add (pe_op op_mul (pv 3) pe_int) (pe_op op_mul (pv 2) pe_int)) pe_int) pa_nil)) pe_int))
    (pss_cons (ps_set (i := 3) sc__law_draw.nd rfl (Or.inl rfl) (pe_op op_mod (pe_callTy call_int1 (by rfl) T.m_int (by decide +kernel) (pa_cons (pe_op op_mul (pv 3) pe_int) pa_nil)) pe_int))
    (pss_one (ps_ret (pe_op op_mod (pe_callTy call_int1 (by rfl) T.m_int (by decide +kernel) (pa_cons (pv 3) pa_nil)) (pe_callB (call_max2 rfl) (by rfl) T.m_max (by decide +kernel) (pa_cons (pv 1) (pa_cons pe_int pa_nil)))))))) pss_nil)
    (pss_one (ps_asg (pv 3) (pg_sub (pv 0) pe_int set_list)))))))) pss_nil)
    (pss_cons (ps_set (i := 3) sc__law_draw.nd rfl (Or.inl rfl) (pe_ix ix_seq (pv 0) pe_int (fun _ _ => rfl)))
    (pss_cons (ps_asg (pe_op op_fdiv (pv 3) (pe_callB (call_max2 rfl) (by rfl) T.m_max (by decide +kernel) (pa_cons (pv 1) (pa_cons pe_int pa_nil)))) (pg_sub (pv 0) pe_int set_list))
    (pss_one (ps_ret (pe_op op_mod (pe_callTy call_int1 (by rfl) T.m_int (by decide +kernel) (pa_cons (pv 3) pa_nil)) (pe_callB (call_max2 rfl) (by rfl) T.m_max (by decide +kernel) (pa_cons (pv 1) (pa_cons pe_int pa_nil))))))))), ?_⟩
  refine ⟨fun σ' H' => ∃ (p b o : Int) (o2 o3 : Option V), σ' = [some (.ref t), some (.int m), o2, o3] ∧ Kt t H H' ∧ H' t = some (.lst [.ref l, .int p, .int b, .int o]) ∧ 0 ≤ p, ?_, ?_⟩
  · refine ⟨_, rfl, .inl ⟨_, _, _, _, rfl, rfl, SqL.of h1, rfl, ?_⟩⟩
    refine ⟨rfl, _, rfl, ?_⟩
    refine ite2 (fun hb => ?_) fun hb => ?_
    · refine ⟨_, rfl, .inl ⟨_, _, _, _, rfl, rfl, SqL.of h1, rfl, ?_⟩⟩
      refine ⟨fun σ' H' => ∃ (o : Int) (z : Int), σ' = [some (.ref t), some (.int m), some (.int place), some (.int z)] ∧ Kt t H H' ∧ H' t = some (.lst [.ref l, .int place, .int big, .int o]), ?_, ?_⟩
      · refine ⟨_, rfl, ?_⟩
        refine ⟨_, rfl, .inl ⟨_, _, _, _, rfl, rfl, SqL.of h1, rfl, ?_⟩⟩
        refine ⟨_, _, rfl, .inl (SqL.of h2), ?_⟩
        refine ⟨_, _, rfl, rfl, _, rfl, ?_⟩
        refine ite2 (fun hc => ?_) fun hc => ?_
        · have hc' : place < ns.length := by simpa using hc
          obtain ⟨k, rfl⟩ := Int.eq_ofNat_of_zero_le hp
          have hk : k < ns.length := by omega
          refine ⟨_, rfl, .inl ⟨_, _, _, _, rfl, rfl, SqL.of h1, rfl, ?_⟩⟩
          refine ⟨_, rfl, .inl ⟨_, _, _, .int ns[k], rfl, rfl, SqL.of h2, ?_, ?_⟩⟩
          · unfold atI ixN
            rw [if_pos (by omega), if_pos (by rw [List.length_map]; omega)]
            simp [hk]
          · refine .inl ⟨_, rfl, ?_⟩
            exact ⟨_, rfl, tot, _, rfl, Kt.refl, h1⟩
        · refine ⟨_, rfl, .inl ⟨_, _, _, _, rfl, rfl, SqL.of h1, rfl, ?_⟩⟩
          refine ⟨_, _, rfl, rfl, .inr ⟨by decide, by decide⟩, _, rfl, ?_⟩
          refine ⟨_, _, rfl, rfl, ?_⟩
          refine ⟨_, _, rfl, rfl, ?_⟩
          refine .inl ⟨_, rfl, ?_⟩
          refine ⟨_, _, rfl, rfl, (by show (0 : Int) < 2147483647; decide), ?_⟩
          refine ⟨_, rfl, ?_⟩
          refine ⟨t, _, _, 3, rfl, rfl, h1, rfl, ?_⟩
          refine ⟨_, rfl, .inl ⟨_, _, _, _, rfl, rfl, SqL.of upd_same, rfl, ?_⟩⟩
          exact ⟨_, _, rfl, Kt.mut h1, upd_same⟩
      · rintro σ' H' ⟨o, z, rfl, hk, ht⟩
        refine ⟨_, rfl, _, _, rfl, rfl, ?_⟩
        refine ⟨_, rfl, t, _, _, 1, rfl, rfl, ht, rfl, ?_⟩
        have hk2 : Kt t H (upd H' t (.lst [.ref l, .int (place + 1), .int big, .int o])) := hk.trans (Kt.mut ht)
        refine ⟨_, rfl, _, _, rfl, rfl, ⟨by decide, by decide, by decide⟩, _, _, rfl, rfl, _, rfl, ?_⟩
        refine ite2 (fun hc => ?_) fun hc => ?_
        · refine ⟨_, rfl, _, _, rfl, rfl, .inr ⟨by decide, by decide⟩, _, rfl, _, _, rfl, rfl, .inr ⟨by decide, by decide⟩, _, _, rfl, rfl, _, _, rfl, rfl, .inl ⟨_, rfl, ?_⟩⟩
          refine ⟨_, _, rfl, rfl, (by show (0 : Int) < 2147483647; decide), ?_⟩
          refine ⟨_, rfl, _, _, rfl, rfl, .inr ⟨by decide, by decide⟩, .inl ⟨_, rfl, ?_⟩⟩
          refine ⟨_, _, rfl, rfl, (by show (0 : Int) < 2147483629; decide), ?_⟩
          refine ⟨_, rfl, .inl ⟨_, rfl, ?_⟩⟩
          refine ⟨_, rfl, _, _, rfl, ?_⟩
          refine ⟨_, _, rfl, rfl, (by show (0 : Int) < if (1 : Int) > m then 1 else m; split <;> omega), ?_⟩
          exact fin _ _ hk2 (mk _ _ _ _ hk2 upd_same (by omega))
        · refine ⟨_, rfl, _, rfl, t, _, _, 2, rfl, rfl, upd_same, rfl, ?_⟩
          exact ⟨_, _, _, _, _, rfl, hk2.trans (Kt.mut upd_same), upd_same, by omega⟩
    · exact ⟨_, _, _, _, _, rfl, Kt.refl, h1, hp⟩
  · rintro σ' H' ⟨p, b, o, o2, o3, rfl, hk, ht, hp'⟩
    refine ⟨_, rfl, .inl ⟨_, _, _, _, rfl, rfl, SqL.of ht, rfl, ?_⟩⟩
    refine ⟨_, rfl, _, rfl, _, _, rfl, ?_⟩
    refine ⟨_, _, rfl, rfl, ⟨(by show (0 : Int) < if (2 : Int) > m then 2 else m; split <;> omega), (by show (if (2 : Int) > m then 2 else m) < (1073741824 : Int); split <;> omega)⟩, ?_⟩
    refine ⟨_, rfl, t, _, _, 2, rfl, rfl, ht, rfl, ?_⟩
    have hk2 : Kt t H (upd H' t (.lst [.ref l, .int p, .int (b / if (2 : Int) > m then 2 else m), .int o])) := hk.trans (Kt.mut ht)
    refine ⟨_, rfl, .inl ⟨_, rfl, ?_⟩⟩
    refine ⟨_, rfl, _, _, rfl, ?_⟩
    refine ⟨_, _, rfl, rfl, (by show (0 : Int) < if (1 : Int) > m then 1 else m; split <;> omega), ?_⟩
    exact fin _ _ hk2 (mk _ _ _ _ hk2 upd_same hp')
end
end DL

/-! W5: the law's world, fresh memory and action. -/
namespace DL
open PySem PySem.Spec PyProof.Rows L2

theorem draw_at {t : Addr} {m : Int} {H : Hp} {Q : VK} {E : XK} (ht : TpOk t H) (hm : m < 1073741824) (k : ∀ (r : Int) (H' : Hp), 0 ≤ r → r < max m 1 → Kt t H H' → TpOk t H' → Q (.int r) H') : SpDraw [.ref t, .int m] H Q E := ⟨t, m, rfl, ht, hm, k⟩
theorem draw_v {t : Addr} {m : Int} {σ : L2.St} {H : Hp} {Q : VK} (h0 : σ[0]? = some (some (.ref t))) (ht : TpOk t H) (hm : m < 1073741824) (k : ∀ (r : Int) (H' : Hp), 0 ≤ r → r < max m 1 → Kt t H H' → TpOk t H' → Q (.int r) H') :
    tSp SpDraw (tCons (tVar 0) (tCons (tC (.int m)) tNil)) σ H Q := ⟨_, h0, draw_at (E := fun _ _ _ => False) ht hm k⟩
theorem atI_ofNat {α : Type} {xs : List α} {i : Nat} {v : α} (h : xs[i]? = some v) : atI xs (i : Int) = some v := by
  obtain ⟨hi, _⟩ := List.getElem?_eq_some_iff.mp h
  unfold atI ixN
  rw [if_pos (by omega), if_pos (by omega)]
  simpa using h
/-- [..][draw] -/
theorem pick_at {K : PySem.W.Frag} {t : Addr} {m : Int} {σ : L2.St} {H : Hp} {Q : VK} {ys : List V} (h0 : σ[0]? = some (some (.ref t))) (ht : TpOk t H) (hm : m < 1000) (hl : max m 1 ≤ ys.length) (hz : ys.length ≤ 1000)
    (k : ∀ (v : V) (H' : Hp), v ∈ ys → Kt t H H' → TpOk t H' → Q v H') : ys.length ≤ sizeLine ∧ ∀ p, H p = none → tSp SpDraw (tCons (tVar 0) (tCons (tC (.int m)) tNil)) σ (upd H p (.lst ys)) fun y H2 => rIx K (.ref p) y H2 Q := by
  refine ⟨Nat.le_of_lt (small1000 hz), fun p hp => ?_⟩
  have hs : Same H (upd H p (.lst ys)) := same_new hp
  refine draw_v h0 (ht.mn hs) (by omega) fun r H' h1 h2 hk ho => ?_
  obtain ⟨i, rfl⟩ := Int.eq_ofNat_of_zero_le h1
  have hi : i < ys.length := by omega
  exact .inl ⟨p, ys, _, ys[i], rfl, rfl, SqL.of (hk.k p _ (ht.ne hp) upd_same), atI_ofNat (List.getElem?_eq_getElem hi), k _ _ (List.getElem_mem hi) ((Kt.of hs).trans hk) ho⟩
theorem pick_int {K : PySem.W.Frag} {t : Addr} {m : Int} {σ : L2.St} {H : Hp} {Q : VK} {zs : List Int} (lo hi : Int) (h0 : σ[0]? = some (some (.ref t))) (ht : TpOk t H) (hm : m < 1000) (hl : max m 1 ≤ zs.length) (hz : zs.length ≤ 1000) (hb : ∀ z ∈ zs, lo ≤ z ∧ z ≤ hi)
    (k : ∀ (c : Int) (H' : Hp), lo ≤ c → c ≤ hi → Kt t H H' → TpOk t H' → Q (.int c) H') : (zs.map V.int).length ≤ sizeLine ∧ ∀ p, H p = none → tSp SpDraw (tCons (tVar 0) (tCons (tC (.int m)) tNil)) σ (upd H p (.lst (zs.map V.int))) fun y H2 => rIx K (.ref p) y H2 Q := by
  refine pick_at h0 ht hm (by rw [List.length_map]; exact hl) (by rw [List.length_map]; exact hz) fun v H' hv hk ho => ?_
  obtain ⟨c, hc, rfl⟩ := List.mem_map.mp hv
  exact k c H' (hb c hc).1 (hb c hc).2 hk ho

theorem rp_ints {K : PySem.W.Frag} {C : Addr} {H : Hp} : ∀ xs : List Int, RpAll K C H (xs.map V.int) (xs.map PyData.int)
  | [] => .nil
  | x :: xs => .cons (.sc (.int x)) (rp_ints xs)
/-! ### the world -/
structure Wl where
  n : Nat
  z : Nat
  lw : Nat
  sets : Nat
  ways : Nat
  req : Nat
  ex : Bool
structure Wl.Ok (u : Wl) : Prop where
  n0 : 1 ≤ u.n
  n1 : u.n ≤ 4
  z0 : 1 ≤ u.z
  z1 : u.z ≤ 16
  lw0 : 1 ≤ u.lw
  lw1 : u.lw ≤ 16
  sets : 1 ≤ u.sets
def dWl (u : Wl) : PyData := .tuple [dN u.n, dN u.z, dN u.lw, dN (manyOf u.z u.lw), .tuple [dN u.sets, dN u.ways, dN u.req], .bool u.ex]
theorem noL_dWl (u : Wl) : noL (dWl u) = true := rfl
def SpWorld (K : PySem.W.Frag) (C : Addr) : Sp := fun vs H Q _ => ∃ t : Addr, vs = [.ref t] ∧ TpOk t H ∧ ∀ (v : V) (H' : Hp) (u : Wl), u.Ok → Kt t H H' → TpOk t H' → Rp K C H' v (dWl u) → Q v H'
/-- words drawn afresh -/
def SpFresh (K : PySem.W.Frag) (C : Addr) : Sp := fun vs H Q _ => ∃ (t : Addr) (n : Nat), vs = [.ref t, .int n] ∧ TpOk t H ∧ n ≤ 16 ∧ ∀ (v : V) (H' : Hp) (mem : List Int), mem.length = n → Bd mem → Kt t H H' → TpOk t H' → Rp K C H' v (dW mem) → Q v H'

section
variable {P : Program} {w : World} {K : PySem.W.Frag} {mg : Str → Option Value} {base : Heap} {C : Addr}
abbrev s__law_world : Stmt := top 31
abbrev n__law_world : List Str := ["_law_tape_here", "_law_cores", "_law_size", "_law_width", "_law_many_sets", "_law_many_ways", "_law_many_requests", "_law_alone"]
theorem sc__law_world : FnScope n__law_world ["_law_tape_here"] (defScope s__law_world) := ⟨rfl, rfl, rfl, by decide +kernel, rfl, by decide +kernel, by decide +kernel⟩
theorem ok__law_world {f : Addr} {fd : FuncData} (F : Fun K "_law_world" "_law_world" s__law_world f fd) (T : Txt K mg C) (c__law_draw : CalS P w K mg base 1 "_law_draw" SpDraw) : FnOk P w K mg base CX0 2 f fd ["_law_tape_here"] (SpWorld K C) := by
  refine F.ok sc__law_world (fun vs H Q E h => by obtain ⟨t, rfl, _⟩ := h; rfl) (fun cdv A outer s H vs Q E hr h => ?_)
  obtain ⟨t, rfl, ht, q⟩ := h
  refine ⟨_, (pss_cons (ps_set (i := 1) sc__law_world.nd rfl (Or.inl rfl) (pe_ix ix_seq (pe_lst (pa_cons pe_int (pa_cons pe_int (pa_cons pe_int (pa_cons pe_int (pa_cons pe_int (pa_cons pe_int pa_nil))))))) (pe_calS c__law_draw hr (by decide) (by rfl) (pa_cons (pv 0) (pa_cons pe_int pa_nil))) (fun _ _ => rfl)))
    (pss_cons (ps_set (i := 2) sc__law_world.nd rfl (Or.inl rfl) (pe_op op_add pe_int (pe_ix ix_seq (pe_lst (pa_cons (pe_calS c__law_draw hr (by decide) (by rfl) (pa_cons (pv 0) (pa_cons pe_int pa_nil))) (pa_cons (pe_calS c__law_draw hr (by decide) (by rfl) (pa_cons (pv 0) (pa_cons pe_int pa_nil))) pa_nil))) (pe_calS c__law_draw hr (by decide) (by rfl) (pa_cons (pv 0) (pa_cons pe_int pa_nil))) (fun _ _ => rfl))))
    (pss_cons (ps_set (i := 3) sc__law_world.nd rfl (Or.inl rfl) (pe_ix ix_seq (pe_lst (pa_cons pe_int (pa_cons pe_int (pa_cons pe_int (pa_cons (pe_op op_add pe_int (pe_calS c__law_draw hr (by decide) (by rfl) (pa_cons (pv 0) (pa_cons pe_int pa_nil)))) pa_nil))))) (pe_calS c__law_draw hr (by decide) (by rfl) (pa_cons (pv 0) (pa_cons pe_int pa_nil))) (fun _ _ => rfl)))
    (pss_cons (ps_set (i := 4) sc__law_world.nd rfl (Or.inl rfl) (pe_ix ix_seq (pe_lst (pa_cons pe_int (pa_cons pe_int (pa_cons pe_int (pa_cons (pe_op op_add pe_int (pe_calS c__law_draw hr (by decide) (by rfl) (pa_cons (pv 0) (pa_cons pe_int pa_nil)))) pa_nil))))) (pe_calS c__law_draw hr (by decide) (by rfl) (pa_cons (pv 0) (pa_cons pe_int pa_nil))) (fun _ _ => rfl)))
    (pss_cons (ps_set (i := 5) sc__law_world.nd rfl (Or.inl rfl) (pe_ix ix_seq (pe_lst (pa_cons pe_int (pa_cons pe_int (pa_cons (pe_op op_add pe_int (pe_calS c__law_draw hr (by decide) (by rfl) (pa_cons (pv 0) (pa_cons pe_int pa_nil)))) pa_nil)))) (pe_calS c__law_draw hr (by decide) (by rfl) (pa_cons (pv 0) (pa_cons pe_int pa_nil))) (fun _ _ => rfl)))
    (pss_cons (ps_set (i := 6) sc__law_world.nd rfl (Or.inl rfl) (pe_op op_add pe_int (pe_calS c__law_draw hr (by decide) (by rfl) (pa_cons (pv 0) (pa_cons pe_int pa_nil)))))
    (pss_cons (ps_set (i := 7) sc__law_world.nd rfl (Or.inl rfl) (pe_cmpR op_eq (pe_calS c__law_draw hr (by decide) (by rfl) (pa_cons (pv 0) (pa_cons pe_int pa_nil))) pe_int (nomark _)))
    (pss_one (ps_ret (pe_tup (pa_cons (pv 1) (pa_cons (pv 2) (pa_cons (pv 3) (pa_cons (pe_op op_fdiv (pe_op op_sub (pe_op op_add (pv 2) (pv 3)) pe_int) (pv 3)) (pa_cons (pe_tup (pa_cons (pv 4) (pa_cons (pv 5) (pa_cons (pv 6) pa_nil)))) (pa_cons (pv 7) pa_nil)))))))))))))))), ?_⟩
  refine pick_int (zs := [1, 2, 2, 3, 3, 4]) 1 4 rfl ht (by decide) (by decide) (by decide) (by decide) fun c H1 c0 c1 k1 t1 => ?_
  refine draw_v rfl t1 (by decide) fun r1 H2 a0 a1 k2 t2 => draw_v rfl t2 (by decide) fun r2 H3 b0 b1 k3 t3 => ?_
  refine pick_int (zs := [r1, r2]) 0 15 rfl t3 (by decide) (by show max (2 : Int) 1 ≤ 2; decide) (by show 2 ≤ 1000; decide) (by simp; omega) fun z0 H4 z1 z2 k4 t4 => ?_
  refine ⟨_, _, rfl, rfl, ?_⟩
  refine draw_v rfl t4 (by decide) fun r3 H5 d0 d1 k5 t5 => ⟨_, _, rfl, rfl, ?_⟩
  refine pick_int (zs := [1, 1, 2, 1 + r3]) 1 16 rfl t5 (by decide) (by show max (4 : Int) 1 ≤ 4; decide) (by show 4 ≤ 1000; decide) (by simp; omega) fun wd H6 w0 w1 k6 t6 => ?_
  refine draw_v rfl t6 (by decide) fun r4 H7 e0 e1 k7 t7 => ⟨_, _, rfl, rfl, ?_⟩
  refine pick_int (zs := [1, 1, 2, 1 + r4]) 1 16 rfl t7 (by decide) (by show max (4 : Int) 1 ≤ 4; decide) (by show 4 ≤ 1000; decide) (by simp; omega) fun st H8 s0 s1 k8 t8 => ?_
  refine draw_v rfl t8 (by decide) fun r5 H9 f0 f1 k9 t9 => ⟨_, _, rfl, rfl, ?_⟩
  refine pick_int (zs := [1, 2, 1 + r5]) 1 16 rfl t9 (by decide) (by show max (3 : Int) 1 ≤ 3; decide) (by show 3 ≤ 1000; decide) (by simp; omega) fun wy H10 y0 y1 k10 t10 => ?_
  refine draw_v rfl t10 (by decide) fun r6 H11 g0 g1 k11 t11 => ⟨_, _, rfl, rfl, ?_⟩
  refine draw_v rfl t11 (by decide) fun r7 H12 h0 h1 k12 t12 => ⟨rfl, ?_⟩
  obtain ⟨cn, rfl⟩ := Int.eq_ofNat_of_zero_le (show 0 ≤ c by omega)
  obtain ⟨zn, rfl⟩ := Int.eq_ofNat_of_zero_le z1
  obtain ⟨wn, rfl⟩ := Int.eq_ofNat_of_zero_le (show 0 ≤ wd by omega)
  obtain ⟨sn, rfl⟩ := Int.eq_ofNat_of_zero_le (show 0 ≤ st by omega)
  obtain ⟨yn, rfl⟩ := Int.eq_ofNat_of_zero_le (show 0 ≤ wy by omega)
  obtain ⟨rn, rfl⟩ := Int.eq_ofNat_of_zero_le g0
  refine ⟨_, rfl, _, rfl, _, rfl, ?_⟩
  refine ⟨_, rfl, _, rfl, _, _, rfl, rfl, _, _, rfl, rfl, _, rfl, _, _, rfl, rfl, ⟨by omega, by omega⟩, ?_⟩
  refine ⟨_, rfl, _, rfl, _, rfl, (by show 3 ≤ sizeLine; decide), fun p hp => ?_⟩
  refine ⟨_, rfl, (by show 6 ≤ sizeLine; decide), fun p' hp' => ?_⟩
  have sA := same_new (o := HO.tup [.int ((sn : Nat) : Int), .int ((yn : Nat) : Int), .int (1 + ((rn : Nat) : Int))]) hp
  have eM : ((1 : Int) + (zn : Nat) + (wn : Nat) - 1) / (wn : Nat) = ((manyOf (1 + zn) wn : Nat) : Int) := by
    unfold manyOf
    have : (1 : Int) + (zn : Nat) + (wn : Nat) - 1 = ((1 + zn + wn - 1 : Nat) : Int) := by omega
    rw [this]
    rfl
  have sB := fun (o : HO) => sA.trans (same_new (o := o) hp')
  refine q _ _ ⟨cn, 1 + zn, wn, sn, yn, 1 + rn, decide ((V.int r7) = V.int 1)⟩ ⟨by simp only; omega, by simp only; omega, by simp only; omega, by simp only; omega, by simp only; omega, by simp only; omega, by simp only; omega⟩ ?_ (t12.mn (sB _)) ?_
  · exact (((((((((((k1.trans k2).trans k3).trans k4).trans k5).trans k6).trans k7).trans k8).trans k9).trans k10).trans k11).trans k12).trans (Kt.of (sB _))
  · have n1 : p ≠ p' := fun e => by subst e; rw [upd_same] at hp'; cases hp'
    refine .tup (SqT.of upd_same) (.cons (.sc (.int _)) (.cons (.sc ?_) (.cons (.sc (.int _)) (.cons (.sc ?_) (.cons (.tup (SqT.of (by rw [upd_ne n1]; exact upd_same)) (.cons (.sc (.int _)) (.cons (.sc (.int _)) (.cons (.sc ?_) .nil)))) (.cons (.sc (.bl _)) .nil))))))
    · show Sc (.int ((1 : Int) + (zn : Nat))) _
      have : (1 : Int) + (zn : Nat) = ((1 + zn : Nat) : Int) := by omega
      rw [this]
      exact .int _
    · show Sc (.int (((1 : Int) + (zn : Nat) + (wn : Nat) - 1) / (wn : Nat))) _
      rw [eM]
      exact .int _
    · show Sc (.int ((1 : Int) + (rn : Nat))) _
      have : (1 : Int) + (rn : Nat) = ((1 + rn : Nat) : Int) := by omega
      rw [this]
      exact .int _
abbrev s__law_fresh : Stmt := top 33
abbrev n__law_fresh : List Str := ["_law_tape_here", "_law_many", "_law_words", "_law_k"]
theorem sc__law_fresh : FnScope n__law_fresh ["_law_tape_here", "_law_many"] (defScope s__law_fresh) := ⟨rfl, rfl, rfl, by decide +kernel, rfl, by decide +kernel, by decide +kernel⟩
theorem ok__law_fresh {f : Addr} {fd : FuncData} (F : Fun K "_law_fresh" "_law_fresh" s__law_fresh f fd) (T : Txt K mg C) (c__law_draw : CalS P w K mg base 1 "_law_draw" SpDraw) : FnOk P w K mg base CX0 2 f fd ["_law_tape_here", "_law_many"] (SpFresh K C) := by
  refine F.ok sc__law_fresh (fun vs H Q E h => by obtain ⟨t, n, rfl, _⟩ := h; rfl) (fun cdv A outer s H vs Q E hr h => ?_)
  obtain ⟨t, n, rfl, ht, hn, q⟩ := h
  refine ⟨_, (pss_cons (ps_set (i := 2) sc__law_fresh.nd rfl (Or.inl rfl) (pe_lst pa_nil))
    (pss_cons (ps_for PassesOwn.never rfl (pi_range1 (by rfl) T.m_range (pa_cons (pv 1) pa_nil)) (pg_name (i := 3) sc__law_fresh.nd rfl (Or.inl rfl)) (pss_one (ps_if (pt_cmpR op_eq (pe_calS c__law_draw hr (by decide) (by rfl) (pa_cons (pv 0) (pa_cons pe_int pa_nil))) pe_int (nomark _)) (pss_one (ps_expr (pe_bm PySem.F.plainAttrs_list PySem.F.slot_list_append PySem.F.type_list_append mt_append (pv 2) (pa_cons (pe_ix ix_seq (pe_lst (pa_cons pe_int (pa_cons pe_int (pa_cons pe_int (pa_cons pe_int pa_nil))))) (pe_calS c__law_draw hr (by decide) (by rfl) (pa_cons (pv 0) (pa_cons pe_int pa_nil))) (fun _ _ => rfl)) pa_nil)))) (pss_one (ps_expr (pe_bm PySem.F.plainAttrs_list PySem.F.slot_list_append PySem.F.type_list_append mt_append (pv 2) (pa_cons (pe_calS c__law_draw hr (by decide) (by rfl) (pa_cons (pv 0) (pa_cons pe_int pa_nil))) pa_nil)))))))
    (pss_one (ps_ret (pe_callTy call_tuple_of (by rfl) T.m_tuple (by decide +kernel) (pa_cons (pv 2) pa_nil)))))), ?_⟩
  refine ⟨Nat.zero_le _, fun l hl => ?_⟩
  have sl : Same H (upd H l (.lst [])) := same_new hl
  have hlt : l ≠ t := ht.ne hl
  refine ⟨_, rfl, _, rfl, by omega, by omega, ?_⟩
  obtain ⟨l0, r0, e0, hl0⟩ : ∃ l0 r0, H t = some (.lst (.ref l0 :: r0)) ∧ l0 ≠ l := by
    obtain ⟨l0, ns, p, b, o, e1, e2, e3⟩ := ht
    exact ⟨l0, _, e1, fun z => by rw [z, hl] at e2; cases e2⟩
  refine for_it (walk_range (lo := 0) (n := ((n : Nat) : Int).toNat)) (fun j σ' H' => ∃ (o : Option V) (acc : List Int), σ' = [some (.ref t), some (.int (n : Nat)), some (.ref l), o] ∧ H' l = some (.lst (acc.map V.int)) ∧ acc.length = j ∧ Bd acc ∧ TpOk t H' ∧ (∃ r, H' t = some (.lst (.ref l0 :: r))) ∧ ∀ a o, a ≠ t → a ≠ l → H a = some o → H' a = some o)
    ⟨none, [], rfl, upd_same, rfl, (fun x hx => by cases hx), ht.mn sl, ⟨r0, sl _ _ e0⟩, fun a o _ _ e => sl a o e⟩ (fun _ _ _ _ _ => trivial) ?_ ?_
  · rintro j x σ' H3 H4 hj ⟨o, acc, rfl, hacc, hlen, hb, ht3, ⟨rt, hrt⟩, hk⟩ ⟨rfl, rfl⟩
    have hz : acc.length < 1000 := by omega
    have push : ∀ (y : Int) (H5 : Hp), 0 ≤ y → y < 65536 → Kt t H4 H5 → TpOk t H5 → (∃ (l_1 : Addr) (xs : List V) (y_1 : V), V.ref l = V.ref l_1 ∧ [V.int y] = [y_1] ∧ H5 l_1 = some (.lst xs) ∧ xs.length < sizeLine ∧ ∃ (o : Option V) (acc' : List Int), [some (V.ref t), some (.int (n : Nat)), some (.ref l), some (.int (0 + (j : Nat)))] = [some (V.ref t), some (.int (n : Nat)), some (.ref l), o] ∧ (upd H5 l_1 (.lst (xs ++ [y_1]))) l = some (.lst (acc'.map V.int)) ∧ acc'.length = j + 1 ∧ Bd acc' ∧ TpOk t (upd H5 l_1 (.lst (xs ++ [y_1]))) ∧ (∃ r, (upd H5 l_1 (.lst (xs ++ [y_1]))) t = some (.lst (.ref l0 :: r))) ∧ ∀ a o, a ≠ t → a ≠ l → H a = some o → (upd H5 l_1 (.lst (xs ++ [y_1]))) a = some o) := fun y H5 y0 y1 k5 t5 => by
      obtain ⟨rt', hrt'⟩ := k5.hd _ _ hrt
      refine ⟨l, acc.map V.int, .int y, rfl, rfl, k5.k _ _ hlt hacc, by rw [List.length_map]; exact small1000 (Nat.le_of_lt hz), _, acc ++ [y], rfl, by rw [upd_same, List.map_append]; rfl, by rw [List.length_append, hlen]; rfl, fun x hx => ?_, ?_, ⟨rt', by rw [upd_ne (Ne.symm hlt)]; exact hrt'⟩, fun a o n1 n2 e => ?_⟩
      · rcases List.mem_append.mp hx with z | z
        · exact hb x z
        · simp at z; subst z; exact ⟨y0, y1⟩
      · obtain ⟨l', ns, p, b, o, e1, e2, e3⟩ := t5
        have hll : l' ≠ l := fun z => by
          rw [e1] at hrt'
          cases hrt'
          exact hl0 z
        exact ⟨l', ns, p, b, o, by rw [upd_ne (Ne.symm hlt)]; exact e1, by rw [upd_ne hll]; exact e2, e3⟩
      · rw [upd_ne n2]
        exact k5.k a o n1 (hk a o n1 n2 e)
    refine draw_v rfl ht3 (by decide) fun r1 H5 a0 a1 k5 t5 => ⟨rfl, _, rfl, ?_⟩
    refine ite2 (fun _ => ?_) fun _ => ?_
    · refine ⟨.ref l, rfl, .inl ⟨rfl, _, SqL.of (k5.k _ _ hlt hacc)⟩, ?_⟩
      refine pick_int (zs := [0, 1, 32768, 65535]) 0 65535 rfl t5 (by decide) (by decide) (by decide) (by decide) fun y H6 y0 y1 k6 t6 => ?_
      exact push y H6 y0 (by omega) (k5.trans k6) t6
    · refine ⟨.ref l, rfl, .inl ⟨rfl, _, SqL.of (k5.k _ _ hlt hacc)⟩, ?_⟩
      refine draw_v rfl t5 (by decide) fun y H6 y0 y1 k6 t6 => ?_
      exact push y H6 y0 (by omega) (k5.trans k6) t6
  · rintro σ' H3 ⟨o, acc, rfl, hacc, hlen, hb, ht3, ⟨rt, hrt⟩, hk⟩
    refine ⟨.ref l, rfl, l, _, rfl, .inl ⟨SqL.of hacc, fun p hp => ?_⟩⟩
    have sp := same_new (o := HO.tup (acc.map V.int)) hp
    refine q _ _ acc (by rw [hlen]; simp) hb ⟨fun a o n e => ?_, fun x r e => ?_⟩ (ht3.mn sp) (.tup (SqT.of upd_same) (rp_ints acc))
    · refine sp a o (hk a o n (fun z => ?_) e)
      rw [z, hl] at e
      cases e
    · rw [e0] at e
      cases e
      exact ⟨rt, sp _ _ hrt⟩
end
end DL

/-! W6: the law's action. -/
namespace DL
open PySem PySem.Spec PyProof.Rows L2

inductive Act where
  | deliver (i : Nat)
  | evict (c l : Nat)
  | request (c l : Nat) (ex : Bool)
def dAct : Act → PyData
  | .deliver i => .tuple [.str (tg .deliver), dN i]
  | .evict c l => .tuple [.str (tg .evict), dN c, dN l]
  | .request c l ex => .tuple [.str (tg .request), dN c, dN l, .bool ex]
def Act.Ok (s : Sy) : Act → Prop
  | .deliver _ => True
  | .evict c l => c < s.ca.length ∧ l < s.ho.length
  | .request c l _ => c < s.ca.length ∧ l < s.ho.length

theorem step_next {cf : Cf} {M n k : Nat} {s : Sy} (w : Wd cf M n) (I : Inv cf M n k s) (hk : k ≤ 40) {a : Act} (ha : a.Ok s) : F_next_system [dCf cf, dSy s, dAct a] = some .none ∨ ∃ s', F_next_system [dCf cf, dSy s, dAct a] = some (dSy s') ∧ Inv cf M n (k + 1) s' := by
  have sm := I.sm w hk
  have hlw : cf.lw ≤ 900 := by have := w.lw1; omega
  have hnet : s.net.length ≤ 900 := by have := sm.net; omega
  have hl : ∀ m ∈ s.net, m.line < s.ho.length := fun m hm => (I.ms m hm).2.1
  cases a with
  | deliver i =>
    have e := E_next_deliver cf s i hnet hl
    by_cases hi : i ∈ delIx s.ho 0 s.net
    · rw [if_pos hi] at e
      obtain ⟨j, m, hm, hj, hc⟩ := (mem_delIx s.ho s.net 0 i).mp hi
      have hj' : i = j := by omega
      subst hj'
      obtain ⟨s', d, I'⟩ := step_deliver w I hm hc
      exact .inr ⟨s', e.trans (E_delivered cf s s' i sm hlw d), I'⟩
    · rw [if_neg hi] at e
      exact .inl e
  | evict c l =>
    have e := E_next_evict cf s c l sm ha.1 ha.2
    cases es : s.evict c l with
    | none =>
      rw [es] at e
      exact .inl e
    | some s' =>
      rw [es] at e
      exact .inr ⟨s', e, step_evict I ha.2 es⟩
  | request c l ex =>
    have hc : c < s.ca.length := ha.1
    have hg : s.ca[c]? = some s.ca[c] := List.getElem?_eq_getElem hc
    rcases E_next_req cf s c l ex sm w.sets _ hg ha.2 with e | ⟨h1, h2, e⟩
    · exact .inl e
    · exact .inr ⟨_, e, step_req I hg ha.2 h1 h2⟩

section
variable {K : PySem.W.Frag} {C : Addr} {H : Hp} {v : V} {ds : List PyData} {Q : VK}
theorem rIx_tup {i : Nat} {d : PyData} (r : Rp K C H v (.tuple ds)) (e : ds[i]? = some d) (k : ∀ w, Rp K C H w d → Q w H) : rIx K v (.int (i : Nat)) H Q := by
  obtain ⟨a, xs, rfl, ha, ra⟩ := r.tupI
  obtain ⟨w, hw, rw'⟩ := ra.get e
  exact .inr (.inl ⟨a, xs, _, w, rfl, rfl, ha, atI_ofNat hw, k w rw'⟩)
theorem tru_tup (r : Rp K C H v (.tuple ds)) : TruV K v H (!ds.isEmpty) := by
  obtain ⟨a, xs, rfl, ha, ra⟩ := r.tupI
  refine .inr (.inl ⟨xs, ha, ?_⟩)
  have := ra.length
  cases xs <;> cases ds <;> simp_all
theorem len_tup {E : Prop} (r : Rp K C H v (.tuple ds)) (k : Q (.int ds.length) H) : ∃ p ys, [v] = [V.ref p] ∧ (SqL K H p ys ∨ SqT K H p ys) ∧ Q (.int ys.length) H := by
  obtain ⟨a, xs, rfl, ha, ra⟩ := r.tupI
  exact ⟨a, xs, rfl, .inr ha, by rw [ra.length]; exact k⟩
end

def SpAct (K : PySem.W.Frag) (C : Addr) : Sp := fun vs H Q _ => ∃ (t : Addr) (sv wv : V) (s : Sy) (u : Wl), vs = [.ref t, sv, wv] ∧ TpOk t H ∧ Rp K C H sv (dSy s) ∧ Rp K C H wv (dWl u) ∧ u.Ok ∧ s.ca.length = u.n ∧ s.ho.length = manyOf u.z u.lw ∧
  (∀ c ∈ s.ca, ∀ e ∈ c.lines, e.line < s.ho.length) ∧ (∀ c ∈ s.ca, c.lines.length ≤ 900) ∧ s.net.length ≤ 900 ∧ ∀ (v : V) (H' : Hp) (a : Act), a.Ok s → Kt t H H' → TpOk t H' → Rp K C H' v (dAct a) → Q v H'

section
variable {P : Program} {w : World} {K : PySem.W.Frag} {mg : Str → Option Value} {base : Heap} {C : Addr}
abbrev s__law_action : Stmt := top 34
abbrev n__law_action : List Str := ["_law_tape_here", "_law_system", "_law_world_here", "_law_choice", "_law_core", "_law_line", "_law_lines"]
theorem sc__law_action : FnScope n__law_action ["_law_tape_here", "_law_system", "_law_world_here"] (defScope s__law_action) := ⟨rfl, rfl, rfl, by decide +kernel, rfl, by decide +kernel, by decide +kernel⟩
theorem ok__law_action {f : Addr} {fd : FuncData} (F : Fun K "_law_action" "_law_action" s__law_action f fd) (T : Txt K mg C) (c__law_draw : CalS P w K mg base 1 "_law_draw" SpDraw) : FnOk P w K mg base CX0 2 f fd ["_law_tape_here", "_law_system", "_law_world_here"] (SpAct K C) := by
  refine F.ok sc__law_action (fun vs H Q E h => by obtain ⟨t, sv, wv, s, u, rfl, _⟩ := h; rfl) (fun cdv A outer s0 H vs Q E hr h => ?_)
  obtain ⟨t, sv, wv, s, u, rfl, ht, rs, rw0, hu, hca, hho, hln, hcl, hnl, q⟩ := h
  have hmany : 1 ≤ manyOf u.z u.lw ∧ manyOf u.z u.lw ≤ 16 := by
    have h1 := manyOf_le (M := u.z) (lw := u.lw) hu.lw0
    have h2 := hu.z1
    have h3 := hu.z0
    refine ⟨?_, by omega⟩
    unfold manyOf
    rw [Nat.le_div_iff_mul_le hu.lw0]
    omega
  refine ⟨_, (pss_cons (ps_set (i := 3) sc__law_action.nd rfl (Or.inl rfl) (pe_calS c__law_draw hr (by decide) (by rfl) (pa_cons (pv 0) (pa_cons pe_int pa_nil))))
    (pss_cons (ps_set (i := 4) sc__law_action.nd rfl (Or.inl rfl) (pe_calS c__law_draw hr (by decide) (by rfl) (pa_cons (pv 0) (pa_cons (pe_ix ix_seq (pv 2) pe_int (fun _ _ => rfl)) pa_nil))))
    (pss_cons (ps_set (i := 5) sc__law_action.nd rfl (Or.inl rfl) (pe_calS c__law_draw hr (by decide) (by rfl) (pa_cons (pv 0) (pa_cons (pe_ix ix_seq (pv 2) pe_int (fun _ _ => rfl)) pa_nil))))
    (pss_cons (ps_set (i := 6) sc__law_action.nd rfl (Or.inl rfl) (pe_ix ix_seq (pe_ix ix_seq (pe_ix ix_seq (pv 1) pe_int (fun _ _ => rfl)) (pv 4) (fun _ _ => rfl)) pe_int (fun _ _ => rfl)))
    (C8.pss_cut (ps_if (PW.pt (pw_and (pt_cmpR op_lt (pv 3) pe_int (nomark _)) (pw_and1 (pt_truth (pe_ix ix_seq (pv 1) pe_int (fun _ _ => rfl)) (fun _ => rfl))))) (pss_one (ps_ret (pe_tup (pa_cons pe_str (pa_cons (pe_calS c__law_draw hr (by decide) (by rfl) (pa_cons (pv 0) (pa_cons (pe_callB call_len_seq (by rfl) T.m_len PySem.boot_len (pa_cons (pe_ix ix_seq (pv 1) pe_int (fun _ _ => rfl)) pa_nil)) pa_nil))) pa_nil))))) pss_nil)
    (C8.pss_cut (ps_if (PW.pt (pw_and (pt_cmpR op_lt (pv 3) pe_int (nomark _)) (pw_and1 (pt_truth (pv 6) (fun _ => rfl))))) (pss_one (ps_ret (pe_tup (pa_cons pe_str (pa_cons (pv 4) (pa_cons (pe_ix ix_seq (pe_ix ix_seq (pv 6) (pe_calS c__law_draw hr (by decide) (by rfl) (pa_cons (pv 0) (pa_cons (pe_callB call_len_seq (by rfl) T.m_len PySem.boot_len (pa_cons (pv 6) pa_nil)) pa_nil))) (fun _ _ => rfl)) pe_int (fun _ _ => rfl)) pa_nil)))))) pss_nil)
    (C8.pss_cut (ps_if (pt_cmpR op_eq (pv 3) pe_int (nomark _)) (pss_one (ps_ret (pe_tup (pa_cons pe_str (pa_cons (pv 4) (pa_cons (pv 5) pa_nil)))))) pss_nil)
    (pss_one (ps_ret (pe_tup (pa_cons pe_str (pa_cons (pv 4) (pa_cons (pv 5) (pa_cons (pe_cmpR op_eq (pe_calS c__law_draw hr (by decide) (by rfl) (pa_cons (pv 0) (pa_cons pe_int pa_nil))) pe_int (nomark _)) pa_nil)))))))))))))), ?_⟩
  refine draw_v rfl ht (by decide) fun r0 H1 a0 a1 k1 t1 => ?_
  have rw1 := k1.rp ht rw0 (noL_dWl u)
  refine ⟨_, rfl, _, rfl, rIx_tup (i := 0) (d := dN u.n) rw1 rfl fun v1 x1 => ?_⟩
  have e1 := x1.intI
  subst e1
  refine ⟨t, (u.n : Nat), rfl, t1, by have := hu.n1; omega, fun c H2 b0 b1 k2 t2 => ?_⟩
  have rw2 := k2.rp t1 rw1 (noL_dWl u)
  refine ⟨_, rfl, _, rfl, rIx_tup (i := 3) (d := dN (manyOf u.z u.lw)) rw2 rfl fun v2 x2 => ?_⟩
  have e2 := x2.intI
  subst e2
  refine ⟨t, (manyOf u.z u.lw : Nat), rfl, t2, by have := hmany.2; omega, fun l H3 d0 d1 k3 t3 => ?_⟩
  have k13 := (k1.trans k2).trans k3
  have rs3 : Rp K C H3 sv (dSy s) := k13.rp ht rs (noL_Sy s)
  obtain ⟨c, rfl⟩ := Int.eq_ofNat_of_zero_le b0
  obtain ⟨l, rfl⟩ := Int.eq_ofNat_of_zero_le d0
  have hc : c < s.ca.length := by have := hu.n0; omega
  have hl : l < s.ho.length := by omega
  have eCa : (s.ca.map dCa)[c]? = some (dCa s.ca[c]) := by rw [List.getElem?_map, List.getElem?_eq_getElem hc]; rfl
  refine ⟨_, rfl, rIx_tup (i := 0) rs3 rfl fun y1 z1 => ⟨_, rfl, rIx_tup (i := c) z1 eCa fun y2 z2 => rIx_tup (i := 0) z2 rfl fun lv z3 => ?_⟩⟩
  have hcm : s.ca[c] ∈ s.ca := List.getElem_mem hc
  refine ⟨fun σ' H' => σ' = [some (.ref t), some sv, some wv, some (.int r0), some (.int (c : Nat)), some (.int (l : Nat)), some lv] ∧ H3 = H', ?_, ?_⟩
  · refine ⟨_, rfl, _, _, rfl, rfl, _, rfl, ite2 (fun _ => ?_) fun _ => iteF ⟨rfl, rfl⟩⟩
    refine ⟨_, rfl, rIx_tup (i := 3) rs3 rfl fun y4 z4 => ⟨_, tru_tup z4, ite2 (fun hne => ?_) fun _ => ⟨rfl, rfl⟩⟩⟩
    refine ⟨_, rfl, _, rfl, rIx_tup (i := 3) rs3 rfl fun y5 z5 => ?_⟩
    obtain ⟨pa, pys, rfl, hpa, rpa⟩ := z5.tupI
    have hpl := rpa.length
    rw [List.length_map] at hpl
    refine ⟨pa, pys, rfl, .inr hpa, ?_⟩
    refine ⟨t, _, rfl, t3, by omega, fun i H4 f0 f1 k4 t4 => ?_⟩
    obtain ⟨i, rfl⟩ := Int.eq_ofNat_of_zero_le f0
    refine ⟨(by show 2 ≤ sizeLine; decide), fun p hp => ?_⟩
    have sp := same_new (o := HO.tup [.str (tg .deliver), .int (i : Nat)]) hp
    exact q _ _ (.deliver i) trivial ((k13.trans k4).trans (Kt.of sp)) (t4.mn sp) (.tup (SqT.of upd_same) (.cons (.sc (.str _)) (.cons (.sc (.int _)) .nil)))
  · rintro σ' H' ⟨rfl, rfl⟩
    refine ⟨fun σ' H' => σ' = [some (.ref t), some sv, some wv, some (.int r0), some (.int (c : Nat)), some (.int (l : Nat)), some lv] ∧ H3 = H', ?_, ?_⟩
    · refine ⟨_, rfl, _, _, rfl, rfl, _, rfl, ite2 (fun _ => ?_) fun _ => iteF ⟨rfl, rfl⟩⟩
      refine ⟨_, rfl, _, tru_tup z3, ite2 (fun hne => ?_) fun _ => ⟨rfl, rfl⟩⟩
      obtain ⟨pa, pys, elv, hpa, rpa⟩ := z3.tupI
      have hpl := rpa.length
      rw [List.length_map] at hpl
      have hcl' := hcl _ hcm
      refine ⟨_, rfl, _, rfl, _, rfl, _, rfl, pa, pys, by rw [elv], .inr hpa, ?_⟩
      refine ⟨t, _, rfl, t3, by omega, fun i H4 f0 f1 k4 t4 => ?_⟩
      obtain ⟨i, rfl⟩ := Int.eq_ofNat_of_zero_le f0
      have hpos : 0 < s.ca[c].lines.length := by
        cases e : s.ca[c].lines with
        | nil => rw [e] at hne; simp at hne
        | cons a b => simp
      have hi : i < s.ca[c].lines.length := by omega
      have z4 : Rp K C H4 lv (.tuple (s.ca[c].lines.map dLn)) := k4.rp t3 z3 (by show noLs _ = true; exact noLs_all _ noL_Ln _)
      refine rIx_tup (i := i) z4 (d := dLn s.ca[c].lines[i]) (by rw [List.getElem?_map, List.getElem?_eq_getElem hi]; rfl) fun y5 z5 => rIx_tup (i := 0) z5 rfl fun y6 z6 => ?_
      have e6 := z6.intI
      subst e6
      refine ⟨(by show 3 ≤ sizeLine; decide), fun p hp => ?_⟩
      have sp := same_new (o := HO.tup [.str (tg .evict), .int (c : Nat), .int (s.ca[c].lines[i].line : Nat)]) hp
      exact q _ _ (.evict c s.ca[c].lines[i].line) ⟨hc, hln _ hcm _ (List.getElem_mem hi)⟩ ((k13.trans k4).trans (Kt.of sp)) (t4.mn sp) (.tup (SqT.of upd_same) (.cons (.sc (.str _)) (.cons (.sc (.int _)) (.cons (.sc (.int _)) .nil))))
    · rintro σ' H' ⟨rfl, rfl⟩
      refine ⟨fun σ' H' => σ' = [some (.ref t), some sv, some wv, some (.int r0), some (.int (c : Nat)), some (.int (l : Nat)), some lv] ∧ H3 = H', ?_, ?_⟩
      · refine ⟨_, rfl, rfl, _, rfl, ite2 (fun _ => ?_) fun _ => ⟨rfl, rfl⟩⟩
        refine ⟨_, rfl, _, rfl, (by show 3 ≤ sizeLine; decide), fun p hp => ?_⟩
        have sp := same_new (o := HO.tup [.str (tg .evict), .int (c : Nat), .int (l : Nat)]) hp
        exact q _ _ (.evict c l) ⟨hc, hl⟩ (k13.trans (Kt.of sp)) (t3.mn sp) (.tup (SqT.of upd_same) (.cons (.sc (.str _)) (.cons (.sc (.int _)) (.cons (.sc (.int _)) .nil))))
      · rintro σ' H' ⟨rfl, rfl⟩
        refine ⟨_, rfl, _, rfl, draw_v rfl t3 (by decide) fun i H4 f0 f1 k4 t4 => ⟨rfl, ?_⟩⟩
        refine ⟨(by show 4 ≤ sizeLine; decide), fun p hp => ?_⟩
        have sp := same_new (o := HO.tup [.str (tg .request), .int (c : Nat), .int (l : Nat), .bl (decide (V.int i = V.int 1))]) hp
        exact q _ _ (.request c l (decide (V.int i = V.int 1))) ⟨hc, hl⟩ ((k13.trans k4).trans (Kt.of sp)) (t4.mn sp) (.tup (SqT.of upd_same) (.cons (.sc (.str _)) (.cons (.sc (.int _)) (.cons (.sc (.int _)) (.cons (.sc (.bl _)) .nil)))))
end
end DL

/-! W7: the law's config. -/
namespace DL
open PySem PySem.Spec PyProof.Rows L2

def clsBody : Stmt → List Stmt
  | .ClassDef _ _ _ b .. => b
  | _ => []
abbrev s_init : Stmt := (clsBody (top 27)).getD 0 (.Pass ⟨0, 0, 0, 0⟩)
abbrev n_init : List Str := ["self", "order", "reorder_buffer", "store_buffer", "line_words", "sets", "ways", "requests", "exclusive_state"]
theorem sc_init : FnScope n_init n_init (defScope s_init) := ⟨rfl, rfl, rfl, by decide +kernel, rfl, by decide +kernel, by decide +kernel⟩
def kwsInit : List (Str × V) := [("reorder_buffer", .int 4), ("store_buffer", .int 2), ("line_words", .int 1), ("sets", .int 1), ("ways", .int 4), ("requests", .int 1), ("exclusive_state", .bl true)]
abbrev FunI (K : PySem.W.Frag) (f : Addr) (fd : FuncData) : Prop := FunD K "__init__" "Config.__init__" (defArgs s_init) (defBody s_init) (defScope s_init) [] kwsInit f fd
def SpInit (C : Addr) : Sp := fun vs H Q _ => ∃ (x dx : Addr) (v1 v2 v3 v4 v5 v6 v7 v8 : V), vs = [.ref x, v1, v2, v3, v4, v5, v6, v7, v8] ∧ H x = some (.ins C dx []) ∧
  ∀ (H' : Hp) (fs : List (Str × V)), (∀ a, a ≠ x → H' a = H a) → H' x = some (.ins C dx fs) → fs.lookup ("order" : Str) = some v1 → fs.lookup ("line_words" : Str) = some v4 → fs.lookup ("sets" : Str) = some v5 → fs.lookup ("ways" : Str) = some v6 → fs.lookup ("requests" : Str) = some v7 → fs.lookup ("exclusive_state" : Str) = some v8 → Q .non H'
section
variable {P : Program} {w : World} {K : PySem.W.Frag} {mg : Str → Option Value} {base : Heap} {C : Addr}
theorem lenp {fs : List (Str × V)} {n : Nat} (f : Str) (v : V) (h : fs.length ≤ n) : (putF f v fs).length ≤ n + 1 := by
  have := length_putF f v fs
  omega
theorem ok_init {f : Addr} {fd : FuncData} (F : FunI K f fd) (T : Txt K mg C) : FnOk P w K mg base CX0 1 f fd n_init (SpInit C) := by
  refine F.ok sc_init (fun vs H Q E h => by obtain ⟨x, dx, v1, v2, v3, v4, v5, v6, v7, v8, rfl, _⟩ := h; rfl) (fun cdv A outer s H vs Q E hr h => ?_)
  obtain ⟨x, dx, v1, v2, v3, v4, v5, v6, v7, v8, rfl, hx, q⟩ := h
  have body : ∃ t, PSs (cxOf CX0 P w K mg base n_init "Config.__init__" (defScope s_init) f cdv A outer s H E).nox (defBody s_init) t ∧ t { nx := fun _ H' => Q .non H', rt := Q } (L2.start n_init [.ref x, v1, v2, v3, v4, v5, v6, v7, v8]) H := by
    refine ⟨_, pss_cons (ps_fld (pv 0) (pv 1) rfl) (pss_cons (ps_fld (pv 0) (pv 2) rfl) (pss_cons (ps_fld (pv 0) (pv 3) rfl) (pss_cons (ps_fld (pv 0) (pv 4) rfl) (pss_cons (ps_fld (pv 0) (pv 5) rfl) (pss_cons (ps_fld (pv 0) (pv 6) rfl) (pss_cons (ps_fld (pv 0) (pv 7) rfl) (pss_one (ps_fld (pv 0) (pv 8) rfl)))))))), ?_⟩
    have l0 : ([] : List (Str × V)).length ≤ 0 := Nat.le_refl _
    have l1 := lenp "order" v1 l0
    have l2 := lenp "reorder_buffer" v2 l1
    have l3 := lenp "store_buffer" v3 l2
    have l4 := lenp "line_words" v4 l3
    have l5 := lenp "sets" v5 l4
    have l6 := lenp "ways" v6 l5
    have l7 := lenp "requests" v7 l6
    have l8 := lenp "exclusive_state" v8 l7
    refine ⟨_, rfl, _, rfl, x, C, dx, _, rfl, hx, T.cl, T.a_order, Nat.lt_of_le_of_lt l0 (by decide), ?_⟩
    refine ⟨_, rfl, _, rfl, x, C, dx, _, rfl, upd_same, T.cl, T.a_reorder_buffer, Nat.lt_of_le_of_lt l1 (by decide), ?_⟩
    refine ⟨_, rfl, _, rfl, x, C, dx, _, rfl, upd_same, T.cl, T.a_store_buffer, Nat.lt_of_le_of_lt l2 (by decide), ?_⟩
    refine ⟨_, rfl, _, rfl, x, C, dx, _, rfl, upd_same, T.cl, T.a_line_words, Nat.lt_of_le_of_lt l3 (by decide), ?_⟩
    refine ⟨_, rfl, _, rfl, x, C, dx, _, rfl, upd_same, T.cl, T.a_sets, Nat.lt_of_le_of_lt l4 (by decide), ?_⟩
    refine ⟨_, rfl, _, rfl, x, C, dx, _, rfl, upd_same, T.cl, T.a_ways, Nat.lt_of_le_of_lt l5 (by decide), ?_⟩
    refine ⟨_, rfl, _, rfl, x, C, dx, _, rfl, upd_same, T.cl, T.a_requests, Nat.lt_of_le_of_lt l6 (by decide), ?_⟩
    refine ⟨_, rfl, _, rfl, x, C, dx, _, rfl, upd_same, T.cl, T.a_exclusive_state, Nat.lt_of_le_of_lt l7 (by decide), ?_⟩
    refine q _ _ (fun a ha => ?_) upd_same ?_ ?_ ?_ ?_ ?_ ?_
    · repeat rw [upd_ne ha]
    · rw [lookup_putF, if_neg (by decide +kernel)]; rw [lookup_putF, if_neg (by decide +kernel)]; rw [lookup_putF, if_neg (by decide +kernel)]; rw [lookup_putF, if_neg (by decide +kernel)]; rw [lookup_putF, if_neg (by decide +kernel)]; rw [lookup_putF, if_neg (by decide +kernel)]; rw [lookup_putF, if_neg (by decide +kernel)]; rw [lookup_putF, if_pos rfl]
    · rw [lookup_putF, if_neg (by decide +kernel)]; rw [lookup_putF, if_neg (by decide +kernel)]; rw [lookup_putF, if_neg (by decide +kernel)]; rw [lookup_putF, if_neg (by decide +kernel)]; rw [lookup_putF, if_pos rfl]
    · rw [lookup_putF, if_neg (by decide +kernel)]; rw [lookup_putF, if_neg (by decide +kernel)]; rw [lookup_putF, if_neg (by decide +kernel)]; rw [lookup_putF, if_pos rfl]
    · rw [lookup_putF, if_neg (by decide +kernel)]; rw [lookup_putF, if_neg (by decide +kernel)]; rw [lookup_putF, if_pos rfl]
    · rw [lookup_putF, if_neg (by decide +kernel)]; rw [lookup_putF, if_pos rfl]
    · rw [lookup_putF, if_pos rfl]
  obtain ⟨t, h, q⟩ := body
  exact ⟨t, h.nox, q⟩
end
def ksI : List Str := ["line_words", "sets", "ways", "requests", "exclusive_state"]
def gI {α : Type} (us mv ws : List α) : List α := us ++ mv ++ ws
theorem bindsI {K : PySem.W.Frag} {f : Addr} {fd : FuncData} (F : FunI K f fd) : ∃ mv : List Value, KBn K fd n_init 2 ksI (fun us ws => gI us mv ws) (fun vs zs => gI vs [.int 4, .int 2] zs) := by
  refine F.kbinds0 (ps := n_init) 2 ksI [("reorder_buffer", .int 4), ("store_buffer", .int 2)] (fun us mv ws => gI us mv ws) (by decide) (fun q hq => ?_) (fun a b c => (a.append b).append c) (fun D doc pm an cdv ct us mv ws h1 h2 h3 => ?_)
  · simp [kwsInit] at hq ⊢
    rcases hq with rfl | rfl <;> simp
  · match us, mv, ws, h1, h2, h3 with
    | [u1, u2], [m1, m2], [w1, w2, w3, w4, w5], _, _, _ =>
      exact ⟨_, _, _, _, _, _, rfl, rfl, _, _, _, _, _, _, rfl, rfl, rfl⟩
section
variable {X : Cx} {e : Expr} {es : List Expr} {kws : List Keyword} {t tk : TA} {pos : Pos}
theorem pe_mkS {x : Str} {p : Pos} {k n : Nat} {f C : Addr} {fd : FuncData} {ps ks : List Str} {sp : Sp} {g : List Value → List Value → List Value} {gV : List V → List V → List V} (M : Mk X.K C f) (F : FnOk X.prog X.w X.K X.mg X.base CX0 k f fd ps sp) (hr : Room (k + 1) X.A) (hg : Gl X x) (hm : X.mg x = some (.ref C)) (hb : KBn X.K fd ps (n + 1) ks g gV)
    (ha : PA X (e :: es) t) (hkw : PK X kws tk)
    (hall : (backToKw pos (keywordEach kws X.env)).all (·.1.isSome) = true := by rfl) (hks : (backToKw pos (keywordEach kws X.env)).filterMap (·.1) = ks := by rfl) (hdb : (x == ("__debug__" : Str)) = false := by decide)
    (he : starEach (e :: es) X.env = (false, eval e X.env) :: starEach es X.env := by rfl) (hpl : ((backTo pos (starEach (e :: es) X.env)).any (·.1) || (backToKw pos (keywordEach kws X.env)).any (·.1.isNone)) = false := by rfl) :
    PE X (.Call (.Name x p) (e :: es) kws pos) (tMakeK C n ks.length sp gV (fun _ _ _ => False) t tk) := pe_makeK M F hr hg hm hb pass0 ha hkw hall hks hdb he hpl
end

theorem cget_cf {c : Cf} {n : Str} {d : PyData} (h : dCf c = .dict [(.str "order", .str c.order), (.str "line_words", dN c.lw), (.str "sets", dN c.sets), (.str "ways", dN c.ways), (.str "requests", dN c.req), (.str "exclusive_state", .bool c.ex)])
    (e : cget [(.str "order", .str c.order), (.str "line_words", dN c.lw), (.str "sets", dN c.sets), (.str "ways", dN c.ways), (.str "requests", dN c.req), (.str "exclusive_state", .bool c.ex)] n = some d) :
    (n = "order" ∧ d = .str c.order) ∨ (n = "line_words" ∧ d = dN c.lw) ∨ (n = "sets" ∧ d = dN c.sets) ∨ (n = "ways" ∧ d = dN c.ways) ∨ (n = "requests" ∧ d = dN c.req) ∨ (n = "exclusive_state" ∧ d = .bool c.ex) := by
  unfold cget at e
  split at e
  · rename_i z; cases e; exact .inl ⟨z.symm, rfl⟩
  unfold cget at e
  split at e
  · rename_i z; cases e; exact .inr (.inl ⟨z.symm, rfl⟩)
  unfold cget at e
  split at e
  · rename_i z; cases e; exact .inr (.inr (.inl ⟨z.symm, rfl⟩))
  unfold cget at e
  split at e
  · rename_i z; cases e; exact .inr (.inr (.inr (.inl ⟨z.symm, rfl⟩)))
  unfold cget at e
  split at e
  · rename_i z; cases e; exact .inr (.inr (.inr (.inr (.inl ⟨z.symm, rfl⟩))))
  unfold cget at e
  split at e
  · rename_i z; cases e; exact .inr (.inr (.inr (.inr (.inr ⟨z.symm, rfl⟩))))
  · cases e

def SpConfig (K : PySem.W.Frag) (C : Addr) : Sp := fun vs H Q _ => ∃ (t : Addr) (wv : V) (u : Wl), vs = [.ref t, wv] ∧ TpOk t H ∧ Rp K C H wv (dWl u) ∧ ∀ (v : V) (H' : Hp) (cf : Cf), cf.lw = u.lw → cf.sets = u.sets → Kt t H H' → TpOk t H' → Rp K C H' v (dCf cf) → Q v H'
section
variable {P : Program} {w : World} {K : PySem.W.Frag} {mg : Str → Option Value} {base : Heap} {C : Addr}
abbrev s__law_config : Stmt := top 32
abbrev n__law_config : List Str := ["_law_tape_here", "_law_world_here", "_law_bounds", "_law_order"]
theorem sc__law_config : FnScope n__law_config ["_law_tape_here", "_law_world_here"] (defScope s__law_config) := ⟨rfl, rfl, rfl, by decide +kernel, rfl, by decide +kernel, by decide +kernel⟩
theorem ok__law_config {f fI : Addr} {fd fdI : FuncData} (F : Fun K "_law_config" "_law_config" s__law_config f fd) (T : Txt K mg C) (M : Mk K C fI) (hmC : mg "Config" = some (.ref C)) (FI' : FunI K fI fdI) (c__law_draw : CalS P w K mg base 1 "_law_draw" SpDraw) : FnOk P w K mg base CX0 3 f fd ["_law_tape_here", "_law_world_here"] (SpConfig K C) := by
  obtain ⟨mv, hbI⟩ := bindsI FI'
  have FI : FnOk P w K mg base CX0 1 fI fdI n_init (SpInit C) := ok_init FI' T
  refine F.ok sc__law_config (fun vs H Q E h => by obtain ⟨t, wv, u, rfl, _⟩ := h; rfl) (fun cdv A outer s H vs Q E hr h => ?_)
  obtain ⟨t, wv, u, rfl, ht, rw0, q⟩ := h
  refine ⟨_, (pss_cons (ps_set (i := 2) sc__law_config.nd rfl (Or.inl rfl) (pe_ix ix_seq (pv 1) pe_int (fun _ _ => rfl)))
    (pss_cons (ps_set (i := 3) sc__law_config.nd rfl (Or.inl rfl) (pe_ix ix_seq (pe_lst (pa_cons pe_str (pa_cons pe_str (pa_cons pe_str (pa_cons pe_str pa_nil))))) (pe_calS c__law_draw hr (by decide) (by rfl) (pa_cons (pv 0) (pa_cons pe_int pa_nil))) (fun _ _ => rfl)))
    (pss_one (ps_ret (pe_mkS M (FI.mono (by decide)) hr (by rfl) hmC hbI (pa_cons (pv 3) pa_nil) (pk_cons (pe_ix ix_seq (pv 1) pe_int (fun _ _ => rfl)) (pk_cons (pe_ix ix_seq (pv 2) pe_int (fun _ _ => rfl)) (pk_cons (pe_ix ix_seq (pv 2) pe_int (fun _ _ => rfl)) (pk_cons (pe_ix ix_seq (pv 2) pe_int (fun _ _ => rfl)) (pk_cons (pe_ix ix_seq (pv 1) pe_int (fun _ _ => rfl)) pk_nil)))))))))), ?_⟩
  refine ⟨_, rfl, rIx_tup (i := 4) (d := .tuple [dN u.sets, dN u.ways, dN u.req]) rw0 rfl fun bv rb => ?_⟩
  refine pick_at (ys := [.str (tg .sc), .str (tg .tso), .str (tg .pso), .str (tg .wmm)]) rfl ht (by decide) (by decide) (by decide) fun ov H1 hov k1 t1 => ?_
  obtain ⟨od, rfl⟩ : ∃ od : Str, ov = .str od := by
    simp at hov
    rcases hov with rfl | rfl | rfl | rfl <;> exact ⟨_, rfl⟩
  have rw1 := k1.rp ht rw0 (noL_dWl u)
  have rb1 := k1.rp ht rb rfl
  refine ⟨_, rfl, _, rfl, rIx_tup (i := 2) (d := dN u.lw) rw1 rfl fun x1 y1 => ⟨_, rfl, rIx_tup (i := 0) (d := dN u.sets) rb1 rfl fun x2 y2 => ⟨_, rfl, rIx_tup (i := 1) (d := dN u.ways) rb1 rfl fun x3 y3 => ⟨_, rfl, rIx_tup (i := 2) (d := dN u.req) rb1 rfl fun x4 y4 => ⟨_, rfl, rIx_tup (i := 5) (d := .bool u.ex) rw1 rfl fun x5 y5 => ?_⟩⟩⟩⟩⟩
  have z1 := y1.intI
  have z2 := y2.intI
  have z3 := y3.intI
  have z4 := y4.intI
  have z5 := y5.blI
  subst z1 z2 z3 z4 z5
  refine ⟨rfl, rfl, fun x dx hx hd hn => ?_⟩
  have s1 := same_new (o := HO.own x) hd
  have hx' : (upd H1 dx (.own x)) x = none := by rw [upd_ne (Ne.symm hn)]; exact hx
  have s2 := s1.trans (same_new (o := HO.ins C dx []) hx')
  refine ⟨x, dx, _, _, _, _, _, _, _, _, rfl, upd_same, fun H' fs hk hf f1 f2 f3 f4 f5 f6 => ⟨rfl, ?_⟩⟩
  have s3 : Same H1 H' := fun a o e => by
    have ne : a ≠ x := ne_of_none e hx
    rw [hk a ne]
    exact s2 a o e
  refine q _ H' ⟨od, u.lw, u.sets, u.ways, u.req, u.ex⟩ rfl rfl (k1.trans (Kt.of s3)) (t1.mn s3) (.cfg hf fun n d e => ?_)
  rcases cget_cf (c := ⟨od, u.lw, u.sets, u.ways, u.req, u.ex⟩) rfl e with ⟨rfl, rfl⟩ | ⟨rfl, rfl⟩ | ⟨rfl, rfl⟩ | ⟨rfl, rfl⟩ | ⟨rfl, rfl⟩ | ⟨rfl, rfl⟩
  · exact ⟨_, f1, .str _⟩
  · exact ⟨_, f2, .int _⟩
  · exact ⟨_, f3, .int _⟩
  · exact ⟨_, f4, .int _⟩
  · exact ⟨_, f5, .int _⟩
  · exact ⟨_, f6, .bl _⟩
end
end DL

/-! P7: the texts of the parts are short. -/
namespace DL
open PySem
/-- signs that a text may hold -/
def So (x : Str) : Prop := ∀ c ∈ x.cps.toList, c < 0x110000
theorem So.append {x y : Str} (a : So x) (b : So y) : So (x ++ y) := fun c hc => by
  have e : (x ++ y).cps = x.cps ++ y.cps := rfl
  rw [e, Array.toList_append] at hc
  rcases List.mem_append.mp hc with h | h
  · exact a c h
  · exact b c h
theorem So.ofString (s : String) : So (Str.ofString s) := fun c hc => by
  rw [Str.ofString_eq_toList] at hc
  simp only [List.mem_map] at hc
  obtain ⟨ch, _, rfl⟩ := hc
  have v := ch.valid
  show ch.val.toNat < 0x110000
  rcases v with v | ⟨_, v⟩ <;> omega
theorem So.join {ts : List Str} (h : ∀ t ∈ ts, So t) : So (Str.join ", " ts) := fun c hc => by
  rcases (PyProof.Rows.mem_join ", " c ts).mp hc with ⟨t, ht, hc⟩ | ⟨_, hc⟩
  · exact h t ht c hc
  · exact So.ofString ", " c hc
theorem So.tup {ts : List Str} (h : ∀ t ∈ ts, So t) : So (tupleText ts) := by
  unfold tupleText
  exact ((So.ofString "(").append (So.join h)).append (So.ofString _)
theorem So.ok {x : Str} (h : So x) : PyData.strOk x = true := by
  unfold PyData.strOk
  rw [Array.all_eq_true']
  intro c hc
  exact decide_eq_true (h c (by simpa using hc))
structure Gd (B D : Nat) (d : PyData) : Prop where
  ls : d.leavesShort 8 = true
  sh : d.showable = true
  nd : d.hasDict = false
  bk : d.bulk ≤ B
  dp : d.depth ≤ D
  so : So d.shown
structure Gs (B D : Nat) (ds : List PyData) : Prop where
  ls : PyData.leavesShortAll 8 ds = true
  sh : PyData.showableAll ds = true
  nd : PyData.hasDictAll ds = false
  bk : PyData.bulkAll ds ≤ B
  dp : PyData.depthAll ds ≤ D
  so : ∀ t ∈ PyData.shownAll ds, So t
theorem Gd.mono {B B' D D' : Nat} {d : PyData} (g : Gd B D d) (h : B ≤ B') (h' : D ≤ D') : Gd B' D' d := ⟨g.ls, g.sh, g.nd, Nat.le_trans g.bk h, Nat.le_trans g.dp h', g.so⟩
theorem Gs.nil {D : Nat} : Gs 0 D [] := ⟨rfl, rfl, rfl, Nat.le_refl _, Nat.zero_le _, fun t ht => by cases ht⟩
theorem Gs.cons {B B' D : Nat} {d : PyData} {ds : List PyData} (a : Gd B D d) (b : Gs B' D ds) : Gs (B + 1 + B') D (d :: ds) :=
  ⟨by simp only [PyData.leavesShortAll, a.ls, b.ls]; rfl, by simp only [PyData.showableAll, a.sh, b.sh]; rfl, by simp only [PyData.hasDictAll, a.nd, b.nd]; rfl,
    by have := a.bk; have := b.bk; simp only [PyData.bulkAll]; omega, by have := a.dp; have := b.dp; simp only [PyData.depthAll]; omega, fun t ht => by
      rcases List.mem_cons.mp (show t ∈ PyData.shown d :: PyData.shownAll ds from ht) with rfl | ht
      · exact a.so
      · exact b.so t ht⟩
theorem Gs.tup {B D : Nat} {ds : List PyData} (g : Gs B D ds) : Gd B (D + 1) (.tuple ds) :=
  ⟨by simp only [PyData.leavesShort, g.ls], by simp only [PyData.showable, g.sh], by simp only [PyData.hasDict, g.nd], by have := g.bk; simp only [PyData.bulk]; omega, by have := g.dp; simp only [PyData.depth]; omega, by simp only [PyData.shown]; exact So.tup g.so⟩
theorem Gs.map {α : Type} {B D : Nat} {f : α → PyData} : ∀ {xs : List α}, (∀ x ∈ xs, Gd B D (f x)) → Gs (xs.length * (B + 1)) D (xs.map f)
  | [], _ => ⟨rfl, rfl, rfl, Nat.zero_le _, Nat.zero_le _, fun t ht => by cases ht⟩
  | x :: xs, h => by
    have a := h x List.mem_cons_self
    have b := Gs.map (xs := xs) fun y hy => h y (List.mem_cons_of_mem _ hy)
    have c := a.mono (Nat.le_refl B) (Nat.le_refl D)
    have d := Gs.cons c b
    refine ⟨d.ls, d.sh, d.nd, Nat.le_trans d.bk ?_, d.dp, d.so⟩
    rw [List.length_cons, Nat.succ_mul]
    omega
theorem Gs.mono {B B' D D' : Nat} {ds : List PyData} (g : Gs B D ds) (h : B ≤ B') (h' : D ≤ D') : Gs B' D' ds := ⟨g.ls, g.sh, g.nd, Nat.le_trans g.bk h, Nat.le_trans g.dp h', g.so⟩
/-- many entries, none bulky -/
theorem Gs.maps {α : Type} {B D N M : Nat} {f : α → PyData} {xs : List α} (h : ∀ x ∈ xs, Gd B D (f x)) (hl : xs.length ≤ N) (hm : N * (B + 1) ≤ M) : Gd M (D + 1) (.tuple (xs.map f)) :=
  ((Gs.map h).mono (Nat.le_trans (Nat.mul_le_mul_right _ hl) hm) (Nat.le_refl D)).tup
theorem Gd.none {D : Nat} : Gd 0 D .none := ⟨rfl, rfl, rfl, Nat.le_refl _, Nat.zero_le _, So.ofString "None"⟩
theorem Gd.bool {D : Nat} (b : Bool) : Gd 0 D (.bool b) := ⟨rfl, rfl, rfl, Nat.le_refl _, Nat.zero_le _, by cases b; exact So.ofString "False"; exact So.ofString "True"⟩
theorem Gd.int {D : Nat} {i : Int} (h : 0 ≤ i) (h' : i < 65536) : Gd 0 D (.int i) := by
  have hn : i.natAbs < 65536 := by omega
  refine ⟨?_, ?_, rfl, Nat.le_refl _, Nat.zero_le _, by simp only [PyData.shown]; exact So.ofString (toString i)⟩
  · have e := int_text_length_le10 (a := i) (k := 5) (by decide) (by omega)
    simp only [PyData.leavesShort, decide_eq_true_eq]
    show (Str.ofString (toString i)).length ≤ 8
    rw [ofString_length]
    omega
  · simp only [PyData.showable, decide_eq_true_eq]
    by_cases z : i.natAbs = 0
    · rw [z]
      decide
    · have := (Nat.log2_lt z).mpr (show i.natAbs < 2 ^ 16 by omega)
      omega
theorem Gd.nat {D : Nat} {n : Nat} (h : n < 65536) : Gd 0 D (dN n) := Gd.int (by omega) (by omega)
theorem tg_short : ∀ a ∈ tgOf, ((tg a).cps.size ≤ 12 ∧ (tg a).cps.toList.all (fun c => decide (c < 16 ^ 8)) = true) := by decide +kernel
theorem tg_so : ∀ a ∈ tgOf, ((reprText (tg a)).cps.toList.all (fun c => decide (c < 0x110000)) = true) := by decide +kernel
theorem Gd.tag {D : Nat} (a : Tag) : Gd 12 D (.str (tg a)) := by
  obtain ⟨h1, h2⟩ := tg_short a (tgOf_mem a)
  exact ⟨by simp only [PyData.leavesShort]; exact h2, rfl, rfl, h1, Nat.zero_le _, by
    simp only [PyData.shown]
    intro c hc
    exact of_decide_eq_true (List.all_eq_true.mp (tg_so a (tgOf_mem a)) c hc)⟩
theorem Gd.words {D : Nat} {ws : List Int} (h : Bd ws) (hl : ws.length ≤ 16) : Gd 16 (D + 1) (dW ws) := Gs.maps (B := 0) (N := 16) (fun x hx => Gd.int (h x hx).1 (h x hx).2) hl (by decide)
theorem WP.gd {cf : Cf} {M n D l : Nat} {ws : List Int} (w : Wd cf M n) (h : WP cf M l ws) : Gd 16 (D + 1) (dW ws) := Gd.words h.2.2 (by
  have := h.2.1
  have := w.lw1
  unfold wl at *
  omega)
section
variable {cf : Cf} {M n k : Nat} {s : Sy}
theorem Inv.line_lt (w : Wd cf M n) {l : Nat} (h : l < manyOf M cf.lw) : l < 65536 := by
  have := manyOf_le (M := M) w.lw0
  have := w.M1
  omega
theorem Inv.gMs (w : Wd cf M n) (I : Inv cf M n k s) {m : Ms} (hm : m ∈ s.net) : Gd 60 3 (dMs m) := by
  obtain ⟨h1, h2, h3⟩ := I.ms m hm
  have hc : m.core < 65536 := by have := w.n1; omega
  have hl : m.line < 65536 := Inv.line_lt w (by rw [← I.nho]; exact h2)
  cases m with
  | getS c l => exact (Gs.cons (Gd.tag .getS) (Gs.cons (Gd.nat hc) (Gs.cons (Gd.nat hl) Gs.nil))).tup.mono (by decide) (Nat.le_refl 3)
  | getM c l => exact (Gs.cons (Gd.tag .getM) (Gs.cons (Gd.nat hc) (Gs.cons (Gd.nat hl) Gs.nil))).tup.mono (by decide) (Nat.le_refl 3)
  | giveUp c l ws d => exact (Gs.cons (Gd.tag .giveUp) (Gs.cons (Gd.nat hc) (Gs.cons (Gd.nat hl) (Gs.cons (WP.gd w h3) (Gs.cons (Gd.bool d) Gs.nil))))).tup.mono (by decide) (Nat.le_refl 3)
  | returned c l ws d => exact (Gs.cons (Gd.tag .returned) (Gs.cons (Gd.nat hc) (Gs.cons (Gd.nat hl) (Gs.cons (WP.gd w h3) (Gs.cons (Gd.bool d) Gs.nil))))).tup.mono (by decide) (Nat.le_refl 3)
  | invalidated c l => exact (Gs.cons (Gd.tag .invalidated) (Gs.cons (Gd.nat hc) (Gs.cons (Gd.nat hl) Gs.nil))).tup.mono (by decide) (Nat.le_refl 3)
  | received c l => exact (Gs.cons (Gd.tag .received) (Gs.cons (Gd.nat hc) (Gs.cons (Gd.nat hl) Gs.nil))).tup.mono (by decide) (Nat.le_refl 3)
  | invalidate c l => exact (Gs.cons (Gd.tag .invalidate) (Gs.cons (Gd.nat hc) (Gs.cons (Gd.nat hl) Gs.nil))).tup.mono (by decide) (Nat.le_refl 3)
  | recall c l kp => exact (Gs.cons (Gd.tag .recall) (Gs.cons (Gd.nat hc) (Gs.cons (Gd.nat hl) (Gs.cons (Gd.bool kp) Gs.nil)))).tup.mono (by decide) (Nat.le_refl 3)
  | grant c l st ws => exact (Gs.cons (Gd.tag .grant) (Gs.cons (Gd.nat hc) (Gs.cons (Gd.nat hl) (Gs.cons (Gd.tag st) (Gs.cons (WP.gd w h3) Gs.nil))))).tup.mono (by decide) (Nat.le_refl 3)
  | confirm c l => exact (Gs.cons (Gd.tag .confirm) (Gs.cons (Gd.nat hc) (Gs.cons (Gd.nat hl) Gs.nil))).tup.mono (by decide) (Nat.le_refl 3)
theorem Inv.gCa (w : Wd cf M n) (I : Inv cf M n k s) (hk : k ≤ 40) {c : Ca} (hc : c ∈ s.ca) : Gd 6000 4 (dCa c) := by
  obtain ⟨z1, z2, z3⟩ := I.sz c hc
  have g1 : Gd 1400 3 (.tuple (c.lines.map dLn)) := Gs.maps (N := 40) (B := 33) (D := 2) (fun e he => by
    have h := I.wL c hc e he
    exact (Gs.cons (Gd.nat (Inv.line_lt w h.1)) (Gs.cons (Gd.tag e.st) (Gs.cons (WP.gd (D := 0) w h) Gs.nil))).tup.mono (by decide) (Nat.le_refl 2)) (by omega) (by decide)
  have g2 : Gd 1400 3 (.tuple (c.req.map dRq)) := Gs.maps (N := 40) (B := 33) (D := 2) (fun e he => by
    have h := (I.wQ c hc).1 e he
    exact (Gs.cons (Gd.nat (Inv.line_lt w h)) (Gs.cons (D := 1) (Gd.bool e.ex) Gs.nil)).tup.mono (by decide) (Nat.le_refl 2)) (by omega) (by decide)
  have g3 : Gd 1400 3 (.tuple (c.lea.map dLv)) := Gs.maps (N := 40) (B := 33) (D := 2) (fun e he => by
    have h := (I.wQ c hc).2 e he
    have hw : Gd 16 1 (dOW e.ws) := by
      cases ew : e.ws with
      | none => exact Gd.none.mono (by decide) (Nat.le_refl 1)
      | some ws => exact WP.gd (D := 0) w (I.wV c hc e he ws ew)
    exact (Gs.cons (Gd.nat (Inv.line_lt w h)) (Gs.cons hw (Gs.cons (D := 1) (Gd.bool e.dirty) Gs.nil))).tup.mono (by decide) (Nat.le_refl 2)) (by omega) (by decide)
  exact (Gs.cons g1 (Gs.cons g2 (Gs.cons g3 Gs.nil))).tup.mono (by decide) (Nat.le_refl 4)
theorem Inv.gHo (w : Wd cf M n) (I : Inv cf M n k s) {h : Ho} (hh : h ∈ s.ho) : Gd 200 4 (dHo h) := by
  obtain ⟨l, hl⟩ := List.getElem?_of_mem hh
  have H := I.hi l h hl
  have n1 := w.n1
  have h1 := nodup_lt n H.shnd H.shlt
  have h2 := H.aw_len fun m hm => (I.ms m hm).1
  have g1 : Gd 0 3 (dON h.owner) := by
    cases e : h.owner with
    | none => exact Gd.none
    | some o => exact Gd.nat (by have := H.ownlt o e; omega)
  have g2 : Gd 4 3 (.tuple (h.sh.map dN)) := Gs.maps (N := 4) (B := 0) (D := 2) (fun x hx => Gd.nat (by have := H.shlt x hx; omega)) (by omega) (by decide)
  have g3 : Gd 60 3 (dOSv h.sv) := by
    cases e : h.sv with
    | none => exact Gd.none.mono (by decide) (Nat.le_refl 3)
    | some v =>
      unfold Ho.aws at h2
      rw [e] at h2
      dsimp only at h2
      have aw : ∀ x ∈ v.aw, x < n := fun x hx => by
        have e1 : 0 < h.aws.count x := by
          unfold Ho.aws
          rw [e]
          exact List.count_pos_iff.mpr hx
        rw [← H.aw x] at e1
        obtain ⟨m, hm, e2⟩ := List.countP_pos_iff.mp e1
        have := (I.ms m hm).1
        rw [(isInv_at e2).2] at this
        exact this
      have q1 : Gd 4 2 (.tuple (v.aw.map dN)) := Gs.maps (N := 4) (B := 0) (D := 1) (fun x hx => Gd.nat (by have := aw x hx; omega)) (by omega) (by decide)
      have q2 : Gd 16 2 (dOW v.ws) := by
        cases er : v.rcl with
        | true =>
          rw [(H.p3 v e er).2.2]
          exact Gd.none.mono (by decide) (Nat.le_refl 2)
        | false =>
          obtain ⟨ws, e1, e2⟩ := H.p4 v e er
          rw [e1]
          exact WP.gd (D := 1) w e2
      have q0 : v.core < 65536 := by have := H.svlt v e; omega
      exact (Gs.cons (Gd.nat q0) (Gs.cons (Gd.bool v.ex) (Gs.cons q1 (Gs.cons (Gd.bool v.rcl) (Gs.cons q2 (Gs.cons (Gd.bool v.gr) Gs.nil)))))).tup.mono (by decide) (Nat.le_refl 3)
  exact (Gs.cons g1 (Gs.cons g2 (Gs.cons g3 Gs.nil))).tup.mono (by decide) (Nat.le_refl 4)
def dTop (s : Sy) : PyData := .tuple [.tuple (s.ca.map dCa), .tuple (s.ho.map dHo), dW s.mem]
theorem Inv.gTop (w : Wd cf M n) (I : Inv cf M n k s) (hk : k ≤ 40) : Gd 40000 6 (dTop s) := by
  have g1 : Gd 24004 5 (.tuple (s.ca.map dCa)) := Gs.maps (N := 4) (B := 6000) (D := 4) (fun c hc => I.gCa w hk hc) (by rw [I.nca]; exact w.n1) (by decide)
  have g2 : Gd 4000 5 (.tuple (s.ho.map dHo)) := Gs.maps (N := 16) (B := 200) (D := 4) (fun c hc => I.gHo w hc) (by rw [I.nho]; have := manyOf_le (M := M) w.lw0; have := w.M1; omega) (by decide)
  have g3 : Gd 16 5 (dW s.mem) := Gd.words (D := 4) I.bm (by rw [I.nmem]; exact w.M1)
  exact (Gs.cons g1 (Gs.cons g2 (Gs.cons g3 Gs.nil))).tup.mono (by decide) (Nat.le_refl 6)
theorem Gd.fits {B D : Nat} {d : PyData} (g : Gd B D d) (h : B ≤ 1048576) : d.shown.length ≤ sizeLine := PyData.shown_fits_bulk (B := 8) (by decide) (by decide) g.ls (Nat.le_trans g.bk h)
end
end DL

/-! G1: defs that ask that no text of an object is under way (repr). -/
namespace DL
open PySem PySem.Spec PyProof.Rows L2
/-- the promise of a def where no repr is under way -/
structure FnG (P : Program) (w : World) (K : PySem.W.Frag) (mg : Str → Option Value) (base : Heap) (k : Nat) (f : Addr) (fd : FuncData) (ps : List Str) (sp : Sp) : Prop where
  len : ∀ vs H Q E, sp vs H Q E → vs.length = ps.length
  run : ∀ {A : Around} {outer : List PySem.Env} {s : Shared} {H : Hp} {args : Args} {us : List Value} {vs : List V} {Q : VK} {E : XK}, A.guards = some [] → Room k A → Env0 P w K mg base A outer s H → BindsTo s fd args (ps.zip us) → Vals vs us → sp vs H Q E →
    codeAny (model P w) A (.call (.ref f) args) (CR CX0 outer P w H s Q E) s
section
variable {P : Program} {w : World} {K : PySem.W.Frag} {mg : Str → Option Value} {base : Heap}
theorem fnG_of {x qual : Str} {st : Stmt} {f : Addr} {fd : FuncData} {N ps : List Str} {k : Nat} {sp : Sp} (F : Fun K x qual st f fd) (S : FnScope N ps (defScope st)) (len : ∀ vs H Q E, sp vs H Q E → vs.length = ps.length)
    (hbody : ∀ (cdv : Value) (A : Around) (outer : List PySem.Env) (s : Shared) (H : Hp) (vs : List V) (Q : VK) (E : XK), A.guards = some [] → Room k (A.deeper (envOfC qual (defScope st) s.heap.objs.size f cdv)) → sp vs H Q E →
      ∃ t, PSs (cxOf CX0 P w K mg base N qual (defScope st) f cdv A outer s H E).nox (defBody st) t ∧ t { nx := fun _ H' => Q .non H', rt := Q } (L2.start N vs) H) : FnG P w K mg base (k + 1) f fd ps sp := by
  obtain ⟨oc, od, kV, doc, pm, an, cdv, ct, osl, rfl, lk, hcd⟩ := F.ex
  constructor
  · exact len
  intro A outer s H args us vs Q E gd room e0 bnd rv h
  have kin : K.In s.heap := e0.mod.kin.keeps fun b o e => (e0.bs b o e).1
  have nolim : s.heap.NoLimit := e0.mod.nolimit.keeps fun b o e => (e0.bs b o e).1
  have kinds : ∀ y ∈ ps.zip us, (defScope st).names.lookup y.1 = some .local ∨ ((defScope st).names.lookup y.1 = some .cell ∧ ((cellsFrom (s.heap.objs.size + 1) (defScope st).names []).lookup y.1).isSome = true) := by
    intro y hy
    rcases S.par y.1 (List.of_mem_zip (a := y.1) (b := y.2) hy).1 with q | q
    · left
      exact q
    · right
      exact ⟨q, PySem.W.cellsFrom_some _ _ _ (.inl q)⟩
  apply codeAny_call_function room.depth (kin _ _ lk) rfl S.co S.gen rfl (PySem.W.codeRec_of kin hcd)
  apply bnd
  apply wpAny_newFunctionEnv_cells S.kind kinds
  intro env he s1 inside
  subst he
  refine ⟨nolim.keeps inside.toInCall.keep, codeAny_func ?_⟩
  obtain ⟨t, body, ht⟩ := hbody cdv A outer s H vs Q E gd (room.deeper _) h
  have begin_ : L2.Inv (cxOf CX0 P w K mg base N qual (defScope st) f cdv A outer s H E) [] (L2.start N vs) H s1 := L2.inv_start S room.hd e0 (len _ _ _ _ h) rv inside
  have done := body.nox.run [] s1 (L2.start N vs) H _ begin_ ht
  apply wpAny_mono done
  · intro flow s2 out
    match flow, out with
    | .ret u, ⟨v, σ2, H2, J, r2, q⟩ => exact ⟨v, H2, J.os, J.bare, J.base, J.hok, r2, q⟩
    | .next, ⟨σ2, H2, J, q⟩ => exact ⟨.non, H2, J.os, J.bare, J.base, J.hok, rfl, q⟩
    | .brk, ⟨_, _, _, q⟩ => exact q.elim
    | .cont, ⟨_, _, _, q⟩ => exact q.elim
  · intro e s2 out
    exact out
end
/-- such a def of the module, for whoever calls it by its name -/
structure CalG (P : Program) (w : World) (K : PySem.W.Frag) (mg : Str → Option Value) (base : Heap) (k : Nat) (x : Str) (sp : Sp) : Prop where
  ex : ∃ (f : Addr) (fd : FuncData) (ps : List Str), FnG P w K mg base k f fd ps sp ∧ mg x = some (.ref f) ∧ PySem.W.keepIn K (.ref f) = true ∧ Binds K fd ps []
section
variable {X : Cx} {e : Expr} {es : List Expr} {t : TA} {sp : Sp} {pos : Pos}
theorem pe_calG {x : Str} {p : Pos} {k k' : Nat} (c : CalG X.prog X.w X.K X.mg X.base k x sp) (hr : Room k' X.A) (gd : X.A.guards = some []) (hk : k ≤ k') (hg : Gl X x)
    (ha : PA X (e :: es) t) (hdb : (x == ("__debug__" : Str)) = false := by decide) (he : starEach (e :: es) X.env = (false, eval e X.env) :: starEach es X.env := by rfl) (hpl : (backTo pos (starEach es X.env)).any (·.1) = false := by rfl) :
    PE X (.Call (.Name x p) (e :: es) [] pos) (tSp sp t) := by
  obtain ⟨f, fd, ps, G, hm, hkp, hb⟩ := c.ex
  constructor
  intro pins s σ H Q I h
  apply wpAny_Call_Name_kw (ld_glob I hg hm ?_ hdb)
  apply PySem.W.callWith_K (h₀ := X.base) I.ok.mod.kin hkp ?_ he hpl
  apply thn (ha.run pos pins s σ H _ I h)
  intro us s1 ⟨vs, H1, I1, r, q⟩
  refine ⟨I1.kIn, ?_⟩
  have n1 : us.length = ps.length := by rw [← r.length]; exact G.len _ _ _ _ q
  have n2 : (us ++ []).length = ps.length := by rw [List.append_nil]; exact n1
  have bs := hb s1 us I1.kIn n2
  rw [List.append_nil] at bs
  apply wpAny_call (codeAny_mono (G.run gd (hr.mono hk) I1.env0 bs r q) ?_)
  intro res s2 out
  match res, out with
  | .error e, out => exact pass0 pins σ H1 s1 e s2 I1 out
  | .ok (.ret u), out => exact I1.after out
  | .ok .next, out => exact out.elim
  | .ok .brk, out => exact out.elim
  | .ok .cont, out => exact out.elim
end
end DL

/-! G2: the call of the law itself, by such a promise. -/
namespace DL
open PySem PySem.Spec PyProof.Rows L2
/-- the heap in which the script alone is tracked (where it is no object of the module) -/
def onlyScript (K : PySem.W.Frag) (a : Addr) (o : Obj) (xs : List V) : Hp := fun b => if b = a ∧ K.lookup a = none then some (.frz o (.lst xs)) else none
theorem onlyScript_at {K : PySem.W.Frag} {a b : Addr} {o : Obj} {xs : List V} {u : HO} (h : onlyScript K a o xs b = some u) : b = a ∧ K.lookup a = none ∧ u = .frz o (.lst xs) := by
  unfold onlyScript at h
  split at h
  · rename_i c
    cases h
    exact ⟨c.1, c.2, rfl⟩
  · cases h
theorem onlyScript_none {K : PySem.W.Frag} {a b : Addr} {o : Obj} {xs : List V} (h : b = a → K.lookup a = none → False) : onlyScript K a o xs b = none := by
  cases e : onlyScript K a o xs b with
  | none => rfl
  | some u =>
    obtain ⟨h1, h2, _⟩ := onlyScript_at e
    exact (h h1 h2).elim
theorem callG {P : Program} {w : World} {K : PySem.W.Frag} {mg mb : Str → Option Value} {k : Nat} {fa a : Addr} {fd : FuncData} {x : Str} {sp : Sp} {s : Shared} {vs : List Value} {ns : List Int}
    (kin : K.In s.heap) (hns : s.heap.Ns mainGlobals mg) (hb : s.heap.Ns builtinsNs mb) (hbb : ∀ x : Str, x ≠ "__name__" → mb x = bootBuiltins x) (lim : s.heap.NoLimit) (hg : s.gens = #[])
    (ha : s.heap.get? a = some { cls := .type "list", data := .seq vs.toArray }) (hi : IntsAre vs ns) (hl : ns.length ≤ sizeLine) (hr : Room k callerA)
    (F : ∀ base : Heap, K.In base → base.Ns mainGlobals mg → FnG P w K mg base k fa fd [x] sp) (bnd : ∀ (s : Shared) (u : Value), BindsTo s fd ⟨[u], []⟩ [(x, u)])
    (hsp : ∀ H : Hp, SqL K H a (ns.map V.int) → sp [.ref a] H (fun v _ => v = .bl true) fun _ _ _ => False) :
    codeAny (model P w) callerA (.call (.ref fa) ⟨[.ref a], []⟩) (fun r s' => r = .ok (.ret (.bool true)) ∧ OldK s.heap s'.heap ∧ s'.os = s.os ∧ AllBare s'.gens) s := by
  have rv : Vals (ns.map V.int) vs := vals_ints hi
  have hlen : (ns.map V.int).length ≤ sizeLine := by rw [List.length_map]; exact hl
  -- the one object that is tracked
  generalize hH : onlyScript K a { cls := .type "list", data := .seq vs.toArray } (ns.map V.int) = H
  have at_ : ∀ {b u}, H b = some u → b = a ∧ K.lookup a = none ∧ u = .frz { cls := .type "list", data := .seq vs.toArray } (.lst (ns.map V.int)) := fun {b u} h => by
    rw [← hH] at h
    exact onlyScript_at h
  have free : ∀ {b}, (b = a → K.lookup a = none → False) → H b = none := fun {b} h => by
    rw [← hH]
    exact onlyScript_none h
  have live : HOk P w H s.heap := fun b u h => by
    obtain ⟨rfl, _, rfl⟩ := at_ h
    exact ⟨ha, hlen, vs, _, rv, ha⟩
  have seq : SqL K H a (ns.map V.int) := by
    cases lk : K.lookup a with
    | none =>
      left
      right
      refine ⟨{ cls := .type "list", data := .seq vs.toArray }, ?_⟩
      rw [← hH]
      unfold onlyScript
      rw [if_pos ⟨rfl, lk⟩]
    | some o =>
      right
      have there := kin _ _ lk
      rw [ha] at there
      cases there
      refine ⟨_, vs.toArray, _, lk, rfl, rfl, rfl, ?_, by simpa using rv⟩
      rw [List.size_toArray, ← rv.length]
      exact hlen
  have kinB : K.In (hidT s.heap H) := fun b o e => hidT_get (kin b o e) (free fun e1 e2 => by rw [e1, e2] at e; cases e)
  have nsB : ∀ {b : Addr} {m : Str → Option Value}, s.heap.Ns b m → (hidT s.heap H).Ns b m := fun {b m} ⟨o, es, ep, e, d, r⟩ => by
    refine ⟨o, es, ep, hidT_get e (free fun e1 _ => ?_), d, r⟩
    rw [e1, ha] at e
    cases e
    cases d
  have nolim : (hidT s.heap H).NoLimit := by
    obtain ⟨mc, h1, h2⟩ := lim
    exact ⟨mc, nsB h1, h2⟩
  have env : Env0 P w K mg (hidT s.heap H) callerA [] s H :=
    { frames := rfl, mod := ⟨kinB, nsB hns, ⟨mb, nsB hb, hbb⟩, nolim⟩, bs := fun b o e => of_hidT e, bsz := Nat.le_of_eq (hidT_size _ _), funs := trivial,
      frf := fun b hb => absurd (show b ∈ ([] : List Addr) from hb) (by simp), hok := live, bare := .of_eq hg }
  apply codeAny_mono ((F _ kinB (nsB hns)).run rfl hr env (bnd s (.ref a)) (us := [.ref a]) (vs := [.ref a]) (.cons (show L2.RelV (.ref a) (.ref a) from rfl) .nil) (hsp H seq))
  intro r s' out
  match r, out with
  | .error e, out => exact (show False from out).elim
  | .ok .next, out => exact out.elim
  | .ok .brk, out => exact out.elim
  | .ok .cont, out => exact out.elim
  | .ok (.ret u), ⟨v, H', os, bare, un, ok', ru, hv⟩ =>
    have hv : v = .bl true := hv
    subst hv
    have hu : u = Value.bool true := ru
    subst hu
    refine ⟨rfl, OldK.of_keep fun b o e => ?_, os, bare⟩
    cases hb : H b with
    | none => exact un.keep b o e hb (by intro z; exact absurd (show b ∈ ([] : List Addr) from z) (by simp)) (by simp)
    | some u =>
      obtain ⟨rfl, _, rfl⟩ := at_ hb
      have now := un.frzs _ _ _ hb
      obtain ⟨e1, _⟩ := ok' _ _ now
      rw [ha] at e
      cases e
      exact e1
end DL

/-! G3: repr, sorted and != of nested data, as canonical rules. -/
namespace DL
open PySem PySem.Spec PyProof.Rows L2

/-! ### a sorted list of texts is known by its texts -/
theorem rising_pw : ∀ (l : List Str) (p : Str), risingS p l = true → (p :: l).Pairwise fun a b => ¬ b.cps.toList < a.cps.toList
  | [], p, _ => by simp
  | x :: r, p, h => by
    have h' : (!ltCps x.cps.toList p.cps.toList) = true ∧ risingS x r = true := by simpa [risingS] using h
    have e1 : ¬ x.cps.toList < p.cps.toList := by
      have := h'.1
      rw [ltCps_eq] at this
      simpa using this
    have ih := rising_pw r x h'.2
    refine List.pairwise_cons.mpr ⟨fun y hy => ?_, ih⟩
    rcases List.mem_cons.mp hy with rfl | hy
    · exact e1
    · have e2 := (List.pairwise_cons.mp ih).1 y hy
      intro z
      have a1 : p.cps.toList ≤ x.cps.toList := List.not_lt.mp e1
      have a2 : x.cps.toList ≤ y.cps.toList := List.not_lt.mp e2
      exact absurd z (List.not_lt.mpr (List.le_trans a1 a2))
theorem sorted_pw {l : List Str} (h : sortedS l = true) : l.Pairwise fun a b => ¬ b.cps.toList < a.cps.toList := by
  cases l with
  | nil => exact List.Pairwise.nil
  | cons x r => exact rising_pw r x h
theorem str_ext {a b : Str} (h : a.cps.toList = b.cps.toList) : a = b := by
  cases a
  cases b
  simp only [Str.mk.injEq]
  exact Array.toList_inj.mp h
theorem sorted_eq {a b : List Str} (p : a.Perm b) (ha : sortedS a = true) (hb : sortedS b = true) : a = b := by
  refine p.eq_of_pairwise (le := fun a b => ¬ b.cps.toList < a.cps.toList) (fun x y _ _ h1 h2 => ?_) (sorted_pw ha) (sorted_pw hb)
  exact str_ext (List.le_antisymm (List.not_lt.mp h1) (List.not_lt.mp h2))
open Classical in
/-- the texts in order -/
noncomputable def sortS (xs : List Str) : List Str := if h : ∃ ys : List Str, ys.Perm xs ∧ sortedS ys = true then choose h else []
theorem sortS_eq {xs ys : List Str} (p : ys.Perm xs) (h : sortedS ys = true) : sortS xs = ys := by
  have e : ∃ ys : List Str, ys.Perm xs ∧ sortedS ys = true := ⟨ys, p, h⟩
  unfold sortS
  rw [dif_pos e]
  have q := Classical.choose_spec e
  exact sorted_eq (q.1.trans p.symm) q.2 h
theorem sortS_perm {xs ys : List Str} (p : xs.Perm ys) : sortS xs = sortS ys := by
  by_cases h : ∃ zs : List Str, zs.Perm xs ∧ sortedS zs = true
  · obtain ⟨zs, h1, h2⟩ := h
    exact (sortS_eq h1 h2).trans (sortS_eq (h1.trans p) h2).symm
  · have h' : ¬ ∃ zs : List Str, zs.Perm ys ∧ sortedS zs = true := fun ⟨zs, h1, h2⟩ => h ⟨zs, h1.trans p.symm, h2⟩
    unfold sortS
    rw [dif_neg h, dif_neg h']

/-! ### data without a config, as the kit reads it -/
section
variable {K : PySem.W.Frag} {C : Addr} {H : Hp}
mutual
theorem Rp.dp : ∀ (d : PyData) {v : V}, d.hasDict = false → Rp K C H v d → Dp K H v d
  | .none, _, _, h => by
    cases h with
    | sc s => cases s; exact .non
  | .bool _, _, _, h => by
    cases h with
    | sc s => cases s; exact .bl _
  | .int _, _, _, h => by
    cases h with
    | sc s => cases s; exact .int _
  | .str _, _, _, h => by
    cases h with
    | sc s => cases s; exact .str _
  | .list ds, _, n, h => by
    cases h with
    | sc s => cases s
    | lst h1 h2 => exact .lst h1 (RpAll.dp ds (by simpa only [PyData.hasDict] using n) h2)
  | .tuple ds, _, n, h => by
    cases h with
    | sc s => cases s
    | tup h1 h2 => exact .tup h1 (RpAll.dp ds (by simpa only [PyData.hasDict] using n) h2)
  | .dict _, _, n, _ => by simp [PyData.hasDict] at n
theorem RpAll.dp : ∀ (ds : List PyData) {vs : List V}, PyData.hasDictAll ds = false → RpAll K C H vs ds → DpAll K H vs ds
  | [], _, _, h => by
    cases h
    exact .nil
  | d :: ds, _, n, h => by
    have n' : d.hasDict = false ∧ PyData.hasDictAll ds = false := by simpa [PyData.hasDictAll] using n
    cases h with
    | cons h1 h2 => exact .cons (Rp.dp d n'.1 h1) (RpAll.dp ds n'.2 h2)
end
end

/-! ### repr -/
def reprD : PyData → Option PyData
  | .tuple ds => if (PyData.tuple ds).showable = true ∧ (PyData.tuple ds).hasDict = false ∧ (PyData.tuple ds).depth ≤ 60 ∧ (PyData.tuple ds).shown.length ≤ sizeLine then some (.str (PyData.tuple ds).shown) else none
  | _ => none
theorem cd_repr {K : PySem.W.Frag} {C : Addr} : CallD K C (fun xs H Q => ∃ x a d, xs = [x] ∧ x = .ref a ∧ Dp K H x d ∧ d.showable = true ∧ d.hasDict = false ∧ d.depth ≤ 60 ∧ d.shown.length ≤ sizeLine ∧ Q (.str d.shown) H) reprD := by
  intro x H dx d Q rx hf q
  cases dx with
  | tuple ds =>
    unfold reprD at hf
    dsimp only at hf
    split at hf
    · rename_i c
      cases hf
      obtain ⟨a, xs, rfl, ha, ra⟩ := rx.tupI
      exact ⟨.ref a, a, .tuple ds, rfl, rfl, Rp.dp _ c.2.1 rx, c.1, c.2.1, c.2.2.1, c.2.2.2, q _ H (Same.refl H) (.sc (.str _))⟩
    · cases hf
  | _ => cases hf
theorem reprD_gd {B D : Nat} {ds : List PyData} (g : Gd B D (.tuple ds)) (hB : B ≤ 1048576) (hD : D ≤ 60) : reprD (.tuple ds) = some (.str (PyData.tuple ds).shown) := by
  unfold reprD
  dsimp only
  rw [if_pos ⟨g.sh, g.nd, Nat.le_trans g.dp hD, g.fits hB⟩]

/-! ### sorted -/
def strsD : List PyData → Option (List Str)
  | [] => some []
  | .str x :: r => (match strsD r with | some xs => some (x :: xs) | none => none)
  | _ => none
theorem strsD_map : ∀ xs : List Str, strsD (xs.map PyData.str) = some xs
  | [] => rfl
  | x :: xs => by
    show (match strsD (xs.map PyData.str) with | some xs => some (x :: xs) | none => none) = _
    rw [strsD_map xs]
theorem strsD_inv : ∀ {ds : List PyData} {xs : List Str}, strsD ds = some xs → ds = xs.map PyData.str
  | [], xs, h => by cases h; rfl
  | .str x :: r, xs, h => by
    unfold strsD at h
    split at h
    · rename_i ys e
      cases h
      rw [strsD_inv e]
      rfl
    · cases h
  | .none :: _, _, h => by simp [strsD] at h
  | .bool _ :: _, _, h => by simp [strsD] at h
  | .int _ :: _, _, h => by simp [strsD] at h
  | .list _ :: _, _, h => by simp [strsD] at h
  | .tuple _ :: _, _, h => by simp [strsD] at h
  | .dict _ :: _, _, h => by simp [strsD] at h
noncomputable def sortD : PyData → Option PyData
  | .list ds => (match strsD ds with | some xs => if xs.length < 64 then some (.list ((sortS xs).map PyData.str)) else none | none => none)
  | _ => none
theorem rp_strs {K : PySem.W.Frag} {C : Addr} {H : Hp} : ∀ xs : List Str, RpAll K C H (xs.map V.str) (xs.map PyData.str)
  | [] => .nil
  | x :: xs => .cons (.sc (.str x)) (rp_strs xs)
theorem strs_of {K : PySem.W.Frag} {C : Addr} {H : Hp} : ∀ {xs : List Str} {vs : List V}, RpAll K C H vs (xs.map PyData.str) → vs = xs.map V.str
  | [], vs, h => by cases h; rfl
  | x :: xs, vs, h => by
    cases h with
    | cons h1 h2 => rw [h1.strI, strs_of h2]; rfl
theorem cd_sorted {K : PySem.W.Frag} {C : Addr} : CallD K C (rSortedS K) sortD := by
  intro x H dx d Q rx hf q
  cases dx with
  | list ds =>
    unfold sortD at hf
    dsimp only at hf
    split at hf
    · rename_i xs e
      split at hf
      · rename_i hl
        cases hf
        obtain ⟨a, vs, rfl, ha, ra⟩ := rx.lstI
        rw [strsD_inv e] at ra
        have ev := strs_of ra
        subst ev
        refine ⟨a, xs, rfl, ha, hl, fun ys p hp hs hn => ?_⟩
        rw [sortS_eq hp hs] at q
        exact q _ _ (same_new hn) (.lst (SqL.of upd_same) (rp_strs ys))
      · cases hf
    · cases hf
  | _ => cases hf

/-! ### != -/
def neV (d e : PyData) : Option PyData := if SeqAt.shaped d = true ∧ SeqAt.shaped e = true then some (.bool (!PyData.eqv d e)) else none
theorem nodict {d : PyData} (h : SeqAt.shaped d = true) : d.hasDict = false := PyData.hasDict_of_canLay d (SeqAt.canLay_of_shaped h)
theorem od_neV {K : PySem.W.Frag} {C : Addr} : OpD K C (rNeD K) neV := by
  intro x y H dx dy d Q rx ry hf q
  unfold neV at hf
  split at hf
  · rename_i c
    cases hf
    exact ⟨dx, dy, Rp.dp _ (nodict c.1) rx, Rp.dp _ (nodict c.2) ry, c.1, c.2, q _ H (Same.refl H) (.sc (.bl _))⟩
  · cases hf
end DL

/-! W8: both orders. -/
namespace DL
open PySem PySem.Spec PyProof.Rows L2
theorem fnG_ok {P : Program} {w : World} {K : PySem.W.Frag} {mg : Str → Option Value} {base : Heap} {C : Addr} {x qual : Str} {st : Stmt} {f : Addr} {fd : FuncData} {N ps : List Str} {k : Nat} {g : Env → Option Res} (F : Fun K x qual st f fd) (S : FnScope N ps (defScope st))
    (hbody : ∀ (cdv : Value) (A : Around) (outer : List PySem.Env) (s : Shared) (H : Hp) (E : XK), A.guards = some [] → Room k (A.deeper (envOfC qual (defScope st) s.heap.objs.size f cdv)) →
      PSs (cxOf CX0 P w K mg base N qual (defScope st) f cdv A outer s H E).nox (defBody st) (tDS K C g)) : FnG P w K mg base (k + 1) f fd ps (SpF K C ps.length (fnD N.length g)) := by
  refine fnG_of F S (fun vs H Q E h => ?_) (fun cdv A outer s H vs Q E gd hr h => ⟨_, hbody cdv A outer s H E gd hr, ?_⟩)
  · obtain ⟨ds, d, hl, r, _⟩ := h
    rw [r.length, hl]
  · obtain ⟨ds, d, hl, r, hf, q⟩ := h
    unfold fnD at hf
    have e : L2.start N vs = vs.map some ++ List.replicate (N.length - ds.length) none := by unfold L2.start; rw [r.length]
    rw [e]
    cases eg : g (ds.map some ++ List.replicate (N.length - ds.length) none) with
    | none => rw [eg] at hf; cases hf
    | some r1 =>
      rw [eg] at hf
      refine ⟨_, r1, Rs.start _ r, eg, ?_⟩
      cases r1 with
      | nx Δ' =>
        cases hf
        exact fun σ' H' s' _ => q _ H' s' (.sc .non)
      | rt d =>
        cases hf
        exact q
section
variable {P : Program} {w : World} {K : PySem.W.Frag} {mg : Str → Option Value} {base : Heap} {C : Addr}
abbrev s__law_both : Stmt := top 36
abbrev n__law_both : List Str := ["_law_config_here", "_law_system", "_law_first", "_law_second", "_law_message"]
theorem sc__law_both : FnScope n__law_both ["_law_config_here", "_law_system", "_law_first", "_law_second"] (defScope s__law_both) := ⟨rfl, rfl, rfl, by decide +kernel, rfl, by decide +kernel, by decide +kernel⟩
noncomputable def g__law_both : Env → Option Res :=
  (gseq (gset 1 (ecl 3 F_next_system (acons (ev 0) (acons (ev 1) (acons (etup (acons (ec (.str (tg .deliver))) (acons (ev 2) anil))) anil)))))
  (gseq (gif (tb (e2 isnD (ev 1) (ec .none))) (gret (ec .none)) gnil)
  (gseq (gset 1 (ecl 3 F_next_system (acons (ev 0) (acons (ev 1) (acons (etup (acons (ec (.str (tg .deliver))) (acons (e2 subD (ev 3) (e1 intD (e2 ltD (ev 2) (ev 3)))) anil))) anil)))))
  (gseq (gif (tb (e2 isnD (ev 1) (ec .none))) (gret (ec .none)) gnil)
  (gret (etup (acons (e1 reprD (esl (ev 1) onone (osome (ec (.int 3))))) (acons (e1 sortD (elc 4 (itup (e2 ixD (ev 1) (ec (.int 3)))) tyes (e1 reprD (ev 4)))) anil))))))))
noncomputable def F__law_both : List PyData → Option PyData := fnD 5 g__law_both
theorem ok__law_both {f : Addr} {fd : FuncData} (F : Fun K "_law_both" "_law_both" s__law_both f fd) (T : Txt K mg C) (c_next_system : CalD P w K mg base C 5 "next_system" 3 F_next_system) : FnG P w K mg base 6 f fd ["_law_config_here", "_law_system", "_law_first", "_law_second"] (SpF K C 4 F__law_both) :=
  fnG_ok (N := n__law_both) (g := g__law_both) F sc__law_both fun cdv A outer s H E gd hr => by
    unfold g__law_both
    exact (dss_cons (ds_set (i := 1) sc__law_both.nd rfl (Or.inl rfl) (dx_calC c_next_system hr (by decide) (by rfl) (da_cons (dx_var 0) (da_cons (dx_var 1) (da_cons (dx_tup (da_cons dx_str (da_cons (dx_var 2) da_nil))) da_nil)))))
    (dss_cons (ds_if (dt_cmp op_isN od_isN (dx_var 1) dx_non (nomark _)) (dss_one (ds_ret dx_non)) dss_nil)
    (dss_cons (ds_set (i := 1) sc__law_both.nd rfl (Or.inl rfl) (dx_calC c_next_system hr (by decide) (by rfl) (da_cons (dx_var 0) (da_cons (dx_var 1) (da_cons (dx_tup (da_cons dx_str (da_cons (dx_op op_sub od_sub (dx_var 3) (dx_callTy call_int1 cd_int (by rfl) T.m_int (by decide +kernel) (dx_cmp op_lt od_lt (dx_var 2) (dx_var 3) (nomark _)))) da_nil))) da_nil)))))
    (dss_cons (ds_if (dt_cmp op_isN od_isN (dx_var 1) dx_non (nomark _)) (dss_one (ds_ret dx_non)) dss_nil)
    (dss_one (ds_ret (dx_tup (da_cons (dx_callB (cr_repr gd hr.units) cd_repr (by rfl) T.m_repr (by decide +kernel) (dx_sl (dx_var 1) do_none (do_some dx_int))) (da_cons (dx_callB cr_sortedS cd_sorted (by rfl) T.m_sorted (by decide +kernel) (dx_lc rfl sc__law_both.nd (di_tup (dx_ix (dx_var 1) dx_int (fun _ _ => rfl))) (blkOk_by (own := [(("_law_message" : Str), 4)]) (N := n__law_both) (sc := defScope s__law_both) (by decide +kernel)) (fun _ _ _ _ _ => pg_name (i := 4) sc__law_both.nd rfl (Or.inl rfl)) (fun _ _ _ _ _ => dts_nil) (fun _ _ _ _ _ => (dx_callB (cr_repr gd hr.units) cd_repr (by rfl) T.m_repr (by decide +kernel) (dx_var 4))))) da_nil)))))))))

end
end DL

/-! M7: what both orders give. -/
namespace DL
open PySem
theorem lcGo_repr {B D : Nat} {f : Ms → PyData} {t : Ms → Str} (hB : B ≤ 1048576) (hD : D ≤ 60) : ∀ (ms : List Ms), (∀ m ∈ ms, reprD (f m) = some (.str (t m))) → ∀ Δ : Env, Δ.length = 5 → lcGo 4 tyes (e1 reprD (ev 4)) Δ (ms.map f) = some (ms.map fun m => .str (t m))
  | [], _, _, _ => rfl
  | m :: ms, h, Δ, hd => by
    have ih := lcGo_repr hB hD ms (fun x hx => h x (List.mem_cons_of_mem _ hx)) Δ hd
    rw [List.map_cons]
    unfold lcGo
    have e4 : ev 4 (Δ.set 4 (some (f m))) = some (f m) := by
      unfold ev
      rw [List.getElem?_set_self (by omega)]
    have e : e1 reprD (ev 4) (Δ.set 4 (some (f m))) = some (.str (t m)) := by
      unfold e1
      rw [e4]
      exact h m List.mem_cons_self
    show (match e1 reprD (ev 4) (Δ.set 4 (some (f m))) with | some y => if noL y = true then (match lcGo 4 tyes (e1 reprD (ev 4)) Δ (ms.map f) with | some r => some (y :: r) | none => none) else none | none => none) = _
    rw [e]
    dsimp only
    rw [if_pos (show noL (.str (t m)) = true from rfl), ih]
    rfl
theorem cut3 (a b m n : PyData) : cutD [a, b, m, n] none (some 3) = [a, b, m] := cut_to [a, b, m, n] 3
theorem both_e {c sd a b m t1 srt : PyData} {net out sd1 : List PyData} {i j j' : Int} (k1 : F_next_system [c, sd, .tuple [.str (tg .deliver), .int i]] = some (.tuple sd1)) (ej : j - (if i < j then 1 else 0) = j') (k2 : F_next_system [c, .tuple sd1, .tuple [.str (tg .deliver), .int j']] = some (.tuple [a, b, m, .tuple net]))
    (k3 : reprD (.tuple [a, b, m]) = some t1) (k4 : ∀ Δ : Env, Δ.length = 5 → lcGo 4 tyes (e1 reprD (ev 4)) Δ net = some out) (hl : net.length ≤ 1000) (k5 : sortD (.list out) = some srt) : F__law_both [c, sd, .int i, .int j] = some (.tuple [t1, srt]) := by
  have ix3 : ixD (.tuple [a, b, m, .tuple net]) (.int 3) = some (.tuple net) := by simp
  simp [F__law_both, fnD, g__law_both, k1, ej, k2, cut3, k3, k4, hl, k5, ix3]
noncomputable def dBoth (s : Sy) : PyData := .tuple [.str (dTop s).shown, .list ((sortS (s.net.map fun m => (dMs m).shown)).map PyData.str)]
theorem reprD_of {B D : Nat} {d : PyData} (g : Gd B D d) (hd : ∃ ds, d = .tuple ds) (hB : B ≤ 1048576) (hD : D ≤ 60) : reprD d = some (.str d.shown) := by
  obtain ⟨ds, rfl⟩ := hd
  exact reprD_gd g hB hD
theorem E_both {cf : Cf} {M n k : Nat} {s s' : Sy} {i j : Nat} (w : Wd cf M n) (I : Inv cf M n k s) (hk : k ≤ 38) (hij : i ≠ j) (b : Both cf M n k s i j s') : F__law_both [dCf cf, dSy s, dN i, dN j] = some (dBoth s') := by
  obtain ⟨s1, d1, m1, I1, d2, m2, I2⟩ := b.ex
  have hlw : cf.lw ≤ 900 := by have := w.lw1; omega
  have sm := I.sm w (by omega)
  have sm1 := I1.sm w (by omega)
  have sm2 := I2.sm w (by omega)
  have x1 := E_next_deliver cf s i (by have := sm.net; omega) fun m hm => (I.ms m hm).2.1
  rw [if_pos m1, E_delivered cf s s1 i sm hlw d1] at x1
  have x2 := E_next_deliver cf s1 (j - (if i < j then 1 else 0)) (by have := sm1.net; omega) fun m hm => (I1.ms m hm).2.1
  rw [if_pos m2, E_delivered cf s1 s' _ sm1 hlw d2] at x2
  have g := I2.gTop w (by omega)
  have hl : s'.net.length < 64 := by have := I2.len; omega
  refine both_e (j' := ((j - (if i < j then 1 else 0) : Nat) : Int)) (t1 := .str (dTop s').shown) (out := s'.net.map fun m => .str (dMs m).shown) x1 ?_ x2 (reprD_of g ⟨_, rfl⟩ (by decide) (by decide)) (fun Δ hd => lcGo_repr (B := 60) (D := 3) (t := fun m => (dMs m).shown) (by decide) (by decide) s'.net (fun m hm => ?_) Δ hd) (by rw [List.length_map]; omega) ?_
  · by_cases h : i < j
    · rw [if_pos (by omega), if_pos h]
      omega
    · rw [if_neg (by omega), if_neg h]
      omega
  · exact reprD_of (I2.gMs w hm) (by cases m <;> exact ⟨_, rfl⟩) (by decide) (by decide)
  · have e : (s'.net.map fun m => PyData.str (dMs m).shown) = (s'.net.map fun m => (dMs m).shown).map PyData.str := by rw [List.map_map]; rfl
    rw [e]
    unfold sortD
    dsimp only
    rw [strsD_map]
    dsimp only
    rw [if_pos (by rw [List.length_map]; exact hl)]
theorem both_same {s t : Sy} (h1 : s.ca = t.ca) (h2 : s.ho = t.ho) (h3 : s.mem = t.mem) (h4 : List.Perm s.net t.net) : dBoth s = dBoth t := by
  unfold dBoth dTop
  rw [h1, h2, h3, sortS_perm (h4.map fun m => (dMs m).shown)]
end DL

/-! M8: what the law compares. -/
namespace DL
open PySem L2
theorem rcvD_shaped (m : Ms) : SeqAt.shaped (rcvD m) = true := by
  have h1 : PyData.strOk (tg .cache) = true := by decide +kernel
  have h2 : PyData.strOk (tg .home) = true := by decide +kernel
  unfold rcvD SeqAt.shaped dN
  split <;> simp only [PyData.canLay0, PyData.canLayAll0, PyData.depth, PyData.depthAll, h1, h2] <;> rfl
theorem eqv_self {d : PyData} (h : SeqAt.shaped d = true) : PyData.eqv d d = true := SeqAt.eqv_refl d (SeqAt.canLay_of_shaped h)
/-- receivers that differ -/
def Apart (m1 m2 : Ms) : Prop := (m1.toCa = true ∧ m2.toCa = true ∧ m1.core ≠ m2.core) ∨ (m1.toCa = false ∧ m2.toCa = false ∧ m1.line ≠ m2.line) ∨ m1.toCa ≠ m2.toCa
theorem apart_of {m1 m2 : Ms} (h : PyData.eqv (rcvD m1) (rcvD m2) = false) : Apart m1 m2 := by
  have ne : rcvD m1 ≠ rcvD m2 := fun e => by
    rw [e, eqv_self (rcvD_shaped m2)] at h
    cases h
  unfold Apart
  cases t1 : m1.toCa with
  | true =>
    cases t2 : m2.toCa with
    | true =>
      refine .inl ⟨rfl, rfl, fun e => ne ?_⟩
      unfold rcvD
      rw [if_pos t1, if_pos t2, e]
    | false => exact .inr (.inr (by simp))
  | false =>
    cases t2 : m2.toCa with
    | true => exact .inr (.inr (by simp))
    | false =>
      refine .inr (.inl ⟨rfl, rfl, fun e => ne ?_⟩)
      unfold rcvD
      rw [if_neg (by rw [t1]; simp), if_neg (by rw [t2]; simp), e]
theorem canLay_strs : ∀ {xs : List Str}, (∀ x ∈ xs, So x) → PyData.canLayAll0 (xs.map PyData.str) = true
  | [], _ => rfl
  | x :: xs, h => by
    simp only [List.map_cons, PyData.canLayAll0, PyData.canLay0, (h x List.mem_cons_self).ok, canLay_strs fun y hy => h y (List.mem_cons_of_mem _ hy)]
    rfl
theorem depth_strs : ∀ xs : List Str, PyData.depthAll (xs.map PyData.str) = 0
  | [] => rfl
  | x :: xs => by simp only [List.map_cons, PyData.depthAll, PyData.depth, depth_strs xs]; rfl
theorem sortS_sub {xs : List Str} {x : Str} (h : x ∈ sortS xs) : x ∈ xs := by
  by_cases e : ∃ ys : List Str, ys.Perm xs ∧ PyProof.Rows.sortedS ys = true
  · obtain ⟨ys, h1, h2⟩ := e
    rw [sortS_eq h1 h2] at h
    exact h1.subset h
  · unfold sortS at h
    rw [dif_neg e] at h
    cases h
theorem dBoth_shaped {cf : Cf} {M n k : Nat} {s : Sy} (w : Wd cf M n) (I : Inv cf M n k s) (hk : k ≤ 40) : SeqAt.shaped (dBoth s) = true := by
  have g := I.gTop w hk
  have h1 : PyData.canLayAll0 ((sortS (s.net.map fun m => (dMs m).shown)).map PyData.str) = true := canLay_strs fun x hx => by
    obtain ⟨m, hm, rfl⟩ := List.mem_map.mp (sortS_sub hx)
    exact (I.gMs w hm).so
  have h2 := depth_strs (sortS (s.net.map fun m => (dMs m).shown))
  unfold SeqAt.shaped dBoth
  simp only [PyData.canLay0, PyData.canLayAll0, g.so.ok, h1, PyData.depth, PyData.depthAll, h2]
  rfl
theorem Inv.up {cf : Cf} {M n k : Nat} {s : Sy} (I : Inv cf M n k s) : Inv cf M n (k + 1) s :=
  ⟨I.nca, I.nho, I.nmem, I.ms, I.wL, I.wV, I.wQ, I.bm, I.hi, I.ci, fun c hc => by have := I.sz c hc; omega, by have := I.sn; omega⟩
theorem ev_msg {Δ : Env} {s : Sy} {i k : Nat} {m : Ms} (h4 : ev 4 Δ = some (dSy s)) (h8 : ev k Δ = some (dN i)) (hm : s.net[i]? = some m) : e2 ixD (e2 ixD (ev 4) (ec (.int 3))) (ev k) Δ = some (dMs m) := by
  have e3 : ixD (dSy s) (.int 3) = some (dMss s.net) := by simp [dSy]
  have e4 : ixD (dMss s.net) (dN i) = some (dMs m) := ix_nat (by rw [List.getElem?_map, hm]; rfl)
  unfold e2 ec
  rw [h4, h8]
  dsimp only
  rw [e3]
  exact e4
theorem rep1_len (n : Nat) (d : PyData) : ((List.replicate n [d]).flatten).length = n := by
  rw [List.length_flatten]
  simp
section
variable {K : PySem.W.Frag} {C : Addr} {H : Hp} {σ : L2.St}
theorem Rs.nones : ∀ σ : L2.St, Rs K C H σ (σ.map fun _ => none)
  | [] => .nil
  | _ :: σ => .cons (fun _ q => nomatch q) (Rs.nones σ)
theorem Rs.put {Δ : Env} {i : Nat} {v : V} {d : PyData} (h : Rs K C H σ Δ) (e : σ[i]? = some (some v)) (r : Rp K C H v d) : Rs K C H σ (Δ.set i (some d)) := by
  have q := Rs.set i h r
  have es : σ.set i (some v) = σ := by
    obtain ⟨hi, hv⟩ := List.getElem?_eq_some_iff.mp e
    rw [← hv]
    exact List.set_getElem_self hi
  rw [es] at q
  exact q
end
end DL

/-! W9: the law. -/
namespace DL
open PySem PySem.Spec PyProof.Rows L2
theorem CalD.toS {P : Program} {w : World} {K : PySem.W.Frag} {mg : Str → Option Value} {base : Heap} {C : Addr} {k n : Nat} {x : Str} {F : List PyData → Option PyData} (c : CalD P w K mg base C k x n F) : CalS P w K mg base k x (SpF K C n F) := ⟨c.ex⟩
theorem asD {X : Cx} {C : Addr} {e : Expr} {f : Env → Option PyData} (h : PE X e (tD X.K C f)) : PE X e (tD X.K C f) := h
def SpLaw (K : PySem.W.Frag) : Sp := fun vs H Q _ => ∃ (a : Addr) (ns : List Int), vs = [.ref a] ∧ SqL K H a (ns.map V.int) ∧ ns.length ≤ 63 ∧ ∀ H', Q (.bl true) H'
section
variable {P : Program} {w : World} {K : PySem.W.Frag} {mg : Str → Option Value} {base : Heap} {C : Addr}
abbrev s_law : Stmt := top 37
abbrev n_law : List Str := ["_law_script", "_law_tape_here", "_law_world_here", "_law_config_here", "_law_system", "_law_k", "_law_told", "_law_indices", "_law_first", "_law_second"]
theorem sc_law : FnScope n_law ["_law_script"] (defScope s_law) := ⟨rfl, rfl, rfl, by decide +kernel, rfl, by decide +kernel, by decide +kernel⟩
theorem ok_law {f : Addr} {fd : FuncData} (F : Fun K "law" "law" s_law f fd) (T : Txt K mg C) (c__law_tape : CalS P w K mg base 1 "_law_tape" (SpTape K)) (c__law_draw : CalS P w K mg base 1 "_law_draw" SpDraw) (c__law_world : CalS P w K mg base 2 "_law_world" (SpWorld K C)) (c__law_config : CalS P w K mg base 3 "_law_config" (SpConfig K C))
    (c__law_fresh : CalS P w K mg base 2 "_law_fresh" (SpFresh K C)) (c__law_action : CalS P w K mg base 2 "_law_action" (SpAct K C)) (d_start_system : CalD P w K mg base C 1 "start_system" 2 F_start_system) (d_next_system : CalD P w K mg base C 5 "next_system" 3 F_next_system) (d_deliverable : CalD P w K mg base C 2 "deliverable" 1 F_deliverable)
    (d__law_receiver : CalD P w K mg base C 1 "_law_receiver" 1 F__law_receiver) (c__law_both : CalG P w K mg base 6 "_law_both" (SpF K C 4 F__law_both)) : FnG P w K mg base 7 f fd ["_law_script"] (SpLaw K) := by
  have c_start_system := d_start_system.toS
  have c_next_system := d_next_system.toS
  have c_deliverable := d_deliverable.toS
  have c__law_receiver := d__law_receiver.toS
  refine fnG_of F sc_law (fun vs H Q E h => by obtain ⟨a, ns, rfl, _⟩ := h; rfl) (fun cdv A outer s0 H vs Q E gd hr h => ?_)
  obtain ⟨a, ns, rfl, ha, hlen, q⟩ := h
  refine ⟨_, (pss_cons (ps_set (i := 1) sc_law.nd rfl (Or.inl rfl) (pe_calS c__law_tape hr (by decide) (by rfl) (pa_cons (pv 0) pa_nil)))
    (pss_cons (ps_set (i := 2) sc_law.nd rfl (Or.inl rfl) (pe_calS c__law_world hr (by decide) (by rfl) (pa_cons (pv 1) pa_nil)))
    (pss_cons (ps_set (i := 3) sc_law.nd rfl (Or.inl rfl) (pe_calS c__law_config hr (by decide) (by rfl) (pa_cons (pv 1) (pa_cons (pv 2) pa_nil))))
    (pss_cons (ps_set (i := 4) sc_law.nd rfl (Or.inl rfl) (pe_calS c_start_system hr (by decide) (by rfl) (pa_cons (pe_tup (pa_cons (asD (C := C) (dx_tup (da_cons (dx_tup (da_cons dx_str da_nil)) da_nil))) (pa_cons (asD (C := C) (dx_op op_mulA od_mul (dx_tup (da_cons dx_int da_nil)) (dx_ix (dx_var 2) dx_int (fun _ _ => rfl)))) (pa_cons (pe_calS c__law_fresh hr (by decide) (by rfl) (pa_cons (pv 1) (pa_cons (asD (C := C) (dx_ix (dx_var 2) dx_int (fun _ _ => rfl))) pa_nil))) pa_nil)))) (pa_cons (pv 3) pa_nil))))
    (pss_cons (ps_for PassesOwn.never rfl (pi_range1 (by rfl) T.m_range (pa_cons (pe_calS c__law_draw hr (by decide) (by rfl) (pa_cons (pv 1) (pa_cons pe_int pa_nil))) pa_nil)) (pg_name (i := 5) sc_law.nd rfl (Or.inl rfl)) (pss_cons (ps_set (i := 6) sc_law.nd rfl (Or.inl rfl) (pe_calS c_next_system hr (by decide) (by rfl) (pa_cons (pv 3) (pa_cons (pv 4) (pa_cons (pe_calS c__law_action hr (by decide) (by rfl) (pa_cons (pv 1) (pa_cons (pv 4) (pa_cons (pv 2) pa_nil)))) pa_nil)))))
    (C8.pss_cut (ps_if (pt_cmpR op_notN (pv 6) pe_non (nomark _)) (pss_one (ps_set (i := 4) sc_law.nd rfl (Or.inl rfl) (pv 6))) pss_nil)
    (pss_cons (ps_set (i := 7) sc_law.nd rfl (Or.inl rfl) (pe_calS c_deliverable hr (by decide) (by rfl) (pa_cons (pv 4) pa_nil)))
    (pss_one (ps_if (pt_cmpR op_gt (pe_callB call_len_seq (by rfl) T.m_len PySem.boot_len (pa_cons (pv 7) pa_nil)) pe_int (nomark _)) (pss_cons (ps_set (i := 8) sc_law.nd rfl (Or.inl rfl) (pe_ix ix_seq (pv 7) (pe_calS c__law_draw hr (by decide) (by rfl) (pa_cons (pv 1) (pa_cons (pe_callB call_len_seq (by rfl) T.m_len PySem.boot_len (pa_cons (pv 7) pa_nil)) pa_nil))) (fun _ _ => rfl)))
    (pss_cons (ps_set (i := 9) sc_law.nd rfl (Or.inl rfl) (pe_ix ix_seq (pv 7) (pe_calS c__law_draw hr (by decide) (by rfl) (pa_cons (pv 1) (pa_cons (pe_callB call_len_seq (by rfl) T.m_len PySem.boot_len (pa_cons (pv 7) pa_nil)) pa_nil))) (fun _ _ => rfl)))
    (pss_one (ps_if (pt_cmpR (op_neD hr.units) (pe_calS c__law_receiver hr (by decide) (by rfl) (pa_cons (asD (C := C) (dx_ix (dx_ix (dx_var 4) dx_int (fun _ _ => rfl)) (dx_var 8) (fun _ _ => rfl))) pa_nil)) (pe_calS c__law_receiver hr (by decide) (by rfl) (pa_cons (asD (C := C) (dx_ix (dx_ix (dx_var 4) dx_int (fun _ _ => rfl)) (dx_var 9) (fun _ _ => rfl))) pa_nil)) (nomark _)) (pss_cons (ps_set (i := 6) sc_law.nd rfl (Or.inl rfl) (pe_calG c__law_both hr gd (by decide) (by rfl) (pa_cons (pv 3) (pa_cons (pv 4) (pa_cons (pv 8) (pa_cons (pv 9) pa_nil))))))
    (pss_one (ps_if (PW.pt (pw_or (pt_cmpR op_isN (pv 6) pe_non (nomark _)) (pw_or1 (pt_cmpR (op_neD hr.units) (pv 6) (pe_calG c__law_both hr gd (by decide) (by rfl) (pa_cons (pv 3) (pa_cons (pv 4) (pa_cons (pv 9) (pa_cons (pv 8) pa_nil))))) (nomark _))))) (pss_one (ps_ret pe_bl)) pss_nil))) pss_nil)))) pss_nil))))))
    (pss_one (ps_ret pe_bl))))))), ?_⟩
  refine ⟨_, rfl, a, ns, rfl, ha, hlen, fun t H1 _ s1 t1 => ?_⟩
  refine ⟨_, rfl, t, rfl, t1, fun wv H2 u hu k2 t2 w2 => ?_⟩
  refine ⟨_, rfl, _, rfl, t, wv, u, rfl, t2, w2, fun cv H3 cf e1 e2 k3 t3 c3 => ?_⟩
  have w3 := k3.rp t2 w2 (noL_dWl u)
  have W : Wd cf u.z u.n := ⟨by rw [e1]; exact hu.lw0, by rw [e1]; exact hu.lw1, by rw [e2]; exact hu.sets, hu.z1, hu.n1⟩
  -- the start
  refine ⟨_, .tuple [.tuple [.str (tg .halt)]], Rs.nones _, rfl, fun v1 H4 s4 r1 => ?_⟩
  have w4 := w3.mn s4
  refine ⟨_, .tuple (List.replicate u.n [PyData.int 0]).flatten, (Rs.nones _).put (i := 2) rfl w4, ?_, fun v2 H5 s5 r2 => ?_⟩
  · show mulD (.tuple [.int 0]) (.int (u.n : Nat)) = _
    unfold mulD
    dsimp only
    have h0 := hu.n0
    have h1 := hu.n1
    rw [if_pos ⟨by simp, by simp, by omega, by omega⟩]
    rfl
  have w5 := w4.mn s5
  refine ⟨_, rfl, _, dN u.z, (Rs.nones _).put (i := 2) rfl w5, rfl, fun v3 H6 s6 r3 => ?_⟩
  have e3 := r3.intI
  subst e3
  have t6 := ((t3.mn s4).mn s5).mn s6
  refine ⟨t, u.z, rfl, t6, hu.z1, fun mv H7 mem hm1 hm2 k7 t7 r7 => ?_⟩
  have c7 := k7.rp t6 (((c3.mn s4).mn s5).mn s6) rfl
  have w7 := k7.rp t6 (w5.mn s6) (noL_dWl u)
  have r17 := k7.rp t6 ((r1.mn s5).mn s6) rfl
  have r27 := k7.rp t6 (r2.mn s6) (by
    show noLs (List.replicate u.n [PyData.int 0]).flatten = true
    generalize u.n = n
    induction n with
    | zero => rfl
    | succ n ih => rw [List.replicate_succ, List.flatten_cons]; exact ih)
  refine ⟨(by show 3 ≤ sizeLine; decide), fun p hp => ?_⟩
  have s8 := same_new (o := HO.tup [v1, v2, mv]) hp
  refine ⟨_, rfl, [.tuple [.tuple [.tuple [.str (tg .halt)]], .tuple (List.replicate u.n [PyData.int 0]).flatten, dW mem], dCf cf], dSy (Sy.start cf u.n mem), rfl, .cons (.tup (SqT.of upd_same) (.cons (r17.mn s8) (.cons (r27.mn s8) (.cons (r7.mn s8) .nil)))) (.cons (c7.mn s8) .nil), ?_, fun sv H9 s9 r9 => ?_⟩
  · have := E_start_system cf (.tuple [.tuple [.str (tg .halt)]]) (List.replicate u.n [PyData.int 0]).flatten mem W.lw0 (by have := W.lw1; omega) (by have := hu.z1; omega) (by rw [rep1_len]; have := hu.n1; omega) (by
      have := manyOf_le (M := mem.length) (lw := cf.lw) W.lw0
      have := hu.z1
      omega)
    rw [rep1_len] at this
    exact this
  have I0 : Inv cf u.z u.n 0 (Sy.start cf u.n mem) := by
    have := inv_start (cf := cf) (n := u.n) (mem := mem) (by rw [hm1]; exact W) hm2
    rw [hm1] at this
    exact this
  have t9 := (t7.mn s8).mn s9
  -- the actions
  refine ⟨_, rfl, t, 31, rfl, t9, by decide, fun r H10 a0 a1 k10 t10 => ⟨r, rfl, by omega, by omega, ?_⟩⟩
  refine for_it (walk_range (lo := 0) (n := r.toNat)) (fun j σ' H' => ∃ (sv : V) (s : Sy) (o5 o6 o7 o8 o9 : Option V), σ' = [some (.ref a), some (.ref t), some wv, some cv, some sv, o5, o6, o7, o8, o9] ∧ TpOk t H' ∧ Rp K C H' wv (dWl u) ∧ Rp K C H' cv (dCf cf) ∧ Rp K C H' sv (dSy s) ∧ Inv cf u.z u.n j s)
    ⟨sv, _, none, none, none, none, none, rfl, t10, k10.rp t9 ((w7.mn s8).mn s9) (noL_dWl u), k10.rp t9 ((c7.mn s8).mn s9) rfl, k10.rp t9 r9 (noL_Sy _), I0⟩ (fun _ _ _ _ _ => trivial) ?_ ?_
  · rintro j x σ' Ha Hb hj ⟨sv, s, o5, o6, o7, o8, o9, rfl, ta, wa, ca, sa, I⟩ ⟨rfl, rfl⟩
    have hj31 : j ≤ 30 := by omega
    have sm := I.sm W (by omega)
    -- the action
    have hlines : ∀ c ∈ s.ca, ∀ e ∈ c.lines, e.line < s.ho.length := fun c hc e he => by
      rw [I.nho]
      exact (I.wL c hc e he).1
    refine ⟨_, rfl, _, rfl, _, rfl, _, rfl, _, rfl, t, sv, wv, s, u, rfl, ta, sa, wa, hu, I.nca, by rw [I.nho, e1], hlines, fun c hc => by have := (I.sz c hc).1; omega, by have := sm.net; omega, fun av Hc act hact kc tc ra => ?_⟩
    have wc := kc.rp ta wa (noL_dWl u)
    have cc := kc.rp ta ca rfl
    have sc := kc.rp ta sa (noL_Sy s)
    have step : ∀ (d : PyData) (s' : Sy), F_next_system [dCf cf, dSy s, dAct act] = some d → (d = .none ∧ s' = s ∨ d = dSy s') → Inv cf u.z u.n (j + 1) s' → ∀ (v : V) (Hd : Hp), Same Hc Hd → Rp K C Hd v d →
        ∃ sv', (v = .non → sv' = sv) ∧ (v ≠ .non → sv' = v) ∧ Rp K C Hd sv' (dSy s') := fun d s' _ hd I' v Hd sd rv => by
      rcases hd with ⟨rfl, rfl⟩ | rfl
      · have := rv.nonI
        subst this
        exact ⟨sv, fun _ => rfl, fun z => absurd rfl z, sc.mn sd⟩
      · obtain ⟨pa, xs, rfl, _⟩ := rv.tupI
        exact ⟨.ref pa, fun z => (by cases z), fun _ => rfl, rv⟩
    obtain ⟨d, s', hF, hd, I'⟩ : ∃ d s', F_next_system [dCf cf, dSy s, dAct act] = some d ∧ (d = .none ∧ s' = s ∨ d = dSy s') ∧ Inv cf u.z u.n (j + 1) s' := by
      rcases step_next W I (by omega) hact with e | ⟨s', e, I'⟩
      · exact ⟨_, s, e, .inl ⟨rfl, rfl⟩, I.up⟩
      · exact ⟨_, s', e, .inr rfl, I'⟩
    refine ⟨[dCf cf, dSy s, dAct act], d, rfl, .cons cc (.cons sc (.cons ra .nil)), hF, fun told Hd sd rtold => ?_⟩
    obtain ⟨sv', hv1, hv2, rsv⟩ := step d s' hF hd I' told Hd sd rtold
    have td := tc.mn sd
    have wd := wc.mn sd
    have cd := cc.mn sd
    refine ⟨fun σ' H' => σ' = [some (.ref a), some (.ref t), some wv, some cv, some sv', some (.int (0 + (j : Nat))), some told, o7, o8, o9] ∧ Hd = H', ?_, ?_⟩
    · refine ⟨_, rfl, rfl, _, rfl, ?_⟩
      by_cases hn : told = .non
      · rw [decide_eq_true hn]
        have := hv1 hn
        subst this
        exact iteF ⟨rfl, rfl⟩
      · rw [decide_eq_false hn]
        have := hv2 hn
        subst this
        exact iteT ⟨_, rfl, rfl, rfl⟩
    rintro σ' _ ⟨rfl, rfl⟩
    have sm' := I'.sm W (by omega)
    have hlm : ∀ m ∈ s'.net, m.line < s'.ho.length := fun m hm => (I'.ms m hm).2.1
    -- what can be delivered
    refine ⟨_, rfl, [dSy s'], .tuple ((delIx s'.ho 0 s'.net).map dN), rfl, .cons rsv .nil, E_deliverable s' (by have := sm'.net; omega) hlm, fun iv He se rix => ?_⟩
    have te := td.mn se
    have we := wd.mn se
    have ce := cd.mn se
    have xe := rsv.mn se
    have noI : noL (.tuple ((delIx s'.ho 0 s'.net).map dN)) = true := by show noLs _ = true; exact noLs_all _ noL_N _
    obtain ⟨ia, ixs, rfl, hia, ria⟩ := rix.tupI
    have hil := ria.length
    rw [List.length_map] at hil
    have hilen : ixs.length ≤ 900 := by
      rw [hil]
      have h1 : (delIx s'.ho 0 s'.net).length ≤ s'.net.length := by
        have go : ∀ (ms : List Ms) (i : Nat), (delIx s'.ho i ms).length ≤ ms.length := fun ms => by
          induction ms with
          | nil => intro i; exact Nat.le_refl _
          | cons m ms ih =>
            intro i
            unfold delIx
            split
            · simp only [List.length_cons]; have := ih (i + 1); omega
            · simp only [List.length_cons]; have := ih (i + 1); omega
        exact go _ _
      have := sm'.net
      omega
    have fin : ∀ (H' : Hp) (o6 o8 o9 : Option V), TpOk t H' → Rp K C H' wv (dWl u) → Rp K C H' cv (dCf cf) → Rp K C H' sv' (dSy s') → ∃ (svx : V) (sx : Sy) (o5' o6' o7' o8' o9' : Option V), [some (V.ref a), some (.ref t), some wv, some cv, some sv', some (.int (0 + (j : Nat))), o6, some (.ref ia), o8, o9] = [some (.ref a), some (.ref t), some wv, some cv, some svx, o5', o6', o7', o8', o9'] ∧ TpOk t H' ∧ Rp K C H' wv (dWl u) ∧ Rp K C H' cv (dCf cf) ∧ Rp K C H' svx (dSy sx) ∧ Inv cf u.z u.n (j + 1) sx :=
      fun H' o6 o8 o9 h1 h2 h3 h4 => ⟨sv', s', _, _, _, _, _, rfl, h1, h2, h3, h4, I'⟩
    refine ⟨_, rfl, ia, ixs, rfl, .inr hia, _, _, rfl, rfl, _, rfl, ite2 (fun hgt => ?_) fun _ => fin _ _ _ _ te we ce xe⟩
    have hgt' : 1 < ixs.length := by
      have z : (1 : Int) < (ixs.length : Int) := by simpa using hgt
      omega
    -- the first
    refine ⟨_, rfl, _, rfl, _, rfl, ia, ixs, rfl, .inr hia, t, _, rfl, te, by omega, fun r1 Hf b0 b1 kf tf => ?_⟩
    obtain ⟨i1, rfl⟩ := Int.eq_ofNat_of_zero_le b0
    have hi1 : i1 < (delIx s'.ho 0 s'.net).length := by omega
    have xf : Rp K C Hf (.ref ia) _ := kf.rp te rix noI
    refine rIx_tup (i := i1) xf (d := dN (delIx s'.ho 0 s'.net)[i1]) (by rw [List.getElem?_map, List.getElem?_eq_getElem hi1]; rfl) fun fv rf => ?_
    have efv := rf.intI
    subst efv
    obtain ⟨fs1, fs2, fse, hfa, fra⟩ := xf.tupI
    cases fse
    have hfl := fra.length
    rw [List.length_map] at hfl
    -- the second
    refine ⟨_, rfl, _, rfl, _, rfl, ia, fs2, rfl, .inr hfa, t, _, rfl, tf, by omega, fun r2 Hg b2 b3 kg tgg => ?_⟩
    obtain ⟨i2, rfl⟩ := Int.eq_ofNat_of_zero_le b2
    have hi2 : i2 < (delIx s'.ho 0 s'.net).length := by omega
    have xg : Rp K C Hg (.ref ia) _ := kg.rp tf xf noI
    refine rIx_tup (i := i2) xg (d := dN (delIx s'.ho 0 s'.net)[i2]) (by rw [List.getElem?_map, List.getElem?_eq_getElem hi2]; rfl) fun gv rg => ?_
    have egv := rg.intI
    subst egv
    obtain ⟨j1, m1, hm1', hj1, hc1⟩ := (mem_delIx s'.ho s'.net 0 _).mp (List.getElem_mem hi1)
    obtain ⟨j2, m2, hm2', hj2, hc2⟩ := (mem_delIx s'.ho s'.net 0 _).mp (List.getElem_mem hi2)
    generalize (delIx s'.ho 0 s'.net)[i1] = f1 at *
    generalize (delIx s'.ho 0 s'.net)[i2] = f2 at *
    have hj1' : f1 = j1 := by omega
    have hj2' : f2 = j2 := by omega
    subst hj1' hj2'
    have keg := kf.trans kg
    have wg := keg.rp te we (noL_dWl u)
    have cg := keg.rp te ce rfl
    have yg := keg.rp te xe (noL_Sy s')
    -- the receivers
    refine ⟨_, dMs m1, ((Rs.nones _).put (i := 4) rfl yg).put (i := 8) rfl (.sc (.int (f1 : Nat))), ev_msg (k := 8) rfl rfl hm1', fun mv1 Hh sh rm1 => ?_⟩
    refine ⟨[dMs m1], rcvD m1, rfl, .cons rm1 .nil, E_receiver m1, fun rv1 Hi si rr1 => ?_⟩
    have yi := (yg.mn sh).mn si
    refine ⟨_, dMs m2, ((Rs.nones _).put (i := 4) rfl yi).put (i := 9) rfl (.sc (.int (f2 : Nat))), ev_msg (k := 9) rfl rfl hm2', fun mv2 Hj sj rm2 => ?_⟩
    refine ⟨[dMs m2], rcvD m2, rfl, .cons rm2 .nil, E_receiver m2, fun rv2 Hk sk rr2 => ?_⟩
    have sgk := ((sh.trans si).trans sj).trans sk
    have tk := tgg.mn sgk
    have wk := wg.mn sgk
    have ck := cg.mn sgk
    have yk := yg.mn sgk
    refine od_neV (C := C) rv1 rv2 Hk (rcvD m1) (rcvD m2) (.bool (!PyData.eqv (rcvD m1) (rcvD m2))) _ ((rr1.mn sj).mn sk) rr2 (by unfold neV; rw [if_pos ⟨rcvD_shaped m1, rcvD_shaped m2⟩]) fun nv Hl sl rnv => ?_
    have env := rnv.blI
    subst env
    have tl := tk.mn sl
    have wl' := wk.mn sl
    have cl := ck.mn sl
    have yl := yk.mn sl
    refine ⟨_, rfl, ?_⟩
    cases heq : PyData.eqv (rcvD m1) (rcvD m2) with
    | true => exact iteF (fin _ _ _ _ tl wl' cl yl)
    | false =>
      have hap := apart_of heq
      have hne : f1 ≠ f2 := fun e => by
        subst e
        rw [hm1'] at hm2'
        cases hm2'
        rw [eqv_self (rcvD_shaped m1)] at heq
        cases heq
      obtain ⟨s12, s21, B12, B21, q1, q2, q3, q4⟩ := commute W I' hm1' hm2' hc1 hc2 hap
      have F12 := E_both W I' (by omega) hne B12
      have F21 := E_both W I' (by omega) (fun e => hne e.symm) B21
      have same := both_same q1 q2 q3 q4
      have shp : SeqAt.shaped (dBoth s12) = true := by
        obtain ⟨_, _, _, _, _, _, I2⟩ := B12.ex
        exact dBoth_shaped W I2 (by omega)
      refine iteT ?_
      refine ⟨_, rfl, _, rfl, _, rfl, _, rfl, [dCf cf, dSy s', dN f1, dN f2], dBoth s12, rfl, .cons cl (.cons yl (.cons (.sc (.int _)) (.cons (.sc (.int _)) .nil))), F12, fun bv Hm sm1 rb => ?_⟩
      obtain ⟨ba, bxs, rfl, hba, rba⟩ := rb.tupI
      refine ⟨_, rfl, rfl, _, rfl, ?_⟩
      refine iteF ?_
      refine ⟨_, rfl, _, rfl, _, rfl, _, rfl, _, rfl, [dCf cf, dSy s', dN f2, dN f1], dBoth s21, rfl, .cons (cl.mn sm1) (.cons (yl.mn sm1) (.cons (.sc (.int _)) (.cons (.sc (.int _)) .nil))), F21, fun bv2 Hn sn rb2 => ?_⟩
      rw [← same] at rb2
      refine od_neV (C := C) (.ref ba) bv2 Hn (dBoth s12) (dBoth s12) (.bool false) _ (rb.mn sn) rb2 (by unfold neV; rw [if_pos ⟨shp, shp⟩, eqv_self shp]; rfl) fun zv Ho so rz => ?_
      have ezv := rz.blI
      subst ezv
      refine ⟨_, rfl, ?_⟩
      have sall := (sm1.trans sn).trans so
      exact iteF (fin _ _ _ _ (tl.mn sall) (wl'.mn sall) (cl.mn sall) (yl.mn sall))
  · rintro σ' Ha ⟨sv, s, o5, o6, o7, o8, o9, rfl, ta, wa, ca, sa, I⟩
    exact q _
end
end DL

/-! W10: from what the top has written to the law's promise (printed by genhead.py). -/
namespace DL
open PySem PySem.Spec PyProof.Rows L2
theorem glob_tup {K : PySem.W.Frag} {C : Addr} {h : Heap} {mg : Str → Option Value} {x : Str} {e : Addr} {od : Option Addr} {its : Array Value} {ep : Nat} {sl : Array (Option Value)} {vs : List V} {ds : List PyData} (X : K.In h) (G : h.Ns mainGlobals mg) (a : PySem.W.nsIn K mainGlobals x = some (some (.ref e)))
    (l : K.lookup e = some ⟨.type "tuple", od, .seq its ep, sl⟩) (hs : its.size ≤ 1000) (hv : Vals vs its.toList) (hr : ∀ H, RpAll K C H vs ds) : GlobD K C mg x (.tuple ds) :=
  ⟨.ref e, .ref e, PySem.W.mg_of X G a, rfl, fun H => .tup (.inr ⟨_, its, ep, l, rfl, rfl, Nat.le_of_lt (small1000 hs), hv⟩) (hr H)⟩
section
variable {K : PySem.W.Frag} {C : Addr} {h : Heap} {mg : Str → Option Value} {x : Str} {e e1 e2 e3 : Addr} {od od1 od2 od3 : Option Addr} {ep ep1 ep2 ep3 : Nat} {sl sl1 sl2 sl3 : Array (Option Value)} {t1 t2 t3 t4 : Tok}
theorem nil_tup {H : Hp} (l : K.lookup e = some ⟨.type "tuple", od, .seq #[] ep, sl⟩) : Rp K C H (.ref e) dNil := .tup (.inr ⟨_, #[], ep, l, rfl, rfl, Nat.zero_le _, .nil⟩) .nil
theorem g_empty (X : K.In h) (G : h.Ns mainGlobals mg) (a : PySem.W.nsIn K mainGlobals x = some (some (.ref e))) (l : K.lookup e = some ⟨.type "tuple", od, .seq #[.ref e1, .ref e2, .ref e3] ep, sl⟩)
    (l1 : K.lookup e1 = some ⟨.type "tuple", od1, .seq #[] ep1, sl1⟩) (l2 : K.lookup e2 = some ⟨.type "tuple", od2, .seq #[] ep2, sl2⟩) (l3 : K.lookup e3 = some ⟨.type "tuple", od3, .seq #[] ep3, sl3⟩) : GlobD K C mg x dEmptyCache :=
  glob_tup X G a l (by simp) (vs := [.ref e1, .ref e2, .ref e3]) (.cons rfl (.cons rfl (.cons rfl .nil))) fun H => .cons (nil_tup l1) (.cons (nil_tup l2) (.cons (nil_tup l3) .nil))
theorem g_home (X : K.In h) (G : h.Ns mainGlobals mg) (a : PySem.W.nsIn K mainGlobals x = some (some (.ref e))) (l : K.lookup e = some ⟨.type "tuple", od, .seq #[.none, .ref e1, .none] ep, sl⟩)
    (l1 : K.lookup e1 = some ⟨.type "tuple", od1, .seq #[] ep1, sl1⟩) : GlobD K C mg x dStartHome :=
  glob_tup X G a l (by simp) (vs := [.non, .ref e1, .non]) (.cons rfl (.cons rfl (.cons rfl .nil))) fun H => .cons (.sc .non) (.cons (nil_tup l1) (.cons (.sc .non) .nil))
theorem g_to (X : K.In h) (G : h.Ns mainGlobals mg) (a : PySem.W.nsIn K mainGlobals x = some (some (.ref e))) (l : K.lookup e = some ⟨.type "tuple", od, .seq #[.str (tg .invalidate) t1, .str (tg .recall) t2, .str (tg .grant) t3, .str (tg .confirm) t4] ep, sl⟩) : GlobD K C mg x dToCaches :=
  glob_tup X G a l (by simp) (vs := [.str (tg .invalidate), .str (tg .recall), .str (tg .grant), .str (tg .confirm)]) (.cons ⟨_, rfl⟩ (.cons ⟨_, rfl⟩ (.cons ⟨_, rfl⟩ (.cons ⟨_, rfl⟩ .nil)))) fun H => .cons (.sc (.str _)) (.cons (.sc (.str _)) (.cons (.sc (.str _)) (.cons (.sc (.str _)) .nil)))
theorem g_waits (X : K.In h) (G : h.Ns mainGlobals mg) (a : PySem.W.nsIn K mainGlobals x = some (some (.ref e))) (l : K.lookup e = some ⟨.type "tuple", od, .seq #[.str (tg .getS) t1, .str (tg .getM) t2, .str (tg .giveUp) t3] ep, sl⟩) : GlobD K C mg x dWaits :=
  glob_tup X G a l (by simp) (vs := [.str (tg .getS), .str (tg .getM), .str (tg .giveUp)]) (.cons ⟨_, rfl⟩ (.cons ⟨_, rfl⟩ (.cons ⟨_, rfl⟩ .nil))) fun H => .cons (.sc (.str _)) (.cons (.sc (.str _)) (.cons (.sc (.str _)) .nil))
end
theorem all_mk {l : PySem.W.OpenLaw} {w : World} {K : PySem.W.Frag} {h : Heap} {mg : Str → Option Value} {fa : Addr} (X : K.In h) (G : h.Ns mainGlobals mg) (hfa : mg "law" = some (.ref fa))
    {f_entry_of : Addr} {od_entry_of an_entry_of : Option Addr} {sl_entry_of : Array (Option Value)} {oc_entry_of kV_entry_of dc_entry_of pm_entry_of cd_entry_of ct_entry_of : Value}
    {f_without_line : Addr} {od_without_line an_without_line : Option Addr} {sl_without_line : Array (Option Value)} {oc_without_line kV_without_line dc_without_line pm_without_line cd_without_line ct_without_line : Value}
    {f_with_entry : Addr} {od_with_entry an_with_entry : Option Addr} {sl_with_entry : Array (Option Value)} {oc_with_entry kV_with_entry dc_with_entry pm_with_entry cd_with_entry ct_with_entry : Value}
    {f_occupied_ways : Addr} {od_occupied_ways an_occupied_ways : Option Addr} {sl_occupied_ways : Array (Option Value)} {oc_occupied_ways kV_occupied_ways dc_occupied_ways pm_occupied_ways cd_occupied_ways ct_occupied_ways : Value}
    {f_request_line : Addr} {od_request_line an_request_line : Option Addr} {sl_request_line : Array (Option Value)} {oc_request_line kV_request_line dc_request_line pm_request_line cd_request_line ct_request_line : Value}
    {f_give_up_line : Addr} {od_give_up_line an_give_up_line : Option Addr} {sl_give_up_line : Array (Option Value)} {oc_give_up_line kV_give_up_line dc_give_up_line pm_give_up_line cd_give_up_line ct_give_up_line : Value}
    {f_after_recall : Addr} {od_after_recall an_after_recall : Option Addr} {sl_after_recall : Array (Option Value)} {oc_after_recall kV_after_recall dc_after_recall pm_after_recall cd_after_recall ct_after_recall : Value}
    {f_cache_receives : Addr} {od_cache_receives an_cache_receives : Option Addr} {sl_cache_receives : Array (Option Value)} {oc_cache_receives kV_cache_receives dc_cache_receives pm_cache_receives cd_cache_receives ct_cache_receives : Value}
    {f_can_receive : Addr} {od_can_receive an_can_receive : Option Addr} {sl_can_receive : Array (Option Value)} {oc_can_receive kV_can_receive dc_can_receive pm_can_receive cd_can_receive ct_can_receive : Value}
    {f_begun : Addr} {od_begun an_begun : Option Addr} {sl_begun : Array (Option Value)} {oc_begun kV_begun dc_begun pm_begun cd_begun ct_begun : Value}
    {f_invalidated : Addr} {od_invalidated an_invalidated : Option Addr} {sl_invalidated : Array (Option Value)} {oc_invalidated kV_invalidated dc_invalidated pm_invalidated cd_invalidated ct_invalidated : Value}
    {f_returned : Addr} {od_returned an_returned : Option Addr} {sl_returned : Array (Option Value)} {oc_returned kV_returned dc_returned pm_returned cd_returned ct_returned : Value}
    {f_grant_if_ready : Addr} {od_grant_if_ready an_grant_if_ready : Option Addr} {sl_grant_if_ready : Array (Option Value)} {oc_grant_if_ready kV_grant_if_ready dc_grant_if_ready pm_grant_if_ready cd_grant_if_ready ct_grant_if_ready : Value}
    {f_home_receives : Addr} {od_home_receives an_home_receives : Option Addr} {sl_home_receives : Array (Option Value)} {oc_home_receives kV_home_receives dc_home_receives pm_home_receives cd_home_receives ct_home_receives : Value}
    {f_replaced : Addr} {od_replaced an_replaced : Option Addr} {sl_replaced : Array (Option Value)} {oc_replaced kV_replaced dc_replaced pm_replaced cd_replaced ct_replaced : Value}
    {f_start_system : Addr} {od_start_system an_start_system : Option Addr} {sl_start_system : Array (Option Value)} {oc_start_system kV_start_system dc_start_system pm_start_system cd_start_system ct_start_system : Value}
    {f_deliverable : Addr} {od_deliverable an_deliverable : Option Addr} {sl_deliverable : Array (Option Value)} {oc_deliverable kV_deliverable dc_deliverable pm_deliverable cd_deliverable ct_deliverable : Value}
    {f_delivered : Addr} {od_delivered an_delivered : Option Addr} {sl_delivered : Array (Option Value)} {oc_delivered kV_delivered dc_delivered pm_delivered cd_delivered ct_delivered : Value}
    {f_next_system : Addr} {od_next_system an_next_system : Option Addr} {sl_next_system : Array (Option Value)} {oc_next_system kV_next_system dc_next_system pm_next_system cd_next_system ct_next_system : Value}
    {f__law_tape : Addr} {od__law_tape an__law_tape : Option Addr} {sl__law_tape : Array (Option Value)} {oc__law_tape kV__law_tape dc__law_tape pm__law_tape cd__law_tape ct__law_tape : Value}
    {f__law_draw : Addr} {od__law_draw an__law_draw : Option Addr} {sl__law_draw : Array (Option Value)} {oc__law_draw kV__law_draw dc__law_draw pm__law_draw cd__law_draw ct__law_draw : Value}
    {f__law_world : Addr} {od__law_world an__law_world : Option Addr} {sl__law_world : Array (Option Value)} {oc__law_world kV__law_world dc__law_world pm__law_world cd__law_world ct__law_world : Value}
    {f__law_config : Addr} {od__law_config an__law_config : Option Addr} {sl__law_config : Array (Option Value)} {oc__law_config kV__law_config dc__law_config pm__law_config cd__law_config ct__law_config : Value}
    {f__law_fresh : Addr} {od__law_fresh an__law_fresh : Option Addr} {sl__law_fresh : Array (Option Value)} {oc__law_fresh kV__law_fresh dc__law_fresh pm__law_fresh cd__law_fresh ct__law_fresh : Value}
    {f__law_action : Addr} {od__law_action an__law_action : Option Addr} {sl__law_action : Array (Option Value)} {oc__law_action kV__law_action dc__law_action pm__law_action cd__law_action ct__law_action : Value}
    {f__law_receiver : Addr} {od__law_receiver an__law_receiver : Option Addr} {sl__law_receiver : Array (Option Value)} {oc__law_receiver kV__law_receiver dc__law_receiver pm__law_receiver cd__law_receiver ct__law_receiver : Value}
    {f__law_both : Addr} {od__law_both an__law_both : Option Addr} {sl__law_both : Array (Option Value)} {oc__law_both kV__law_both dc__law_both pm__law_both cd__law_both ct__law_both : Value}
    {f_law : Addr} {od_law an_law : Option Addr} {sl_law : Array (Option Value)} {oc_law kV_law dc_law pm_law cd_law ct_law : Value}
    {C f_I D : Addr} {od_I an_I : Option Addr} {sl_I : Array (Option Value)} {oc_I dc_I pm_I cd_I ct_I : Value} {t_reorder_buffer t_store_buffer t_line_words t_sets t_ways t_requests : Tok}
    {e_EMPTY_CACHE : Addr} {od_EMPTY_CACHE : Option Addr} {its_EMPTY_CACHE : Array Value} {ep_EMPTY_CACHE : Nat} {sl_EMPTY_CACHE : Array (Option Value)}
    {e_START_HOME : Addr} {od_START_HOME : Option Addr} {its_START_HOME : Array Value} {ep_START_HOME : Nat} {sl_START_HOME : Array (Option Value)}
    {e_TO_CACHES : Addr} {od_TO_CACHES : Option Addr} {its_TO_CACHES : Array Value} {ep_TO_CACHES : Nat} {sl_TO_CACHES : Array (Option Value)}
    {e_WAITS_FOR_SERVICE : Addr} {od_WAITS_FOR_SERVICE : Option Addr} {its_WAITS_FOR_SERVICE : Array Value} {ep_WAITS_FOR_SERVICE : Nat} {sl_WAITS_FOR_SERVICE : Array (Option Value)}
    (a_entry_of : PySem.W.nsIn K mainGlobals "entry_of" = some (some (.ref f_entry_of)))
    (l_entry_of : K.lookup f_entry_of = some ⟨oc_entry_of, od_entry_of, .func (PySem.W.fnOf "entry_of" "entry_of" (defArgs s_entry_of) (defBody s_entry_of) (defScope s_entry_of) .none kV_entry_of dc_entry_of pm_entry_of an_entry_of cd_entry_of ct_entry_of), sl_entry_of⟩)
    (c_entry_of : PySem.W.codeIn K cd_entry_of "entry_of" = true)
    (k_entry_of : PySem.W.keepIn K (.ref f_entry_of) = true)
    (a_without_line : PySem.W.nsIn K mainGlobals "without_line" = some (some (.ref f_without_line)))
    (l_without_line : K.lookup f_without_line = some ⟨oc_without_line, od_without_line, .func (PySem.W.fnOf "without_line" "without_line" (defArgs s_without_line) (defBody s_without_line) (defScope s_without_line) .none kV_without_line dc_without_line pm_without_line an_without_line cd_without_line ct_without_line), sl_without_line⟩)
    (c_without_line : PySem.W.codeIn K cd_without_line "without_line" = true)
    (k_without_line : PySem.W.keepIn K (.ref f_without_line) = true)
    (a_with_entry : PySem.W.nsIn K mainGlobals "with_entry" = some (some (.ref f_with_entry)))
    (l_with_entry : K.lookup f_with_entry = some ⟨oc_with_entry, od_with_entry, .func (PySem.W.fnOf "with_entry" "with_entry" (defArgs s_with_entry) (defBody s_with_entry) (defScope s_with_entry) .none kV_with_entry dc_with_entry pm_with_entry an_with_entry cd_with_entry ct_with_entry), sl_with_entry⟩)
    (c_with_entry : PySem.W.codeIn K cd_with_entry "with_entry" = true)
    (k_with_entry : PySem.W.keepIn K (.ref f_with_entry) = true)
    (a_occupied_ways : PySem.W.nsIn K mainGlobals "occupied_ways" = some (some (.ref f_occupied_ways)))
    (l_occupied_ways : K.lookup f_occupied_ways = some ⟨oc_occupied_ways, od_occupied_ways, .func (PySem.W.fnOf "occupied_ways" "occupied_ways" (defArgs s_occupied_ways) (defBody s_occupied_ways) (defScope s_occupied_ways) .none kV_occupied_ways dc_occupied_ways pm_occupied_ways an_occupied_ways cd_occupied_ways ct_occupied_ways), sl_occupied_ways⟩)
    (c_occupied_ways : PySem.W.codeIn K cd_occupied_ways "occupied_ways" = true)
    (k_occupied_ways : PySem.W.keepIn K (.ref f_occupied_ways) = true)
    (a_request_line : PySem.W.nsIn K mainGlobals "request_line" = some (some (.ref f_request_line)))
    (l_request_line : K.lookup f_request_line = some ⟨oc_request_line, od_request_line, .func (PySem.W.fnOf "request_line" "request_line" (defArgs s_request_line) (defBody s_request_line) (defScope s_request_line) .none kV_request_line dc_request_line pm_request_line an_request_line cd_request_line ct_request_line), sl_request_line⟩)
    (c_request_line : PySem.W.codeIn K cd_request_line "request_line" = true)
    (k_request_line : PySem.W.keepIn K (.ref f_request_line) = true)
    (a_give_up_line : PySem.W.nsIn K mainGlobals "give_up_line" = some (some (.ref f_give_up_line)))
    (l_give_up_line : K.lookup f_give_up_line = some ⟨oc_give_up_line, od_give_up_line, .func (PySem.W.fnOf "give_up_line" "give_up_line" (defArgs s_give_up_line) (defBody s_give_up_line) (defScope s_give_up_line) .none kV_give_up_line dc_give_up_line pm_give_up_line an_give_up_line cd_give_up_line ct_give_up_line), sl_give_up_line⟩)
    (c_give_up_line : PySem.W.codeIn K cd_give_up_line "give_up_line" = true)
    (k_give_up_line : PySem.W.keepIn K (.ref f_give_up_line) = true)
    (a_after_recall : PySem.W.nsIn K mainGlobals "after_recall" = some (some (.ref f_after_recall)))
    (l_after_recall : K.lookup f_after_recall = some ⟨oc_after_recall, od_after_recall, .func (PySem.W.fnOf "after_recall" "after_recall" (defArgs s_after_recall) (defBody s_after_recall) (defScope s_after_recall) .none kV_after_recall dc_after_recall pm_after_recall an_after_recall cd_after_recall ct_after_recall), sl_after_recall⟩)
    (c_after_recall : PySem.W.codeIn K cd_after_recall "after_recall" = true)
    (k_after_recall : PySem.W.keepIn K (.ref f_after_recall) = true)
    (a_cache_receives : PySem.W.nsIn K mainGlobals "cache_receives" = some (some (.ref f_cache_receives)))
    (l_cache_receives : K.lookup f_cache_receives = some ⟨oc_cache_receives, od_cache_receives, .func (PySem.W.fnOf "cache_receives" "cache_receives" (defArgs s_cache_receives) (defBody s_cache_receives) (defScope s_cache_receives) .none kV_cache_receives dc_cache_receives pm_cache_receives an_cache_receives cd_cache_receives ct_cache_receives), sl_cache_receives⟩)
    (c_cache_receives : PySem.W.codeIn K cd_cache_receives "cache_receives" = true)
    (k_cache_receives : PySem.W.keepIn K (.ref f_cache_receives) = true)
    (a_can_receive : PySem.W.nsIn K mainGlobals "can_receive" = some (some (.ref f_can_receive)))
    (l_can_receive : K.lookup f_can_receive = some ⟨oc_can_receive, od_can_receive, .func (PySem.W.fnOf "can_receive" "can_receive" (defArgs s_can_receive) (defBody s_can_receive) (defScope s_can_receive) .none kV_can_receive dc_can_receive pm_can_receive an_can_receive cd_can_receive ct_can_receive), sl_can_receive⟩)
    (c_can_receive : PySem.W.codeIn K cd_can_receive "can_receive" = true)
    (k_can_receive : PySem.W.keepIn K (.ref f_can_receive) = true)
    (a_begun : PySem.W.nsIn K mainGlobals "begun" = some (some (.ref f_begun)))
    (l_begun : K.lookup f_begun = some ⟨oc_begun, od_begun, .func (PySem.W.fnOf "begun" "begun" (defArgs s_begun) (defBody s_begun) (defScope s_begun) .none kV_begun dc_begun pm_begun an_begun cd_begun ct_begun), sl_begun⟩)
    (c_begun : PySem.W.codeIn K cd_begun "begun" = true)
    (k_begun : PySem.W.keepIn K (.ref f_begun) = true)
    (a_invalidated : PySem.W.nsIn K mainGlobals "invalidated" = some (some (.ref f_invalidated)))
    (l_invalidated : K.lookup f_invalidated = some ⟨oc_invalidated, od_invalidated, .func (PySem.W.fnOf "invalidated" "invalidated" (defArgs s_invalidated) (defBody s_invalidated) (defScope s_invalidated) .none kV_invalidated dc_invalidated pm_invalidated an_invalidated cd_invalidated ct_invalidated), sl_invalidated⟩)
    (c_invalidated : PySem.W.codeIn K cd_invalidated "invalidated" = true)
    (k_invalidated : PySem.W.keepIn K (.ref f_invalidated) = true)
    (a_returned : PySem.W.nsIn K mainGlobals "returned" = some (some (.ref f_returned)))
    (l_returned : K.lookup f_returned = some ⟨oc_returned, od_returned, .func (PySem.W.fnOf "returned" "returned" (defArgs s_returned) (defBody s_returned) (defScope s_returned) .none kV_returned dc_returned pm_returned an_returned cd_returned ct_returned), sl_returned⟩)
    (c_returned : PySem.W.codeIn K cd_returned "returned" = true)
    (k_returned : PySem.W.keepIn K (.ref f_returned) = true)
    (a_grant_if_ready : PySem.W.nsIn K mainGlobals "grant_if_ready" = some (some (.ref f_grant_if_ready)))
    (l_grant_if_ready : K.lookup f_grant_if_ready = some ⟨oc_grant_if_ready, od_grant_if_ready, .func (PySem.W.fnOf "grant_if_ready" "grant_if_ready" (defArgs s_grant_if_ready) (defBody s_grant_if_ready) (defScope s_grant_if_ready) .none kV_grant_if_ready dc_grant_if_ready pm_grant_if_ready an_grant_if_ready cd_grant_if_ready ct_grant_if_ready), sl_grant_if_ready⟩)
    (c_grant_if_ready : PySem.W.codeIn K cd_grant_if_ready "grant_if_ready" = true)
    (k_grant_if_ready : PySem.W.keepIn K (.ref f_grant_if_ready) = true)
    (a_home_receives : PySem.W.nsIn K mainGlobals "home_receives" = some (some (.ref f_home_receives)))
    (l_home_receives : K.lookup f_home_receives = some ⟨oc_home_receives, od_home_receives, .func (PySem.W.fnOf "home_receives" "home_receives" (defArgs s_home_receives) (defBody s_home_receives) (defScope s_home_receives) .none kV_home_receives dc_home_receives pm_home_receives an_home_receives cd_home_receives ct_home_receives), sl_home_receives⟩)
    (c_home_receives : PySem.W.codeIn K cd_home_receives "home_receives" = true)
    (k_home_receives : PySem.W.keepIn K (.ref f_home_receives) = true)
    (a_replaced : PySem.W.nsIn K mainGlobals "replaced" = some (some (.ref f_replaced)))
    (l_replaced : K.lookup f_replaced = some ⟨oc_replaced, od_replaced, .func (PySem.W.fnOf "replaced" "replaced" (defArgs s_replaced) (defBody s_replaced) (defScope s_replaced) .none kV_replaced dc_replaced pm_replaced an_replaced cd_replaced ct_replaced), sl_replaced⟩)
    (c_replaced : PySem.W.codeIn K cd_replaced "replaced" = true)
    (k_replaced : PySem.W.keepIn K (.ref f_replaced) = true)
    (a_start_system : PySem.W.nsIn K mainGlobals "start_system" = some (some (.ref f_start_system)))
    (l_start_system : K.lookup f_start_system = some ⟨oc_start_system, od_start_system, .func (PySem.W.fnOf "start_system" "start_system" (defArgs s_start_system) (defBody s_start_system) (defScope s_start_system) .none kV_start_system dc_start_system pm_start_system an_start_system cd_start_system ct_start_system), sl_start_system⟩)
    (c_start_system : PySem.W.codeIn K cd_start_system "start_system" = true)
    (k_start_system : PySem.W.keepIn K (.ref f_start_system) = true)
    (a_deliverable : PySem.W.nsIn K mainGlobals "deliverable" = some (some (.ref f_deliverable)))
    (l_deliverable : K.lookup f_deliverable = some ⟨oc_deliverable, od_deliverable, .func (PySem.W.fnOf "deliverable" "deliverable" (defArgs s_deliverable) (defBody s_deliverable) (defScope s_deliverable) .none kV_deliverable dc_deliverable pm_deliverable an_deliverable cd_deliverable ct_deliverable), sl_deliverable⟩)
    (c_deliverable : PySem.W.codeIn K cd_deliverable "deliverable" = true)
    (k_deliverable : PySem.W.keepIn K (.ref f_deliverable) = true)
    (a_delivered : PySem.W.nsIn K mainGlobals "delivered" = some (some (.ref f_delivered)))
    (l_delivered : K.lookup f_delivered = some ⟨oc_delivered, od_delivered, .func (PySem.W.fnOf "delivered" "delivered" (defArgs s_delivered) (defBody s_delivered) (defScope s_delivered) .none kV_delivered dc_delivered pm_delivered an_delivered cd_delivered ct_delivered), sl_delivered⟩)
    (c_delivered : PySem.W.codeIn K cd_delivered "delivered" = true)
    (k_delivered : PySem.W.keepIn K (.ref f_delivered) = true)
    (a_next_system : PySem.W.nsIn K mainGlobals "next_system" = some (some (.ref f_next_system)))
    (l_next_system : K.lookup f_next_system = some ⟨oc_next_system, od_next_system, .func (PySem.W.fnOf "next_system" "next_system" (defArgs s_next_system) (defBody s_next_system) (defScope s_next_system) .none kV_next_system dc_next_system pm_next_system an_next_system cd_next_system ct_next_system), sl_next_system⟩)
    (c_next_system : PySem.W.codeIn K cd_next_system "next_system" = true)
    (k_next_system : PySem.W.keepIn K (.ref f_next_system) = true)
    (a__law_tape : PySem.W.nsIn K mainGlobals "_law_tape" = some (some (.ref f__law_tape)))
    (l__law_tape : K.lookup f__law_tape = some ⟨oc__law_tape, od__law_tape, .func (PySem.W.fnOf "_law_tape" "_law_tape" (defArgs s__law_tape) (defBody s__law_tape) (defScope s__law_tape) .none kV__law_tape dc__law_tape pm__law_tape an__law_tape cd__law_tape ct__law_tape), sl__law_tape⟩)
    (c__law_tape : PySem.W.codeIn K cd__law_tape "_law_tape" = true)
    (k__law_tape : PySem.W.keepIn K (.ref f__law_tape) = true)
    (a__law_draw : PySem.W.nsIn K mainGlobals "_law_draw" = some (some (.ref f__law_draw)))
    (l__law_draw : K.lookup f__law_draw = some ⟨oc__law_draw, od__law_draw, .func (PySem.W.fnOf "_law_draw" "_law_draw" (defArgs s__law_draw) (defBody s__law_draw) (defScope s__law_draw) .none kV__law_draw dc__law_draw pm__law_draw an__law_draw cd__law_draw ct__law_draw), sl__law_draw⟩)
    (c__law_draw : PySem.W.codeIn K cd__law_draw "_law_draw" = true)
    (k__law_draw : PySem.W.keepIn K (.ref f__law_draw) = true)
    (a__law_world : PySem.W.nsIn K mainGlobals "_law_world" = some (some (.ref f__law_world)))
    (l__law_world : K.lookup f__law_world = some ⟨oc__law_world, od__law_world, .func (PySem.W.fnOf "_law_world" "_law_world" (defArgs s__law_world) (defBody s__law_world) (defScope s__law_world) .none kV__law_world dc__law_world pm__law_world an__law_world cd__law_world ct__law_world), sl__law_world⟩)
    (c__law_world : PySem.W.codeIn K cd__law_world "_law_world" = true)
    (k__law_world : PySem.W.keepIn K (.ref f__law_world) = true)
    (a__law_config : PySem.W.nsIn K mainGlobals "_law_config" = some (some (.ref f__law_config)))
    (l__law_config : K.lookup f__law_config = some ⟨oc__law_config, od__law_config, .func (PySem.W.fnOf "_law_config" "_law_config" (defArgs s__law_config) (defBody s__law_config) (defScope s__law_config) .none kV__law_config dc__law_config pm__law_config an__law_config cd__law_config ct__law_config), sl__law_config⟩)
    (c__law_config : PySem.W.codeIn K cd__law_config "_law_config" = true)
    (k__law_config : PySem.W.keepIn K (.ref f__law_config) = true)
    (a__law_fresh : PySem.W.nsIn K mainGlobals "_law_fresh" = some (some (.ref f__law_fresh)))
    (l__law_fresh : K.lookup f__law_fresh = some ⟨oc__law_fresh, od__law_fresh, .func (PySem.W.fnOf "_law_fresh" "_law_fresh" (defArgs s__law_fresh) (defBody s__law_fresh) (defScope s__law_fresh) .none kV__law_fresh dc__law_fresh pm__law_fresh an__law_fresh cd__law_fresh ct__law_fresh), sl__law_fresh⟩)
    (c__law_fresh : PySem.W.codeIn K cd__law_fresh "_law_fresh" = true)
    (k__law_fresh : PySem.W.keepIn K (.ref f__law_fresh) = true)
    (a__law_action : PySem.W.nsIn K mainGlobals "_law_action" = some (some (.ref f__law_action)))
    (l__law_action : K.lookup f__law_action = some ⟨oc__law_action, od__law_action, .func (PySem.W.fnOf "_law_action" "_law_action" (defArgs s__law_action) (defBody s__law_action) (defScope s__law_action) .none kV__law_action dc__law_action pm__law_action an__law_action cd__law_action ct__law_action), sl__law_action⟩)
    (c__law_action : PySem.W.codeIn K cd__law_action "_law_action" = true)
    (k__law_action : PySem.W.keepIn K (.ref f__law_action) = true)
    (a__law_receiver : PySem.W.nsIn K mainGlobals "_law_receiver" = some (some (.ref f__law_receiver)))
    (l__law_receiver : K.lookup f__law_receiver = some ⟨oc__law_receiver, od__law_receiver, .func (PySem.W.fnOf "_law_receiver" "_law_receiver" (defArgs s__law_receiver) (defBody s__law_receiver) (defScope s__law_receiver) .none kV__law_receiver dc__law_receiver pm__law_receiver an__law_receiver cd__law_receiver ct__law_receiver), sl__law_receiver⟩)
    (c__law_receiver : PySem.W.codeIn K cd__law_receiver "_law_receiver" = true)
    (k__law_receiver : PySem.W.keepIn K (.ref f__law_receiver) = true)
    (a__law_both : PySem.W.nsIn K mainGlobals "_law_both" = some (some (.ref f__law_both)))
    (l__law_both : K.lookup f__law_both = some ⟨oc__law_both, od__law_both, .func (PySem.W.fnOf "_law_both" "_law_both" (defArgs s__law_both) (defBody s__law_both) (defScope s__law_both) .none kV__law_both dc__law_both pm__law_both an__law_both cd__law_both ct__law_both), sl__law_both⟩)
    (c__law_both : PySem.W.codeIn K cd__law_both "_law_both" = true)
    (k__law_both : PySem.W.keepIn K (.ref f__law_both) = true)
    (a_law : PySem.W.nsIn K mainGlobals "law" = some (some (.ref f_law)))
    (l_law : K.lookup f_law = some ⟨oc_law, od_law, .func (PySem.W.fnOf "law" "law" (defArgs s_law) (defBody s_law) (defScope s_law) .none kV_law dc_law pm_law an_law cd_law ct_law), sl_law⟩)
    (c_law : PySem.W.codeIn K cd_law "law" = true)
    (k_law : PySem.W.keepIn K (.ref f_law) = true)
    (aC : PySem.W.nsIn K mainGlobals "Config" = some (some (.ref C)))
    (aI : PySem.W.findIn K (.ref C) "__init__" = some (some (.ref f_I)))
    (iI : PySem.W.isFn K (.ref f_I) = true)
    (lI : K.lookup f_I = some ⟨oc_I, od_I, .func (PySem.W.fnOf "__init__" "Config.__init__" (defArgs s_init) (defBody s_init) (defScope s_init) .none (.ref D) dc_I pm_I an_I cd_I ct_I), sl_I⟩)
    (cI : PySem.W.codeIn K cd_I "Config.__init__" = true)
    (kI : PySem.W.keepIn K (.ref f_I) = true)
    (pg : PySem.W.plainGet K C Str.empty = true)
    (hd : PySem.W.hasDictIn K C = true)
    (po : PySem.W.plainOver K C = true)
    (sa : PySem.W.findIn K (.ref C) "__setattr__" = some (some (.builtin "object.__setattr__")))
    (mk : PySem.W.makesIn K C = true)
    (kC : PySem.W.keepIn K (.ref C) = true)
    (w_reorder_buffer : PySem.W.nsIn K D "reorder_buffer" = some (some (.int 4 t_reorder_buffer)))
    (w_store_buffer : PySem.W.nsIn K D "store_buffer" = some (some (.int 2 t_store_buffer)))
    (w_line_words : PySem.W.nsIn K D "line_words" = some (some (.int 1 t_line_words)))
    (w_sets : PySem.W.nsIn K D "sets" = some (some (.int 1 t_sets)))
    (w_ways : PySem.W.nsIn K D "ways" = some (some (.int 4 t_ways)))
    (w_requests : PySem.W.nsIn K D "requests" = some (some (.int 1 t_requests)))
    (w_exclusive_state : PySem.W.nsIn K D "exclusive_state" = some (some (.bool true)))
    (n_sets : PySem.W.findIn K (.ref C) "sets" = some none)
    (n_ways : PySem.W.findIn K (.ref C) "ways" = some none)
    (n_requests : PySem.W.findIn K (.ref C) "requests" = some none)
    (n_line_words : PySem.W.findIn K (.ref C) "line_words" = some none)
    (n_exclusive_state : PySem.W.findIn K (.ref C) "exclusive_state" = some none)
    (n_order : PySem.W.findIn K (.ref C) "order" = some none)
    (n_reorder_buffer : PySem.W.findIn K (.ref C) "reorder_buffer" = some none)
    (n_store_buffer : PySem.W.findIn K (.ref C) "store_buffer" = some none)
    (z_len : PySem.W.nsIn K mainGlobals "len" = some none)
    (z_tuple : PySem.W.nsIn K mainGlobals "tuple" = some none)
    (z_range : PySem.W.nsIn K mainGlobals "range" = some none)
    (z_enumerate : PySem.W.nsIn K mainGlobals "enumerate" = some none)
    (z_repr : PySem.W.nsIn K mainGlobals "repr" = some none)
    (z_sorted : PySem.W.nsIn K mainGlobals "sorted" = some none)
    (z_int : PySem.W.nsIn K mainGlobals "int" = some none)
    (z_abs : PySem.W.nsIn K mainGlobals "abs" = some none)
    (z_max : PySem.W.nsIn K mainGlobals "max" = some none)
    (z_list : PySem.W.nsIn K mainGlobals "list" = some none)
    (g_EMPTY_CACHE : PySem.W.nsIn K mainGlobals "EMPTY_CACHE" = some (some (.ref e_EMPTY_CACHE)))
    (h_EMPTY_CACHE : K.lookup e_EMPTY_CACHE = some ⟨.type "tuple", od_EMPTY_CACHE, .seq its_EMPTY_CACHE ep_EMPTY_CACHE, sl_EMPTY_CACHE⟩)
    (g_START_HOME : PySem.W.nsIn K mainGlobals "START_HOME" = some (some (.ref e_START_HOME)))
    (h_START_HOME : K.lookup e_START_HOME = some ⟨.type "tuple", od_START_HOME, .seq its_START_HOME ep_START_HOME, sl_START_HOME⟩)
    (g_TO_CACHES : PySem.W.nsIn K mainGlobals "TO_CACHES" = some (some (.ref e_TO_CACHES)))
    (h_TO_CACHES : K.lookup e_TO_CACHES = some ⟨.type "tuple", od_TO_CACHES, .seq its_TO_CACHES ep_TO_CACHES, sl_TO_CACHES⟩)
    (g_WAITS_FOR_SERVICE : PySem.W.nsIn K mainGlobals "WAITS_FOR_SERVICE" = some (some (.ref e_WAITS_FOR_SERVICE)))
    (h_WAITS_FOR_SERVICE : K.lookup e_WAITS_FOR_SERVICE = some ⟨.type "tuple", od_WAITS_FOR_SERVICE, .seq its_WAITS_FOR_SERVICE ep_WAITS_FOR_SERVICE, sl_WAITS_FOR_SERVICE⟩)
    (G_EMPTY_CACHE : PySem.W.nsIn K mainGlobals "EMPTY_CACHE" = some (some (.ref e_EMPTY_CACHE)) → K.lookup e_EMPTY_CACHE = some ⟨.type "tuple", od_EMPTY_CACHE, .seq its_EMPTY_CACHE ep_EMPTY_CACHE, sl_EMPTY_CACHE⟩ → GlobD K C mg "EMPTY_CACHE" dEmptyCache)
    (G_START_HOME : PySem.W.nsIn K mainGlobals "START_HOME" = some (some (.ref e_START_HOME)) → K.lookup e_START_HOME = some ⟨.type "tuple", od_START_HOME, .seq its_START_HOME ep_START_HOME, sl_START_HOME⟩ → GlobD K C mg "START_HOME" dStartHome)
    (G_TO_CACHES : PySem.W.nsIn K mainGlobals "TO_CACHES" = some (some (.ref e_TO_CACHES)) → K.lookup e_TO_CACHES = some ⟨.type "tuple", od_TO_CACHES, .seq its_TO_CACHES ep_TO_CACHES, sl_TO_CACHES⟩ → GlobD K C mg "TO_CACHES" dToCaches)
    (G_WAITS_FOR_SERVICE : PySem.W.nsIn K mainGlobals "WAITS_FOR_SERVICE" = some (some (.ref e_WAITS_FOR_SERVICE)) → K.lookup e_WAITS_FOR_SERVICE = some ⟨.type "tuple", od_WAITS_FOR_SERVICE, .seq its_WAITS_FOR_SERVICE ep_WAITS_FOR_SERVICE, sl_WAITS_FOR_SERVICE⟩ → GlobD K C mg "WAITS_FOR_SERVICE" dWaits)
    : ∃ fd : FuncData, (∀ (s : Shared) (v : Value), BindsTo s fd ⟨[v], []⟩ [("_law_script", v)]) ∧ ∀ base : Heap, K.In base → base.Ns mainGlobals mg → FnG l.prog w K mg base 7 fa fd ["_law_script"] (SpLaw K) := by
  have e := hfa.symm.trans (PySem.W.mg_of X G a_law)
  cases e
  have T : Txt K mg C := ⟨⟨pg, hd, po, sa⟩, n_sets, n_ways, n_requests, n_line_words, n_exclusive_state, n_order, n_reorder_buffer, n_store_buffer, PySem.W.mg_none_of X G z_len, PySem.W.mg_none_of X G z_tuple, PySem.W.mg_none_of X G z_range, PySem.W.mg_none_of X G z_enumerate, PySem.W.mg_none_of X G z_repr, PySem.W.mg_none_of X G z_sorted, PySem.W.mg_none_of X G z_int, PySem.W.mg_none_of X G z_abs, PySem.W.mg_none_of X G z_max, PySem.W.mg_none_of X G z_list, G_EMPTY_CACHE g_EMPTY_CACHE h_EMPTY_CACHE, G_START_HOME g_START_HOME h_START_HOME, G_TO_CACHES g_TO_CACHES h_TO_CACHES, G_WAITS_FOR_SERVICE g_WAITS_FOR_SERVICE h_WAITS_FOR_SERVICE⟩
  have M : Mk K C f_I := ⟨mk, aI, iI, kC⟩
  have hmC : mg "Config" = some (.ref C) := PySem.W.mg_of X G aC
  have FI : ∃ fd, FunI K f_I fd := by
    refine ⟨_, ⟨oc_I, od_I, .none, .ref D, dc_I, pm_I, an_I, cd_I, ct_I, sl_I, rfl, lI, cI, .inl ⟨rfl, rfl⟩, .inr ⟨D, rfl, fun q hq => ?_⟩⟩, kI⟩
    simp only [kwsInit, List.mem_cons, List.not_mem_nil, or_false] at hq
    rcases hq with rfl | rfl | rfl | rfl | rfl | rfl | rfl
    · exact ⟨_, w_reorder_buffer, ⟨_, rfl⟩⟩
    · exact ⟨_, w_store_buffer, ⟨_, rfl⟩⟩
    · exact ⟨_, w_line_words, ⟨_, rfl⟩⟩
    · exact ⟨_, w_sets, ⟨_, rfl⟩⟩
    · exact ⟨_, w_ways, ⟨_, rfl⟩⟩
    · exact ⟨_, w_requests, ⟨_, rfl⟩⟩
    · exact ⟨_, w_exclusive_state, rfl⟩
  obtain ⟨fdI, FI⟩ := FI
  have F_entry_of_ := fun_mk (st := s_entry_of) l_entry_of c_entry_of k_entry_of
  have b_entry_of := F_entry_of_.binds (ps := ["entries", "line"]) fun _ _ _ _ _ _ us hl => match us, hl with | [_, _], _ => rfl
  have F_without_line_ := fun_mk (st := s_without_line) l_without_line c_without_line k_without_line
  have b_without_line := F_without_line_.binds (ps := ["entries", "line"]) fun _ _ _ _ _ _ us hl => match us, hl with | [_, _], _ => rfl
  have F_with_entry_ := fun_mk (st := s_with_entry) l_with_entry c_with_entry k_with_entry
  have b_with_entry := F_with_entry_.binds (ps := ["entries", "new"]) fun _ _ _ _ _ _ us hl => match us, hl with | [_, _], _ => rfl
  have F_occupied_ways_ := fun_mk (st := s_occupied_ways) l_occupied_ways c_occupied_ways k_occupied_ways
  have b_occupied_ways := F_occupied_ways_.binds (ps := ["config", "cache", "line"]) fun _ _ _ _ _ _ us hl => match us, hl with | [_, _, _], _ => rfl
  have F_request_line_ := fun_mk (st := s_request_line) l_request_line c_request_line k_request_line
  have b_request_line := F_request_line_.binds (ps := ["config", "cache", "core", "line", "exclusive"]) fun _ _ _ _ _ _ us hl => match us, hl with | [_, _, _, _, _], _ => rfl
  have F_give_up_line_ := fun_mk (st := s_give_up_line) l_give_up_line c_give_up_line k_give_up_line
  have b_give_up_line := F_give_up_line_.binds (ps := ["cache", "core", "line"]) fun _ _ _ _ _ _ us hl => match us, hl with | [_, _, _], _ => rfl
  have F_after_recall_ := fun_mk (st := s_after_recall) l_after_recall c_after_recall k_after_recall
  have b_after_recall := F_after_recall_.binds (ps := ["cache", "message"]) fun _ _ _ _ _ _ us hl => match us, hl with | [_, _], _ => rfl
  have F_cache_receives_ := fun_mk (st := s_cache_receives) l_cache_receives c_cache_receives k_cache_receives
  have b_cache_receives := F_cache_receives_.binds (ps := ["cache", "message"]) fun _ _ _ _ _ _ us hl => match us, hl with | [_, _], _ => rfl
  have F_can_receive_ := fun_mk (st := s_can_receive) l_can_receive c_can_receive k_can_receive
  have b_can_receive := F_can_receive_.binds (ps := ["home", "message"]) fun _ _ _ _ _ _ us hl => match us, hl with | [_, _], _ => rfl
  have F_begun_ := fun_mk (st := s_begun) l_begun c_begun k_begun
  have b_begun := F_begun_.binds (ps := ["home", "words", "message"]) fun _ _ _ _ _ _ us hl => match us, hl with | [_, _, _], _ => rfl
  have F_invalidated_ := fun_mk (st := s_invalidated) l_invalidated c_invalidated k_invalidated
  have b_invalidated := F_invalidated_.binds (ps := ["home", "sharer"]) fun _ _ _ _ _ _ us hl => match us, hl with | [_, _], _ => rfl
  have F_returned_ := fun_mk (st := s_returned) l_returned c_returned k_returned
  have b_returned := F_returned_.binds (ps := ["home", "message"]) fun _ _ _ _ _ _ us hl => match us, hl with | [_, _], _ => rfl
  have F_grant_if_ready_ := fun_mk (st := s_grant_if_ready) l_grant_if_ready c_grant_if_ready k_grant_if_ready
  have b_grant_if_ready := F_grant_if_ready_.binds (ps := ["config", "home", "line"]) fun _ _ _ _ _ _ us hl => match us, hl with | [_, _, _], _ => rfl
  have F_home_receives_ := fun_mk (st := s_home_receives) l_home_receives c_home_receives k_home_receives
  have b_home_receives := F_home_receives_.binds (ps := ["config", "home", "words", "message"]) fun _ _ _ _ _ _ us hl => match us, hl with | [_, _, _, _], _ => rfl
  have F_replaced_ := fun_mk (st := s_replaced) l_replaced c_replaced k_replaced
  have b_replaced := F_replaced_.binds (ps := ["parts", "index", "part"]) fun _ _ _ _ _ _ us hl => match us, hl with | [_, _, _], _ => rfl
  have F_start_system_ := fun_mk (st := s_start_system) l_start_system c_start_system k_start_system
  have b_start_system := F_start_system_.binds (ps := ["program", "config"]) fun _ _ _ _ _ _ us hl => match us, hl with | [_, _], _ => rfl
  have F_deliverable_ := fun_mk (st := s_deliverable) l_deliverable c_deliverable k_deliverable
  have b_deliverable := F_deliverable_.binds (ps := ["system"]) fun _ _ _ _ _ _ us hl => match us, hl with | [_], _ => rfl
  have F_delivered_ := fun_mk (st := s_delivered) l_delivered c_delivered k_delivered
  have b_delivered := F_delivered_.binds (ps := ["config", "system", "index"]) fun _ _ _ _ _ _ us hl => match us, hl with | [_, _, _], _ => rfl
  have F_next_system_ := fun_mk (st := s_next_system) l_next_system c_next_system k_next_system
  have b_next_system := F_next_system_.binds (ps := ["config", "system", "action"]) fun _ _ _ _ _ _ us hl => match us, hl with | [_, _, _], _ => rfl
  have F__law_tape_ := fun_mk (st := s__law_tape) l__law_tape c__law_tape k__law_tape
  have b__law_tape := F__law_tape_.binds (ps := ["_law_script"]) fun _ _ _ _ _ _ us hl => match us, hl with | [_], _ => rfl
  have F__law_draw_ := fun_mk (st := s__law_draw) l__law_draw c__law_draw k__law_draw
  have b__law_draw := F__law_draw_.binds (ps := ["_law_tape_here", "_law_many"]) fun _ _ _ _ _ _ us hl => match us, hl with | [_, _], _ => rfl
  have F__law_world_ := fun_mk (st := s__law_world) l__law_world c__law_world k__law_world
  have b__law_world := F__law_world_.binds (ps := ["_law_tape_here"]) fun _ _ _ _ _ _ us hl => match us, hl with | [_], _ => rfl
  have F__law_config_ := fun_mk (st := s__law_config) l__law_config c__law_config k__law_config
  have b__law_config := F__law_config_.binds (ps := ["_law_tape_here", "_law_world_here"]) fun _ _ _ _ _ _ us hl => match us, hl with | [_, _], _ => rfl
  have F__law_fresh_ := fun_mk (st := s__law_fresh) l__law_fresh c__law_fresh k__law_fresh
  have b__law_fresh := F__law_fresh_.binds (ps := ["_law_tape_here", "_law_many"]) fun _ _ _ _ _ _ us hl => match us, hl with | [_, _], _ => rfl
  have F__law_action_ := fun_mk (st := s__law_action) l__law_action c__law_action k__law_action
  have b__law_action := F__law_action_.binds (ps := ["_law_tape_here", "_law_system", "_law_world_here"]) fun _ _ _ _ _ _ us hl => match us, hl with | [_, _, _], _ => rfl
  have F__law_receiver_ := fun_mk (st := s__law_receiver) l__law_receiver c__law_receiver k__law_receiver
  have b__law_receiver := F__law_receiver_.binds (ps := ["_law_message"]) fun _ _ _ _ _ _ us hl => match us, hl with | [_], _ => rfl
  have F__law_both_ := fun_mk (st := s__law_both) l__law_both c__law_both k__law_both
  have b__law_both := F__law_both_.binds (ps := ["_law_config_here", "_law_system", "_law_first", "_law_second"]) fun _ _ _ _ _ _ us hl => match us, hl with | [_, _, _, _], _ => rfl
  have F_law_ := fun_mk (st := s_law) l_law c_law k_law
  refine ⟨PySem.W.fnOf "law" "law" (defArgs s_law) (defBody s_law) (defScope s_law) .none kV_law dc_law pm_law an_law cd_law ct_law, fun s v => .of_eq rfl, fun base _ _ => ?_⟩
  have d_entry_of : CalD l.prog w K mg base C 1 "entry_of" 2 F_entry_of := ⟨_, _, _, ok_entry_of F_entry_of_ T, PySem.W.mg_of X G a_entry_of, k_entry_of, b_entry_of⟩
  have d_without_line : CalD l.prog w K mg base C 1 "without_line" 2 F_without_line := ⟨_, _, _, ok_without_line F_without_line_ T, PySem.W.mg_of X G a_without_line, k_without_line, b_without_line⟩
  have d_with_entry : CalD l.prog w K mg base C 1 "with_entry" 2 F_with_entry := ⟨_, _, _, ok_with_entry F_with_entry_ T, PySem.W.mg_of X G a_with_entry, k_with_entry, b_with_entry⟩
  have d_occupied_ways : CalD l.prog w K mg base C 1 "occupied_ways" 3 F_occupied_ways := ⟨_, _, _, ok_occupied_ways F_occupied_ways_ T, PySem.W.mg_of X G a_occupied_ways, k_occupied_ways, b_occupied_ways⟩
  have d_request_line : CalD l.prog w K mg base C 2 "request_line" 5 F_request_line := ⟨_, _, _, ok_request_line F_request_line_ T d_entry_of d_occupied_ways, PySem.W.mg_of X G a_request_line, k_request_line, b_request_line⟩
  have d_give_up_line : CalD l.prog w K mg base C 2 "give_up_line" 3 F_give_up_line := ⟨_, _, _, ok_give_up_line F_give_up_line_ T d_entry_of d_without_line, PySem.W.mg_of X G a_give_up_line, k_give_up_line, b_give_up_line⟩
  have d_after_recall : CalD l.prog w K mg base C 2 "after_recall" 2 F_after_recall := ⟨_, _, _, ok_after_recall F_after_recall_ T d_entry_of d_with_entry d_without_line, PySem.W.mg_of X G a_after_recall, k_after_recall, b_after_recall⟩
  have d_cache_receives : CalD l.prog w K mg base C 3 "cache_receives" 2 F_cache_receives := ⟨_, _, _, ok_cache_receives F_cache_receives_ T d_after_recall d_without_line, PySem.W.mg_of X G a_cache_receives, k_cache_receives, b_cache_receives⟩
  have d_can_receive : CalD l.prog w K mg base C 1 "can_receive" 2 F_can_receive := ⟨_, _, _, ok_can_receive F_can_receive_ T, PySem.W.mg_of X G a_can_receive, k_can_receive, b_can_receive⟩
  have d_begun : CalD l.prog w K mg base C 1 "begun" 3 F_begun := ⟨_, _, _, ok_begun F_begun_ T, PySem.W.mg_of X G a_begun, k_begun, b_begun⟩
  have d_invalidated : CalD l.prog w K mg base C 1 "invalidated" 2 F_invalidated := ⟨_, _, _, ok_invalidated F_invalidated_ T, PySem.W.mg_of X G a_invalidated, k_invalidated, b_invalidated⟩
  have d_returned : CalD l.prog w K mg base C 1 "returned" 2 F_returned := ⟨_, _, _, ok_returned F_returned_ T, PySem.W.mg_of X G a_returned, k_returned, b_returned⟩
  have d_grant_if_ready : CalD l.prog w K mg base C 1 "grant_if_ready" 3 F_grant_if_ready := ⟨_, _, _, ok_grant_if_ready F_grant_if_ready_ T, PySem.W.mg_of X G a_grant_if_ready, k_grant_if_ready, b_grant_if_ready⟩
  have d_home_receives : CalD l.prog w K mg base C 2 "home_receives" 4 F_home_receives := ⟨_, _, _, ok_home_receives F_home_receives_ T d_invalidated d_returned d_begun d_grant_if_ready, PySem.W.mg_of X G a_home_receives, k_home_receives, b_home_receives⟩
  have d_replaced : CalD l.prog w K mg base C 1 "replaced" 3 F_replaced := ⟨_, _, _, ok_replaced F_replaced_ T, PySem.W.mg_of X G a_replaced, k_replaced, b_replaced⟩
  have d_start_system : CalD l.prog w K mg base C 1 "start_system" 2 F_start_system := ⟨_, _, _, ok_start_system F_start_system_ T, PySem.W.mg_of X G a_start_system, k_start_system, b_start_system⟩
  have d_deliverable : CalD l.prog w K mg base C 2 "deliverable" 1 F_deliverable := ⟨_, _, _, ok_deliverable F_deliverable_ T d_can_receive, PySem.W.mg_of X G a_deliverable, k_deliverable, b_deliverable⟩
  have d_delivered : CalD l.prog w K mg base C 4 "delivered" 3 F_delivered := ⟨_, _, _, ok_delivered F_delivered_ T d_cache_receives d_replaced d_home_receives, PySem.W.mg_of X G a_delivered, k_delivered, b_delivered⟩
  have d_next_system : CalD l.prog w K mg base C 5 "next_system" 3 F_next_system := ⟨_, _, _, ok_next_system F_next_system_ T d_deliverable d_delivered d_request_line d_give_up_line d_replaced, PySem.W.mg_of X G a_next_system, k_next_system, b_next_system⟩
  have d__law_tape : CalS l.prog w K mg base 1 "_law_tape" (SpTape K) := ⟨_, _, _, ok__law_tape F__law_tape_ T, PySem.W.mg_of X G a__law_tape, k__law_tape, b__law_tape⟩
  have d__law_draw : CalS l.prog w K mg base 1 "_law_draw" SpDraw := ⟨_, _, _, ok__law_draw F__law_draw_ T, PySem.W.mg_of X G a__law_draw, k__law_draw, b__law_draw⟩
  have d__law_world : CalS l.prog w K mg base 2 "_law_world" (SpWorld K C) := ⟨_, _, _, ok__law_world F__law_world_ T d__law_draw, PySem.W.mg_of X G a__law_world, k__law_world, b__law_world⟩
  have d__law_config : CalS l.prog w K mg base 3 "_law_config" (SpConfig K C) := ⟨_, _, _, ok__law_config F__law_config_ T M hmC FI d__law_draw, PySem.W.mg_of X G a__law_config, k__law_config, b__law_config⟩
  have d__law_fresh : CalS l.prog w K mg base 2 "_law_fresh" (SpFresh K C) := ⟨_, _, _, ok__law_fresh F__law_fresh_ T d__law_draw, PySem.W.mg_of X G a__law_fresh, k__law_fresh, b__law_fresh⟩
  have d__law_action : CalS l.prog w K mg base 2 "_law_action" (SpAct K C) := ⟨_, _, _, ok__law_action F__law_action_ T d__law_draw, PySem.W.mg_of X G a__law_action, k__law_action, b__law_action⟩
  have d__law_receiver : CalD l.prog w K mg base C 1 "_law_receiver" 1 F__law_receiver := ⟨_, _, _, ok__law_receiver F__law_receiver_ T, PySem.W.mg_of X G a__law_receiver, k__law_receiver, b__law_receiver⟩
  have d__law_both : CalG l.prog w K mg base 6 "_law_both" (SpF K C 4 F__law_both) := ⟨_, _, _, ok__law_both F__law_both_ T d_next_system, PySem.W.mg_of X G a__law_both, k__law_both, b__law_both⟩
  exact ok_law F_law_ T d__law_tape d__law_draw d__law_world d__law_config d__law_fresh d__law_action d_start_system d_next_system d_deliverable d__law_receiver d__law_both
theorem walkG {l : PySem.W.OpenLaw} {q : Program} {loose : List Str} {XP : (Str → Option Value) → Heap → Prop} {YP : World → Heap → Prop} {d : DefRec} {K : Params → PySem.W.Frag} (hn : l.most = some 63) (hdf : d.params.defaults = [])
    (hY : ∀ (w : World) (h : Heap), YP w h → (K w.params).In h)
    (F : ∀ (w : World) (mg : Str → Option Value) (fa : Addr) (h : Heap), (K w.params).In h → h.Ns mainGlobals mg → mg d.name = some (.ref fa) →
      ∃ fd : FuncData, (∀ (s : Shared) (u : Value), BindsTo s fd ⟨[u], []⟩ [("_law_script", u)]) ∧ ∀ base : Heap, (K w.params).In base → base.Ns mainGlobals mg → FnG l.prog w (K w.params) mg base 7 fa fd ["_law_script"] (SpLaw (K w.params))) :
    PySem.W.WalkO q loose XP YP l.row.toRowW d [] (fun f vs => PySem.call f vs) := by
  refine Att.attach_call hn hdf fun w s₀ s₁ mg mb fa o pm cd doc a vs ns G Y ho hd hcd hmg hobj hints hlen hg => ?_
  have KX := hY w _ Y
  obtain ⟨fd, hb, hF⟩ := F w mg fa _ KX G.T.g hmg
  exact callG KX G.T.g G.T.b G.T.builtins G.T.nolimit hg hobj hints (Nat.le_trans hlen (by decide)) ⟨rfl, by decide, by decide⟩ hF hb fun H hS => ⟨a, ns, rfl, hS, hlen, fun _ => rfl⟩
end DL

open PySem PySem.W PyProof.Rows
set_option maxRecDepth 100000 in
set_option maxHeartbeats 0 in
theorem PySem.Challenge.cw_litmuscore_k55_whole_deliveries_commute_holds : PySem.Challenge.rw_litmuscore_k55_whole_deliveries_commute.Holds := by
  w_on; o_law; k_head; (case hw => w_witness2)
  k_fill
  refine DL.walkG (l := PySem.Challenge.rw_litmuscore_k55_whole_deliveries_commute) rfl rfl (fun w h Y => PySem.W.kIn_of Y) ?F
  case F =>
    intro w mg fa h KX G hmg
    refine' DL.all_mk KX G hmg ?a_entry_of ?l_entry_of ?c_entry_of ?k_entry_of ?a_without_line ?l_without_line ?c_without_line ?k_without_line ?a_with_entry ?l_with_entry ?c_with_entry ?k_with_entry ?a_occupied_ways ?l_occupied_ways ?c_occupied_ways ?k_occupied_ways ?a_request_line ?l_request_line ?c_request_line ?k_request_line ?a_give_up_line ?l_give_up_line ?c_give_up_line ?k_give_up_line ?a_after_recall ?l_after_recall ?c_after_recall ?k_after_recall ?a_cache_receives ?l_cache_receives ?c_cache_receives ?k_cache_receives ?a_can_receive ?l_can_receive ?c_can_receive ?k_can_receive ?a_begun ?l_begun ?c_begun ?k_begun ?a_invalidated ?l_invalidated ?c_invalidated ?k_invalidated ?a_returned ?l_returned ?c_returned ?k_returned ?a_grant_if_ready ?l_grant_if_ready ?c_grant_if_ready ?k_grant_if_ready ?a_home_receives ?l_home_receives ?c_home_receives ?k_home_receives ?a_replaced ?l_replaced ?c_replaced ?k_replaced ?a_start_system ?l_start_system ?c_start_system ?k_start_system ?a_deliverable ?l_deliverable ?c_deliverable ?k_deliverable ?a_delivered ?l_delivered ?c_delivered ?k_delivered ?a_next_system ?l_next_system ?c_next_system ?k_next_system ?a__law_tape ?l__law_tape ?c__law_tape ?k__law_tape ?a__law_draw ?l__law_draw ?c__law_draw ?k__law_draw ?a__law_world ?l__law_world ?c__law_world ?k__law_world ?a__law_config ?l__law_config ?c__law_config ?k__law_config ?a__law_fresh ?l__law_fresh ?c__law_fresh ?k__law_fresh ?a__law_action ?l__law_action ?c__law_action ?k__law_action ?a__law_receiver ?l__law_receiver ?c__law_receiver ?k__law_receiver ?a__law_both ?l__law_both ?c__law_both ?k__law_both ?a_law ?l_law ?c_law ?k_law ?aC ?aI ?iI ?lI ?cI ?kI ?pg ?hd ?po ?sa ?mk ?kC ?w_reorder_buffer ?w_store_buffer ?w_line_words ?w_sets ?w_ways ?w_requests ?w_exclusive_state ?n_sets ?n_ways ?n_requests ?n_line_words ?n_exclusive_state ?n_order ?n_reorder_buffer ?n_store_buffer ?z_len ?z_tuple ?z_range ?z_enumerate ?z_repr ?z_sorted ?z_int ?z_abs ?z_max ?z_list ?g_EMPTY_CACHE ?h_EMPTY_CACHE ?g_START_HOME ?h_START_HOME ?g_TO_CACHES ?h_TO_CACHES ?g_WAITS_FOR_SERVICE ?h_WAITS_FOR_SERVICE ?G_EMPTY_CACHE ?G_START_HOME ?G_TO_CACHES ?G_WAITS_FOR_SERVICE
    (case a_entry_of => k_is)
    (case l_entry_of => k_is)
    (case c_entry_of => k_is)
    (case k_entry_of => k_is)
    (case a_without_line => k_is)
    (case l_without_line => k_is)
    (case c_without_line => k_is)
    (case k_without_line => k_is)
    (case a_with_entry => k_is)
    (case l_with_entry => k_is)
    (case c_with_entry => k_is)
    (case k_with_entry => k_is)
    (case a_occupied_ways => k_is)
    (case l_occupied_ways => k_is)
    (case c_occupied_ways => k_is)
    (case k_occupied_ways => k_is)
    (case a_request_line => k_is)
    (case l_request_line => k_is)
    (case c_request_line => k_is)
    (case k_request_line => k_is)
    (case a_give_up_line => k_is)
    (case l_give_up_line => k_is)
    (case c_give_up_line => k_is)
    (case k_give_up_line => k_is)
    (case a_after_recall => k_is)
    (case l_after_recall => k_is)
    (case c_after_recall => k_is)
    (case k_after_recall => k_is)
    (case a_cache_receives => k_is)
    (case l_cache_receives => k_is)
    (case c_cache_receives => k_is)
    (case k_cache_receives => k_is)
    (case a_can_receive => k_is)
    (case l_can_receive => k_is)
    (case c_can_receive => k_is)
    (case k_can_receive => k_is)
    (case a_begun => k_is)
    (case l_begun => k_is)
    (case c_begun => k_is)
    (case k_begun => k_is)
    (case a_invalidated => k_is)
    (case l_invalidated => k_is)
    (case c_invalidated => k_is)
    (case k_invalidated => k_is)
    (case a_returned => k_is)
    (case l_returned => k_is)
    (case c_returned => k_is)
    (case k_returned => k_is)
    (case a_grant_if_ready => k_is)
    (case l_grant_if_ready => k_is)
    (case c_grant_if_ready => k_is)
    (case k_grant_if_ready => k_is)
    (case a_home_receives => k_is)
    (case l_home_receives => k_is)
    (case c_home_receives => k_is)
    (case k_home_receives => k_is)
    (case a_replaced => k_is)
    (case l_replaced => k_is)
    (case c_replaced => k_is)
    (case k_replaced => k_is)
    (case a_start_system => k_is)
    (case l_start_system => k_is)
    (case c_start_system => k_is)
    (case k_start_system => k_is)
    (case a_deliverable => k_is)
    (case l_deliverable => k_is)
    (case c_deliverable => k_is)
    (case k_deliverable => k_is)
    (case a_delivered => k_is)
    (case l_delivered => k_is)
    (case c_delivered => k_is)
    (case k_delivered => k_is)
    (case a_next_system => k_is)
    (case l_next_system => k_is)
    (case c_next_system => k_is)
    (case k_next_system => k_is)
    (case a__law_tape => k_is)
    (case l__law_tape => k_is)
    (case c__law_tape => k_is)
    (case k__law_tape => k_is)
    (case a__law_draw => k_is)
    (case l__law_draw => k_is)
    (case c__law_draw => k_is)
    (case k__law_draw => k_is)
    (case a__law_world => k_is)
    (case l__law_world => k_is)
    (case c__law_world => k_is)
    (case k__law_world => k_is)
    (case a__law_config => k_is)
    (case l__law_config => k_is)
    (case c__law_config => k_is)
    (case k__law_config => k_is)
    (case a__law_fresh => k_is)
    (case l__law_fresh => k_is)
    (case c__law_fresh => k_is)
    (case k__law_fresh => k_is)
    (case a__law_action => k_is)
    (case l__law_action => k_is)
    (case c__law_action => k_is)
    (case k__law_action => k_is)
    (case a__law_receiver => k_is)
    (case l__law_receiver => k_is)
    (case c__law_receiver => k_is)
    (case k__law_receiver => k_is)
    (case a__law_both => k_is)
    (case l__law_both => k_is)
    (case c__law_both => k_is)
    (case k__law_both => k_is)
    (case a_law => k_is)
    (case l_law => k_is)
    (case c_law => k_is)
    (case k_law => k_is)
    (case aC => k_is)
    (case aI => k_is)
    (case iI => k_is)
    (case lI => k_is)
    (case cI => k_is)
    (case kI => k_is)
    (case pg => k_is)
    (case hd => k_is)
    (case po => k_is)
    (case sa => k_is)
    (case mk => k_is)
    (case kC => k_is)
    (case w_reorder_buffer => k_is)
    (case w_store_buffer => k_is)
    (case w_line_words => k_is)
    (case w_sets => k_is)
    (case w_ways => k_is)
    (case w_requests => k_is)
    (case w_exclusive_state => k_is)
    (case n_sets => k_is)
    (case n_ways => k_is)
    (case n_requests => k_is)
    (case n_line_words => k_is)
    (case n_exclusive_state => k_is)
    (case n_order => k_is)
    (case n_reorder_buffer => k_is)
    (case n_store_buffer => k_is)
    (case z_len => k_is)
    (case z_tuple => k_is)
    (case z_range => k_is)
    (case z_enumerate => k_is)
    (case z_repr => k_is)
    (case z_sorted => k_is)
    (case z_int => k_is)
    (case z_abs => k_is)
    (case z_max => k_is)
    (case z_list => k_is)
    (case g_EMPTY_CACHE => k_is)
    (case h_EMPTY_CACHE => k_is)
    (case g_START_HOME => k_is)
    (case h_START_HOME => k_is)
    (case g_TO_CACHES => k_is)
    (case h_TO_CACHES => k_is)
    (case g_WAITS_FOR_SERVICE => k_is)
    (case h_WAITS_FOR_SERVICE => k_is)
    (case G_EMPTY_CACHE =>
      intro g h
      refine' DL.g_empty KX G g h ?l1 ?l2 ?l3
      (case l1 => k_is)
      (case l2 => k_is)
      (case l3 => k_is))
    (case G_START_HOME =>
      intro g h
      refine' DL.g_home KX G g h ?l1
      (case l1 => k_is))
    (case G_TO_CACHES => intro g h; exact DL.g_to KX G g h)
    (case G_WAITS_FOR_SERVICE => intro g h; exact DL.g_waits KX G g h)

