import PyProof.Rows.All
import Wide.All
import OpenK.AllK
import Wide.FinOn
import HandS.ForMost
import HandS.Walk
import HandS.IsInst
import HandS.HeadHook1
import HandS.Deep
import HandS.Conv
import HandS.More
import HandS.Style
import HandS.Small
import HandS.DictComp
import HandS.ListItems
import KE.SortData
import HandS.TupAny
import HandS.TupLen
import HandS.Words
import HandS.Defaults
import HandS.Zip
import HandS.DictTup
import HandS.TupMul
import HandS.MakeKwOnly
import KE.GoesMore
import KE.DataMinMax
import HandS.Text
import PyProof.ReprRoads
import HandS.EndBits
import HandS.HeadEnd
import HandS.Codes
import KE.KDictPairs
import HandS.HeadHook4
import KE.KStateDown
import Lean
import HandS.Base
import HandS.Call
import HandS.Ends
import HandS.WordsExc
import HandS.Head0
import HandS.Head1
import HandS.Head2
import HandS.HeadHook2
import HandS.HeadHook3
import PySem.Challenge.RW_oddlights_k79_whole_main_twins_and_ends
set_option Elab.async false
set_option linter.all false
set_option maxRecDepth 100000
set_option maxHeartbeats 0
set_option autoImplicit false
namespace DL
open PySem PySem.Spec PyProof.Rows L2

def Sub (F H : Hp) : Prop := ∀ a o, F a = some o → H a = some o
theorem Sub.refl (F : Hp) : Sub F F := fun _ _ h => h
theorem Sub.trans {F G H : Hp} (a : Sub F G) (b : Sub G H) : Sub F H := fun c o h => b c o (a c o h)
abbrev Strm := Option (Addr × Addr)
def inS (S : Strm) (b : Addr) : Prop := match S with
  | some p => b = p.1 ∨ b = p.2
  | none => False
def StrOk (S : Strm) (n : Nat) (H : Hp) : Prop := match S with
  | some p => p.1 ≠ p.2 ∧ ∃ (ns : List Int) (x y z : Int), H p.1 = some (.lst [.ref p.2, .int x, .int y, .int z]) ∧ H p.2 = some (.lst (ns.map V.int)) ∧
      0 ≤ x ∧ 0 ≤ y ∧ y + (n : Int) ≤ 2 ^ 40 ∧ 0 ≤ z ∧ z < 2 ^ 31 ∧ x.natAbs < 2 ^ 1100000 ∧ ns.length ≤ 70 ∧ ∀ m ∈ ns, m.natAbs < 2 ^ 1100000
  | none => True
def Kp (S : Strm) (H H' : Hp) : Prop := ∀ b o, H b = some o → ¬ inS S b → H' b = some o
theorem Kp.refl (S : Strm) (H : Hp) : Kp S H H := fun _ _ h _ => h
theorem Kp.trans {S : Strm} {H H1 H2 : Hp} (a : Kp S H H1) (b : Kp S H1 H2) : Kp S H H2 := fun c o h n => b c o (a c o h n) n
theorem StrOk.some {S : Strm} {n : Nat} {H : Hp} (h : StrOk S n H) {b : Addr} (hb : inS S b) : ∃ xs, H b = some (.lst xs) := by
  cases S with
  | none => exact hb.elim
  | some p =>
    obtain ⟨_, ns, x, y, z, h1, h2, _⟩ := h
    rcases hb with rfl | rfl
    · exact ⟨_, h1⟩
    · exact ⟨_, h2⟩
def grow (F H H' : Hp) : Hp := fun b => match F b with
  | some o => some o
  | none => match H b with
    | none => H' b
    | some _ => none
theorem sub_grow {F H H' : Hp} : Sub F (grow F H H') := fun a o h => by unfold grow; rw [h]
theorem grow_self {F H : Hp} (s : Sub F H) : grow F H H = F := by
  funext b
  unfold grow
  cases e : F b with
  | some o => rfl
  | none => cases e2 : H b <;> rfl
theorem grow_new {F H H' : Hp} {b : Addr} {o : HO} (hF : F b = none) (h : H b = none) (h' : H' b = some o) : grow F H H' b = some o := by
  unfold grow; rw [hF, h]; exact h'
theorem grow_cases {F H H' : Hp} {b : Addr} {o : HO} (h : grow F H H' b = some o) : F b = some o ∨ (F b = none ∧ H b = none ∧ H' b = some o) := by
  unfold grow at h
  cases e : F b with
  | some u => rw [e] at h; exact .inl h
  | none =>
    rw [e] at h
    cases e2 : H b with
    | none => rw [e2] at h; exact .inr ⟨rfl, rfl, h⟩
    | some u => rw [e2] at h; cases h
structure Fr (F : Hp) (S : Strm) (n : Nat) (H : Hp) : Prop where
  sub : Sub F H
  nos : ∀ b, inS S b → F b = none
  str : StrOk S n H
  tp : ∀ b xs, H b = some (.tup xs) → F b = some (.tup xs)
structure Ext (S : Strm) (n' : Nat) (H H' : Hp) : Prop where
  kp : Kp S H H'
  str : StrOk S n' H'
theorem Fr.ext {F : Hp} {S : Strm} {n : Nat} {H : Hp} (f : Fr F S n H) : Ext S n H H := ⟨Kp.refl _ _, f.str⟩
theorem grow_sub {F : Hp} {S : Strm} {n n' : Nat} {H H' : Hp} (f : Fr F S n H) (e : Ext S n' H H') : Sub (grow F H H') H' := fun b o h => by
  rcases grow_cases h with h | ⟨_, _, h⟩
  · refine e.kp b o (f.sub b o h) fun hs => ?_
    rw [f.nos b hs] at h; cases h
  · exact h
theorem Fr.next {F : Hp} {S : Strm} {n n' : Nat} {H H' : Hp} (f : Fr F S n H) (e : Ext S n' H H') : Fr (grow F H H') S n' H' := by
  refine ⟨grow_sub f e, fun b hs => ?_, e.str, fun b xs h => ?_⟩
  · obtain ⟨xs, h⟩ := f.str.some hs
    unfold grow
    rw [f.nos b hs, h]
  · cases q : H b with
    | none =>
      cases q2 : F b with
      | none => exact grow_new q2 q h
      | some u => have := f.sub b u q2; rw [q] at this; cases this
    | some u =>
      by_cases hs : inS S b
      · obtain ⟨ys, z⟩ := e.str.some hs
        rw [h] at z; cases z
      · have := e.kp b u q hs
        rw [h] at this
        cases this
        exact sub_grow b _ (f.tp b xs q)
theorem Ext.trans {S : Strm} {n1 n2 : Nat} {H H1 H2 : Hp} (a : Ext S n1 H H1) (b : Ext S n2 H1 H2) : Ext S n2 H H2 := ⟨a.kp.trans b.kp, b.str⟩
theorem Ext.there {S : Strm} {n n' : Nat} {H H' : Hp} (st : StrOk S n H) (e : Ext S n' H H') {b : Addr} {o : HO} (h : H b = some o) : ∃ o', H' b = some o' := by
  by_cases hs : inS S b
  · obtain ⟨xs, q⟩ := e.str.some hs
    exact ⟨_, q⟩
  · exact ⟨o, e.kp b o h hs⟩
theorem grow_grow {F : Hp} {S : Strm} {n n1 n2 : Nat} {H H1 H2 : Hp} (f : Fr F S n H) (e1 : Ext S n1 H H1) (e2 : Ext S n2 H1 H2) : grow (grow F H H1) H1 H2 = grow F H H2 := by
  funext b
  cases hF : F b with
  | some o =>
    have h1 : grow F H H1 b = some o := sub_grow b o hF
    rw [sub_grow b o h1, sub_grow b o hF]
  | none =>
    cases hH : H b with
    | some o =>
      obtain ⟨o1, q1⟩ := e1.there f.str hH
      have a1 : grow F H H1 b = none := by unfold grow; rw [hF, hH]
      have a2 : grow F H H2 b = none := by unfold grow; rw [hF, hH]
      rw [a2]
      unfold grow
      rw [show (match F b with | some o => some o | none => match H b with | none => H1 b | some _ => none) = none from a1, q1]
    | none =>
      have a2 : grow F H H2 b = H2 b := by unfold grow; rw [hF, hH]
      rw [a2]
      cases q1 : H1 b with
      | some o =>
        have a1 : grow F H H1 b = some o := grow_new hF hH q1
        rw [sub_grow b o a1]
        refine (e2.kp b o q1 fun hs => ?_).symm
        obtain ⟨xs, z⟩ := f.str.some hs
        rw [hH] at z; cases z
      | none =>
        have a1 : grow F H H1 b = none := by unfold grow; rw [hF, hH]; exact q1
        unfold grow
        rw [show (match F b with | some o => some o | none => match H b with | none => H1 b | some _ => none) = none from a1, q1]

def kP : Key → PyData
  | .inl i => .int i
  | .inr x => .str x
def kOk : Key → Bool
  | .inl _ => true
  | .inr z => PyData.strOk z
def ktP (ks : List Key) : PyData := .tuple (ks.map kP)
def insP (C : Str) (fs : List (Str × PyData)) : PyData := .dict ((.none, .str C) :: fs.map fun p => (.str p.1, p.2))
def parP (C : Str) (fs : List (Str × PyData)) : PyData := .dict ((.none, .bool true) :: (.none, .str C) :: fs.map fun p => (.str p.1, p.2))
def strmP : PyData := .dict [(.none, .none)]
def dkP (kvs : List (Key × PyData)) : PyData := .dict (kvs.map fun p => (kP p.1, p.2))
def dtP (kvs : List (List Key × PyData)) : PyData := .dict (kvs.map fun p => (ktP p.1, p.2))
mutual
inductive Den (K : PySem.W.Frag) (F : Hp) (S : Strm) : V → PyData → Prop
  | non : Den K F S .non .none
  | bl (b : Bool) : Den K F S (.bl b) (.bool b)
  | int (i : Int) : Den K F S (.int i) (.int i)
  | str (x : Str) : PyData.strOk x = true → Den K F S (.str x) (.str x)
  | lst {a : Addr} {xs : List V} {ds : List PyData} : F a = some (.lst xs) → DenL K F S xs ds → Den K F S (.ref a) (.list ds)
  | tup {a : Addr} {xs : List V} {ds : List PyData} : F a = some (.tup xs) → DenL K F S xs ds → Den K F S (.ref a) (.tuple ds)
  | dK {a : Addr} {ob : Obj} {kvs : List (Key × V)} {es : List (Key × PyData)} : F a = some (.frz ob (.dK kvs)) → kvs.map (·.1) = es.map (·.1) → DenL K F S (kvs.map (·.2)) (es.map (·.2)) → (es.all fun e => kOk e.1) = true → Den K F S (.ref a) (dkP es)
  | dT {a : Addr} {ob : Obj} {kvs : List (List Key × V)} {es : List (List Key × PyData)} : F a = some (.frz ob (.dT kvs)) → kvs.map (·.1) = es.map (·.1) → DenL K F S (kvs.map (·.2)) (es.map (·.2)) → (es.all fun e => e.1.all kOk) = true → Den K F S (.ref a) (dtP es)
  | ins {a dx : Addr} {C : Str} {fs : List (Str × V)} {es : List (Str × PyData)} : F a = some (.ins (He.ga K C) dx fs) → fs.map (·.1) = es.map (·.1) → DenL K F S (fs.map (·.2)) (es.map (·.2)) → Den K F S (.ref a) (insP C es)
  | par {a dx : Addr} {C : Str} {fs gs : List (Str × V)} {es : List (Str × PyData)} : F a = some (.ins (He.ga K C) dx fs) → (∀ p ∈ gs, fs.lookup p.1 = some p.2) → gs.map (·.1) = es.map (·.1) → DenL K F S (gs.map (·.2)) (es.map (·.2)) → Den K F S (.ref a) (parP C es)
  | strm {p : Addr × Addr} : S = some p → Den K F S (.ref p.1) strmP
inductive DenL (K : PySem.W.Frag) (F : Hp) (S : Strm) : List V → List PyData → Prop
  | nil : DenL K F S [] []
  | cons {v : V} {vs : List V} {d : PyData} {ds : List PyData} : Den K F S v d → DenL K F S vs ds → DenL K F S (v :: vs) (d :: ds)
end
mutual
theorem Den.mono {K : PySem.W.Frag} {F F' : Hp} {S : Strm} (l : Sub F F') : ∀ {v : V} {d : PyData}, Den K F S v d → Den K F' S v d
  | _, _, .non => .non
  | _, _, .bl b => .bl b
  | _, _, .int i => .int i
  | _, _, .str x h => .str x h
  | _, _, .lst h1 h2 => .lst (l _ _ h1) (DenL.mono l h2)
  | _, _, .tup h1 h2 => .tup (l _ _ h1) (DenL.mono l h2)
  | _, _, .dK h1 h2 h3 h4 => .dK (l _ _ h1) h2 (DenL.mono l h3) h4
  | _, _, .dT h1 h2 h3 h4 => .dT (l _ _ h1) h2 (DenL.mono l h3) h4
  | _, _, .ins h1 h2 h3 => .ins (l _ _ h1) h2 (DenL.mono l h3)
  | _, _, .par h1 h0 h2 h3 => .par (l _ _ h1) h0 h2 (DenL.mono l h3)
  | _, _, .strm h => .strm h
theorem DenL.mono {K : PySem.W.Frag} {F F' : Hp} {S : Strm} (l : Sub F F') : ∀ {vs : List V} {ds : List PyData}, DenL K F S vs ds → DenL K F' S vs ds
  | _, _, .nil => .nil
  | _, _, .cons h1 h2 => .cons (Den.mono l h1) (DenL.mono l h2)
end
theorem DenL.length {K : PySem.W.Frag} {F : Hp} {S : Strm} : ∀ {vs : List V} {ds : List PyData}, DenL K F S vs ds → vs.length = ds.length
  | _, _, .nil => rfl
  | _, _, .cons _ t => by simp [DenL.length t]
theorem DenL.get {K : PySem.W.Frag} {F : Hp} {S : Strm} : ∀ {vs : List V} {ds : List PyData} {i : Nat} {d : PyData}, DenL K F S vs ds → ds[i]? = some d → ∃ v, vs[i]? = some v ∧ Den K F S v d
  | _, _, _, _, .nil, e => by simp at e
  | _, _, 0, d, .cons r _, e => by simp at e; subst e; exact ⟨_, rfl, r⟩
  | _, _, i + 1, d, .cons _ t, e => by
    obtain ⟨v, h1, h2⟩ := DenL.get (i := i) (d := d) t (by simpa using e)
    exact ⟨v, by simpa using h1, h2⟩
theorem DenL.getV {K : PySem.W.Frag} {F : Hp} {S : Strm} : ∀ {vs : List V} {ds : List PyData} {i : Nat} {v : V}, DenL K F S vs ds → vs[i]? = some v → ∃ d, ds[i]? = some d ∧ Den K F S v d
  | _, _, _, _, .nil, e => by simp at e
  | _, _, 0, d, .cons r _, e => by simp at e; subst e; exact ⟨_, rfl, r⟩
  | _, _, i + 1, v, .cons _ t, e => by
    obtain ⟨d, h1, h2⟩ := DenL.getV (i := i) (v := v) t (by simpa using e)
    exact ⟨d, by simpa using h1, h2⟩
theorem DenL.append {K : PySem.W.Frag} {F : Hp} {S : Strm} : ∀ {vs ws : List V} {ds es : List PyData}, DenL K F S vs ds → DenL K F S ws es → DenL K F S (vs ++ ws) (ds ++ es)
  | _, _, _, _, .nil, s => s
  | _, _, _, _, .cons r t, s => .cons r (DenL.append t s)
def atom : PyData → Bool
  | .none => true
  | .bool _ => true
  | .int _ => true
  | .str _ => true
  | _ => false
theorem Den.atom {K : PySem.W.Frag} {F F' : Hp} {S S' : Strm} {v : V} {d : PyData} (h : Den K F S v d) (a : atom d = true) : Den K F' S' v d := by
  cases h with
  | non => exact .non
  | bl b => exact .bl b
  | int i => exact .int i
  | str x h => exact .str x h
  | _ => cases a

abbrev Env := List (Option PyData)
abbrev M := Env → Nat → (PyData → Nat → Prop) → Prop
structure AgE (K : PySem.W.Frag) (F : Hp) (S : Strm) (n : Nat) (H : Hp) (γ : Env) (σ : L2.St) : Prop where
  fr : Fr F S n H
  slot : ∀ (i : Nat) (d : PyData), γ[i]? = some (some d) → ∃ v, σ[i]? = some (some v) ∧ Den K F S v d
  len : γ.length = σ.length
theorem AgE.next {K : PySem.W.Frag} {F : Hp} {S : Strm} {n n' : Nat} {H H' : Hp} {γ : Env} {σ : L2.St} (a : AgE K F S n H γ σ) (e : Ext S n' H H') : AgE K (grow F H H') S n' H' γ σ :=
  ⟨a.fr.next e, fun i d h => let ⟨v, h1, h2⟩ := a.slot i d h; ⟨v, h1, h2.mono sub_grow⟩, a.len⟩
structure Post (K : PySem.W.Frag) (F : Hp) (S : Strm) (H : Hp) (v : V) (d : PyData) (n' : Nat) (H' : Hp) : Prop where
  ext : Ext S n' H H'
  den : Den K (grow F H H') S v d
def tD (K : PySem.W.Frag) (m : M) : TE := fun σ H Q => ∃ F S n γ, AgE K F S n H γ σ ∧ ∃ k, m γ n k ∧ ∀ d n', k d n' → ∀ v H', Post K F S H v d n' H' → Q v H'
abbrev DE (X : Cx) (e : Expr) (m : M) : Prop := PE X e (tD X.K m)
theorem PE.weak {X : Cx} {e : Expr} {t t' : TE} (h : PE X e t) (w : ∀ σ H Q, t' σ H Q → t σ H Q) : PE X e t' := ⟨fun pins s σ H Q I q => h.run pins s σ H Q I (w σ H Q q)⟩
theorem PT.weak {X : Cx} {e : Expr} {t t' : TT} (h : PT X e t) (w : ∀ σ H Q, t' σ H Q → t σ H Q) : PT X e t' := ⟨fun pins s σ H Q I q => h.run pins s σ H Q I (w σ H Q q)⟩
theorem PA.weak {X : Cx} {e : List Expr} {t t' : TA} (h : PA X e t) (w : ∀ σ H Q, t' σ H Q → t σ H Q) : PA X e t' := ⟨fun pos pins s σ H Q I q => h.run pos pins s σ H Q I (w σ H Q q)⟩
theorem PS.weak {X : Cx} {e : Stmt} {t t' : TS} (h : PS X e t) (w : ∀ D σ H, t' D σ H → t D σ H) : PS X e t' := ⟨fun pins s σ H D I q => h.run pins s σ H D I (w D σ H q)⟩
theorem PSs.weak {X : Cx} {e : List Stmt} {t t' : TS} (h : PSs X e t) (w : ∀ D σ H, t' D σ H → t D σ H) : PSs X e t' := ⟨fun pins s σ H D I q => h.run pins s σ H D I (w D σ H q)⟩
theorem Post.here {K : PySem.W.Frag} {F : Hp} {S : Strm} {n : Nat} {H : Hp} {v : V} {d : PyData} (f : Fr F S n H) (h : Den K F S v d) : Post K F S H v d n H := ⟨f.ext, h.mono sub_grow⟩
theorem Post.after {K : PySem.W.Frag} {F : Hp} {S : Strm} {n n1 n2 : Nat} {H H1 H2 : Hp} {v : V} {d : PyData} (f : Fr F S n H) (e : Ext S n1 H H1) (p : Post K (grow F H H1) S H1 v d n2 H2) : Post K F S H v d n2 H2 :=
  ⟨e.trans p.ext, by have := p.den; rwa [grow_grow f e p.ext] at this⟩

def mVar (i : Nat) : M := fun γ n k => match γ[i]? with
  | some (some d) => k d n
  | _ => False
def mC (d : PyData) : M := fun _ n k => k d n
section
variable {X : Cx}
theorem de_var {i : Nat} {x : Str} {pos : Pos} (hN : X.N[i]? = some x) (hv : Vis X.env.scope x) (hd : (x == ("__debug__" : Str)) = false := by decide) (hcd : (x == ("__classdict__" : Str)) = false := by decide) : DE X (.Name x pos) (mVar i) := by
  refine PE.weak (pe_var hN hv hd hcd) fun σ H Q h => ?_
  obtain ⟨F, S, n, γ, ag, k, hm, hQ⟩ := h
  unfold mVar at hm
  split at hm
  · rename_i d e
    obtain ⟨v, h1, h2⟩ := ag.slot i d e
    exact ⟨v, h1, hQ d n hm v H (Post.here ag.fr h2)⟩
  · exact hm.elim
theorem de_const {e : Expr} {v : V} {d : PyData} (h : PE X e (tC v)) (hd : ∀ K F S, Den K F S v d) : DE X e (mC d) := by
  refine PE.weak h fun σ H Q h => ?_
  obtain ⟨F, S, n, γ, ag, k, hm, hQ⟩ := h
  exact hQ d n hm v H (Post.here ag.fr (hd _ _ _))
theorem de_int {i j pos} : DE X (.Constant (.int i) j pos) (mC (.int i)) := de_const pe_int fun _ _ _ => .int i
theorem de_bl {b j pos} : DE X (.Constant (.bool b) j pos) (mC (.bool b)) := de_const pe_bl fun _ _ _ => .bl b
theorem de_non {j pos} : DE X (.Constant .none j pos) (mC .none) := de_const pe_non fun _ _ _ => .non
theorem de_str {x : Str} {j pos} (h : PyData.strOk x = true := by decide +kernel) : DE X (.Constant (.str x) j pos) (mC (.str x)) := de_const pe_str fun _ _ _ => .str x h
end
abbrev MA := Env → Nat → (List PyData → Nat → Prop) → Prop
structure PostL (K : PySem.W.Frag) (F : Hp) (S : Strm) (H : Hp) (vs : List V) (ds : List PyData) (n' : Nat) (H' : Hp) : Prop where
  ext : Ext S n' H H'
  den : DenL K (grow F H H') S vs ds
def tDA (K : PySem.W.Frag) (m : MA) : TA := fun σ H Q => ∃ F S n γ, AgE K F S n H γ σ ∧ ∃ k, m γ n k ∧ ∀ ds n', k ds n' → ∀ vs H', PostL K F S H vs ds n' H' → Q vs H'
abbrev DA (X : Cx) (es : List Expr) (m : MA) : Prop := PA X es (tDA X.K m)
def mNil : MA := fun _ n k => k [] n
def mCons (a : M) (r : MA) : MA := fun γ n k => a γ n fun d n1 => r γ n1 fun ds n2 => k (d :: ds) n2
section
variable {X : Cx} {e : Expr} {es : List Expr} {m : M} {ms : MA}
theorem da_nil : DA X [] mNil := PA.weak pa_nil fun σ H Q h => by
  obtain ⟨F, S, n, γ, ag, k, hm, hQ⟩ := h
  exact hQ [] n hm [] H ⟨ag.fr.ext, .nil⟩
theorem tCons_D {K : PySem.W.Frag} {σ : L2.St} {H : Hp} {Q : List V → Hp → Prop} (h : tDA K (mCons m ms) σ H Q) : tCons (tD K m) (tDA K ms) σ H Q := by
  obtain ⟨F, S, n, γ, ag, k, hm, hQ⟩ := h
  refine ⟨F, S, n, γ, ag, _, hm, fun d n1 hk v H1 p => ?_⟩
  refine ⟨grow F H H1, S, n1, γ, ag.next p.ext, _, hk, fun ds n2 hk2 vs H2 p2 => ?_⟩
  have e : grow (grow F H H1) H1 H2 = grow F H H2 := grow_grow ag.fr p.ext p2.ext
  refine hQ _ _ hk2 _ _ ⟨p.ext.trans p2.ext, ?_⟩
  rw [← e]
  exact .cons (p.den.mono sub_grow) p2.den
theorem da_cons (ha : DE X e m) (hr : DA X es ms) (hs : starEach (e :: es) X.env = (false, eval e X.env) :: starEach es X.env := by rfl) : DA X (e :: es) (mCons m ms) :=
  PA.weak (pa_cons ha hr hs) fun _ _ _ h => tCons_D h
end
abbrev O2 := PyData → PyData → (PyData → Prop) → Prop
def rD (K : PySem.W.Frag) (o : O2) : R2 := fun x y H Q => ∃ F S n dx dy, Fr F S n H ∧ Den K F S x dx ∧ Den K F S y dy ∧ ∃ k, o dx dy k ∧ ∀ d, k d → ∀ v H', Post K F S H v d n H' → Q v H'
def mOp (o : O2) (a b : M) : M := fun γ n k => a γ n fun x n1 => b γ n1 fun y n2 => o x y fun d => k d n2
abbrev O1 := PyData → (PyData → Prop) → Prop
abbrev ON := List PyData → (PyData → Prop) → Prop
def mON (o : ON) (a : MA) : M := fun γ n k => a γ n fun ds n1 => o ds fun d => k d n1
def rDN (K : PySem.W.Frag) (o : ON) : List V → Hp → VK → Prop := fun xs H Q => ∃ F S n ds, Fr F S n H ∧ DenL K F S xs ds ∧ ∃ k, o ds k ∧ ∀ d, k d → ∀ v H', Post K F S H v d n H' → Q v H'
section
variable {X : Cx} {a b : Expr} {ma mb : M} {pos : Pos} {o : O2}
theorem tOp_D {K : PySem.W.Frag} {σ : L2.St} {H : Hp} {Q : VK} (h : tD K (mOp o ma mb) σ H Q) : tOp (rD K o) (tD K ma) (tD K mb) σ H Q := by
  obtain ⟨F, S, n, γ, ag, k, hm, hQ⟩ := h
  refine ⟨F, S, n, γ, ag, _, hm, fun d n1 hk v H1 p => ?_⟩
  refine ⟨grow F H H1, S, n1, γ, ag.next p.ext, _, hk, fun d2 n2 hk2 v2 H2 p2 => ?_⟩
  have ag2 := (ag.next p.ext).next p2.ext
  refine ⟨_, S, n2, d, d2, ag2.fr, p.den.mono sub_grow, p2.den, _, hk2, fun d3 hk3 v3 H3 p3 => ?_⟩
  exact hQ _ _ hk3 _ _ (Post.after ag.fr p.ext (Post.after (ag.next p.ext).fr p2.ext p3))
theorem de_op {op : Operator} (ho : OpR X (binaryOp op) (rD X.K o)) (ha : DE X a ma) (hb : DE X b mb) : DE X (.BinOp a op b pos) (mOp o ma mb) :=
  PE.weak (pe_op ho ha hb) fun _ _ _ h => tOp_D h
theorem de_cmp {op : CmpOp} (ho : OpR X (compareOp op) (rD X.K o)) (ha : DE X a ma) (hb : DE X b mb) (hm : behindInMarks op b = false) : DE X (.Compare a [op] [b] pos) (mOp o ma mb) :=
  PE.weak (pe_cmpR ho ha hb hm) fun _ _ _ h => tOp_D h
theorem tCB_D {K : PySem.W.Frag} {on : ON} {ms : MA} {σ : L2.St} {H : Hp} {Q : VK} (h : tD K (mON on ms) σ H Q) : tCB (rDN K on) (tDA K ms) σ H Q := by
  obtain ⟨F, S, n, γ, ag, k, hm, hQ⟩ := h
  refine ⟨F, S, n, γ, ag, _, hm, fun ds n1 hk vs H1 p => ?_⟩
  refine ⟨grow F H H1, S, n1, ds, (ag.next p.ext).fr, p.den, _, hk, fun d hk2 v H2 p2 => ?_⟩
  exact hQ _ _ hk2 _ _ (Post.after ag.fr p.ext p2)
end
end DL
namespace DL
open PySem PySem.Spec PyProof.Rows L2

section
variable {K : PySem.W.Frag} {F : Hp} {S : Strm} {n : Nat} {H : Hp} {p : Addr} {o : HO}
theorem StrOk.upd_new (h : StrOk S n H) (hp : H p = none) : StrOk S n (upd H p o) := by
  cases S with
  | none => trivial
  | some q =>
    obtain ⟨ne, ns, x, y, z, h1, h2, r⟩ := h
    have n1 : q.1 ≠ p := fun e => by rw [e, hp] at h1; cases h1
    have n2 : q.2 ≠ p := fun e => by rw [e, hp] at h2; cases h2
    exact ⟨ne, ns, x, y, z, by rw [upd_ne n1]; exact h1, by rw [upd_ne n2]; exact h2, r⟩
theorem Kp.upd_new (hp : H p = none) : Kp S H (upd H p o) := fun b u e _ => by
  rw [upd_ne (fun z => by rw [z, hp] at e; cases e)]; exact e
theorem Ext.new (f : Fr F S n H) (hp : H p = none) : Ext S n H (upd H p o) := ⟨Kp.upd_new hp, f.str.upd_new hp⟩
theorem Fr.none (f : Fr F S n H) (hp : H p = none) : F p = none := by
  cases e : F p with
  | none => rfl
  | some u => have := f.sub p u e; rw [hp] at this; cases this
theorem grow_upd (f : Fr F S n H) (hp : H p = none) : grow F H (upd H p o) p = some o := grow_new (f.none hp) hp upd_same
theorem Post.lst {zs : List V} {ds : List PyData} (f : Fr F S n H) (hp : H p = none) (h : DenL K F S zs ds) : Post K F S H (.ref p) (.list ds) n (upd H p (.lst zs)) :=
  ⟨Ext.new f hp, .lst (grow_upd f hp) (h.mono sub_grow)⟩
theorem Post.tup {zs : List V} {ds : List PyData} (f : Fr F S n H) (hp : H p = none) (h : DenL K F S zs ds) : Post K F S H (.ref p) (.tuple ds) n (upd H p (.tup zs)) :=
  ⟨Ext.new f hp, .tup (grow_upd f hp) (h.mono sub_grow)⟩
theorem Post.dK {ob : Obj} {kvs : List (Key × V)} {es : List (Key × PyData)} (f : Fr F S n H) (hp : H p = none) (hk : kvs.map (·.1) = es.map (·.1)) (h : DenL K F S (kvs.map (·.2)) (es.map (·.2))) (ko : (es.all fun e => kOk e.1) = true) : Post K F S H (.ref p) (dkP es) n (upd H p (.frz ob (.dK kvs))) :=
  ⟨Ext.new f hp, .dK (grow_upd f hp) hk (h.mono sub_grow) ko⟩
theorem Post.dT {ob : Obj} {kvs : List (List Key × V)} {es : List (List Key × PyData)} (f : Fr F S n H) (hp : H p = none) (hk : kvs.map (·.1) = es.map (·.1)) (h : DenL K F S (kvs.map (·.2)) (es.map (·.2))) (ko : (es.all fun e => e.1.all kOk) = true) : Post K F S H (.ref p) (dtP es) n (upd H p (.frz ob (.dT kvs))) :=
  ⟨Ext.new f hp, .dT (grow_upd f hp) hk (h.mono sub_grow) ko⟩
end

section
variable {K : PySem.W.Frag} {F : Hp} {S : Strm} {v : V} {d : PyData}
theorem Den.list_inv {ds : List PyData} (h : Den K F S v (.list ds)) : ∃ a xs, v = .ref a ∧ F a = some (.lst xs) ∧ DenL K F S xs ds := by
  cases h with
  | lst h1 h2 => exact ⟨_, _, rfl, h1, h2⟩
theorem Den.tup_inv {ds : List PyData} (h : Den K F S v (.tuple ds)) : ∃ a xs, v = .ref a ∧ F a = some (.tup xs) ∧ DenL K F S xs ds := by
  cases h with
  | tup h1 h2 => exact ⟨_, _, rfl, h1, h2⟩
theorem Den.int_inv {i : Int} (h : Den K F S v (.int i)) : v = .int i := by cases h; rfl
theorem Den.str_inv {x : Str} (h : Den K F S v (.str x)) : v = .str x ∧ PyData.strOk x = true := by cases h with | str x h => exact ⟨rfl, h⟩
theorem Den.bool_inv {b : Bool} (h : Den K F S v (.bool b)) : v = .bl b := by cases h; rfl
theorem Den.none_inv (h : Den K F S v .none) : v = .non := by cases h; rfl
inductive DictInv (K : PySem.W.Frag) (F : Hp) (S : Strm) (v : V) (d : PyData) : Prop
  | dK {a : Addr} {ob : Obj} {kvs : List (Key × V)} {es : List (Key × PyData)} : v = .ref a → d = dkP es → F a = some (.frz ob (.dK kvs)) → kvs.map (·.1) = es.map (·.1) → DenL K F S (kvs.map (·.2)) (es.map (·.2)) → (es.all fun e => kOk e.1) = true → DictInv K F S v d
  | dT {a : Addr} {ob : Obj} {kvs : List (List Key × V)} {es : List (List Key × PyData)} : v = .ref a → d = dtP es → F a = some (.frz ob (.dT kvs)) → kvs.map (·.1) = es.map (·.1) → DenL K F S (kvs.map (·.2)) (es.map (·.2)) → (es.all fun e => e.1.all kOk) = true → DictInv K F S v d
  | ins {a dx : Addr} {C : Str} {fs : List (Str × V)} {es : List (Str × PyData)} : v = .ref a → d = insP C es → F a = some (.ins (He.ga K C) dx fs) → fs.map (·.1) = es.map (·.1) → DenL K F S (fs.map (·.2)) (es.map (·.2)) → DictInv K F S v d
  | strm {p : Addr × Addr} : v = .ref p.1 → d = strmP → S = some p → DictInv K F S v d
  | par {a dx : Addr} {C : Str} {fs gs : List (Str × V)} {es : List (Str × PyData)} : v = .ref a → d = parP C es → F a = some (.ins (He.ga K C) dx fs) → (∀ p ∈ gs, fs.lookup p.1 = some p.2) → gs.map (·.1) = es.map (·.1) → DenL K F S (gs.map (·.2)) (es.map (·.2)) → DictInv K F S v d
theorem Den.dict_inv {es : List (PyData × PyData)} (h : Den K F S v d) (e : d = .dict es) : DictInv K F S v d := by
  cases h with
  | dK h1 h2 h3 h4 => exact .dK rfl rfl h1 h2 h3 h4
  | dT h1 h2 h3 h4 => exact .dT rfl rfl h1 h2 h3 h4
  | ins h1 h2 h3 => exact .ins rfl rfl h1 h2 h3
  | strm h => exact .strm rfl rfl h
  | par h1 h0 h2 h3 => exact .par rfl rfl h1 h0 h2 h3
  | _ => cases e
theorem insP_inj {C C' : Str} {es es' : List (Str × PyData)} (h : insP C es = insP C' es') : C = C' ∧ es = es' := by
  unfold insP at h
  simp only [PyData.dict.injEq, List.cons.injEq, Prod.mk.injEq, PyData.str.injEq, true_and] at h
  refine ⟨h.1, ?_⟩
  have := h.2
  clear h
  induction es generalizing es' with
  | nil => cases es' with
    | nil => rfl
    | cons _ _ => simp at this
  | cons p r ih => cases es' with
    | nil => simp at this
    | cons q r' =>
      simp only [List.map_cons, List.cons.injEq, Prod.mk.injEq, PyData.str.injEq] at this
      obtain ⟨⟨h1, h2⟩, h3⟩ := this
      obtain ⟨p1, p2⟩ := p
      obtain ⟨q1, q2⟩ := q
      simp only at h1 h2
      rw [h1, h2, ih h3]
theorem kP_inj {a b : Key} (h : kP a = kP b) : a = b := by
  cases a <;> cases b <;> simp [kP] at h <;> rw [h]
theorem ktP_inj {a b : List Key} (h : ktP a = ktP b) : a = b := by
  unfold ktP at h
  simp only [PyData.tuple.injEq] at h
  induction a generalizing b with
  | nil => cases b with
    | nil => rfl
    | cons _ _ => simp at h
  | cons x r ih => cases b with
    | nil => simp at h
    | cons y r' =>
      simp only [List.map_cons, List.cons.injEq] at h
      rw [kP_inj h.1, ih h.2]
mutual
def nd : PyData → Bool
  | .dict _ => false
  | .list ds => ndL ds
  | .tuple ds => ndL ds
  | .none => true
  | .bool _ => true
  | .int _ => true
  | .str _ => true
def ndL : List PyData → Bool
  | [] => true
  | d :: ds => nd d && ndL ds
end
mutual
theorem Den.dp : ∀ {v : V} {d : PyData}, Den K F S v d → nd d = true → Dp K F v d ∧ d.canLay0 = true
  | _, _, .non, _ => ⟨.non, rfl⟩
  | _, _, .bl b, _ => ⟨.bl b, rfl⟩
  | _, _, .int i, _ => ⟨.int i, rfl⟩
  | _, _, .str x h, _ => ⟨.str x, by simpa [PyData.canLay0] using h⟩
  | _, _, .lst h1 h2, q => let r := DenL.dp h2 (by simpa [nd] using q); ⟨.lst (SqL.of h1) r.1, by simpa [PyData.canLay0] using r.2⟩
  | _, _, .tup h1 h2, q => let r := DenL.dp h2 (by simpa [nd] using q); ⟨.tup (SqT.of h1) r.1, by simpa [PyData.canLay0] using r.2⟩
  | _, _, .dK h1 h2 h3 _, q => by simp [dkP, nd] at q
  | _, _, .dT h1 h2 h3 _, q => by simp [dtP, nd] at q
  | _, _, .ins h1 h2 h3, q => by simp [insP, nd] at q
  | _, _, .strm h, q => by simp [strmP, nd] at q
  | _, _, .par h1 h0 h2 h3, q => by simp [parP, nd] at q
theorem DenL.dp : ∀ {vs : List V} {ds : List PyData}, DenL K F S vs ds → ndL ds = true → DpAll K F vs ds ∧ PyData.canLayAll0 ds = true
  | _, _, .nil, _ => ⟨.nil, rfl⟩
  | _, _, .cons h1 h2, q => by
    have q := Bool.and_eq_true_iff.mp (show (nd _ && ndL _) = true from q)
    have r1 := Den.dp h1 q.1
    have r2 := DenL.dp h2 q.2
    exact ⟨.cons r1.1 r2.1, by simp [PyData.canLayAll0, r1.2, r2.2]⟩
end
mutual
theorem dp_mono {F' : Hp} (s : Sub F F') : ∀ {v : V} {d : PyData}, Dp K F v d → Dp K F' v d
  | _, _, .non => .non
  | _, _, .bl b => .bl b
  | _, _, .int i => .int i
  | _, _, .str x => .str x
  | _, _, .lst h1 h2 => .lst (h1.elim (fun h => .inl (h.elim (fun h => .inl (s _ _ h)) fun ⟨o, h⟩ => .inr ⟨o, s _ _ h⟩)) .inr) (dpAll_mono s h2)
  | _, _, .tup h1 h2 => .tup (h1.elim (fun h => .inl (h.elim (fun h => .inl (s _ _ h)) fun ⟨o, h⟩ => .inr ⟨o, s _ _ h⟩)) .inr) (dpAll_mono s h2)
theorem dpAll_mono {F' : Hp} (s : Sub F F') : ∀ {vs : List V} {ds : List PyData}, DpAll K F vs ds → DpAll K F' vs ds
  | _, _, .nil => .nil
  | _, _, .cons h1 h2 => .cons (dp_mono s h1) (dpAll_mono s h2)
end
end
def flat (d : PyData) : Bool := nd d && decide (d.depth ≤ 40)
theorem Den.shaped {K : PySem.W.Frag} {F H : Hp} {S : Strm} {v : V} {d : PyData} (s : Sub F H) (h : Den K F S v d) (f : flat d = true) : Dp K H v d ∧ SeqAt.shaped d = true := by
  obtain ⟨f1, f2⟩ := Bool.and_eq_true_iff.mp (show (nd d && decide (d.depth ≤ 40)) = true from f)
  obtain ⟨h1, h2⟩ := h.dp f1
  have := of_decide_eq_true f2
  refine ⟨dp_mono s h1, ?_⟩
  show (d.canLay0 && decide (d.depth ≤ 64)) = true
  rw [h2]
  exact decide_eq_true (by omega)

section
variable {X : Cx}
theorem OpR.weak {f : Value → Value → Sem Value} {r r' : R2} (h : OpR X f r) (w : ∀ x y H Q, r' x y H Q → r x y H Q) : OpR X f r' := fun pins s σ H x y v u Q I rx ry q => h pins s σ H x y v u Q I rx ry (w _ _ _ _ q)
theorem CallR.weak {f : Value} {r r' : List V → Hp → VK → Prop} (h : CallR X f r) (w : ∀ xs H Q, r' xs H Q → r xs H Q) : CallR X f r' := fun pins s σ H xs us Q I rx q => h pins s σ H xs us Q I rx (w _ _ _ q)
def oAdd : O2 := fun x y k => match x, y with
  | .int a, .int b => k (.int (a + b))
  | .str a, .str b => a.length + b.length ≤ sizeLine ∧ k (.str (a ++ b))
  | .list xs, .list ys => xs.length + ys.length ≤ sizeLine ∧ k (.list (xs ++ ys))
  | .tuple xs, .tuple ys => xs ≠ [] ∧ xs.length + ys.length ≤ sizeLine ∧ k (.tuple (xs ++ ys))
  | _, _ => False
theorem strOk_append {x y : Str} (hx : PyData.strOk x = true) (hy : PyData.strOk y = true) : PyData.strOk (x ++ y) = true := by
  unfold PyData.strOk at *
  show (x.cps ++ y.cps).all (· < 0x110000) = true
  rw [Array.all_append, hx, hy]; rfl
theorem op_addD : OpR X (binaryOp .Add) (rD X.K oAdd) := by
  intro pins s σ H x y v u Q I rx ry h
  obtain ⟨F, S, n, dx, dy, fr, hx, hy, k, ho, hQ⟩ := h
  unfold oAdd at ho
  split at ho
  · cases hx.int_inv; cases hy.int_inv
    exact op_add pins s σ H _ _ v u Q I rx ry ⟨_, _, rfl, rfl, hQ _ ho _ _ (Post.here fr (.int _))⟩
  · obtain ⟨ex, ox⟩ := hx.str_inv
    obtain ⟨ey, oy⟩ := hy.str_inv
    subst ex ey
    exact op_add_str pins s σ H _ _ v u Q I rx ry ⟨_, _, rfl, rfl, ho.1, hQ _ ho.2 _ _ (Post.here fr (.str _ (strOk_append ox oy)))⟩
  · obtain ⟨a, xs, rfl, ha, hxs⟩ := hx.list_inv
    obtain ⟨b, ys, rfl, hb, hys⟩ := hy.list_inv
    refine op_cat pins s σ H _ _ v u Q I rx ry ⟨a, b, xs, ys, rfl, rfl, fr.sub _ _ ha, fr.sub _ _ hb, by rw [hxs.length, hys.length]; exact ho.1, fun p hp => hQ _ ho.2 _ _ (Post.lst fr hp (hxs.append hys))⟩
  · obtain ⟨a, xs, rfl, ha, hxs⟩ := hx.tup_inv
    obtain ⟨b, ys, rfl, hb, hys⟩ := hy.tup_inv
    obtain ⟨h1, h2, h3⟩ := ho
    refine op_catT pins s σ H _ _ v u Q I rx ry ⟨a, b, xs, ys, rfl, rfl, SqT.of (fr.sub _ _ ha), SqT.of (fr.sub _ _ hb), ?_, by rw [hxs.length, hys.length]; exact h2, fun z => ?_, fun z p hp => hQ _ h3 _ _ (Post.tup fr hp (hxs.append hys))⟩
    · intro z; subst z; cases hxs; exact h1 rfl
    · subst z; cases hys
      rw [List.append_nil] at h3
      exact hQ _ h3 _ _ (Post.here fr hx)
  · exact ho.elim
def oI (C : Int → Int → Prop) (g : Int → Int → PyData) : O2 := fun x y k => match x, y with
  | .int a, .int b => C a b ∧ k (g a b)
  | _, _ => False
theorem op_intD {f : Value → Value → Sem Value} {C : Int → Int → Prop} {g : Int → Int → PyData} {gv : Int → Int → V} (h : OpR X f (rI C gv)) (hg : ∀ K F S a b, Den K F S (gv a b) (g a b)) : OpR X f (rD X.K (oI C g)) := by
  intro pins s σ H x y v u Q I rx ry q
  obtain ⟨F, S, n, dx, dy, fr, hx, hy, k, ho, hQ⟩ := q
  unfold oI at ho
  split at ho
  · cases hx.int_inv; cases hy.int_inv
    exact h pins s σ H _ _ v u Q I rx ry ⟨_, _, rfl, rfl, ho.1, hQ _ ho.2 _ _ (Post.here fr (hg _ _ _ _ _))⟩
  · exact ho.elim
theorem opI_of {f : Value → Value → Sem Value} {g : Int → Int → V} (h : OpR X f (rI0 g)) : OpR X f (rI (fun _ _ => True) g) := OpR.weak h fun x y H Q ⟨i, j, e1, e2, _, q⟩ => ⟨i, j, e1, e2, q⟩
abbrev oSub : O2 := oI (fun _ _ => True) fun a b => .int (a - b)
theorem op_subD : OpR X (binaryOp .Sub) (rD X.K oSub) := op_intD (opI_of op_sub) fun _ _ _ _ _ => .int _
abbrev oMod : O2 := oI (fun _ b => 0 < b) fun a b => .int (a % b)
theorem op_modD : OpR X (binaryOp .Mod) (rD X.K oMod) := op_intD op_mod fun _ _ _ _ _ => .int _
abbrev oDiv : O2 := oI CDiv fun a b => .int (a / b)
theorem op_divD : OpR X (binaryOp .FloorDiv) (rD X.K oDiv) := op_intD op_fdiv fun _ _ _ _ _ => .int _
def oMul : O2 := fun x y k => match x, y with
  | .int a, .int b => CMul a b ∧ k (.int (a * b))
  | .list xs, .int b => -(2 ^ 63) ≤ b ∧ b < 2 ^ 63 ∧ xs.length * b.toNat ≤ sizeLine ∧ k (.list (List.replicate b.toNat xs).flatten)
  | _, _ => False
abbrev oLtI : O2 := oI (fun _ _ => True) fun a b => .bool (decide (a < b))
def oLt : O2 := fun x y k => match x, y with
  | .int a, .int b => k (.bool (decide (a < b)))
  | .str a, .str b => k (.bool (decide (a.cps.toList < b.cps.toList)))
  | _, _ => False
theorem op_ltD : OpR X (compareOp .Lt) (rD X.K oLt) := by
  intro pins s σ H x y v u Q I rx ry h
  obtain ⟨F, S, n, dx, dy, fr, hx, hy, k, ho, hQ⟩ := h
  unfold oLt at ho
  split at ho
  · cases hx.int_inv; cases hy.int_inv
    exact op_lt pins s σ H _ _ v u Q I rx ry ⟨_, _, rfl, rfl, hQ _ ho _ _ (Post.here fr (.bl _))⟩
  · obtain ⟨ex, ox⟩ := hx.str_inv
    obtain ⟨ey, oy⟩ := hy.str_inv
    subst ex ey
    exact op_lt_str pins s σ H _ _ v u Q I rx ry ⟨_, _, rfl, rfl, hQ _ ho _ _ (Post.here fr (.bl _))⟩
  · exact ho.elim
abbrev oLe : O2 := oI (fun _ _ => True) fun a b => .bool (decide (a ≤ b))
abbrev oGt : O2 := oI (fun _ _ => True) fun a b => .bool (decide (b < a))
abbrev oGe : O2 := oI (fun _ _ => True) fun a b => .bool (decide (b ≤ a))
theorem op_leD : OpR X (compareOp .LtE) (rD X.K oLe) := op_intD (opI_of op_le) fun _ _ _ _ _ => .bl _
theorem op_gtD : OpR X (compareOp .Gt) (rD X.K oGt) := op_intD (opI_of op_gt) fun _ _ _ _ _ => .bl _
theorem op_geD : OpR X (compareOp .GtE) (rD X.K oGe) := op_intD (opI_of op_ge) fun _ _ _ _ _ => .bl _
def oEq : O2 := fun x y k => flat x = true ∧ flat y = true ∧ k (.bool (PyData.eqv x y))
def oNe : O2 := fun x y k => flat x = true ∧ flat y = true ∧ k (.bool (!PyData.eqv x y))
theorem op_eqDD (hu : X.A.units + 64 < cLine) : OpR X (compareOp .Eq) (rD X.K oEq) := by
  intro pins s σ H x y v u Q I rx ry h
  obtain ⟨F, S, n, dx, dy, fr, hx, hy, k, ⟨f1, f2, ho⟩, hQ⟩ := h
  obtain ⟨p1, s1⟩ := hx.shaped fr.sub f1
  obtain ⟨p2, s2⟩ := hy.shaped fr.sub f2
  exact op_eqD hu pins s σ H x y v u Q I rx ry ⟨dx, dy, p1, p2, s1, s2, hQ _ ho _ _ (Post.here fr (.bl _))⟩
theorem op_neDD (hu : X.A.units + 64 < cLine) : OpR X (compareOp .NotEq) (rD X.K oNe) := by
  intro pins s σ H x y v u Q I rx ry h
  obtain ⟨F, S, n, dx, dy, fr, hx, hy, k, ⟨f1, f2, ho⟩, hQ⟩ := h
  obtain ⟨p1, s1⟩ := hx.shaped fr.sub f1
  obtain ⟨p2, s2⟩ := hy.shaped fr.sub f2
  exact op_neD hu pins s σ H x y v u Q I rx ry ⟨dx, dy, p1, p2, s1, s2, hQ _ ho _ _ (Post.here fr (.bl _))⟩
def isNone : PyData → Bool
  | .none => true
  | _ => false
def oIsN : O2 := fun x y k => match y with
  | .none => k (.bool (isNone x))
  | _ => False
def oNotN : O2 := fun x y k => match y with
  | .none => k (.bool (!isNone x))
  | _ => False
theorem isNone_den {K : PySem.W.Frag} {F : Hp} {S : Strm} {v : V} {d : PyData} (h : Den K F S v d) : decide (v = .non) = isNone d := by
  cases h <;> first | rfl | (simp [isNone, dkP, dtP, insP, strmP])
theorem op_isND : OpR X (compareOp .Is) (rD X.K oIsN) := by
  intro pins s σ H x y v u Q I rx ry h
  obtain ⟨F, S, n, dx, dy, fr, hx, hy, k, ho, hQ⟩ := h
  unfold oIsN at ho
  split at ho
  · cases hy.none_inv
    refine op_isN pins s σ H _ _ v u Q I rx ry ⟨rfl, ?_⟩
    rw [isNone_den hx]
    exact hQ _ ho _ _ (Post.here fr (.bl _))
  · exact ho.elim
theorem op_notND : OpR X (compareOp .IsNot) (rD X.K oNotN) := by
  intro pins s σ H x y v u Q I rx ry h
  obtain ⟨F, S, n, dx, dy, fr, hx, hy, k, ho, hQ⟩ := h
  unfold oNotN at ho
  split at ho
  · cases hy.none_inv
    refine op_notN pins s σ H _ _ v u Q I rx ry ⟨rfl, ?_⟩
    rw [isNone_den hx]
    exact hQ _ ho _ _ (Post.here fr (.bl _))
  · exact ho.elim
end
end DL
namespace DL
open PySem PySem.Spec PyProof.Rows L2

def valP {κ : Type} [DecidableEq κ] (es : List (κ × PyData)) (k : κ) : Option PyData := (es.find? fun e => decide (e.1 = k)).map (·.2)
theorem val_den {κ : Type} [DecidableEq κ] {K : PySem.W.Frag} {F : Hp} {S : Strm} {k : κ} : ∀ {kvs : List (κ × V)} {es : List (κ × PyData)}, kvs.map (·.1) = es.map (·.1) → DenL K F S (kvs.map (·.2)) (es.map (·.2)) →
    (∃ v d, valV kvs k = some v ∧ valP es k = some d ∧ Den K F S v d) ∨ (valV kvs k = none ∧ valP es k = none)
  | [], [], _, _ => .inr ⟨rfl, rfl⟩
  | [], _ :: _, h, _ => by simp at h
  | _ :: _, [], h, _ => by simp at h
  | (a, v) :: r, (b, d) :: t, h, hd => by
    simp only [List.map_cons, List.cons.injEq] at h
    obtain ⟨rfl, h⟩ := h
    cases hd with
    | cons h1 h2 =>
      by_cases e : a = k
      · exact .inl ⟨v, d, valV_pos e, by unfold valP; rw [List.find?_cons]; simp [e], h1⟩
      · have q := val_den (k := k) h h2
        rw [valV_neg (p := (a, v)) e]
        have e2 : valP ((a, d) :: t) k = valP t k := by unfold valP; rw [List.find?_cons]; simp [e]
        rw [e2]
        exact q
def noNone (es : List (PyData × PyData)) : Bool := es.all fun e => !isNone e.1
def lookP (es : List (PyData × PyData)) (y : PyData) : Option PyData := (es.find? fun e => PyData.eqv e.1 y).map (·.2)
def toKey : PyData → Option Key
  | .int i => some (.inl i)
  | .str x => some (.inr x)
  | _ => none
def toKeys : List PyData → Option (List Key)
  | [] => some []
  | d :: ds => match toKey d, toKeys ds with
    | some k, some ks => some (k :: ks)
    | _, _ => none
def toKT : PyData → Option (List Key)
  | .tuple ds => toKeys ds
  | _ => none
theorem toKey_eq {d : PyData} {k : Key} (h : toKey d = some k) : d = kP k := by
  cases d <;> simp [toKey] at h <;> subst h <;> rfl
theorem toKeys_eq : ∀ {ds : List PyData} {ks : List Key}, toKeys ds = some ks → ds = ks.map kP
  | [], ks, h => by simp [toKeys] at h; subst h; rfl
  | d :: ds, ks, h => by
    unfold toKeys at h
    split at h
    · rename_i k ks' h1 h2
      simp at h; subst h
      rw [toKey_eq h1, toKeys_eq h2]; rfl
    · cases h
theorem toKT_eq {d : PyData} {ks : List Key} (h : toKT d = some ks) : d = ktP ks := by
  unfold toKT at h
  split at h
  · rw [toKeys_eq h]; rfl
  · cases h
theorem eqv_kP (a b : Key) : PyData.eqv (kP a) (kP b) = decide (a = b) := by
  cases a <;> cases b <;> simp [kP, PyData.eqv]
  · rename_i i j
    by_cases e : i = j <;> simp [e]
  · rename_i i j
    by_cases e : i = j <;> simp [e]
theorem eqvAll_kP : ∀ a b : List Key, PyData.eqvAll (a.map kP) (b.map kP) = decide (a = b)
  | [], [] => by simp [PyData.eqvAll]
  | [], _ :: _ => by simp [PyData.eqvAll]
  | _ :: _, [] => by simp [PyData.eqvAll]
  | x :: xs, y :: ys => by
    simp only [List.map_cons, PyData.eqvAll, eqv_kP, eqvAll_kP xs ys]
    by_cases e : x = y <;> by_cases e2 : xs = ys <;> simp [e, e2]
theorem eqv_ktP (a b : List Key) : PyData.eqv (ktP a) (ktP b) = decide (a = b) := by
  unfold ktP
  simp only [PyData.eqv]
  exact eqvAll_kP a b
theorem look_dk (es : List (Key × PyData)) (k : Key) : lookP (es.map fun p => (kP p.1, p.2)) (kP k) = valP es k := by
  unfold lookP valP
  induction es with
  | nil => rfl
  | cons p r ih =>
    rw [List.map_cons, List.find?_cons, List.find?_cons, eqv_kP]
    by_cases e : p.1 = k
    · simp [e]
    · simp only [e, decide_false]
      exact ih
theorem look_dt (es : List (List Key × PyData)) (k : List Key) : lookP (es.map fun p => (ktP p.1, p.2)) (ktP k) = valP es k := by
  unfold lookP valP
  induction es with
  | nil => rfl
  | cons p r ih =>
    rw [List.map_cons, List.find?_cons, List.find?_cons, eqv_ktP]
    by_cases e : p.1 = k
    · simp [e]
    · simp only [e, decide_false]
      exact ih
inductive DAt (K : PySem.W.Frag) (F : Hp) (S : Strm) (H : Hp) (x y : V) (es : List (PyData × PyData)) (dy : PyData) : Prop
  | mk {a : Addr} {o : Option V} : x = .ref a → DGet H a y o → ((∃ v d, o = some v ∧ lookP es dy = some d ∧ Den K F S v d) ∨ (o = none ∧ lookP es dy = none)) → DAt K F S H x y es dy
theorem Rd.sub {F H : Hp} (s : Sub F H) {a : Addr} {u : HO} (h : Rd F a u) : Rd H a u := h.elim (fun h => .inl (s _ _ h)) fun ⟨o, h⟩ => .inr ⟨o, s _ _ h⟩
theorem denL_kV {K : PySem.W.Frag} {F : Hp} {S : Strm} : ∀ {xs : List V} {ks : List Key}, DenL K F S xs (ks.map kP) → xs = ks.map kV
  | [], [], _ => rfl
  | _ :: _, [], h => by cases h
  | [], _ :: _, h => by cases h
  | x :: xs, k :: ks, h => by
    cases h with
    | cons h1 h2 =>
      rw [denL_kV h2]
      cases k with
      | inl i => cases (show Den K F S x (.int i) from h1); rfl
      | inr z => cases (show Den K F S x (.str z) from h1); rfl
def keyFit (es : List (PyData × PyData)) (y : PyData) : Bool := match es with
  | [] => false
  | (e, _) :: _ => ((toKey e).isSome && (toKey y).isSome) || ((toKT e).isSome && (toKT y).isSome)
theorem toKey_kP (k : Key) : toKey (kP k) = some k := by cases k <;> rfl
theorem toKT_kP (k : Key) : toKT (kP k) = none := by cases k <;> rfl
theorem toKey_ktP (k : List Key) : toKey (ktP k) = none := rfl
theorem dAt_of {K : PySem.W.Frag} {F H : Hp} {S : Strm} {x y : V} {es : List (PyData × PyData)} {dy : PyData} (s : Sub F H) (hx : Den K F S x (.dict es)) (hy : Den K F S y dy) (hn : noNone es = true) (hk : keyFit es dy = true) : DAt K F S H x y es dy := by
  rcases hx.dict_inv rfl with ⟨ex, ed, h1, h2, h3, hko⟩ | ⟨ex, ed, h1, h2, h3, hko⟩ | ⟨ex, ed, h1, h2, h3⟩ | ⟨ex, ed, h1⟩ | ⟨ex, ed, h1, h0, h2, h3⟩
  · rename_i a ob kvs es0
    unfold dkP at ed
    injection ed with ed
    subst ed
    have hk2 : ∃ k, toKey dy = some k := by
      cases es0 with
      | nil => cases hk
      | cons p r =>
        simp only [List.map_cons, keyFit, toKT_kP, toKey_kP, Option.isSome_some, Bool.true_and, Option.isSome_none, Bool.false_and, Bool.or_false] at hk
        exact Option.isSome_iff_exists.mp hk
    obtain ⟨k, hk2⟩ := hk2
    have e := toKey_eq hk2
    subst e
    have ey : y = kV k := by
      cases k with
      | inl i => cases (show Den K F S y (.int i) from hy); rfl
      | inr z => cases (show Den K F S y (.str z) from hy); rfl
    subst ey
    refine .mk ex (.inl ⟨kvs, k, .inr ⟨_, s _ _ h1⟩, rfl, rfl⟩) ?_
    rw [look_dk]
    exact val_den h2 h3
  · rename_i a ob kvs es0
    unfold dtP at ed
    injection ed with ed
    subst ed
    have hk2 : ∃ k, toKT dy = some k := by
      cases es0 with
      | nil => cases hk
      | cons p r =>
        simp only [List.map_cons, keyFit, toKey_ktP, Option.isSome_none, Bool.false_and, Bool.false_or, Bool.and_eq_true] at hk
        exact Option.isSome_iff_exists.mp hk.2
    obtain ⟨k, hk2⟩ := hk2
    have e := toKT_eq hk2
    subst e
    obtain ⟨b, xs, rfl, hb, hxs⟩ := (show Den K F S y (.tuple (k.map kP)) from hy).tup_inv
    have := denL_kV hxs
    subst this
    refine .mk ex (.inr ⟨kvs, k, b, .inr ⟨_, s _ _ h1⟩, rfl, s _ _ hb, rfl⟩) ?_
    rw [look_dt]
    exact val_den h2 h3
  · unfold insP at ed
    injection ed with ed
    subst ed
    simp [noNone, isNone] at hn
  · unfold strmP at ed
    injection ed with ed
    subst ed
    simp [noNone, isNone] at hn
  · unfold parP at ed
    injection ed with ed
    subst ed
    simp [noNone, isNone] at hn
theorem dict_emp {K : PySem.W.Frag} {F : Hp} {S : Strm} {x : V} (hx : Den K F S x (.dict [])) : ∃ a, x = .ref a ∧ (Rd F a (.dK []) ∨ Rd F a (.dT [])) := by
  rcases hx.dict_inv rfl with ⟨ex, ed, h1, h2, h3, hko⟩ | ⟨ex, ed, h1, h2, h3, hko⟩ | ⟨ex, ed, h1, h2, h3⟩ | ⟨ex, ed, h1⟩ | ⟨ex, ed, h1, h0, h2, h3⟩
  · rename_i a ob kvs es0
    unfold dkP at ed
    injection ed with ed
    cases es0 with
    | cons _ _ => simp at ed
    | nil =>
      cases kvs with
      | cons _ _ => simp at h2
      | nil => exact ⟨a, ex, .inl (.inr ⟨_, h1⟩)⟩
  · rename_i a ob kvs es0
    unfold dtP at ed
    injection ed with ed
    cases es0 with
    | cons _ _ => simp at ed
    | nil =>
      cases kvs with
      | cons _ _ => simp at h2
      | nil => exact ⟨a, ex, .inr (.inr ⟨_, h1⟩)⟩
  · unfold insP at ed; simp at ed
  · unfold strmP at ed; simp at ed
  · unfold parP at ed; simp at ed
theorem den_key {K : PySem.W.Frag} {F : Hp} {S : Strm} {y : V} {dy : PyData} {k : Key} (hy : Den K F S y dy) (hk : toKey dy = some k) : y = kV k := by
  have e := toKey_eq hk
  subst e
  cases k with
  | inl i => cases (show Den K F S y (.int i) from hy); rfl
  | inr z => cases (show Den K F S y (.str z) from hy); rfl
theorem den_kt {K : PySem.W.Frag} {F : Hp} {S : Strm} {y : V} {dy : PyData} {ks : List Key} (hy : Den K F S y dy) (hk : toKT dy = some ks) : ∃ b, y = .ref b ∧ F b = some (.tup (ks.map kV)) := by
  have e := toKT_eq hk
  subst e
  obtain ⟨b, xs, rfl, hb, hxs⟩ := (show Den K F S y (.tuple (ks.map kP)) from hy).tup_inv
  have := denL_kV hxs
  subst this
  exact ⟨b, rfl, hb⟩
section
variable {X : Cx} {pins : List (Addr × Obj)} {σ : L2.St} {H : Hp} {s : Shared} {a : Addr} {y : V} {u : Value} {A : Around} {E : Value → Shared → Prop}
theorem emp_K {P : Program} {w : World} {h : Heap} (ok : HOk P w H h) (e : Rd H a (.dK []) ∨ Rd H a (.dT [])) : (a == sysModules) = false ∧ h.DictOf (mixKind P w) a [] ∧ h.DictOfH (tupleKind (mixKind P w)) a [] := by
  rcases e with e | e
  · obtain ⟨z, hd, vs, rel, dd⟩ := dk_rd ok e
    cases rel
    refine ⟨hd, dd, ?_⟩
    obtain ⟨o, es, ep, h1, h2, h3, h4, h5, h6⟩ := dd
    cases h : es.toList with
    | nil => exact ⟨o, es, ep, h1, h2, h3, h, (by intro x hx; cases hx), List.nodup_nil⟩
    | cons _ _ => rw [h] at h5; cases h5
  · obtain ⟨z, hd, xs, rel, dd⟩ := dt_rd ok e
    cases rel
    refine ⟨hd, ?_, dd⟩
    obtain ⟨o, es, ep, h1, h2, h3, h4, h5, h6⟩ := dd
    have h4 : es.toList = [] := h4
    refine ⟨o, es, ep, h1, h2, h3, fun e he => ?_, by rw [h4]; exact .nil, List.nodup_nil⟩
    have : e ∈ es.toList := by simpa using he
    rw [h4] at this; cases this
theorem d_inEmp (hu : A.units + 1 < cLine) (I : Inv X pins σ H s) (e : Rd H a (.dK []) ∨ Rd H a (.dT [])) (hy : (∃ k, y = kV k) ∨ ∃ (b : Addr) (k : List Key), y = .ref b ∧ H b = some (.tup (k.map kV))) (ry : RelV y u) {Q : Value → Shared → Prop} (h : ∀ s', Inv X pins σ H s' → Q (.bool false) s') :
    wpAny (model X.prog X.w) A (compareOp .In u (.ref a)) Q E s := by
  obtain ⟨hd, d1, d2⟩ := emp_K I.hok e
  rcases hy with ⟨k, rfl⟩ | ⟨b, k, rfl, hb⟩
  · exact wpAny_in_of (kV_is ry) hd d1.mapOf (h _ (I.tok _))
  · cases (show u = Value.ref b from ry)
    exact wpAny_in_heap (tupleKind_room_in1 hu) (key_of I.hok hb) hd d2 (h _ (I.tok _))
theorem d_notInEmp (hu : A.units + 1 < cLine) (I : Inv X pins σ H s) (e : Rd H a (.dK []) ∨ Rd H a (.dT [])) (hy : (∃ k, y = kV k) ∨ ∃ (b : Addr) (k : List Key), y = .ref b ∧ H b = some (.tup (k.map kV))) (ry : RelV y u) {Q : Value → Shared → Prop} (h : ∀ s', Inv X pins σ H s' → Q (.bool true) s') :
    wpAny (model X.prog X.w) A (compareOp .NotIn u (.ref a)) Q E s := by
  obtain ⟨hd, d1, d2⟩ := emp_K I.hok e
  rcases hy with ⟨k, rfl⟩ | ⟨b, k, rfl, hb⟩
  · exact wpAny_notIn_of (kV_is ry) hd d1.mapOf (h _ (I.tok _))
  · cases (show u = Value.ref b from ry)
    exact wpAny_notIn_heap (tupleKind_room_in1 hu) (key_of I.hok hb) hd d2 (h _ (I.tok _))
end

def allStr : List PyData → Bool
  | [] => true
  | .str _ :: r => allStr r
  | _ :: _ => false
def isStr : PyData → Bool
  | .str _ => true
  | _ => false
def inB (x y : PyData) : Bool := match y with
  | .list ds => ds.any fun z => PyData.eqv z x
  | .tuple ds => ds.any fun z => PyData.eqv z x
  | .dict es => (lookP es x).isSome
  | _ => false
def oInB (g : Bool → Bool) : O2 := fun x y k => match y with
  | .list ds => flat x = true ∧ flat (.list ds) = true ∧ k (.bool (g (inB x y)))
  | .tuple ds => isStr x = true ∧ allStr ds = true ∧ k (.bool (g (inB x y)))
  | .dict [] => ((toKey x).isSome || (toKT x).isSome) = true ∧ k (.bool (g false))
  | .dict (e :: es) => noNone (e :: es) = true ∧ keyFit (e :: es) x = true ∧ k (.bool (g (inB x y)))
  | .str z => match x with
    | .str a => match a.cps.toList with
      | [c] => k (.bool (g (decide (c ∈ z.cps.toList))))
      | _ => False
    | _ => False
  | _ => False
abbrev oIn : O2 := oInB id
abbrev oNotIn : O2 := oInB not
section
variable {X : Cx} {K : PySem.W.Frag} {F : Hp} {S : Strm}
theorem den_allStr : ∀ {xs : List V} {ds : List PyData}, DenL K F S xs ds → allStr ds = true → xs.all flatV = true
  | _, _, .nil, _ => rfl
  | _, _, .cons (v := v) (d := d) h1 h2, q => by
    cases d with
    | str z =>
      cases (show Den K F S v (.str z) from h1)
      rw [List.all_cons, den_allStr h2 q]; rfl
    | _ => cases q
theorem inV_any {x : V} {a : Str} (hx : x = .str a) : ∀ {xs : List V} {ds : List PyData}, DenL K F S xs ds → allStr ds = true → inV x xs = ds.any fun z => PyData.eqv z (.str a)
  | _, _, .nil, _ => rfl
  | _, _, .cons (v := v) (d := d) h1 h2, q => by
    cases d with
    | str z =>
      cases (show Den K F S v (.str z) from h1)
      have ih := inV_any hx h2 q
      unfold inV at ih ⊢
      rw [List.any_cons, List.any_cons, ih, hx]
      rfl
    | _ => cases q
theorem op_inB (neg : Bool) {op : CmpOp} (hop : op = if neg then .NotIn else .In) (hu : X.A.units + 65 < cLine) : OpR X (compareOp op) (rD X.K (oInB (if neg then not else id))) := by
  intro pins s σ H x y v u Q I rx ry h
  obtain ⟨F, S, n, dx, dy, fr, hx, hy, k, ho, hQ⟩ := h
  unfold oInB at ho
  split at ho
  · obtain ⟨f1, f2, ho⟩ := ho
    obtain ⟨p1, s1⟩ := hx.shaped fr.sub f1
    obtain ⟨p2, s2⟩ := hy.shaped fr.sub f2
    cases neg with
    | false => subst hop; exact op_inD hu pins s σ H x y v u Q I rx ry ⟨dx, _, p1, p2, s1, s2, hQ _ ho _ _ (Post.here fr (.bl _))⟩
    | true => subst hop; exact op_notInD hu pins s σ H x y v u Q I rx ry ⟨dx, _, p1, p2, s1, s2, hQ _ ho _ _ (Post.here fr (.bl _))⟩
  · obtain ⟨f1, f2, ho⟩ := ho
    rename_i ds
    cases dx with
    | str a =>
      cases hx.str_inv.1
      obtain ⟨b, ys, rfl, hb, hys⟩ := hy.tup_inv
      have e := inV_any rfl hys f2 (x := .str a)
      have fl := den_allStr hys f2
      cases neg with
      | false =>
        subst hop
        refine op_in_seq pins s σ H _ _ v u Q I rx ry ⟨b, ys, rfl, .inr (SqT.of (fr.sub _ _ hb)), rfl, fl, ?_⟩
        rw [e]
        exact hQ _ ho _ _ (Post.here fr (.bl _))
      | true =>
        subst hop
        refine op_notIn_seq pins s σ H _ _ v u Q I rx ry ⟨b, ys, rfl, .inr (SqT.of (fr.sub _ _ hb)), rfl, fl, ?_⟩
        rw [e]
        exact hQ _ ho _ _ (Post.here fr (.bl _))
    | _ => cases f1
  · obtain ⟨f1, ho⟩ := ho
    obtain ⟨a, ex, he⟩ := dict_emp hy
    have he' : Rd H a (.dK []) ∨ Rd H a (.dT []) := he.elim (fun h => .inl (Rd.sub fr.sub h)) fun h => .inr (Rd.sub fr.sub h)
    have hk : (∃ k, x = kV k) ∨ ∃ (b : Addr) (k : List Key), x = .ref b ∧ H b = some (.tup (k.map kV)) := by
      rcases Bool.or_eq_true_iff.mp f1 with f1 | f1
      · obtain ⟨k, hk⟩ := Option.isSome_iff_exists.mp f1
        exact .inl ⟨k, den_key hx hk⟩
      · obtain ⟨k, hk⟩ := Option.isSome_iff_exists.mp f1
        obtain ⟨b, e1, e2⟩ := den_kt hx hk
        exact .inr ⟨b, k, e1, fr.sub _ _ e2⟩
    subst ex
    obtain rfl : u = Value.ref a := ry
    cases neg with
    | false =>
      subst hop
      exact d_inEmp (by omega) I he' hk rx fun s' I' => ⟨.bl false, H, I', rfl, hQ _ ho _ _ (Post.here fr (.bl _))⟩
    | true =>
      subst hop
      exact d_notInEmp (by omega) I he' hk rx fun s' I' => ⟨.bl true, H, I', rfl, hQ _ ho _ _ (Post.here fr (.bl _))⟩
  · obtain ⟨f1, f2, ho⟩ := ho
    obtain ⟨ex, g, r⟩ := dAt_of (H := H) fr.sub hy hx f1 f2
    rename_i e0 es0 a o
    subst ex
    obtain rfl : u = Value.ref a := ry
    have eo : o.isSome = inB dx (.dict (e0 :: es0)) := by
      rcases r with ⟨v, d, e1, e2, _⟩ | ⟨e1, e2⟩
      · show _ = (lookP _ dx).isSome; rw [e1, e2]; rfl
      · show _ = (lookP _ dx).isSome; rw [e1, e2]; rfl
    cases neg with
    | false =>
      subst hop
      refine d_in (by omega) I g rx fun s' I' => ⟨.bl o.isSome, H, I', rfl, ?_⟩
      rw [eo]; exact hQ _ ho _ _ (Post.here fr (.bl _))
    | true =>
      subst hop
      refine d_notIn (by omega) I g rx fun s' I' => ⟨.bl (!o.isSome), H, I', rfl, ?_⟩
      rw [eo]; exact hQ _ ho _ _ (Post.here fr (.bl _))
  · split at ho
    · rename_i z _ a
      split at ho
      · rename_i c ec
        cases hx.str_inv.1
        cases hy.str_inv.1
        have ea : a = ⟨#[c]⟩ := by
          cases a with
          | mk cps => congr; exact Array.toList_inj.mp ec
        subst ea
        cases neg with
        | false => subst hop; exact op_in_sign pins s σ H _ _ v u Q I rx ry ⟨c, z, rfl, rfl, hQ _ ho _ _ (Post.here fr (.bl _))⟩
        | true => subst hop; exact op_notIn_sign pins s σ H _ _ v u Q I rx ry ⟨c, z, rfl, rfl, hQ _ ho _ _ (Post.here fr (.bl _))⟩
      · exact ho.elim
    · exact ho.elim
  · exact ho.elim
theorem op_inDD (hu : X.A.units + 65 < cLine) : OpR X (compareOp .In) (rD X.K oIn) := op_inB false rfl hu
theorem op_notInDD (hu : X.A.units + 65 < cLine) : OpR X (compareOp .NotIn) (rD X.K oNotIn) := op_inB true rfl hu

def oIx : O2 := fun x y k => match x with
  | .list ds => match y with
    | .int i => ∃ d, atI ds i = some d ∧ k d
    | _ => False
  | .tuple ds => match y with
    | .int i => ∃ d, atI ds i = some d ∧ k d
    | _ => False
  | .str z => match y with
    | .int i => z.length ≤ sizeLine ∧ ∃ c, atI z.cps.toList i = some c ∧ k (.str ⟨#[c]⟩)
    | _ => False
  | .dict es => noNone es = true ∧ keyFit es y = true ∧ ∃ d, lookP es y = some d ∧ k d
  | _ => False
theorem atI_den {xs : List V} {ds : List PyData} (h : DenL K F S xs ds) {i : Int} {d : PyData} (e : atI ds i = some d) : ∃ v, atI xs i = some v ∧ Den K F S v d := by
  unfold atI at e ⊢
  rw [h.length]
  cases q : ixN ds.length i with
  | none => rw [q] at e; cases e
  | some j =>
    rw [q] at e
    exact h.get e
theorem ix_dict (hu : X.A.units + 1 < cLine) : IxR X (fun x y H Q => ∃ a v, x = .ref a ∧ DGet H a y (some v) ∧ Q v H) := by
  intro value slice pins s σ H x y v u Q I rx ry h hs
  obtain ⟨a, w, rfl, g, q⟩ := h
  cases rx
  exact tail_any (dict_typeIs I g) PySem.F.slot_dict_getitem.lookup (d_getItem hu I g ry fun w' s3 I3 rw' => ⟨w, H, I3, rw', q⟩) hs
theorem ixD (hu : X.A.units + 1 < cLine) : IxR X (rD X.K oIx) := by
  intro value slice pins s σ H x y v u Q I rx ry h hs
  obtain ⟨F, S, n, dx, dy, fr, hx, hy, k, ho, hQ⟩ := h
  unfold oIx at ho
  split at ho
  · split at ho
    · obtain ⟨a, xs, rfl, ha, hxs⟩ := hx.list_inv
      cases hy.int_inv
      obtain ⟨d, e, ho⟩ := ho
      obtain ⟨w, ew, hw⟩ := atI_den hxs e
      exact ix_list value slice pins s σ H _ _ v u Q I rx ry ⟨a, xs, _, w, rfl, rfl, SqL.of (fr.sub _ _ ha), ew, hQ _ ho _ _ (Post.here fr hw)⟩ hs
    · exact ho.elim
  · split at ho
    · obtain ⟨a, xs, rfl, ha, hxs⟩ := hx.tup_inv
      cases hy.int_inv
      obtain ⟨d, e, ho⟩ := ho
      obtain ⟨w, ew, hw⟩ := atI_den hxs e
      exact ix_tup value slice pins s σ H _ _ v u Q I rx ry ⟨a, xs, _, w, rfl, rfl, SqT.of (fr.sub _ _ ha), ew, hQ _ ho _ _ (Post.here fr hw)⟩ hs
    · exact ho.elim
  · split at ho
    · obtain ⟨ez, oz⟩ := hx.str_inv
      subst ez
      cases hy.int_inv
      obtain ⟨hz, c, e, ho⟩ := ho
      refine ix_str value slice pins s σ H _ _ v u Q I rx ry ⟨_, _, c, rfl, rfl, hz, e, hQ _ ho _ _ (Post.here fr (.str _ ?_))⟩ hs
      obtain ⟨j, _, h2, _⟩ := atI_get e
      unfold PyData.strOk at oz ⊢
      have hc := List.mem_of_getElem? h2
      rw [← Array.all_toList] at oz
      have := List.all_eq_true.mp oz c hc
      simpa using this
    · exact ho.elim
  · obtain ⟨f1, f2, d, e, ho⟩ := ho
    obtain ⟨ex, g, r⟩ := dAt_of (H := H) fr.sub hx hy f1 f2
    rename_i a o
    rcases r with ⟨w, d', e1, e2, hw⟩ | ⟨e1, e2⟩
    · rw [e] at e2
      cases e2
      subst e1
      exact ix_dict hu value slice pins s σ H _ _ v u Q I rx ry ⟨a, w, ex, g, hQ _ ho _ _ (Post.here fr hw)⟩ hs
    · rw [e] at e2; cases e2
  · exact ho.elim
theorem de_ix {a b : Expr} {ma mb : M} {pos : Pos} (hu : X.A.units + 1 < cLine) (ha : DE X a ma) (hb : DE X b mb) (hs : PlainIx b) : DE X (.Subscript a b pos) (mOp oIx ma mb) :=
  PE.weak (pe_ix (ixD hu) ha hb hs) fun _ _ _ h => tOp_D h

def cutP {α : Type} (xs : List α) (lo hi : Option Int) : List α := (xs.drop (HT.sIx xs.length 0 lo)).take (HT.sIx xs.length xs.length hi - HT.sIx xs.length 0 lo)
theorem DenL.drop : ∀ (n : Nat) {vs : List V} {ds : List PyData}, DenL K F S vs ds → DenL K F S (vs.drop n) (ds.drop n)
  | 0, _, _, h => h
  | _ + 1, _, _, .nil => .nil
  | n + 1, _, _, .cons _ t => DenL.drop n t
theorem DenL.take : ∀ (n : Nat) {vs : List V} {ds : List PyData}, DenL K F S vs ds → DenL K F S (vs.take n) (ds.take n)
  | 0, _, _, _ => .nil
  | _ + 1, _, _, .nil => .nil
  | n + 1, _, _, .cons r t => .cons r (DenL.take n t)
theorem DenL.cut {vs : List V} {ds : List PyData} (h : DenL K F S vs ds) (lo hi : Option Int) : DenL K F S (cutV vs lo hi) (cutP ds lo hi) := by
  unfold cutV cutP
  rw [h.length]
  exact (h.drop _).take _
def oSl (x : PyData) (lo hi : Option Int) (k : PyData → Prop) : Prop := match x with
  | .list ds => k (.list (cutP ds lo hi))
  | .tuple ds => k (.tuple (cutP ds lo hi))
  | .str z => z.length ≤ sizeLine ∧ PyData.strOk (cutS z lo hi) = true ∧ k (.str (cutS z lo hi))
  | _ => False
abbrev MO := Env → Nat → (Option Int → Nat → Prop) → Prop
def tDO (K : PySem.W.Frag) (m : MO) : TO := fun σ H Q => ∃ F S n γ, AgE K F S n H γ σ ∧ ∃ k, m γ n k ∧ ∀ o n', k o n' → ∀ H', Ext S n' H H' → Q o H'
def mSome (m : M) : MO := fun γ n k => m γ n fun d n1 => match d with
  | .int i => k (some i) n1
  | _ => False
def mNone : MO := fun _ n k => k none n
abbrev DO (X : Cx) (e : Option Expr) (m : MO) : Prop := PO X e (tDO X.K m)
theorem PO.weak {e : Option Expr} {t t' : TO} (h : PO X e t) (w : ∀ σ H Q, t' σ H Q → t σ H Q) : PO X e t' := ⟨fun pins s σ H Q I q => h.run pins s σ H Q I (w σ H Q q)⟩
theorem do_none : DO X none mNone := PO.weak po_none fun σ H Q h => by
  obtain ⟨F, S, n, γ, ag, k, hm, hQ⟩ := h
  exact hQ none n hm H ag.fr.ext
theorem do_some {e : Expr} {m : M} (h : DE X e m) : DO X (some e) (mSome m) := PO.weak (po_some h) fun σ H Q h => by
  obtain ⟨F, S, n, γ, ag, k, hm, hQ⟩ := h
  refine ⟨F, S, n, γ, ag, _, hm, fun d n1 hk v H1 p => ?_⟩
  split at hk
  · cases p.den.int_inv
    exact ⟨_, rfl, hQ _ _ hk _ p.ext⟩
  · exact hk.elim
def rDSl (K : PySem.W.Frag) : V → Option Int → Option Int → Hp → VK → Prop := fun x lo hi H Q => ∃ F S n d, Fr F S n H ∧ Den K F S x d ∧ ∃ k, oSl d lo hi k ∧ ∀ d', k d' → ∀ v H', Post K F S H v d' n H' → Q v H'
theorem slD : SlR X (rDSl X.K) := by
  intro pins s σ H x v vl vu lo hi sl Q I rx hs pl pu h
  obtain ⟨F, S, n, d, fr, hx, k, ho, hQ⟩ := h
  unfold oSl at ho
  split at ho
  · obtain ⟨a, xs, rfl, ha, hxs⟩ := hx.list_inv
    exact sl_list pins s σ H _ v vl vu lo hi sl Q I rx hs pl pu ⟨a, xs, rfl, SqL.of (fr.sub _ _ ha), fun p hp => hQ _ ho _ _ (Post.lst fr hp (hxs.cut lo hi))⟩
  · rename_i ds
    obtain ⟨a, xs, rfl, ha, hxs⟩ := hx.tup_inv
    refine sl_tupA pins s σ H _ v vl vu lo hi sl Q I rx hs pl pu ⟨a, xs, rfl, SqT.of (fr.sub _ _ ha), fun hw => ?_, fun _ p hp => hQ _ ho _ _ (Post.tup fr hp (hxs.cut lo hi))⟩
    refine hQ _ ho _ _ (Post.here fr ?_)
    have e : cutP ds lo hi = ds := by
      rw [hxs.length] at hw
      unfold cutP
      rw [hw.1, hw.2, List.drop_zero, Nat.sub_zero, List.take_length]
    rw [e]
    exact .tup ha hxs
  · obtain ⟨ez, _⟩ := hx.str_inv
    subst ez
    obtain ⟨h1, h2, h3⟩ := ho
    exact sl_str pins s σ H _ v vl vu lo hi sl Q I rx hs pl pu ⟨_, rfl, h1, hQ _ h3 _ _ (Post.here fr (.str _ h2))⟩
  · exact ho.elim
def mSl (a : M) (lo hi : MO) : M := fun γ n k => a γ n fun d n1 => lo γ n1 fun l n2 => hi γ n2 fun u n3 => oSl d l u fun d' => k d' n3
theorem de_slice {a : Expr} {ma : M} {lo hi : Option Expr} {ml mh : MO} {p2 pos : Pos} (ha : DE X a ma) (hl : DO X lo ml) (hh : DO X hi mh) : DE X (.Subscript a (.Slice lo hi none p2) pos) (mSl ma ml mh) :=
  PE.weak (pe_slice slD ha hl hh) fun σ H Q h => by
    obtain ⟨F, S, n, γ, ag, k, hm, hQ⟩ := h
    refine ⟨F, S, n, γ, ag, _, hm, fun d n1 hk v H1 p => ?_⟩
    have ag1 := ag.next p.ext
    refine ⟨_, S, n1, γ, ag1, _, hk, fun l n2 hk2 H2 e2 => ?_⟩
    have ag2 := ag1.next e2
    refine ⟨_, S, n2, γ, ag2, _, hk2, fun u n3 hk3 H3 e3 => ?_⟩
    have ag3 := ag2.next e3
    refine ⟨_, S, n3, d, ag3.fr, (p.den.mono sub_grow).mono sub_grow, _, hk3, fun d' hk4 w H4 p4 => ?_⟩
    exact hQ _ _ hk4 _ _ (Post.after ag.fr p.ext (Post.after ag1.fr e2 (Post.after ag2.fr e3 p4)))
end
end DL
namespace DL
open PySem PySem.Spec PyProof.Rows L2

abbrev MT := Env → Nat → (Bool → Nat → Prop) → Prop
def tDT (K : PySem.W.Frag) (m : MT) : TT := fun σ H Q => ∃ F S n γ, AgE K F S n H γ σ ∧ ∃ k, m γ n k ∧ ∀ b n', k b n' → ∀ H', Ext S n' H H' → Q b H'
abbrev DT (X : Cx) (e : Expr) (m : MT) : Prop := PT X e (tDT X.K m)
def mB (m : M) : MT := fun γ n k => m γ n fun d n1 => match d with
  | .bool b => k b n1
  | _ => False
section
variable {X : Cx} {e a b c : Expr} {m ma mb mc : M} {t u : MT} {pos : Pos} {rest : List Expr}
theorem tB_D {K : PySem.W.Frag} {σ : L2.St} {H : Hp} {Q : Bool → Hp → Prop} (h : tDT K (mB m) σ H Q) : tD K m σ H fun x H1 => ∃ c, x = .bl c ∧ Q c H1 := by
  obtain ⟨F, S, n, γ, ag, k, hm, hQ⟩ := h
  refine ⟨F, S, n, γ, ag, _, hm, fun d n1 hk v H1 p => ?_⟩
  split at hk
  · cases p.den.bool_inv
    exact ⟨_, rfl, hQ _ _ hk _ p.ext⟩
  · exact hk.elim
theorem dt_val (h : DE X e m) (he : ∀ whole, isTrue e X.env whole = (do let v ← whole; standAt e.pos; holding [v] (truthy v)) := by intro _; rfl) : DT X e (mB m) :=
  PT.weak (pt_val h he) fun _ _ _ h => tB_D h
theorem dt_cmp {o : O2} {op : CmpOp} (ho : OpR X (compareOp op) (rD X.K o)) (ha : DE X a ma) (hb : DE X b mb) (hm : behindInMarks op b = false) : DT X (.Compare a [op] [b] pos) (mB (mOp o ma mb)) :=
  PT.weak (pt_cmpR ho ha hb hm) fun σ H Q h => by
    have h1 := tB_D h
    exact tOp_D h1
def mAndT (t u : MT) : MT := fun γ n k => t γ n fun b n1 => if b = true then u γ n1 k else k false n1
def mOrT (t u : MT) : MT := fun γ n k => t γ n fun b n1 => if b = true then k true n1 else u γ n1 k
def mNotT (t : MT) : MT := fun γ n k => t γ n fun b n1 => k (!b) n1
abbrev DW (X : Cx) (e : Expr) (m : MT) : Prop := PW X e (tDT X.K m)
theorem PW.weak {X : Cx} {e : Expr} {t t' : TT} (h : PW X e t) (w : ∀ σ H Q, t' σ H Q → t σ H Q) : PW X e t' := ⟨fun wh pins s σ H Q I q => h.run wh pins s σ H Q I (w σ H Q q)⟩
theorem dw_and1 (ha : DT X a t) : DW X (.BoolOp .And [a] pos) t := pw_and1 ha
theorem dw_or1 (ha : DT X a t) : DW X (.BoolOp .Or [a] pos) t := pw_or1 ha
theorem dw_and (ha : DT X a t) (hb : DW X (.BoolOp .And (b :: rest) pos) u) : DW X (.BoolOp .And (a :: b :: rest) pos) (mAndT t u) := PW.weak (pw_and ha hb) fun σ H Q h => by
  obtain ⟨F, S, n, γ, ag, k, hm, hQ⟩ := h
  refine ⟨F, S, n, γ, ag, _, hm, fun b n1 hk H1 e => ?_⟩
  cases b with
  | true => exact ⟨_, S, n1, γ, ag.next e, k, hk, fun b n2 hk2 H2 e2 => hQ _ _ hk2 _ (e.trans e2)⟩
  | false => exact hQ _ _ hk _ e
theorem dw_or (ha : DT X a t) (hb : DW X (.BoolOp .Or (b :: rest) pos) u) : DW X (.BoolOp .Or (a :: b :: rest) pos) (mOrT t u) := PW.weak (pw_or ha hb) fun σ H Q h => by
  obtain ⟨F, S, n, γ, ag, k, hm, hQ⟩ := h
  refine ⟨F, S, n, γ, ag, _, hm, fun b n1 hk H1 e => ?_⟩
  cases b with
  | false => exact ⟨_, S, n1, γ, ag.next e, k, hk, fun b n2 hk2 H2 e2 => hQ _ _ hk2 _ (e.trans e2)⟩
  | true => exact hQ _ _ hk _ e
theorem dt_w (h : DW X e t) : DT X e t := h.pt
theorem dt_not (ha : DT X a t) : DT X (.UnaryOp .Not a pos) (mNotT t) := PT.weak (pt_not ha) fun σ H Q h => by
  obtain ⟨F, S, n, γ, ag, k, hm, hQ⟩ := h
  exact ⟨F, S, n, γ, ag, _, hm, fun b n1 hk H1 e => hQ _ _ hk _ e⟩
def mAnd (a b : M) : M := fun γ n k => a γ n fun d n1 => match d with
  | .bool c => if c = true then b γ n1 k else k (.bool false) n1
  | _ => False
def mOr (a b : M) : M := fun γ n k => a γ n fun d n1 => match d with
  | .bool c => if c = true then k (.bool true) n1 else b γ n1 k
  | _ => False
def mNot (a : M) : M := fun γ n k => a γ n fun d n1 => match d with
  | .bool c => k (.bool (!c)) n1
  | _ => False
theorem de_one {op} (h : DE X a m) : DE X (.BoolOp op [a] pos) m := pe_one h
theorem de_and (ha : DE X a ma) (hb : DE X (.BoolOp .And (b :: rest) pos) mb) : DE X (.BoolOp .And (a :: b :: rest) pos) (mAnd ma mb) := PE.weak (pe_and ha hb) fun σ H Q h => by
  obtain ⟨F, S, n, γ, ag, k, hm, hQ⟩ := h
  refine ⟨F, S, n, γ, ag, _, hm, fun d n1 hk v H1 p => ?_⟩
  split at hk
  · rename_i c
    cases p.den.bool_inv
    refine ⟨c, rfl, ?_⟩
    cases c with
    | true => exact ⟨_, S, n1, γ, ag.next p.ext, k, hk, fun d n2 hk2 v H2 p2 => hQ _ _ hk2 _ _ (Post.after ag.fr p.ext p2)⟩
    | false => exact hQ _ _ hk _ _ p
  · exact hk.elim
theorem de_or (ha : DE X a ma) (hb : DE X (.BoolOp .Or (b :: rest) pos) mb) : DE X (.BoolOp .Or (a :: b :: rest) pos) (mOr ma mb) := PE.weak (pe_or ha hb) fun σ H Q h => by
  obtain ⟨F, S, n, γ, ag, k, hm, hQ⟩ := h
  refine ⟨F, S, n, γ, ag, _, hm, fun d n1 hk v H1 p => ?_⟩
  split at hk
  · rename_i c
    cases p.den.bool_inv
    refine ⟨c, rfl, ?_⟩
    cases c with
    | false => exact ⟨_, S, n1, γ, ag.next p.ext, k, hk, fun d n2 hk2 v H2 p2 => hQ _ _ hk2 _ _ (Post.after ag.fr p.ext p2)⟩
    | true => exact hQ _ _ hk _ _ p
  · exact hk.elim
theorem de_not (ha : DE X a ma) : DE X (.UnaryOp .Not a pos) (mNot ma) := PE.weak (pe_not ha) fun σ H Q h => by
  obtain ⟨F, S, n, γ, ag, k, hm, hQ⟩ := h
  refine ⟨F, S, n, γ, ag, _, hm, fun d n1 hk v H1 p => ?_⟩
  split at hk
  · cases p.den.bool_inv
    exact ⟨_, rfl, hQ _ _ hk _ _ ⟨p.ext, .bl _⟩⟩
  · exact hk.elim
def mIf (t : MT) (a b : M) : M := fun γ n k => t γ n fun c n1 => if c = true then a γ n1 k else b γ n1 k
theorem de_ifExp {c : Expr} (hc : DT X c t) (ha : DE X a ma) (hb : DE X b mb) : DE X (.IfExp c a b pos) (mIf t ma mb) := PE.weak (pe_ifExp hc ha hb) fun σ H Q h => by
  obtain ⟨F, S, n, γ, ag, k, hm, hQ⟩ := h
  refine ⟨F, S, n, γ, ag, _, hm, fun c n1 hk H1 e => ?_⟩
  cases c with
  | true => exact ⟨_, S, n1, γ, ag.next e, k, hk, fun d n2 hk2 v H2 p2 => hQ _ _ hk2 _ _ (Post.after ag.fr e p2)⟩
  | false => exact ⟨_, S, n1, γ, ag.next e, k, hk, fun d n2 hk2 v H2 p2 => hQ _ _ hk2 _ _ (Post.after ag.fr e p2)⟩
def mChain (o o' : O2) (a b c : M) : M := fun γ n k => a γ n fun x n1 => b γ n1 fun y n2 => o x y fun z => match z with
  | .bool q => if q = true then c γ n2 fun w n3 => o' y w fun d => k d n3 else k (.bool false) n2
  | _ => False
theorem tChain_D {K : PySem.W.Frag} {o o' : O2} {σ : L2.St} {H : Hp} {Q : VK} (h : tD K (mChain o o' ma mb mc) σ H Q) : tChain (rD K o) (rD K o') (tD K ma) (tD K mb) (tD K mc) σ H Q := by
  obtain ⟨F, S, n, γ, ag, k, hm, hQ⟩ := h
  refine ⟨F, S, n, γ, ag, _, hm, fun d n1 hk v H1 p => ?_⟩
  have ag1 := ag.next p.ext
  refine ⟨_, S, n1, γ, ag1, _, hk, fun d2 n2 hk2 v2 H2 p2 => ?_⟩
  have ag2 := ag1.next p2.ext
  refine ⟨_, S, n2, d, d2, ag2.fr, p.den.mono sub_grow, p2.den, _, hk2, fun d3 hk3 v3 H3 p3 => ?_⟩
  have ag3 := ag2.next p3.ext
  split at hk3
  · rename_i q
    cases p3.den.bool_inv
    refine ⟨q, rfl, ?_⟩
    cases q with
    | true =>
      refine ⟨_, S, n2, γ, ag3, _, hk3, fun d4 n4 hk4 v4 H4 p4 => ?_⟩
      have ag4 := ag3.next p4.ext
      refine ⟨_, S, n4, d2, d4, ag4.fr, (p2.den.mono sub_grow).mono sub_grow, p4.den, _, hk4, fun d5 hk5 v5 H5 p5 => ?_⟩
      exact hQ _ _ hk5 _ _ (Post.after ag.fr p.ext (Post.after ag1.fr p2.ext (Post.after ag2.fr p3.ext (Post.after ag3.fr p4.ext p5))))
    | false => exact hQ _ _ hk3 _ _ (Post.after ag.fr p.ext (Post.after ag1.fr p2.ext p3))
  · exact hk3.elim
theorem de_chain {o o' : O2} {op op' : CmpOp} (ho : OpR X (compareOp op) (rD X.K o)) (ho' : OpR X (compareOp op') (rD X.K o')) (ha : DE X a ma) (hb : DE X b mb) (hc : DE X c mc)
    (hm : lastMarks [op, op'] [b, c] = false := by with_unfolding_all rfl) : DE X (.Compare a [op, op'] [b, c] pos) (mChain o o' ma mb mc) := PE.weak (pe_chain ho ho' ha hb hc hm) fun _ _ _ h => tChain_D h
theorem dt_chain {o o' : O2} {op op' : CmpOp} (ho : OpR X (compareOp op) (rD X.K o)) (ho' : OpR X (compareOp op') (rD X.K o')) (ha : DE X a ma) (hb : DE X b mb) (hc : DE X c mc)
    (hm : lastMarks [op, op'] [b, c] = false := by with_unfolding_all rfl) : DT X (.Compare a [op, op'] [b, c] pos) (mB (mChain o o' ma mb mc)) := PT.weak (pt_chain ho ho' ha hb hc hm) fun σ H Q h => by
  have h1 := tB_D h
  exact tChain_D h1
end
def mLst (ms : MA) : M := fun γ n k => ms γ n fun ds n1 => ds.length ≤ sizeLine ∧ k (.list ds) n1
def mTup (ms : MA) : M := fun γ n k => ms γ n fun ds n1 => ds.length ≤ sizeLine ∧ k (.tuple ds) n1
section
variable {X : Cx} {es : List Expr} {ms : MA} {pos : Pos}
theorem de_lst (h : DA X es ms) : DE X (.List es pos) (mLst ms) := PE.weak (pe_lst h) fun σ H Q h => by
  obtain ⟨F, S, n, γ, ag, k, hm, hQ⟩ := h
  refine ⟨F, S, n, γ, ag, _, hm, fun ds n1 hk vs H1 p => ?_⟩
  refine ⟨by rw [p.den.length]; exact hk.1, fun q hq => hQ _ _ hk.2 _ _ (Post.after ag.fr p.ext (Post.lst (ag.next p.ext).fr hq p.den))⟩
theorem de_tup {x1} (h : DA X es ms) : DE X (.Tuple es x1 pos) (mTup ms) := PE.weak (pe_tup h) fun σ H Q h => by
  obtain ⟨F, S, n, γ, ag, k, hm, hQ⟩ := h
  refine ⟨F, S, n, γ, ag, _, hm, fun ds n1 hk vs H1 p => ?_⟩
  refine ⟨by rw [p.den.length]; exact hk.1, fun q hq => hQ _ _ hk.2 _ _ (Post.after ag.fr p.ext (Post.tup (ag.next p.ext).fr hq p.den))⟩
end
section
variable {X : Cx} {x : Str} {p pos : Pos} {e : Expr} {es : List Expr} {on : ON} {ms : MA}
theorem de_callB {id : String} (hc : CallR X (.builtin id) (rDN X.K on)) (hg : Gl X x) (hm : X.mg x = none) (hv : bootBuiltins x = some (.builtin id)) (ha : DA X (e :: es) ms) (hn : x ≠ "__name__" := by decide) (hdb : (x == ("__debug__" : Str)) = false := by decide)
    (he : starEach (e :: es) X.env = (false, eval e X.env) :: starEach es X.env := by rfl) (hpl : (backTo pos (starEach es X.env)).any (·.1) = false := by rfl) : DE X (.Call (.Name x p) (e :: es) [] pos) (mON on ms) :=
  PE.weak (pe_callB hc hg hm hv ha hn hdb he hpl) fun _ _ _ h => tCB_D h
theorem de_callTy {T : String} (hc : CallR X (.type T) (rDN X.K on)) (hg : Gl X x) (hm : X.mg x = none) (hv : bootBuiltins x = some (.type T)) (ha : DA X (e :: es) ms) (hn : x ≠ "__name__" := by decide) (hdb : (x == ("__debug__" : Str)) = false := by decide)
    (he : starEach (e :: es) X.env = (false, eval e X.env) :: starEach es X.env := by rfl) (hpl : (backTo pos (starEach es X.env)).any (·.1) = false := by rfl) : DE X (.Call (.Name x p) (e :: es) [] pos) (mON on ms) :=
  PE.weak (pe_callTy hc hg hm hv ha hn hdb he hpl) fun _ _ _ h => tCB_D h
theorem DenL.one {K : PySem.W.Frag} {F : Hp} {S : Strm} {xs : List V} {d : PyData} (h : DenL K F S xs [d]) : ∃ v, xs = [v] ∧ Den K F S v d := by
  cases h with
  | cons h1 h2 => cases h2; exact ⟨_, rfl, h1⟩
def on1 (o : O1) : ON := fun ds k => match ds with
  | [d] => o d k
  | _ => False
def r1 (K : PySem.W.Frag) (o : O1) : V → Hp → VK → Prop := fun x H Q => ∃ F S n d, Fr F S n H ∧ Den K F S x d ∧ ∃ k, o d k ∧ ∀ d', k d' → ∀ v H', Post K F S H v d' n H' → Q v H'
theorem call1 {f : Value} {o : O1} (h : ∀ (pins : List (Addr × Obj)) (s : Shared) (σ : L2.St) (H : Hp) (x : V) (u : Value) (Q : VK), Inv X pins σ H s → RelV x u → r1 X.K o x H Q → wpAny (model X.prog X.w) X.A (call f [u]) (EP X pins σ Q) X.xe s) : CallR X f (rDN X.K (on1 o)) := by
  intro pins s σ H xs us Q I r q
  obtain ⟨F, S, n, ds, fr, hd, k, ho, hQ⟩ := q
  unfold on1 at ho
  split at ho
  · obtain ⟨v, rfl, hv⟩ := hd.one
    cases r with
    | cons r1 r2 =>
      cases r2
      exact h pins s σ H v _ Q I r1 ⟨F, S, n, _, fr, hv, k, ho, hQ⟩
  · exact ho.elim
theorem call1_of {f : Value} {o : O1} {r : List V → Hp → VK → Prop} (h : CallR X f r) (w : ∀ x H Q, r1 X.K o x H Q → r [x] H Q) : CallR X f (rDN X.K (on1 o)) :=
  call1 fun pins s σ H x u Q I rx q => h pins s σ H [x] [u] Q I (.cons rx .nil) (w x H Q q)
def oLen : O1 := fun d k => match d with
  | .list ds => k (.int ds.length)
  | .tuple ds => k (.int ds.length)
  | .str z => z.length ≤ sizeLine ∧ k (.int z.length)
  | _ => False
theorem call_lenD1 : CallR X (.builtin "len") (rDN X.K (on1 oLen)) := call1 fun pins s σ H x u Q I rx h => by
  obtain ⟨F, S, n, d, fr, hx, k, ho, hQ⟩ := h
  unfold oLen at ho
  split at ho
  · obtain ⟨a, xs, rfl, ha, hxs⟩ := hx.list_inv
    refine call_len_seq pins s σ H _ _ Q I (.cons rx .nil) ⟨a, xs, rfl, .inl (SqL.of (fr.sub _ _ ha)), ?_⟩
    rw [hxs.length]
    exact hQ _ ho _ _ (Post.here fr (.int _))
  · obtain ⟨a, xs, rfl, ha, hxs⟩ := hx.tup_inv
    refine call_len_seq pins s σ H _ _ Q I (.cons rx .nil) ⟨a, xs, rfl, .inr (SqT.of (fr.sub _ _ ha)), ?_⟩
    rw [hxs.length]
    exact hQ _ ho _ _ (Post.here fr (.int _))
  · obtain ⟨ez, _⟩ := hx.str_inv
    subst ez
    exact call_len_str pins s σ H _ _ Q I (.cons rx .nil) ⟨_, rfl, ho.1, hQ _ ho.2 _ _ (Post.here fr (.int _))⟩
  · exact ho.elim
def oList : O1 := fun d k => match d with
  | .list ds => k (.list ds)
  | .tuple ds => k (.list ds)
  | _ => False
theorem call_listD1 : CallR X (.type "list") (rDN X.K (on1 oList)) := call1_of call_list_of fun x H Q h => by
  obtain ⟨F, S, n, d, fr, hx, k, ho, hQ⟩ := h
  unfold oList at ho
  split at ho
  · obtain ⟨a, xs, rfl, ha, hxs⟩ := hx.list_inv
    exact ⟨a, xs, rfl, .inl (SqL.of (fr.sub _ _ ha)), fun l hl => hQ _ ho _ _ (Post.lst fr hl hxs)⟩
  · obtain ⟨a, xs, rfl, ha, hxs⟩ := hx.tup_inv
    exact ⟨a, xs, rfl, .inr (SqT.of (fr.sub _ _ ha)), fun l hl => hQ _ ho _ _ (Post.lst fr hl hxs)⟩
  · exact ho.elim
def oTuple : O1 := fun d k => match d with
  | .list ds => k (.tuple ds)
  | .tuple ds => k (.tuple ds)
  | _ => False
theorem call_tupleD1 : CallR X (.type "tuple") (rDN X.K (on1 oTuple)) := call1_of call_tuple_of fun x H Q h => by
  obtain ⟨F, S, n, d, fr, hx, k, ho, hQ⟩ := h
  unfold oTuple at ho
  split at ho
  · obtain ⟨a, xs, rfl, ha, hxs⟩ := hx.list_inv
    exact ⟨a, xs, rfl, .inl ⟨SqL.of (fr.sub _ _ ha), fun l hl => hQ _ ho _ _ (Post.tup fr hl hxs)⟩⟩
  · obtain ⟨a, xs, rfl, ha, hxs⟩ := hx.tup_inv
    exact ⟨a, xs, rfl, .inr ⟨SqT.of (fr.sub _ _ ha), hQ _ ho _ _ (Post.here fr (.tup ha hxs))⟩⟩
  · exact ho.elim
def oInt : O1 := fun d k => match d with
  | .int i => k (.int i)
  | _ => False
theorem call_intD1 : CallR X (.type "int") (rDN X.K (on1 oInt)) := call1_of call_int1 fun x H Q h => by
  obtain ⟨F, S, n, d, fr, hx, k, ho, hQ⟩ := h
  unfold oInt at ho
  split at ho
  · cases hx.int_inv
    exact .inl ⟨_, rfl, hQ _ ho _ _ (Post.here fr (.int _))⟩
  · exact ho.elim
def oAbs : O1 := fun d k => match d with
  | .int i => k (.int (if i < 0 then -i else i))
  | _ => False
theorem call_absD1 : CallR X (.builtin "abs") (rDN X.K (on1 oAbs)) := call1_of call_abs fun x H Q h => by
  obtain ⟨F, S, n, d, fr, hx, k, ho, hQ⟩ := h
  unfold oAbs at ho
  split at ho
  · cases hx.int_inv
    exact ⟨_, rfl, hQ _ ho _ _ (Post.here fr (.int _))⟩
  · exact ho.elim
def toBools : List PyData → Option (List Bool)
  | [] => some []
  | .bool b :: r => (toBools r).map (b :: ·)
  | _ :: _ => none
theorem toBools_den {K : PySem.W.Frag} {F : Hp} {S : Strm} : ∀ {xs : List V} {ds : List PyData} {bs : List Bool}, DenL K F S xs ds → toBools ds = some bs → xs = bs.map V.bl
  | _, _, _, .nil, h => by cases h; rfl
  | _, _, bs, .cons (v := v) (d := d) h1 h2, h => by
    cases d with
    | bool b =>
      unfold toBools at h
      rename_i r
      cases e : toBools r with
      | none => rw [e] at h; cases h
      | some q =>
        rw [e] at h
        cases h
        rw [toBools_den h2 e]
        cases (show Den K F S v (.bool b) from h1)
        rfl
    | _ => cases h
def oAll : O1 := fun d k => match d with
  | .list ds => ∃ bs, toBools ds = some bs ∧ k (.bool (bs.all id))
  | _ => False
def oAny : O1 := fun d k => match d with
  | .list ds => ∃ bs, toBools ds = some bs ∧ k (.bool (bs.any id))
  | _ => False
theorem call_allD1 (hc : X.calm = true) : CallR X (.builtin "all") (rDN X.K (on1 oAll)) := call1_of (cr_all hc) fun x H Q h => by
  obtain ⟨F, S, n, d, fr, hx, k, ho, hQ⟩ := h
  unfold oAll at ho
  split at ho
  · obtain ⟨a, xs, rfl, ha, hxs⟩ := hx.list_inv
    obtain ⟨bs, e, ho⟩ := ho
    have := toBools_den hxs e
    subst this
    exact ⟨a, bs, rfl, SqL.of (fr.sub _ _ ha), hQ _ ho _ _ (Post.here fr (.bl _))⟩
  · exact ho.elim
theorem call_anyD1 (hc : X.calm = true) : CallR X (.builtin "any") (rDN X.K (on1 oAny)) := call1_of (cr_any hc) fun x H Q h => by
  obtain ⟨F, S, n, d, fr, hx, k, ho, hQ⟩ := h
  unfold oAny at ho
  split at ho
  · obtain ⟨a, xs, rfl, ha, hxs⟩ := hx.list_inv
    obtain ⟨bs, e, ho⟩ := ho
    have := toBools_den hxs e
    subst this
    exact ⟨a, bs, rfl, SqL.of (fr.sub _ _ ha), hQ _ ho _ _ (Post.here fr (.bl _))⟩
  · exact ho.elim
end
def tyS : PyData → Option String
  | .none => some "NoneType"
  | .bool _ => some "bool"
  | .int _ => some "int"
  | .str _ => some "str"
  | .list _ => some "list"
  | .tuple _ => some "tuple"
  | .dict es => match es with
    | [] => none
    | p :: _ => if (toKey p.1).isSome = true then some "dict" else none
def isTy (T : String) (t : String) : Bool := t == T || (t == "bool" && T == "int")
def tyNames : List String := ["NoneType", "bool", "int", "str", "list", "tuple", "dict"]
def tyCls : List String := ["bool", "int", "str", "list", "tuple", "dict"]
theorem kitB_all : tyNames.all (fun t => tyCls.all fun T => kitB t T == some (isTy T t)) = true := by decide +kernel
theorem kitB_of {t T : String} (ht : t ∈ tyNames) (hT : T ∈ tyCls) : kitB t T = some (isTy T t) := by
  have h1 := List.all_eq_true.mp kitB_all t ht
  have h2 := List.all_eq_true.mp h1 T hT
  exact beq_iff_eq.mp h2
theorem tyS_mem {d : PyData} {t : String} (h : tyS d = some t) : t ∈ tyNames := by
  cases d with
  | dict es =>
    cases es with
    | nil => cases h
    | cons p r =>
      have h : (if (toKey p.1).isSome = true then some "dict" else none) = some t := h
      split at h
      · cases h; decide
      · cases h
  | _ => cases h; decide
theorem den_ty {K : PySem.W.Frag} {F H : Hp} {S : Strm} {v : V} {d : PyData} {t : String} (s : Sub F H) (h : Den K F S v d) (e : tyS d = some t) : TyX K H v (.type t) := by
  cases d with
  | none => cases e; cases h.none_inv; exact .base .non
  | bool b => cases e; cases h.bool_inv; exact .base (.bl b)
  | int i => cases e; cases h.int_inv; exact .base (.int i)
  | str x => cases e; cases h.str_inv.1; exact .base (.str x)
  | list ds => cases e; obtain ⟨a, xs, rfl, ha, _⟩ := h.list_inv; exact .base (.lst (s _ _ ha))
  | tuple ds => cases e; obtain ⟨a, xs, rfl, ha, _⟩ := h.tup_inv; exact .base (.tup (s _ _ ha))
  | dict es =>
    cases es with
    | nil => cases e
    | cons p r =>
      have e : (if (toKey p.1).isSome = true then some "dict" else none) = some t := e
      split at e
      · rename_i hk
        cases e
        rcases h.dict_inv rfl with ⟨ex, ed, h1, h2, h3, hko⟩ | ⟨ex, ed, h1, h2, h3, hko⟩ | ⟨ex, ed, h1, h2, h3⟩ | ⟨ex, ed, h1⟩ | ⟨ex, ed, h1, h0, h2, h3⟩
        · subst ex
          exact .fDict (s _ _ h1)
        · rename_i a ob kvs es0
          unfold dtP at ed
          injection ed with ed
          cases es0 with
          | nil => simp at ed
          | cons q r' =>
            simp only [List.map_cons, List.cons.injEq] at ed
            rw [ed.1] at hk
            simp [toKey_ktP] at hk
        · unfold insP at ed; injection ed with ed; injection ed with ed1 ed2; rw [ed1] at hk; simp [toKey] at hk
        · unfold strmP at ed; injection ed with ed; injection ed with ed1 ed2; rw [ed1] at hk; simp [toKey] at hk
        · unfold parP at ed; injection ed with ed; injection ed with ed1 ed2; rw [ed1] at hk; simp [toKey] at hk
      · cases e
end DL
namespace DL
open PySem PySem.Spec PyProof.Rows L2

def mIsi (Ts : List String) (a : M) : M := fun γ n k => a γ n fun d n1 => ∃ t, tyS d = some t ∧ k (.bool (Ts.any fun T => isTy T t)) n1
section
variable {X : Cx} {a b : Expr} {ma : M} {p pos : Pos}
theorem boot_isi : bootBuiltins "isinstance" = some (.builtin "isinstance") := by decide +kernel
theorem de_isi1 {T : String} (hg : Gl X "isinstance") (hm : X.mg "isinstance" = none) (ha : DE X a ma) (hb : PE X b (tC (.ty T))) (hT : T ∈ tyCls)
    (he : starEach [a, b] X.env = (false, eval a X.env) :: starEach [b] X.env := by rfl) (hs2 : starEach [b] X.env = (false, eval b X.env) :: starEach [] X.env := by rfl) (hpl : (backTo pos (starEach [b] X.env)).any (·.1) = false := by rfl) :
    DE X (.Call (.Name "isinstance" p) [a, b] [] pos) (mIsi [T] ma) :=
  PE.weak (pe_callB call_isi hg hm boot_isi (pa_cons ha (pa_cons hb pa_nil hs2) he) (by decide) (by decide) he hpl) fun σ H Q h => by
    obtain ⟨F, S, n, γ, ag, k, hm, hQ⟩ := h
    refine ⟨F, S, n, γ, ag, _, hm, fun d n1 hk v H1 p => ?_⟩
    obtain ⟨t, e, hk⟩ := hk
    refine ⟨v, .ty T, .type t, .type T, isTy T t, rfl, .ty T, den_ty (ag.next p.ext).fr.sub p.den e, kit_ty (kitB_of (tyS_mem e) hT), hQ _ _ hk _ _ ⟨p.ext, ?_⟩⟩
    rw [show ([T].any fun T => isTy T t) = isTy T t by simp]
    exact .bl _
theorem kitAny_of {K : PySem.W.Frag} {t : String} (ht : t ∈ tyNames) : ∀ {Ts : List String}, (∀ T ∈ Ts, T ∈ tyCls) → PySem.W.kitAny K (.type t) (Ts.map Value.type) = some (Ts.any fun T => isTy T t)
  | [], _ => rfl
  | T :: Ts, h => by
    refine kitAny_cons (kit_ty (kitB_of ht (h T (by simp)))) (fun e => ?_) fun e => ?_
    · rw [kitAny_of ht (Ts := Ts) fun T hT => h T (by simp [hT])]
      rw [List.any_cons, e, Bool.false_or]
    · rw [List.any_cons, e, Bool.true_or]
theorem paired_ty : ∀ Ts : List String, Paired ClsV (Ts.map V.ty) (Ts.map Value.type)
  | [] => .nil
  | T :: Ts => .cons (.ty T) (paired_ty Ts)
theorem de_isiT {Ts : List String} (hg : Gl X "isinstance") (hm : X.mg "isinstance" = none) (ha : DE X a ma) (hb : PE X b (fun σ H Q => ∀ p, H p = none → Q (.ref p) (upd H p (.tup (Ts.map V.ty))))) (hT : ∀ T ∈ Ts, T ∈ tyCls)
    (he : starEach [a, b] X.env = (false, eval a X.env) :: starEach [b] X.env := by rfl) (hs2 : starEach [b] X.env = (false, eval b X.env) :: starEach [] X.env := by rfl) (hpl : (backTo pos (starEach [b] X.env)).any (·.1) = false := by rfl) :
    DE X (.Call (.Name "isinstance" p) [a, b] [] pos) (mIsi Ts ma) :=
  PE.weak (pe_callB call_isiT hg hm boot_isi (pa_cons ha (pa_cons hb pa_nil hs2) he) (by decide) (by decide) he hpl) fun σ H Q h => by
    obtain ⟨F, S, n, γ, ag, k, hm, hQ⟩ := h
    refine ⟨F, S, n, γ, ag, _, hm, fun d n1 hk v H1 p q hq => ?_⟩
    obtain ⟨t, e, hk⟩ := hk
    have f1 := (ag.next p.ext).fr
    refine ⟨v, q, Ts.map V.ty, .type t, Ts.map Value.type, _, rfl, upd_same, paired_ty Ts, den_ty (f1.sub.trans fun b o h => ?_) p.den e, kitAny_of (tyS_mem e) hT, ?_⟩
    · rw [upd_ne (ne_of_none h hq)]; exact h
    · exact hQ _ _ hk _ _ (Post.after ag.fr p.ext ⟨Ext.new f1 hq, .bl _⟩)
structure ClsD (K : PySem.W.Frag) (C : Addr) : Prop where
  cl : Cls K C
  ha : PySem.W.findIn K (.ref C) "__class__" = some (some (.builtin "object.__class__"))
  hn : PySem.W.specialIn K (.builtin "object.__class__") "__get__" = some (some (.builtin "getset_descriptor.__get__"))
  htk : PySem.W.takesIn K (.builtin "object.__class__") = some true
  hm : PySem.W.mroIn K C (.type "object") = some true
def mIsC (C : Str) (a : M) : M := fun γ n k => a γ n fun d n1 => ∃ es, d = insP C es ∧ k (.bool true) n1
theorem de_isC {C : Str} (cd : ClsD X.K (He.ga X.K C)) (hg : Gl X "isinstance") (hm : X.mg "isinstance" = none) (ha : DE X a ma) (hb : PE X b (tC (.ref (He.ga X.K C))))
    (he : starEach [a, b] X.env = (false, eval a X.env) :: starEach [b] X.env := by rfl) (hs2 : starEach [b] X.env = (false, eval b X.env) :: starEach [] X.env := by rfl) (hpl : (backTo pos (starEach [b] X.env)).any (·.1) = false := by rfl) :
    DE X (.Call (.Name "isinstance" p) [a, b] [] pos) (mIsC C ma) :=
  PE.weak (pe_callB call_isi hg hm boot_isi (pa_cons ha (pa_cons hb pa_nil hs2) he) (by decide) (by decide) he hpl) fun σ H Q h => by
    obtain ⟨F, S, n, γ, ag, k, hm, hQ⟩ := h
    refine ⟨F, S, n, γ, ag, _, hm, fun d n1 hk v H1 p => ?_⟩
    obtain ⟨es, e, hk⟩ := hk
    rcases p.den.dict_inv e with ⟨ex, ed, h1, h2, h3, hko⟩ | ⟨ex, ed, h1, h2, h3, hko⟩ | ⟨ex, ed, h1, h2, h3⟩ | ⟨ex, ed, h1⟩ | ⟨ex, ed, h1, h0, h2, h3⟩
    · exfalso
      rw [e] at ed
      unfold insP dkP at ed
      injection ed with ed
      rename_i es0
      cases es0 with
      | nil => simp at ed
      | cons q r => injection ed with ed _; injection ed with ed _; cases h : q.1 <;> rw [h] at ed <;> cases ed
    · exfalso
      rw [e] at ed
      unfold insP dtP at ed
      injection ed with ed
      rename_i es0
      cases es0 with
      | nil => simp at ed
      | cons q r => injection ed with ed _; injection ed with ed _; cases ed
    · rw [e] at ed
      obtain ⟨eC, _⟩ := insP_inj ed
      subst eC ex
      have hh := (ag.next p.ext).fr.sub _ _ h1
      refine ⟨_, .ref (He.ga X.K C), .ref (He.ga X.K C), .ref (He.ga X.K C), true, rfl, .own _, .base (.ins hh cd.cl cd.ha cd.hn cd.htk cd.hm), ?_, hQ _ _ hk _ _ ⟨p.ext, .bl _⟩⟩
      unfold PySem.W.kitOne
      rw [if_pos (by simp)]
    · exfalso
      rw [e] at ed
      unfold insP strmP at ed
      injection ed with ed
      injection ed with ed _
      injection ed with _ ed
      cases ed
    · exfalso
      rw [e] at ed
      unfold insP parP at ed
      injection ed with ed
      injection ed with ed _
      injection ed with _ ed
      cases ed
def mFld (C f : Str) (a : M) : M := fun γ n k => a γ n fun d n1 => ∃ es d', (d = insP C es ∨ d = parP C es) ∧ es.lookup f = some d' ∧ k d' n1
theorem look_den {K : PySem.W.Frag} {F : Hp} {S : Strm} {f : Str} {d : PyData} : ∀ {fs : List (Str × V)} {es : List (Str × PyData)}, fs.map (·.1) = es.map (·.1) → DenL K F S (fs.map (·.2)) (es.map (·.2)) → es.lookup f = some d →
    ∃ v, fs.lookup f = some v ∧ Den K F S v d
  | [], [], _, _, h => by cases h
  | [], _ :: _, h, _, _ => by simp at h
  | _ :: _, [], h, _, _ => by simp at h
  | (a, v) :: r, (b, e) :: t, h, hd, hl => by
    simp only [List.map_cons, List.cons.injEq] at h
    obtain ⟨rfl, h⟩ := h
    cases hd with
    | cons h1 h2 =>
      rw [List.lookup_cons] at hl ⊢
      cases q : f == a with
      | true =>
        rw [q] at hl
        cases hl
        exact ⟨v, by simp, h1⟩
      | false =>
        rw [q] at hl
        obtain ⟨v', e1, e2⟩ := look_den h h2 hl
        exact ⟨v', by simpa using e1, e2⟩
theorem look_none {f : Str} : ∀ {fs : List (Str × V)} {es : List (Str × PyData)}, fs.map (·.1) = es.map (·.1) → es.lookup f = none → fs.lookup f = none
  | [], [], _, _ => rfl
  | [], _ :: _, h, _ => by simp at h
  | _ :: _, [], h, _ => by simp at h
  | (a, v) :: r, (b, e) :: t, h, hl => by
    simp only [List.map_cons, List.cons.injEq] at h
    obtain ⟨rfl, h⟩ := h
    rw [List.lookup_cons] at hl ⊢
    cases q : f == a with
    | true => rw [q] at hl; cases hl
    | false =>
      rw [q] at hl
      simpa using look_none h hl
theorem Den.ins_inv {K : PySem.W.Frag} {F : Hp} {S : Strm} {v : V} {C : Str} {es : List (Str × PyData)} (h : Den K F S v (insP C es)) : ∃ a dx fs, v = .ref a ∧ F a = some (.ins (He.ga K C) dx fs) ∧ fs.map (·.1) = es.map (·.1) ∧ DenL K F S (fs.map (·.2)) (es.map (·.2)) := by
  generalize e : insP C es = d at h
  rcases h.dict_inv e.symm with ⟨ex, ed, h1, h2, h3, hko⟩ | ⟨ex, ed, h1, h2, h3, hko⟩ | ⟨ex, ed, h1, h2, h3⟩ | ⟨ex, ed, h1⟩ | ⟨ex, ed, h1, h0, h2, h3⟩
  · exfalso
    rw [← e] at ed
    unfold insP dkP at ed
    injection ed with ed
    rename_i es0
    cases es0 with
    | nil => simp at ed
    | cons q r => injection ed with ed _; injection ed with ed _; cases h : q.1 <;> rw [h] at ed <;> cases ed
  · exfalso
    rw [← e] at ed
    unfold insP dtP at ed
    injection ed with ed
    rename_i es0
    cases es0 with
    | nil => simp at ed
    | cons q r => injection ed with ed _; injection ed with ed _; cases ed
  · rw [← e] at ed
    obtain ⟨eC, eE⟩ := insP_inj ed
    subst eC eE
    exact ⟨_, _, _, ex, h1, h2, h3⟩
  · exfalso
    rw [← e] at ed
    unfold insP strmP at ed
    injection ed with ed
    injection ed with ed _
    injection ed with _ ed
    cases ed
  · exfalso
    rw [← e] at ed
    unfold insP parP at ed
    injection ed with ed
    injection ed with ed _
    injection ed with _ ed
    cases ed
theorem parP_inj {C C' : Str} {es es' : List (Str × PyData)} (h : parP C es = parP C' es') : C = C' ∧ es = es' := by
  have : insP C es = insP C' es' := by
    unfold parP at h
    unfold insP
    injection h with h
    injection h with _ h
    rw [h]
  exact insP_inj this
theorem Den.par_inv {K : PySem.W.Frag} {F : Hp} {S : Strm} {v : V} {C : Str} {es : List (Str × PyData)} (h : Den K F S v (parP C es)) : ∃ (a dx : Addr) (fs gs : List (Str × V)), v = .ref a ∧ F a = some (.ins (He.ga K C) dx fs) ∧ (∀ p ∈ gs, fs.lookup p.1 = some p.2) ∧ gs.map (·.1) = es.map (·.1) ∧ DenL K F S (gs.map (·.2)) (es.map (·.2)) := by
  generalize e : parP C es = d at h
  rcases h.dict_inv e.symm with ⟨ex, ed, h1, h2, h3, hko⟩ | ⟨ex, ed, h1, h2, h3, hko⟩ | ⟨ex, ed, h1, h2, h3⟩ | ⟨ex, ed, h1⟩ | ⟨ex, ed, h1, h0, h2, h3⟩
  · exfalso
    rw [← e] at ed
    unfold parP dkP at ed
    injection ed with ed
    rename_i es0
    cases es0 with
    | nil => simp at ed
    | cons q r => injection ed with ed _; injection ed with ed _; cases h : q.1 <;> rw [h] at ed <;> cases ed
  · exfalso
    rw [← e] at ed
    unfold parP dtP at ed
    injection ed with ed
    rename_i es0
    cases es0 with
    | nil => simp at ed
    | cons q r => injection ed with ed _; injection ed with ed _; cases ed
  · exfalso
    rw [← e] at ed
    unfold insP parP at ed
    injection ed with ed
    injection ed with ed _
    injection ed with _ ed
    cases ed
  · exfalso
    rw [← e] at ed
    unfold parP strmP at ed
    injection ed with ed
    injection ed with ed _
    injection ed with _ ed
    cases ed
  · rw [← e] at ed
    obtain ⟨eC, eE⟩ := parP_inj ed
    subst eC eE
    exact ⟨_, _, _, _, ex, h1, h0, h2, h3⟩
theorem de_fld {C f : Str} (cl : Cls X.K (He.ga X.K C)) (na : NoAttr X.K (He.ga X.K C) f) (ha : DE X a ma) (hb : attributeBase a f X.env (eval a X.env) = eval a X.env := by rfl) : DE X (.Attribute a f pos) (mFld C f ma) :=
  PE.weak (pe_fld ha hb) fun σ H Q h => by
    obtain ⟨F, S, n, γ, ag, k, hm, hQ⟩ := h
    refine ⟨F, S, n, γ, ag, _, hm, fun d n1 hk v H1 p => ?_⟩
    obtain ⟨es, d', e, hl, hk⟩ := hk
    rcases e with e | e
    · subst e
      obtain ⟨b, dx, fs, rfl, h1, h2, h3⟩ := p.den.ins_inv
      obtain ⟨w, hw, dw⟩ := look_den h2 h3 hl
      exact ⟨b, _, dx, fs, w, rfl, (ag.next p.ext).fr.sub _ _ h1, cl, na, hw, hQ _ _ hk _ _ ⟨p.ext, dw⟩⟩
    · subst e
      obtain ⟨b, dx, fs, gs, rfl, h1, h0, h2, h3⟩ := p.den.par_inv
      obtain ⟨w, hw, dw⟩ := look_den h2 h3 hl
      have hw2 : fs.lookup f = some w := by
        have : ∀ {gs : List (Str × V)}, gs.lookup f = some w → (f, w) ∈ gs := by
          intro gs
          induction gs with
          | nil => intro h; cases h
          | cons q r ih =>
            intro h
            rw [List.lookup_cons] at h
            cases e : f == q.1 with
            | true =>
              rw [e] at h
              cases h
              rw [beq_iff_eq.mp e]
              exact List.mem_cons_self
            | false =>
              rw [e] at h
              exact List.mem_cons_of_mem _ (ih h)
        exact h0 _ (this hw)
      exact ⟨b, _, dx, fs, w, rfl, (ag.next p.ext).fr.sub _ _ h1, cl, na, hw2, hQ _ _ hk _ _ ⟨p.ext, dw⟩⟩
end

abbrev SpecD := List PyData → Nat → (PyData → Nat → Prop) → Prop
def spD (K : PySem.W.Frag) (m : Nat) (sp : SpecD) : Sp := fun vs H Q _ => vs.length = m ∧ ∃ F S n ds, Fr F S n H ∧ DenL K F S vs ds ∧ ∃ k, sp ds n k ∧ ∀ d n', k d n' → ∀ v H', Post K F S H v d n' H' → Q v H'
def mCall (m : Nat) (sp : SpecD) (ms : MA) : M := fun γ n k => ms γ n fun ds n1 => ds.length = m ∧ sp ds n1 k
structure CalD (P : Program) (w : World) (K : PySem.W.Frag) (mg : Str → Option Value) (base : Heap) (k m : Nat) (x : Str) (sp : SpecD) : Prop where
  ex : ∃ (f : Addr) (fd : FuncData) (ps : List Str), FnOk P w K mg base CX0 k f fd ps (spD K m sp) ∧ mg x = some (.ref f) ∧ PySem.W.keepIn K (.ref f) = true ∧ Binds K fd ps []
structure MetD (P : Program) (w : World) (K : PySem.W.Frag) (mg : Str → Option Value) (base : Heap) (k m : Nat) (C x : Str) (sp : SpecD) : Prop where
  ex : ∃ (f : Addr) (fd : FuncData) (ps : List Str), Cls K (He.ga K C) ∧ Meth K (He.ga K C) x f ∧ FnOk P w K mg base CX0 k f fd ps (spD K m sp) ∧ Binds K fd ps []
section
variable {X : Cx} {k j m : Nat} {x C : Str} {sp : SpecD} {p pos apos : Pos} {e o : Expr} {es : List Expr} {ms : MA} {mo : M}
theorem tCall_D {K : PySem.W.Frag} {E : XK} {σ : L2.St} {H : Hp} {Q : VK} (h : tD K (mCall m sp ms) σ H Q) : tCall (spD K m sp) [] E (tDA K ms) σ H Q := by
  obtain ⟨F, S, n, γ, ag, k, hm, hQ⟩ := h
  refine ⟨F, S, n, γ, ag, _, hm, fun ds n1 hk vs H1 p => ?_⟩
  show spD K m sp (vs ++ []) H1 Q E
  rw [List.append_nil]
  exact ⟨by rw [p.den.length]; exact hk.1, _, S, n1, ds, (ag.next p.ext).fr, p.den, k, hk.2, fun d n2 hk2 v H2 p2 => hQ _ _ hk2 _ _ (Post.after ag.fr p.ext p2)⟩
theorem de_call (c : CalD X.prog X.w X.K X.mg X.base k m x sp) (hr : Room j X.A) (hk : k ≤ j) (hg : Gl X x) (ha : DA X (e :: es) ms)
    (hdb : (x == ("__debug__" : Str)) = false := by decide) (he : starEach (e :: es) X.env = (false, eval e X.env) :: starEach es X.env := by rfl) (hpl : (backTo pos (starEach es X.env)).any (·.1) = false := by rfl) :
    DE X (.Call (.Name x p) (e :: es) [] pos) (mCall m sp ms) := by
  obtain ⟨f, fd, ps, F, hm, kp, b⟩ := c.ex
  exact PE.weak (pe_call F (hr.mono hk) hg hm kp b .nil pass0 ha hdb he hpl) fun _ _ _ h => tCall_D (E := E0) h
def mMeth (C x : Str) (m : Nat) (sp : SpecD) (mo : M) (ms : MA) : M := fun γ n k => mo γ n fun d n1 => ∃ fs, d = insP C fs ∧ fs.lookup x = none ∧ ms γ n1 fun ds n2 => ds.length + 1 = m ∧ sp (d :: ds) n2 k
theorem tMeth_D {K : PySem.W.Frag} {E : XK} {σ : L2.St} {H : Hp} {Q : VK} (h : tD K (mMeth C x m sp mo ms) σ H Q) : tMeth (He.ga K C) x (spD K m sp) [] E (tD K mo) (tDA K ms) σ H Q := by
  obtain ⟨F, S, n, γ, ag, k, hm, hQ⟩ := h
  refine ⟨F, S, n, γ, ag, _, hm, fun d n1 hk v H1 p => ?_⟩
  obtain ⟨fs0, rfl, hl, hk⟩ := hk
  obtain ⟨a, dx, fs, rfl, h1, h2, h3⟩ := p.den.ins_inv
  have ag1 := ag.next p.ext
  refine ⟨a, dx, fs, rfl, ag1.fr.sub _ _ h1, look_none h2 hl, ?_⟩
  refine ⟨_, S, n1, γ, ag1, _, hk, fun ds n2 hk2 vs H2 p2 => ?_⟩
  show spD K m sp (.ref a :: (vs ++ [])) H2 Q E
  rw [List.append_nil]
  exact ⟨by rw [List.length_cons, p2.den.length]; exact hk2.1, _, S, n2, _, (ag1.next p2.ext).fr, .cons (p.den.mono sub_grow) p2.den, k, hk2.2, fun d n3 hk3 v H3 p3 => hQ _ _ hk3 _ _ (Post.after ag.fr p.ext (Post.after ag1.fr p2.ext p3))⟩
theorem de_meth {pl : Sem Bool} (c : MetD X.prog X.w X.K X.mg X.base k m C x sp) (hr : Room j X.A) (hk : k ≤ j) (ho : DE X o mo) (ha : DA X (e :: es) ms)
    (hst : starEach (e :: es) X.env = (false, eval e X.env) :: starEach es X.env := by rfl) (hpl : (backTo pos (starEach es X.env)).any (·.1) = false := by rfl)
    (ht : eval (.Call (.Attribute o x apos) (e :: es) [] pos) X.env = (do
      let ov ← eval o X.env
      standAt apos.atName
      let (f, first) ← holding [ov] (getMethod ov x pl)
      callWith pos f first (backTo pos (starEach (e :: es) X.env)) (backToKw pos (keywordEach [] X.env))) := by rfl) :
    DE X (.Call (.Attribute o x apos) (e :: es) [] pos) (mMeth C x m sp mo ms) := by
  obtain ⟨f, fd, ps, hc, hm, F, b⟩ := c.ex
  exact PE.weak (pe_meth (pl := pl) ho hc hm F (hr.mono hk) b .nil pass0 ha hst hpl ht) fun _ _ _ h => tMeth_D (E := E0) h
theorem de_meth0 {pl : Sem Bool} (c : MetD X.prog X.w X.K X.mg X.base k m C x sp) (hr : Room j X.A) (hk : k ≤ j) (ho : DE X o mo)
    (ht : eval (.Call (.Attribute o x apos) [] [] pos) X.env = (do
      let ov ← eval o X.env
      standAt apos.atName
      let (f, first) ← holding [ov] (getMethod ov x pl)
      callWith pos f first (backTo pos (starEach [] X.env)) (backToKw pos (keywordEach [] X.env))) := by rfl) :
    DE X (.Call (.Attribute o x apos) [] [] pos) (mMeth C x m sp mo mNil) := by
  obtain ⟨f, fd, ps, hc, hm, F, b⟩ := c.ex
  refine PE.weak (pe_meth0 (pl := pl) ho hc hm F (hr.mono hk) b .nil pass0 ht) fun σ H Q h => ?_
  have := tMeth_D (E := E0) h
  obtain ⟨F, S, n, γ, ag, k, hm, hQ⟩ := h
  refine ⟨F, S, n, γ, ag, _, hm, fun d n1 hk v H1 p => ?_⟩
  obtain ⟨fs0, rfl, hl, hk⟩ := hk
  obtain ⟨a, dx, fs, rfl, h1, h2, h3⟩ := p.den.ins_inv
  have ag1 := ag.next p.ext
  refine ⟨a, dx, fs, rfl, ag1.fr.sub _ _ h1, look_none h2 hl, ?_⟩
  show spD X.K m sp (.ref a :: ([] ++ [])) H1 Q E0
  have hk : ([] : List PyData).length + 1 = m ∧ sp (insP C fs0 :: []) n1 k := hk
  exact ⟨hk.1, _, S, n1, _, ag1.fr, .cons p.den .nil, k, hk.2, fun d n3 hk3 v H3 p3 => hQ _ _ hk3 _ _ (Post.after ag.fr p.ext p3)⟩
end
end DL
namespace DL
open PySem PySem.Spec PyProof.Rows L2

inductive Sl where
  | no | val (d : PyData) | own (T : Bool) (d : PyData)
abbrev G := List Sl
def plS : Sl → Option PyData
  | .val d => some d
  | _ => none
def pkS : Sl → Option PyData
  | .val d => some d
  | .own _ d => some d
  | .no => none
abbrev pl (γ : G) : Env := γ.map plS
abbrev pk (γ : G) : Env := γ.map pkS
inductive OwnAt (K : PySem.W.Frag) (F : Hp) (S : Strm) (H : Hp) (a : Addr) : Bool → PyData → Prop
  | lst {xs : List V} {ds : List PyData} : H a = some (.lst xs) → DenL K F S xs ds → OwnAt K F S H a false (.list ds)
  | dK {kvs : List (Key × V)} {es : List (Key × PyData)} : H a = some (.dK kvs) → kvs.map (·.1) = es.map (·.1) → DenL K F S (kvs.map (·.2)) (es.map (·.2)) → (es.all fun e => kOk e.1) = true → OwnAt K F S H a false (dkP es)
  | dT {kvs : List (List Key × V)} {es : List (List Key × PyData)} : H a = some (.dT kvs) → kvs.map (·.1) = es.map (·.1) → DenL K F S (kvs.map (·.2)) (es.map (·.2)) → (es.all fun e => e.1.all kOk) = true → OwnAt K F S H a true (dtP es)
theorem OwnAt.mono {K : PySem.W.Frag} {F F' : Hp} {S : Strm} {H H' : Hp} {a : Addr} {T : Bool} {d : PyData} (s : Sub F F') (e : H' a = H a) (h : OwnAt K F S H a T d) : OwnAt K F' S H' a T d := by
  cases h with
  | lst h1 h2 => exact .lst (e.trans h1) (h2.mono s)
  | dK h1 h2 h3 h4 => exact .dK (e.trans h1) h2 (h3.mono s) h4
  | dT h1 h2 h3 h4 => exact .dT (e.trans h1) h2 (h3.mono s) h4
theorem OwnAt.there {K : PySem.W.Frag} {F : Hp} {S : Strm} {H : Hp} {a : Addr} {T : Bool} {d : PyData} (h : OwnAt K F S H a T d) : ∃ o, H a = some o := by
  cases h with
  | lst h1 _ => exact ⟨_, h1⟩
  | dK h1 _ _ _ => exact ⟨_, h1⟩
  | dT h1 _ _ _ => exact ⟨_, h1⟩
inductive FrzOf : HO → HO → Prop
  | lst (xs : List V) : FrzOf (.lst xs) (.lst xs)
  | dK (ob : Obj) (kvs : List (Key × V)) : FrzOf (.dK kvs) (.frz ob (.dK kvs))
  | dT (ob : Obj) (kvs : List (List Key × V)) : FrzOf (.dT kvs) (.frz ob (.dT kvs))
theorem OwnAt.obj {K : PySem.W.Frag} {F : Hp} {S : Strm} {H : Hp} {a : Addr} {T : Bool} {d : PyData} (h : OwnAt K F S H a T d) : ∃ o, H a = some o ∧ ((∃ xs, o = .lst xs) ∨ Mut (some o) ∧ ∀ ob, FrzOf o (.frz ob o)) := by
  cases h with
  | lst h1 _ => exact ⟨_, h1, .inl ⟨_, rfl⟩⟩
  | dK h1 _ _ _ => exact ⟨_, h1, .inr ⟨trivial, fun ob => .dK ob _⟩⟩
  | dT h1 _ _ _ => exact ⟨_, h1, .inr ⟨trivial, fun ob => .dT ob _⟩⟩
theorem OwnAt.den {K : PySem.W.Frag} {F F' : Hp} {S : Strm} {H : Hp} {a : Addr} {T : Bool} {d : PyData} {o o' : HO} (s : Sub F F') (ho : H a = some o) (fz : FrzOf o o') (e : F' a = some o') (h : OwnAt K F S H a T d) : Den K F' S (.ref a) d := by
  cases h with
  | lst h1 h2 =>
    rw [ho] at h1; cases h1
    cases fz
    exact .lst e (h2.mono s)
  | dK h1 h2 h3 h4 =>
    rw [ho] at h1; cases h1
    cases fz
    exact .dK e h2 (h3.mono s) h4
  | dT h1 h2 h3 h4 =>
    rw [ho] at h1; cases h1
    cases fz
    exact .dT e h2 (h3.mono s) h4
theorem upd_self {H : Hp} {a : Addr} {o : HO} (h : H a = some o) : upd H a o = H := by
  funext b
  by_cases hb : b = a
  · subst hb; rw [upd_same, h]
  · rw [upd_ne hb]
theorem Inv_frz {X : Cx} {pins : List (Addr × Obj)} {σ : L2.St} {H : Hp} {s : Shared} {K : PySem.W.Frag} {F : Hp} {S : Strm} {a : Addr} {T : Bool} {d : PyData} (I : Inv X pins σ H s) (h : OwnAt K F S H a T d) : ∃ o o', H a = some o ∧ FrzOf o o' ∧ Inv X pins σ (upd H a o') s := by
  obtain ⟨o, ho, c⟩ := h.obj
  rcases c with ⟨xs, rfl⟩ | ⟨mu, fz⟩
  · exact ⟨_, _, ho, .lst xs, by rw [upd_self ho]; exact I⟩
  · obtain ⟨ob, I'⟩ := I.lock ho mu
    exact ⟨_, _, ho, fz ob, I'⟩
structure AgS (K : PySem.W.Frag) (H0 F0 F : Hp) (S : Strm) (n : Nat) (H : Hp) (γ : G) (σ : L2.St) : Prop where
  f0 : Sub F0 H0
  n0 : ∀ b, inS S b → F0 b = none
  s0 : ∀ b, inS S b → ∃ o, H0 b = some o
  fr : Fr F S n H
  kp : Kp S H0 H
  inn : Sub F (grow F0 H0 H)
  val : ∀ (i : Nat) (d : PyData), γ[i]? = some (.val d) → ∃ v, σ[i]? = some (some v) ∧ Den K F S v d
  own : ∀ (i : Nat) (T : Bool) (d : PyData), γ[i]? = some (.own T d) → ∃ a, σ[i]? = some (some (.ref a)) ∧ H0 a = none ∧ F a = none ∧ ¬ inS S a ∧ OwnAt K F S H a T d
  dis : ∀ (i j : Nat) (T U : Bool) (d e : PyData) (a : Addr), γ[i]? = some (.own T d) → γ[j]? = some (.own U e) → i ≠ j → σ[i]? = some (some (.ref a)) → σ[j]? ≠ some (some (.ref a))
  len : γ.length = σ.length
section
variable {K : PySem.W.Frag} {H0 F0 F : Hp} {S : Strm} {n n' : Nat} {H H' : Hp} {γ : G} {σ : L2.St}
theorem grow_mono (f0 : Sub F0 H0) (n0 : ∀ b, inS S b → F0 b = none) (s0 : ∀ b, inS S b → ∃ o, H0 b = some o) (fr : Fr F S n H) (kp : Kp S H0 H) (inn : Sub F (grow F0 H0 H)) (e : Ext S n' H H') : Sub (grow F H H') (grow F0 H0 H') := fun b o h => by
  have key : H b = none → H0 b = none := fun hb => by
    cases q : H0 b with
    | none => rfl
    | some u =>
      by_cases hs : inS S b
      · obtain ⟨xs, z⟩ := fr.str.some hs
        rw [hb] at z; cases z
      · have := kp b u q hs
        rw [hb] at this; cases this
  rcases grow_cases h with h | ⟨h1, h2, h3⟩
  · have hs : ¬ inS S b := fun hs => by rw [fr.nos b hs] at h; cases h
    rcases grow_cases (inn b o h) with h4 | ⟨h4, h5, h6⟩
    · exact sub_grow b o h4
    · exact grow_new h4 h5 (e.kp b o h6 hs)
  · have h0 := key h2
    have hF0 : F0 b = none := by
      cases q : F0 b with
      | none => rfl
      | some u => have := f0 b u q; rw [h0] at this; cases this
    exact grow_new hF0 h0 h3
theorem AgS.next (a : AgS K H0 F0 F S n H γ σ) (e : Ext S n' H H') : AgS K H0 F0 (grow F H H') S n' H' γ σ where
  f0 := a.f0
  n0 := a.n0
  s0 := a.s0
  fr := a.fr.next e
  kp := a.kp.trans e.kp
  inn := grow_mono a.f0 a.n0 a.s0 a.fr a.kp a.inn e
  val := fun i d h => let ⟨v, h1, h2⟩ := a.val i d h; ⟨v, h1, h2.mono sub_grow⟩
  own := fun i T d h => by
    obtain ⟨b, h1, h2, h3, h4, h5⟩ := a.own i T d h
    obtain ⟨o, ho⟩ := h5.there
    refine ⟨b, h1, h2, ?_, h4, h5.mono sub_grow ((e.kp b o ho h4).trans ho.symm)⟩
    unfold grow
    rw [h3, ho]
  dis := a.dis
  len := a.len
theorem pl_get {i : Nat} {d : PyData} (h : (pl γ)[i]? = some (some d)) : γ[i]? = some (.val d) := by
  rw [List.getElem?_map] at h
  cases e : γ[i]? with
  | none => rw [e] at h; cases h
  | some s => rw [e] at h; cases s <;> simp [plS] at h; rw [h]
theorem pk_get {i : Nat} {d : PyData} (h : (pk γ)[i]? = some (some d)) : γ[i]? = some (.val d) ∨ ∃ T, γ[i]? = some (.own T d) := by
  rw [List.getElem?_map] at h
  cases e : γ[i]? with
  | none => rw [e] at h; cases h
  | some s => rw [e] at h; cases s <;> simp [pkS] at h <;> subst h <;> first | exact .inl rfl | exact .inr ⟨_, rfl⟩
theorem AgS.plain (a : AgS K H0 F0 F S n H γ σ) : AgE K F S n H (pl γ) σ := ⟨a.fr, fun i d h => a.val i d (pl_get h), by simpa using a.len⟩
open Classical in
noncomputable def withOwn (F H : Hp) (γ : G) (σ : L2.St) : Hp := fun b => if ∃ (i : Nat) (T : Bool) (d : PyData), γ[i]? = some (.own T d) ∧ σ[i]? = some (some (.ref b)) then H b else F b
theorem withOwn_at {i : Nat} {T : Bool} {d : PyData} {b : Addr} (h1 : γ[i]? = some (.own T d)) (h2 : σ[i]? = some (some (.ref b))) : withOwn F H γ σ b = H b := by
  unfold withOwn
  exact if_pos ⟨i, T, d, h1, h2⟩
def LkO (H H' : Hp) (as : List Addr) : Prop := (∀ b, b ∉ as → H' b = H b) ∧ ∀ b ∈ as, ∃ o o', H b = some o ∧ FrzOf o o' ∧ H' b = some o'
def ownAt1 (s : Option Sl) (v : Option (Option V)) : Option Addr := match s, v with
  | some (.own _ _), some (some (.ref b)) => some b
  | _, _ => none
def ownA (γ : G) (σ : L2.St) : List Addr := (List.range γ.length).filterMap fun i => ownAt1 (γ[i]?) (σ[i]?)
theorem mem_ownA {b : Addr} : b ∈ ownA γ σ ↔ ∃ (i : Nat) (T : Bool) (d : PyData), γ[i]? = some (.own T d) ∧ σ[i]? = some (some (.ref b)) := by
  unfold ownA
  rw [List.mem_filterMap]
  constructor
  · rintro ⟨i, hi, h⟩
    unfold ownAt1 at h
    split at h
    · rename_i T d c h1 h2
      cases h
      exact ⟨i, T, d, h1, h2⟩
    · cases h
  · rintro ⟨i, T, d, h1, h2⟩
    refine ⟨i, List.mem_range.mpr (List.getElem?_eq_some_iff.mp h1).1, ?_⟩
    rw [h1, h2]
    rfl
theorem AgS.atA (a : AgS K H0 F0 F S n H γ σ) {b : Addr} (h : b ∈ ownA γ σ) : ∃ T d, H0 b = none ∧ F b = none ∧ ¬ inS S b ∧ OwnAt K F S H b T d := by
  obtain ⟨i, T, d, h1, h2⟩ := mem_ownA.mp h
  obtain ⟨c, q1, q2, q3, q4, q5⟩ := a.own i T d h1
  rw [h2] at q1
  cases q1
  exact ⟨T, d, q2, q3, q4, q5⟩
theorem AgS.peek (a : AgS K H0 F0 F S n H γ σ) {H' : Hp} (lk : LkO H H' (ownA γ σ)) : AgE K (withOwn F H' γ σ) S n H' (pk γ) σ := by
  have offF : ∀ b o, F b = some o → b ∉ ownA γ σ := fun b o h z => by
    obtain ⟨_, _, _, q, _⟩ := a.atA z
    rw [h] at q; cases q
  have offS : ∀ b, inS S b → b ∉ ownA γ σ := fun b h z => by
    obtain ⟨_, _, _, _, q, _⟩ := a.atA z
    exact q h
  have sub0 : Sub F H' := fun b o h => by rw [lk.1 b (offF b o h)]; exact a.fr.sub b o h
  have sub1 : Sub F (withOwn F H' γ σ) := fun b o h => by
    unfold withOwn
    split
    · exact sub0 b o h
    · exact h
  refine ⟨⟨fun b o h => ?_, fun b hs => ?_, ?_, fun b xs h => ?_⟩, fun i d h => ?_, by simpa using a.len⟩
  · unfold withOwn at h
    split at h
    · exact h
    · exact sub0 b o h
  · unfold withOwn
    split
    · rename_i q
      exact absurd (mem_ownA.mpr q) (offS b hs)
    · exact a.fr.nos b hs
  · have st := a.fr.str
    cases S with
    | none => trivial
    | some p =>
      obtain ⟨ne, ns, x, y, z, h1, h2, r⟩ := st
      exact ⟨ne, ns, x, y, z, by rw [lk.1 _ (offS _ (.inl rfl))]; exact h1, by rw [lk.1 _ (offS _ (.inr rfl))]; exact h2, r⟩
  · by_cases hb : b ∈ ownA γ σ
    · unfold withOwn
      rw [if_pos (mem_ownA.mp hb)]
      exact h
    · rw [lk.1 b hb] at h
      exact sub1 b _ (a.fr.tp b xs h)
  · rcases pk_get h with h | ⟨T, h⟩
    · obtain ⟨v, h1, h2⟩ := a.val i d h
      exact ⟨v, h1, h2.mono sub1⟩
    · obtain ⟨b, h1, h2, h3, h4, h5⟩ := a.own i T d h
      obtain ⟨o, o', e1, e2, e3⟩ := lk.2 b (mem_ownA.mpr ⟨i, T, d, h, h1⟩)
      exact ⟨_, h1, h5.den sub1 e1 e2 ((withOwn_at h h1).trans e3)⟩
theorem AgS.unpeek (a : AgS K H0 F0 F S n H γ σ) {H1 H2 H3 : Hp} (lk : LkO H H1 (ownA γ σ)) (e : Ext S n' H1 H2) (h3 : ∀ b, b ∉ ownA γ σ → H3 b = H2 b) (h4 : ∀ b ∈ ownA γ σ, H3 b = H b) : Ext S n' H H3 := by
  have offS : ∀ b, inS S b → b ∉ ownA γ σ := fun b h z => by
    obtain ⟨_, _, _, _, q, _⟩ := a.atA z
    exact q h
  refine ⟨fun b o h hs => ?_, ?_⟩
  · by_cases hb : b ∈ ownA γ σ
    · rw [h4 b hb]; exact h
    · rw [h3 b hb]
      exact e.kp b o (by rw [lk.1 b hb]; exact h) hs
  · have st := e.str
    cases S with
    | none => trivial
    | some p =>
      obtain ⟨ne, ns, x, y, z, h1, h2, r⟩ := st
      exact ⟨ne, ns, x, y, z, by rw [h3 _ (offS _ (.inl rfl))]; exact h1, by rw [h3 _ (offS _ (.inr rfl))]; exact h2, r⟩
theorem AgS.setVal (a : AgS K H0 F0 F S n H γ σ) {i : Nat} {v : V} {d : PyData} (hv : Den K F S v d) (hl : γ.length = σ.length) : AgS K H0 F0 F S n H (γ.set i (.val d)) (σ.set i (some v)) where
  f0 := a.f0
  n0 := a.n0
  s0 := a.s0
  fr := a.fr
  kp := a.kp
  inn := a.inn
  val := fun j e h => by
    by_cases hj : i = j
    · subst hj
      obtain ⟨hlt, _⟩ := List.getElem?_eq_some_iff.mp h
      rw [List.length_set] at hlt
      rw [List.getElem?_set_self hlt] at h
      cases h
      exact ⟨v, by rw [List.getElem?_set_self (by omega)], hv⟩
    · rw [List.getElem?_set_ne hj] at h
      rw [List.getElem?_set_ne hj]
      exact a.val j e h
  own := fun j U e h => by
    by_cases hj : i = j
    · subst hj
      obtain ⟨hlt, _⟩ := List.getElem?_eq_some_iff.mp h
      rw [List.length_set] at hlt
      rw [List.getElem?_set_self hlt] at h
      cases h
    · rw [List.getElem?_set_ne hj] at h
      rw [List.getElem?_set_ne hj]
      exact a.own j U e h
  dis := fun j k U W e f b h1 h2 hne h3 => by
    have key : ∀ {j : Nat} {U : Bool} {e : PyData}, (γ.set i (.val d))[j]? = some (.own U e) → i ≠ j ∧ γ[j]? = some (.own U e) := fun {j U e} h => by
      by_cases hj : i = j
      · subst hj
        obtain ⟨hlt, _⟩ := List.getElem?_eq_some_iff.mp h
        rw [List.length_set] at hlt
        rw [List.getElem?_set_self hlt] at h
        cases h
      · rw [List.getElem?_set_ne hj] at h
        exact ⟨hj, h⟩
    obtain ⟨n1, q1⟩ := key h1
    obtain ⟨n2, q2⟩ := key h2
    rw [List.getElem?_set_ne n1] at h3
    rw [List.getElem?_set_ne n2]
    exact a.dis j k U W e f b q1 q2 hne h3
  len := by simpa using a.len
theorem AgS.setOwn (a : AgS K H0 F0 F S n H γ σ) {i : Nat} {b : Addr} {T : Bool} {d : PyData} (hl : γ.length = σ.length) (h0 : H0 b = none) (hF : F b = none) (hs : ¬ inS S b) (ho : OwnAt K F S H b T d) (hd : ∀ (j : Nat) (U : Bool) (e : PyData), j ≠ i → γ[j]? = some (.own U e) → σ[j]? ≠ some (some (.ref b))) :
    AgS K H0 F0 F S n H (γ.set i (.own T d)) (σ.set i (some (.ref b))) where
  f0 := a.f0
  n0 := a.n0
  s0 := a.s0
  fr := a.fr
  kp := a.kp
  inn := a.inn
  val := fun j e h => by
    by_cases hj : i = j
    · subst hj
      obtain ⟨hlt, _⟩ := List.getElem?_eq_some_iff.mp h
      rw [List.length_set] at hlt
      rw [List.getElem?_set_self hlt] at h
      cases h
    · rw [List.getElem?_set_ne hj] at h
      rw [List.getElem?_set_ne hj]
      exact a.val j e h
  own := fun j U e h => by
    by_cases hj : i = j
    · subst hj
      obtain ⟨hlt, _⟩ := List.getElem?_eq_some_iff.mp h
      rw [List.length_set] at hlt
      rw [List.getElem?_set_self hlt] at h
      cases h
      exact ⟨b, by rw [List.getElem?_set_self (by omega)], h0, hF, hs, ho⟩
    · rw [List.getElem?_set_ne hj] at h
      rw [List.getElem?_set_ne hj]
      exact a.own j U e h
  dis := fun j k U W e f c h1 h2 hne h3 => by
    by_cases hj : i = j
    · subst hj
      obtain ⟨hlt, _⟩ := List.getElem?_eq_some_iff.mp h1
      rw [List.length_set] at hlt
      rw [List.getElem?_set_self (by omega)] at h3
      cases h3
      rw [List.getElem?_set_ne hne] at h2 ⊢
      exact hd k W f (Ne.symm hne) h2
    · rw [List.getElem?_set_ne hj] at h1 h3
      by_cases hk : i = k
      · subst hk
        obtain ⟨hlt, _⟩ := List.getElem?_eq_some_iff.mp h2
        rw [List.length_set] at hlt
        rw [List.getElem?_set_self (by omega)]
        intro z
        cases z
        exact hd j U e (Ne.symm hj) h1 h3
      · rw [List.getElem?_set_ne hk] at h2 ⊢
        exact a.dis j k U W e f c h1 h2 hne h3
  len := by simpa using a.len
theorem AgS.write (a : AgS K H0 F0 F S n H γ σ) {i : Nat} {b : Addr} {T T' : Bool} {d d' : PyData} {o : HO} (hi : γ[i]? = some (.own T d)) (hb : σ[i]? = some (some (.ref b))) (ho : OwnAt K F S (upd H b o) b T' d') : AgS K H0 F0 F S n (upd H b o) (γ.set i (.own T' d')) σ := by
  obtain ⟨c, e1, e2, e3, e4, e5⟩ := a.own i T d hi
  rw [hb] at e1
  cases e1
  have nb : ∀ c u, F c = some u → c ≠ b := fun c u h z => by rw [z, e3] at h; cases h
  have nH0 : ∀ c u, H0 c = some u → c ≠ b := fun c u h z => by rw [z, e2] at h; cases h
  have hlt : i < γ.length := (List.getElem?_eq_some_iff.mp hi).1
  have nt : ∀ xs, o ≠ .tup xs := fun xs z => by
    cases ho with
    | lst h1 _ => rw [upd_same] at h1; rw [z] at h1; cases h1
    | dK h1 _ _ _ => rw [upd_same] at h1; rw [z] at h1; cases h1
    | dT h1 _ _ _ => rw [upd_same] at h1; rw [z] at h1; cases h1
  have tp' : ∀ c xs, upd H b o c = some (.tup xs) → F c = some (.tup xs) := fun c xs h => by
    by_cases hc : c = b
    · subst hc; rw [upd_same] at h; cases h; exact absurd rfl (nt xs)
    · rw [upd_ne hc] at h; exact a.fr.tp c xs h
  refine ⟨a.f0, a.n0, a.s0, ⟨fun c u h => by rw [upd_ne (nb c u h)]; exact a.fr.sub c u h, a.fr.nos, ?_, tp'⟩, fun c u h hs => by rw [upd_ne (nH0 c u h)]; exact a.kp c u h hs, fun c u h => ?_, fun j e h => ?_, fun j U e h => ?_, fun j k U W e f c h1 h2 hne h3 => ?_, by simpa using a.len⟩
  · have st := a.fr.str
    cases S with
    | none => trivial
    | some p =>
      obtain ⟨ne, ns, x, y, z, h1, h2, r⟩ := st
      have n1 : p.1 ≠ b := fun q => e4 (.inl q.symm)
      have n2 : p.2 ≠ b := fun q => e4 (.inr q.symm)
      exact ⟨ne, ns, x, y, z, by rw [upd_ne n1]; exact h1, by rw [upd_ne n2]; exact h2, r⟩
  · rcases grow_cases (a.inn c u h) with h4 | ⟨h4, h5, h6⟩
    · exact sub_grow c u h4
    · exact grow_new h4 h5 (by rw [upd_ne (nb c u h)]; exact h6)
  · by_cases hj : i = j
    · subst hj
      rw [List.getElem?_set_self hlt] at h
      cases h
    · rw [List.getElem?_set_ne hj] at h
      exact a.val j e h
  · by_cases hj : i = j
    · subst hj
      rw [List.getElem?_set_self hlt] at h
      cases h
      exact ⟨b, hb, e2, e3, e4, ho⟩
    · rw [List.getElem?_set_ne hj] at h
      obtain ⟨c, q1, q2, q3, q4, q5⟩ := a.own j U e h
      have ncb : c ≠ b := fun z => by
        subst z
        exact a.dis i j T U d e c hi h hj hb q1
      exact ⟨c, q1, q2, q3, q4, q5.mono (Sub.refl _) (upd_ne ncb)⟩
  · have key : ∀ {j : Nat} {U : Bool} {e : PyData}, (γ.set i (.own T' d'))[j]? = some (.own U e) → ∃ U' e', γ[j]? = some (.own U' e') := fun {j U e} h => by
      by_cases hj : i = j
      · subst hj; exact ⟨_, _, hi⟩
      · rw [List.getElem?_set_ne hj] at h; exact ⟨_, _, h⟩
    obtain ⟨_, _, q1⟩ := key h1
    obtain ⟨_, _, q2⟩ := key h2
    exact a.dis j k _ _ _ _ c q1 q2 hne h3
theorem AgS.freeze (a : AgS K H0 F0 F S n H γ σ) {i : Nat} {T : Bool} {d : PyData} (hi : γ[i]? = some (.own T d)) : ∃ b, OwnAt K F S H b T d ∧ ∀ o o', H b = some o → FrzOf o o' → ∃ F', Sub F F' ∧ AgS K H0 F0 F' S n (upd H b o') (γ.set i (.val d)) σ := by
  obtain ⟨b, e1, e2, e3, e4, e5⟩ := a.own i T d hi
  refine ⟨b, e5, fun o o' ho fz => ?_⟩
  have hlt : i < γ.length := (List.getElem?_eq_some_iff.mp hi).1
  have s1 : Sub F (upd F b o') := fun c u h => by rw [upd_ne (fun z => by rw [z, e3] at h; cases h)]; exact h
  have hF0 : F0 b = none := by
    cases q : F0 b with
    | none => rfl
    | some u => have := a.f0 b u q; rw [e2] at this; cases this
  have nS : ∀ c, inS S c → c ≠ b := fun c hs z => e4 (by rw [← z]; exact hs)
  have nH0 : ∀ c u, H0 c = some u → c ≠ b := fun c u h z => by rw [z, e2] at h; cases h
  refine ⟨upd F b o', s1, a.f0, a.n0, a.s0, ⟨fun c u h => ?_, fun c hs => ?_, ?_, fun c xs h => ?_⟩, fun c u h hs => by rw [upd_ne (nH0 c u h)]; exact a.kp c u h hs, fun c u h => ?_, fun j e h => ?_, fun j U e h => ?_, fun j k U W e f c h1 h2 hne h3 => ?_, by simpa using a.len⟩
  · by_cases hc : c = b
    · subst hc; rw [upd_same] at h ⊢; exact h
    · rw [upd_ne hc] at h ⊢; exact a.fr.sub c u h
  · rw [upd_ne (nS c hs)]; exact a.fr.nos c hs
  · have st := a.fr.str
    cases S with
    | none => trivial
    | some p =>
      obtain ⟨ne, ns, x, y, z, h1, h2, r⟩ := st
      exact ⟨ne, ns, x, y, z, by rw [upd_ne (nS _ (.inl rfl))]; exact h1, by rw [upd_ne (nS _ (.inr rfl))]; exact h2, r⟩
  · by_cases hc : c = b
    · subst hc; rw [upd_same] at h ⊢; exact h
    · rw [upd_ne hc] at h ⊢; exact a.fr.tp c xs h
  · by_cases hc : c = b
    · subst hc; exact grow_new hF0 e2 (by rw [upd_same] at h ⊢; exact h)
    · rw [upd_ne hc] at h
      rcases grow_cases (a.inn c u h) with h4 | ⟨h4, h5, h6⟩
      · exact sub_grow c u h4
      · exact grow_new h4 h5 (by rw [upd_ne hc]; exact h6)
  · by_cases hj : i = j
    · subst hj
      rw [List.getElem?_set_self hlt] at h
      cases h
      exact ⟨_, e1, e5.den s1 ho fz upd_same⟩
    · rw [List.getElem?_set_ne hj] at h
      obtain ⟨v, q1, q2⟩ := a.val j e h
      exact ⟨v, q1, q2.mono s1⟩
  · by_cases hj : i = j
    · subst hj
      rw [List.getElem?_set_self hlt] at h
      cases h
    · rw [List.getElem?_set_ne hj] at h
      obtain ⟨c, q1, q2, q3, q4, q5⟩ := a.own j U e h
      have ncb : c ≠ b := fun z => by
        subst z
        exact a.dis i j T U d e c hi h hj e1 q1
      exact ⟨c, q1, q2, by rw [upd_ne ncb]; exact q3, q4, q5.mono s1 (upd_ne ncb)⟩
  · have key : ∀ {j : Nat} {U : Bool} {e : PyData}, (γ.set i (.val d))[j]? = some (.own U e) → γ[j]? = some (.own U e) := fun {j U e} h => by
      by_cases hj : i = j
      · subst hj
        rw [List.getElem?_set_self hlt] at h
        cases h
      · rw [List.getElem?_set_ne hj] at h; exact h
    exact a.dis j k U W e f c (key h1) (key h2) hne h3
end
section
variable {X : Cx} {pins : List (Addr × Obj)} {σ : L2.St} {s : Shared}
theorem Inv_lockL {H : Hp} (I : Inv X pins σ H s) : ∀ as : List Addr, (∀ b ∈ as, ∃ (K : PySem.W.Frag) (F : Hp) (S : Strm) (T : Bool) (d : PyData), OwnAt K F S H b T d) → ∃ H', Inv X pins σ H' s ∧ LkO H H' as
  | [], _ => ⟨H, I, fun _ _ => rfl, fun _ h => nomatch h⟩
  | b :: as, h => by
    obtain ⟨H1, I1, lk⟩ := Inv_lockL I as fun c hc => h c (by simp [hc])
    by_cases hb : b ∈ as
    · exact ⟨H1, I1, fun c hc => lk.1 c fun z => hc (by simp [z]), fun c hc => by
        rcases List.mem_cons.mp hc with e | e
        · rw [e]; exact lk.2 b hb
        · exact lk.2 c e⟩
    · obtain ⟨K, F, S, T, d, ow⟩ := h b (by simp)
      obtain ⟨o, o', e1, e2, I2⟩ := Inv_frz I1 (ow.mono (Sub.refl _) (lk.1 b hb))
      rw [lk.1 b hb] at e1
      refine ⟨_, I2, fun c hc => ?_, fun c hc => ?_⟩
      · rw [upd_ne (fun z => hc (by simp [z]))]
        exact lk.1 c fun z => hc (by simp [z])
      · by_cases hcb : c = b
        · subst hcb; exact ⟨o, o', e1, e2, upd_same⟩
        · rw [upd_ne hcb]
          rcases List.mem_cons.mp hc with e | e
          · exact absurd e hcb
          · exact lk.2 c e
theorem Inv_unlockL {H H1 H2 : Hp} {s' : Shared} (I0 : Inv X pins σ H s) (I2 : Inv X pins σ H2 s') : ∀ as : List Addr, (∀ b ∈ as, ∃ o o', H b = some o ∧ FrzOf o o' ∧ H2 b = some o') → ∃ H3, Inv X pins σ H3 s' ∧ (∀ b, b ∉ as → H3 b = H2 b) ∧ ∀ b ∈ as, H3 b = H b
  | [], _ => ⟨H2, I2, fun _ _ => rfl, fun _ h => nomatch h⟩
  | b :: as, h => by
    obtain ⟨H3, I3, k1, k2⟩ := Inv_unlockL I0 I2 (H1 := H1) as fun c hc => h c (by simp [hc])
    by_cases hb : b ∈ as
    · exact ⟨H3, I3, fun c hc => k1 c fun z => hc (by simp [z]), fun c hc => by
        rcases List.mem_cons.mp hc with e | e
        · rw [e]; exact k2 b hb
        · exact k2 c e⟩
    · obtain ⟨o, o', e1, e2, e3⟩ := h b (by simp)
      have e4 := (k1 b hb).trans e3
      have fin : ∀ H4, Inv X pins σ H4 s' → H4 b = some o → (∀ c, c ≠ b → H4 c = H3 c) → ∃ H3, Inv X pins σ H3 s' ∧ (∀ c, c ∉ b :: as → H3 c = H2 c) ∧ ∀ c ∈ b :: as, H3 c = H c := fun H4 I4 q1 q2 => by
        refine ⟨H4, I4, fun c hc => ?_, fun c hc => ?_⟩
        · rw [q2 c (fun z => hc (by simp [z]))]
          exact k1 c fun z => hc (by simp [z])
        · by_cases hcb : c = b
          · subst hcb; rw [q1, e1]
          · rw [q2 c hcb]
            rcases List.mem_cons.mp hc with e | e
            · exact absurd e hcb
            · exact k2 c e
      cases e2 with
      | lst xs => exact fin H3 I3 e4 fun _ _ => rfl
      | dK ob kvs => exact fin _ (I3.unlock e4 (I0.nofrz e1 trivial)) upd_same fun c hc => upd_ne hc
      | dT ob kvs => exact fin _ (I3.unlock e4 (I0.nofrz e1 trivial)) upd_same fun c hc => upd_ne hc
end
def tPk (K : PySem.W.Frag) (m : M) : TE := fun σ H Q => ∃ H0 F0 F S n γ, AgS K H0 F0 F S n H γ σ ∧ ∃ k, m (pk γ) n k ∧ ∀ d n', k d n' → ∀ v H', Ext S n' H H' → (∀ F', atom d = true → Den K F' S v d) → Q v H'
def tPkT (K : PySem.W.Frag) (m : MT) : TT := fun σ H Q => ∃ H0 F0 F S n γ, AgS K H0 F0 F S n H γ σ ∧ ∃ k, m (pk γ) n k ∧ ∀ d n', k d n' → ∀ H', Ext S n' H H' → Q d H'
theorem pe_pk {X : Cx} {e : Expr} {m : M} (h : DE X e m) : PE X e (tPk X.K m) := ⟨fun pins s σ H Q I q => by
  obtain ⟨H0, F0, F, S, n, γ, ag, k, hm, hQ⟩ := q
  obtain ⟨H1, I1, lk⟩ := Inv_lockL I (ownA γ σ) fun b hb => let ⟨T, d, _, _, _, q⟩ := ag.atA hb; ⟨_, _, _, T, d, q⟩
  refine thn (h.run pins s σ H1 (fun v H2 => ∃ d n', k d n' ∧ Ext S n' H1 H2 ∧ ∀ F', atom d = true → Den X.K F' S v d) I1 ⟨_, S, n, _, ag.peek lk, k, hm, fun d n' hk v H2 p => ⟨d, n', hk, p.ext, fun F' a => p.den.atom a⟩⟩) fun u s2 ⟨v, H2, I2, rv, d, n', hk, ex, hd⟩ => ?_
  obtain ⟨H3, I3, k1, k2⟩ := Inv_unlockL (H1 := H1) I I2 (ownA γ σ) fun b hb => by
    obtain ⟨o, o', e1, e2, e3⟩ := lk.2 b hb
    obtain ⟨_, _, _, _, nS, _⟩ := ag.atA hb
    exact ⟨o, o', e1, e2, ex.kp b o' e3 nS⟩
  exact ⟨v, H3, I3, rv, hQ d n' hk v H3 (ag.unpeek lk ex k1 k2) hd⟩⟩
theorem pt_pk {X : Cx} {e : Expr} {m : MT} (h : DT X e m) : PT X e (tPkT X.K m) := ⟨fun pins s σ H Q I q => by
  obtain ⟨H0, F0, F, S, n, γ, ag, k, hm, hQ⟩ := q
  obtain ⟨H1, I1, lk⟩ := Inv_lockL I (ownA γ σ) fun b hb => let ⟨T, d, _, _, _, q⟩ := ag.atA hb; ⟨_, _, _, T, d, q⟩
  refine thn (h.run pins s σ H1 (fun d H2 => ∃ n', k d n' ∧ Ext S n' H1 H2) I1 ⟨_, S, n, _, ag.peek lk, k, hm, fun d n' hk H2 p => ⟨n', hk, p⟩⟩) fun d s2 ⟨H2, I2, n', hk, ex⟩ => ?_
  obtain ⟨H3, I3, k1, k2⟩ := Inv_unlockL (H1 := H1) I I2 (ownA γ σ) fun b hb => by
    obtain ⟨o, o', e1, e2, e3⟩ := lk.2 b hb
    obtain ⟨_, _, _, _, nS, _⟩ := ag.atA hb
    exact ⟨o, o', e1, e2, ex.kp b o' e3 nS⟩
  exact ⟨H3, I3, hQ d n' hk H3 (ag.unpeek lk ex k1 k2)⟩⟩
structure Ks where
  nx : G → Nat → Prop
  rt : PyData → Nat → Prop
  bk : G → Nat → Prop := fun _ _ => False
  ct : G → Nat → Prop := fun _ _ => False
abbrev MS := G → Nat → Ks → Prop
structure Fits (K : PySem.W.Frag) (H0 F0 Fb : Hp) (S : Strm) (l : Nat) (k : Ks) (D : Ends) : Prop where
  nx : ∀ γ n, k.nx γ n → ∀ σ H F, AgS K H0 F0 F S n H γ σ → Sub Fb F → γ.length = l → σ.length = l → D.nx σ H
  rt : ∀ d n, k.rt d n → ∀ v H, Post K F0 S H0 v d n H → D.rt v H
  bk : ∀ γ n, k.bk γ n → ∀ σ H F, AgS K H0 F0 F S n H γ σ → Sub Fb F → γ.length = l → σ.length = l → D.bk σ H
  ct : ∀ γ n, k.ct γ n → ∀ σ H F, AgS K H0 F0 F S n H γ σ → Sub Fb F → γ.length = l → σ.length = l → D.ct σ H
def tS (K : PySem.W.Frag) (m : MS) : TS := fun D σ H => ∃ H0 F0 Fb F S n γ l, AgS K H0 F0 F S n H γ σ ∧ Sub Fb F ∧ γ.length = l ∧ σ.length = l ∧ ∃ k, m γ n k ∧ Fits K H0 F0 Fb S l k D
abbrev DS (X : Cx) (st : Stmt) (m : MS) : Prop := PS X st (tS X.K m)
abbrev DSs (X : Cx) (st : List Stmt) (m : MS) : Prop := PSs X st (tS X.K m)
theorem Post.entry {K : PySem.W.Frag} {H0 F0 F : Hp} {S : Strm} {n n' : Nat} {H H' : Hp} {γ : G} {σ : L2.St} {v : V} {d : PyData} (a : AgS K H0 F0 F S n H γ σ) (p : Post K F S H v d n' H') : Post K F0 S H0 v d n' H' :=
  ⟨⟨a.kp.trans p.ext.kp, p.ext.str⟩, p.den.mono (grow_mono a.f0 a.n0 a.s0 a.fr a.kp a.inn p.ext)⟩
def mSkip : MS := fun γ n k => k.nx γ n
def mSeq (a b : MS) : MS := fun γ n k => a γ n { k with nx := fun γ' n' => b γ' n' k }
def mRet (m : M) : MS := fun γ n k => m (pl γ) n k.rt
def mRetP (m : M) : MS := fun γ n k => m (pk γ) n fun d n' => atom d = true ∧ k.rt d n'
def mRetN : MS := fun γ n k => k.rt .none n
def mIfS (t : MT) (a b : MS) : MS := fun γ n k => t (pk γ) n fun c n1 => if c = true then a γ n1 k else b γ n1 k
def mSet (i : Nat) (m : M) : MS := fun γ n k => m (pl γ) n fun d n1 => k.nx (γ.set i (.val d)) n1
def mSetP (i : Nat) (m : M) : MS := fun γ n k => m (pk γ) n fun d n1 => atom d = true ∧ k.nx (γ.set i (.val d)) n1
def frz (i : Nat) (γ : G) : G := match γ[i]? with
  | some (.own _ d) => γ.set i (.val d)
  | _ => γ
def mFrz (i : Nat) (m : MS) : MS := fun γ n k => m (frz i γ) n k
section
variable {X : Cx} {st : Stmt} {rest : List Stmt} {a b : MS} {m : M} {e : Expr} {pos : Pos}
theorem dss_nil : DSs X [] mSkip := PSs.weak pss_nil fun D σ H h => by
  obtain ⟨H0, F0, Fb, F, S, n, γ, l, ag, sb, l1, l2, k, hm, ft⟩ := h
  exact ft.nx _ _ hm σ H F ag sb l1 l2
theorem ds_pass : DS X (.Pass pos) mSkip := PS.weak ps_pass fun D σ H h => by
  obtain ⟨H0, F0, Fb, F, S, n, γ, l, ag, sb, l1, l2, k, hm, ft⟩ := h
  exact ft.nx _ _ hm σ H F ag sb l1 l2
theorem dss_cons (h1 : DS X st a) (h2 : DSs X rest b) : DSs X (st :: rest) (mSeq a b) := PSs.weak (pss_cons h1 h2) fun D σ H h => by
  obtain ⟨H0, F0, Fb, F, S, n, γ, l, ag, sb, l1, l2, k, hm, ft⟩ := h
  refine ⟨H0, F0, Fb, F, S, n, γ, l, ag, sb, l1, l2, _, hm, fun γ' n' hk σ' H' F' ag' sb' l1' l2' => ?_, ft.rt, ft.bk, ft.ct⟩
  exact ⟨H0, F0, Fb, F', S, n', γ', l, ag', sb', l1', l2', k, hk, ft⟩
theorem dss_one (h1 : DS X st a) : DSs X [st] a := pss_one h1
theorem ds_ret (he : DE X e m) : DS X (.Return (some e) pos) (mRet m) := PS.weak (ps_ret he) fun D σ H h => by
  obtain ⟨H0, F0, Fb, F, S, n, γ, l, ag, sb, l1, l2, k, hm, ft⟩ := h
  exact ⟨F, S, n, _, ag.plain, k.rt, hm, fun d n' hk v H' p => ft.rt d n' hk v H' (Post.entry ag p)⟩
theorem ds_retP (he : DE X e m) : DS X (.Return (some e) pos) (mRetP m) := PS.weak (ps_ret (pe_pk he)) fun D σ H h => by
  obtain ⟨H0, F0, Fb, F, S, n, γ, l, ag, sb, l1, l2, k, hm, ft⟩ := h
  exact ⟨H0, F0, F, S, n, γ, ag, _, hm, fun d n' hk v H' p hd => ft.rt d n' hk.2 v H' ⟨⟨ag.kp.trans p.kp, p.str⟩, hd _ hk.1⟩⟩
theorem ds_retN : DS X (.Return none pos) mRetN := PS.weak ps_retN fun D σ H h => by
  obtain ⟨H0, F0, Fb, F, S, n, γ, l, ag, sb, l1, l2, k, hm, ft⟩ := h
  exact ft.rt _ _ hm _ _ ⟨⟨ag.kp, ag.fr.str⟩, .non⟩
theorem ds_if {c : Expr} {t : MT} {sa sb : List Stmt} (hc : DT X c t) (ha : DSs X sa a) (hb : DSs X sb b) : DS X (.If c sa sb pos) (mIfS t a b) := PS.weak (ps_if (pt_pk hc) ha hb) fun D σ H h => by
  obtain ⟨H0, F0, Fb, F, S, n, γ, l, ag, sb, l1, l2, k, hm, ft⟩ := h
  refine ⟨H0, F0, F, S, n, γ, ag, _, hm, fun c n1 hk H1 e1 => ?_⟩
  have ag1 := ag.next e1
  cases c with
  | true => exact ⟨H0, F0, Fb, _, S, n1, γ, l, ag1, sb.trans sub_grow, l1, l2, k, hk, ft⟩
  | false => exact ⟨H0, F0, Fb, _, S, n1, γ, l, ag1, sb.trans sub_grow, l1, l2, k, hk, ft⟩
def mNo : MS := fun _ _ _ => False
theorem ds_no : DS X st mNo := PS.weak ps_never fun D σ H h => by
  obtain ⟨H0, F0, Fb, F, S, n, γ, l, ag, sb, l1, l2, k, hm, ft⟩ := h
  exact hm
theorem ds_frz {i : Nat} (h : DS X st a) : DS X st (mFrz i a) := ⟨fun pins s σ H D I q => by
  obtain ⟨H0, F0, Fb, F, S, n, γ, l, ag, sb, l1, l2, k, hm, ft⟩ := q
  unfold mFrz frz at hm
  split at hm
  · rename_i T d hi
    obtain ⟨b, ow, fz⟩ := ag.freeze hi
    obtain ⟨o, o', e1, e2, I'⟩ := Inv_frz I ow
    obtain ⟨F', s', ag'⟩ := fz o o' e1 e2
    exact h.run pins s σ _ D I' ⟨H0, F0, Fb, F', S, n, _, l, ag', sb.trans s', by rw [List.length_set]; exact l1, l2, k, hm, ft⟩
  · exact h.run pins s σ _ D I ⟨H0, F0, Fb, F, S, n, γ, l, ag, sb, l1, l2, k, hm, ft⟩⟩
theorem tSet_D {K : PySem.W.Frag} {i : Nat} {D : Ends} {σ : L2.St} {H : Hp} (h : tS K (mSet i m) D σ H) : tAsg (tD K m) (gName i) D σ H := by
  obtain ⟨H0, F0, Fb, F, S, n, γ, l, ag, sb, l1, l2, k, hm, ft⟩ := h
  refine ⟨F, S, n, _, ag.plain, _, hm, fun d n1 hk v H1 p => ?_⟩
  exact ft.nx _ _ hk _ _ _ ((ag.next p.ext).setVal p.den (l1.trans l2.symm)) (sb.trans sub_grow) (by rw [List.length_set]; exact l1) (by rw [List.length_set]; exact l2)
theorem tSetP_D {K : PySem.W.Frag} {i : Nat} {D : Ends} {σ : L2.St} {H : Hp} (h : tS K (mSetP i m) D σ H) : tAsg (tPk K m) (gName i) D σ H := by
  obtain ⟨H0, F0, Fb, F, S, n, γ, l, ag, sb, l1, l2, k, hm, ft⟩ := h
  refine ⟨H0, F0, F, S, n, γ, ag, _, hm, fun d n1 hk v H1 p hd => ?_⟩
  exact ft.nx _ _ hk.2 _ _ _ ((ag.next p).setVal (hd _ hk.1) (l1.trans l2.symm)) (sb.trans sub_grow) (by rw [List.length_set]; exact l1) (by rw [List.length_set]; exact l2)
theorem ds_set {i : Nat} {x : Str} {pos' : Pos} (hN : X.N.Nodup) (hi : X.N[i]? = some x) (hx : Loc X.env.scope x) (he : DE X e m) (hs : swapsWith e (some (.Name x pos')) pos.line X.env = pure false := by rfl) (hf : X.fn x = true ∨ X.env.scope.names.lookup x = some .local := by first | exact .inl rfl | exact .inr rfl | assumption) :
    DS X (.Assign [.Name x pos'] e pos) (mSet i m) := PS.weak (ps_set hN hi hx he hs hf) fun _ _ _ h => tSet_D h
theorem ds_setP {i : Nat} {x : Str} {pos' : Pos} (hN : X.N.Nodup) (hi : X.N[i]? = some x) (hx : Loc X.env.scope x) (he : DE X e m) (hs : swapsWith e (some (.Name x pos')) pos.line X.env = pure false := by rfl) (hf : X.fn x = true ∨ X.env.scope.names.lookup x = some .local := by first | exact .inl rfl | exact .inr rfl | assumption) :
    DS X (.Assign [.Name x pos'] e pos) (mSetP i m) := PS.weak (ps_set hN hi hx (pe_pk he) hs hf) fun _ _ _ h => tSetP_D h
def mDrop (m : M) : MS := fun γ n k => m (pk γ) n fun _ n1 => k.nx γ n1
theorem ds_expr (he : DE X e m) (hs : swapsWith e none pos.line X.env = pure false := by rfl) : DS X (.Expr e pos) (mDrop m) := PS.weak (ps_expr (pe_pk he) hs) fun D σ H h => by
  obtain ⟨H0, F0, Fb, F, S, n, γ, l, ag, sb, l1, l2, k, hm, ft⟩ := h
  refine ⟨H0, F0, F, S, n, γ, ag, _, hm, fun d n1 hk v H1 p _ => ?_⟩
  exact ft.nx _ _ hk _ _ _ (ag.next p) (sb.trans sub_grow) l1 l2
end
def startG (m : Nat) (N : List Str) (ds : List PyData) : G := ds.map Sl.val ++ List.replicate (N.length - m) Sl.no
def Keeps (N ps : List Str) (sp : SpecD) (body : MS) : Prop := ∀ ds n k, ds.length = ps.length → sp ds n k → body (startG ps.length N ds) n { nx := fun _ n' => k .none n', rt := k }
section
variable {P : Program} {w : World} {K : PySem.W.Frag} {mg : Str → Option Value} {base : Heap} {x qual : Str} {params : Arguments} {body : List Stmt} {scope : Scope} {f : Addr} {fd : FuncData} {N ps : List Str} {k : Nat} {sp : SpecD} {mb : MS}
theorem def_start {vs : List V} {H : Hp} {Q : VK} {E : XK} (S : FnScope N ps scope) (hk : Keeps N ps sp mb) (h : spD K ps.length sp vs H Q E) : tS K mb { nx := fun _ H' => Q .non H', rt := Q } (L2.start N vs) H := by
  obtain ⟨hl, F0, St, n, ds, fr, hd, k, hsp, hQ⟩ := h
  have hdl : ds.length = ps.length := by rw [← hd.length]; exact hl
  have hpl : ps.length ≤ N.length := by
    have := S.pre
    have h2 := congrArg List.length this
    rw [List.length_take] at h2
    omega
  refine ⟨H, F0, F0, F0, St, n, startG ps.length N ds, N.length, ?_, Sub.refl _, ?_, ?_, _, hk ds n k hdl hsp, ?_⟩
  · refine ⟨fr.sub, fr.nos, fun b hs => let ⟨xs, h⟩ := fr.str.some hs; ⟨_, h⟩, fr, Kp.refl _ _, sub_grow, fun i d h => ?_, fun i T d h => ?_, fun i j T U d e a h => ?_, ?_⟩
    · unfold startG at h
      by_cases hi : i < ds.length
      · rw [List.getElem?_append_left (by rw [List.length_map]; exact hi), List.getElem?_map] at h
        cases e : ds[i]? with
        | none => rw [e] at h; cases h
        | some d' =>
          rw [e] at h
          cases h
          obtain ⟨v, h1, h2⟩ := hd.get e
          refine ⟨v, ?_, h2⟩
          unfold L2.start
          rw [List.getElem?_append_left (by rw [List.length_map, hd.length]; exact hi), List.getElem?_map, h1]
          rfl
      · rw [List.getElem?_append_right (by rw [List.length_map]; omega), List.getElem?_replicate] at h
        split at h <;> cases h
    · unfold startG at h
      by_cases hi : i < ds.length
      · rw [List.getElem?_append_left (by rw [List.length_map]; exact hi), List.getElem?_map] at h
        cases e : ds[i]? <;> rw [e] at h <;> cases h
      · rw [List.getElem?_append_right (by rw [List.length_map]; omega), List.getElem?_replicate] at h
        split at h <;> cases h
    · exfalso
      unfold startG at h
      by_cases hi : i < ds.length
      · rw [List.getElem?_append_left (by rw [List.length_map]; exact hi), List.getElem?_map] at h
        cases e : ds[i]? <;> rw [e] at h <;> cases h
      · rw [List.getElem?_append_right (by rw [List.length_map]; omega), List.getElem?_replicate] at h
        split at h <;> cases h
    · unfold startG L2.start
      rw [List.length_append, List.length_map, List.length_replicate, List.length_append, List.length_map, List.length_replicate, hd.length, hdl]
  · unfold startG
    rw [List.length_append, List.length_map, List.length_replicate]
    omega
  · unfold L2.start
    rw [List.length_append, List.length_map, List.length_replicate]
    omega
  · exact ⟨fun γ n' hk σ H' F' ag _ _ _ => hQ _ _ hk _ _ ⟨⟨ag.kp, ag.fr.str⟩, .non⟩, fun d n' hk v H' p => hQ d n' hk v H' p, fun _ _ h => h.elim, fun _ _ h => h.elim⟩
theorem def_ok (F : FunD K x qual params body scope [] [] f fd) (S : FnScope N ps scope)
    (hb : ∀ (cdv : Value) (A : Around) (outer : List PySem.Env) (s : Shared) (H : Hp) (E : XK), Room k (A.deeper (envOfC qual scope s.heap.objs.size f cdv)) → DSs (cxOf CX0 P w K mg base N qual scope f cdv A outer s H E).nox body mb) (hk : Keeps N ps sp mb) :
    FnOk P w K mg base CX0 (k + 1) f fd ps (spD K ps.length sp) :=
  F.ok S (fun vs H Q E h => h.1) fun cdv A outer s H vs Q E hr h => ⟨_, (hb cdv A outer s H E hr).nox, def_start S hk h⟩
end
end DL
namespace DL
open PySem PySem.Spec PyProof.Rows L2

abbrev WalkD (K : PySem.W.Frag) (F : Hp) (S : Strm) (J : It) (ds : List PyData) : Prop :=
  Walk J ds.length (fun H => Sub F H) fun i H x H' => ∀ n F', Sub F F' → Fr F' S n H → ∃ d, ds[i]? = some d ∧ Post K F' S H x d n H'
def tDI (K : PySem.W.Frag) (m : MA) : TI := fun σ H R => ∃ F S n γ, AgE K F S n H γ σ ∧ ∃ k, m γ n k ∧ ∀ ds n', k ds n' → ∀ J H', Ext S n' H H' → WalkD K (grow F H H') S J ds → R J H'
abbrev DI (X : Cx) (tg iter : Expr) (m : MA) : Prop := PI X tg iter (tDI X.K m)
theorem PI.weak {X : Cx} {tg iter : Expr} {t t' : TI} (h : PI X tg iter t) (w : ∀ σ H R, t' σ H R → t σ H R) : PI X tg iter t' := ⟨fun pins s σ H R I q => h.run pins s σ H R I (w σ H R q)⟩
def strItems (z : Str) : List PyData := z.cps.toList.map fun c => .str ⟨#[c]⟩
def itemsP : PyData → Option (List PyData)
  | .list ds => some ds
  | .tuple ds => some ds
  | .str z => some (strItems z)
  | _ => none
def mItems (m : M) : MA := fun γ n k => m γ n fun d n1 => ∃ ds, itemsP d = some ds ∧ k ds n1
section
variable {X : Cx} {tg e e2 : Expr} {m m2 : M} {K : PySem.W.Frag} {F H : Hp} {S : Strm} {n : Nat}
theorem walkD_list {a : Addr} {xs : List V} {ds : List PyData} (h : F a = some (.lst xs)) (hd : DenL K F S xs ds) : WalkD K F S (Itl K a) ds := by
  refine (show Walk (Itl K a) ds.length _ _ from ?_)
  rw [← hd.length]
  exact walk_list.mono (fun H s => SqL.of (s _ _ h)) fun i H x H' hi s y n F' sF fr => by
    obtain ⟨rfl, y⟩ := y
    obtain ⟨d, h1, h2⟩ := hd.getV y
    exact ⟨d, h1, Post.here fr (h2.mono sF)⟩
theorem walkD_tup {a : Addr} {xs : List V} {ds : List PyData} (h : F a = some (.tup xs)) (hd : DenL K F S xs ds) : WalkD K F S (Itt K a) ds := by
  refine (show Walk (Itt K a) ds.length _ _ from ?_)
  rw [← hd.length]
  exact walk_tup.mono (fun H s => SqT.of (s _ _ h)) fun i H x H' hi s y n F' sF fr => by
    obtain ⟨rfl, y⟩ := y
    obtain ⟨d, h1, h2⟩ := hd.getV y
    exact ⟨d, h1, Post.here fr (h2.mono sF)⟩
theorem walkD_str {z : Str} (hz : PyData.strOk z = true) : WalkD K F S (Its z) (strItems z) := by
  refine (show Walk (Its z) (strItems z).length _ _ from ?_)
  rw [show ((strItems z).length = z.cps.size) by simp [strItems]]
  exact walk_str.mono (fun H s => trivial) fun i H x H' hi s y n F' sF fr => by
    obtain ⟨rfl, c, hc, rfl⟩ := y
    refine ⟨.str ⟨#[c]⟩, ?_, Post.here fr (.str _ ?_)⟩
    · unfold strItems
      rw [List.getElem?_map]
      have : z.cps.toList[i]? = some c := by simpa using hc
      rw [this]; rfl
    · unfold PyData.strOk at hz ⊢
      rw [← Array.all_toList] at hz
      have := List.all_eq_true.mp hz c (List.mem_of_getElem? (by simpa using hc : z.cps.toList[i]? = some c))
      simpa using this
theorem di_any (he : DE X e m) : DI X tg e (mItems m) := by
  refine ⟨fun pins s σ H R I h => ?_⟩
  obtain ⟨F, S, n, γ, ag, k, hm, hR⟩ := h
  have he' : wpAny (model X.prog X.w) X.A (eval e X.env) (EP X pins σ fun x H1 => ∃ d n1 ds, Post X.K F S H x d n1 H1 ∧ itemsP d = some ds ∧ k ds n1) X.xe s :=
    he.run pins s σ H _ I ⟨F, S, n, γ, ag, _, hm, fun d n1 hk v H1 p => ⟨d, n1, hk.choose, p, hk.choose_spec.1, hk.choose_spec.2⟩⟩
  refine thn he' fun v s1 ⟨x, H1, I1, r1, d, n1, ds, p, ei, hk⟩ => ?_
  have f1 := (ag.next p.ext).fr
  unfold itemsP at ei
  split at ei
  · cases ei
    obtain ⟨a, xs, rfl, ha, hxs⟩ := p.den.list_inv
    cases r1
    obtain ⟨its, rv, q, hz⟩ := I1.list (SqL.of (f1.sub _ _ ha))
    refine wpAny_pyIter_list q.isList ?_
    refine ⟨s1.heap.objs.size, [s1.heap.objs.size], _, _, H1, rfl, I1.kept (t' := s1.toks) fun b o e => Heap.get?_push_of_some _ e, turn_list a _, ⟨_, Heap.get?_push_size _ rfl, rfl, rfl⟩, fun b hb => ?_, hR _ _ hk _ _ p.ext (walkD_list ha hxs)⟩
    have e : b = s1.heap.objs.size := by simpa using hb
    subst e
    exact I1.fpOk (Nat.le_refl _) (I1.hok.fresh (Nat.le_refl _))
  · cases ei
    obtain ⟨a, xs, rfl, ha, hxs⟩ := p.den.tup_inv
    cases r1
    obtain ⟨its, rv, q, hz⟩ := I1.tuple (SqT.of (f1.sub _ _ ha))
    refine wpAny_pyIter_tuple (show s1.heap.IsTuple a its.toArray from q) ?_
    refine ⟨s1.heap.objs.size, [s1.heap.objs.size], _, _, H1, rfl, I1.kept (t' := s1.toks) fun b o e => Heap.get?_push_of_some _ e, turn_tuple a _, ⟨_, Heap.get?_push_size _ rfl, rfl, rfl⟩, fun b hb => ?_, hR _ _ hk _ _ p.ext (walkD_tup ha hxs)⟩
    have e : b = s1.heap.objs.size := by simpa using hb
    subst e
    exact I1.fpOk (Nat.le_refl _) (I1.hok.fresh (Nat.le_refl _))
  · cases ei
    obtain ⟨ez, oz⟩ := p.den.str_inv
    subst ez
    obtain ⟨t, rfl⟩ := r1
    rename_i z _
    cases ha : z.cps.all (· < 128)
    · exact wpAny_pyIter_wide ha (pi_one (tk := s1.toks) I1 _ (turn_str _ z t "str_iterator" (.inr rfl)) ⟨_, Heap.get?_push_size _ rfl, rfl, rfl⟩ (hR _ _ hk _ _ p.ext (walkD_str oz)))
    · exact wpAny_pyIter_ascii ha (pi_one (tk := s1.toks) I1 _ (turn_str _ z t "str_ascii_iterator" (.inl rfl)) ⟨_, Heap.get?_push_size _ rfl, rfl, rfl⟩ (hR _ _ hk _ _ p.ext (walkD_str oz)))
  · cases ei
def mRange1 (ms : MA) : MA := fun γ n k => ms γ n fun ds n1 => match ds with
  | [.int j] => -(2 ^ 62) ≤ j ∧ j < 2 ^ 62 ∧ k ((List.range j.toNat).map fun i => .int (i : Nat)) n1
  | _ => False
theorem di_range1 {a : Expr} {ms : MA} {p pos : Pos} (hg : Gl X "range") (hm : X.mg "range" = none) (ha : DA X [a] ms) (hs : starEach [a] X.env = [(false, eval a X.env)] := by rfl) :
    DI X tg (.Call (.Name "range" p) [a] [] pos) (mRange1 ms) := PI.weak (pi_range1 hg hm ha hs) fun σ H R h => by
  obtain ⟨F, S, n, γ, ag, k, hm, hR⟩ := h
  refine ⟨F, S, n, γ, ag, _, hm, fun ds n1 hk vs H1 p => ?_⟩
  split at hk
  · rename_i j
    obtain ⟨v, rfl, hv⟩ := p.den.one
    cases hv.int_inv
    refine ⟨j, rfl, hk.1, hk.2.1, hR _ _ hk.2.2 _ _ p.ext ?_⟩
    refine (show Walk (Itr 0 j.toNat) ((List.range j.toNat).map fun i => PyData.int (i : Nat)).length _ _ from ?_)
    rw [List.length_map, List.length_range]
    refine walk_range.mono (fun _ _ => trivial) fun i H x H' hi s y n F' sF fr => ?_
    obtain ⟨rfl, rfl⟩ := y
    refine ⟨.int (i : Nat), by rw [List.getElem?_map, List.getElem?_range hi]; rfl, ?_⟩
    show Post _ _ _ _ (V.int (0 + (i : Int))) _ _ _
    rw [Int.zero_add]
    exact Post.here fr (.int _)
  · exact hk.elim
def mRange2 (ms : MA) : MA := fun γ n k => ms γ n fun ds n1 => match ds with
  | [.int i, .int j] => (-(2 ^ 62) ≤ i ∧ i < 2 ^ 62 ∧ -(2 ^ 62) ≤ j ∧ j < 2 ^ 62) ∧ k ((List.range (j - i).toNat).map fun t => .int (i + (t : Nat))) n1
  | _ => False
theorem di_range2 {a b : Expr} {ms : MA} {p pos : Pos} (hg : Gl X "range") (hm : X.mg "range" = none) (ha : DA X [a, b] ms) (hs : starEach [a, b] X.env = [(false, eval a X.env), (false, eval b X.env)] := by rfl) (hs2 : starEach [b] X.env = [(false, eval b X.env)] := by rfl) :
    DI X tg (.Call (.Name "range" p) [a, b] [] pos) (mRange2 ms) := PI.weak (pi_range2 hg hm ha hs hs2) fun σ H R h => by
  obtain ⟨F, S, n, γ, ag, k, hm, hR⟩ := h
  refine ⟨F, S, n, γ, ag, _, hm, fun ds n1 hk vs H1 p => ?_⟩
  split at hk
  · rename_i i j
    have hd := p.den
    cases hd with
    | cons h1 h2 =>
      cases h2 with
      | cons h2 h3 =>
        cases h3
        cases h1.int_inv
        cases h2.int_inv
        refine ⟨i, j, rfl, hk.1, hR _ _ hk.2 _ _ p.ext ?_⟩
        refine (show Walk (Itr i (j - i).toNat) ((List.range (j - i).toNat).map fun t => PyData.int (i + (t : Nat))).length _ _ from ?_)
        rw [List.length_map, List.length_range]
        refine walk_range.mono (fun _ _ => trivial) fun t H x H' hi s y n F' sF fr => ?_
        obtain ⟨rfl, rfl⟩ := y
        exact ⟨.int (i + (t : Nat)), by rw [List.getElem?_map, List.getElem?_range hi]; rfl, Post.here fr (.int _)⟩
  · exact hk.elim
def zipP (x y : PyData) : Option (List PyData) := match x, y with
  | .list a, .list b => some ((a.zip b).map fun p => .tuple [p.1, p.2])
  | .tuple a, .tuple b => some ((a.zip b).map fun p => .tuple [p.1, p.2])
  | _, _ => none
theorem zip_len {α β : Type} {a : List α} {b : List β} : ((a.zip b).length) = min a.length b.length := List.length_zip
theorem walkD_zip {J : It} {xs ys : List V} {ds es : List PyData} {G : Hp → Prop} (w : Walk J (min xs.length ys.length) G (YPair (fun i => xs[i]?) (fun i => ys[i]?))) (hG : ∀ H, Sub F H → G H) (h1 : DenL K F S xs ds) (h2 : DenL K F S ys es) :
    WalkD K F S J ((ds.zip es).map fun p => .tuple [p.1, p.2]) := by
  refine (show Walk J ((ds.zip es).map fun p => PyData.tuple [p.1, p.2]).length _ _ from ?_)
  rw [List.length_map, List.length_zip, ← h1.length, ← h2.length]
  refine w.mono hG fun i H x H' hi s y n F' sF fr => ?_
  obtain ⟨T, a, b, rfl, hT, rfl, ea, eb⟩ := y
  obtain ⟨d, e1, q1⟩ := h1.getV ea
  obtain ⟨e, e2, q2⟩ := h2.getV eb
  refine ⟨.tuple [d, e], ?_, Post.tup fr hT (.cons (q1.mono sF) (.cons (q2.mono sF) .nil))⟩
  rw [List.getElem?_map, (List.getElem?_zip_eq_some (z := (d, e))).mpr ⟨e1, e2⟩]
  rfl
def mZip (ms : MA) : MA := fun γ n k => ms γ n fun ds n1 => match ds with
  | [x, y] => ∃ zs, zipP x y = some zs ∧ k zs n1
  | _ => False
theorem di_zip {ms : MA} {p pos tpos : Pos} {elts : List Expr} {kk : Nat} (hg : Gl X "zip") (hm : X.mg "zip" = none) (ha : DA X [e, e2] ms)
    (hs : starEach [e, e2] X.env = (false, eval e X.env) :: starEach [e2] X.env := by rfl) (hpl : (backTo pos (starEach [e2] X.env)).any (·.1) = false := by rfl) :
    DI X (.Tuple elts kk tpos) (.Call (.Name "zip" p) [e, e2] [] pos) (mZip ms) := PI.weak (RZ.pi_zipA hg hm ha hs hpl) fun σ H R h => by
  obtain ⟨F, S, n, γ, ag, k, hm, hR⟩ := h
  refine ⟨F, S, n, γ, ag, _, hm, fun ds n1 hk vs H1 p => ?_⟩
  split at hk
  · obtain ⟨zs, ez, hk⟩ := hk
    have hd := p.den
    cases hd with
    | cons h1 h2 =>
      cases h2 with
      | cons h2 h3 =>
        cases h3
        have f1 := (ag.next p.ext).fr
        unfold zipP at ez
        split at ez
        · cases ez
          obtain ⟨a, xs, rfl, ha, hxs⟩ := h1.list_inv
          obtain ⟨b, ys, rfl, hb, hys⟩ := h2.list_inv
          exact ⟨a, b, xs, ys, rfl, .inl ⟨SqL.of (f1.sub _ _ ha), SqL.of (f1.sub _ _ hb), hR _ _ hk _ _ p.ext (walkD_zip (walk_zip rfl) (fun H s => ⟨SqL.of (s _ _ ha), SqL.of (s _ _ hb)⟩) hxs hys)⟩⟩
        · cases ez
          obtain ⟨a, xs, rfl, ha, hxs⟩ := h1.tup_inv
          obtain ⟨b, ys, rfl, hb, hys⟩ := h2.tup_inv
          refine ⟨a, b, xs, ys, rfl, .inr ⟨SqT.of (f1.sub _ _ ha), SqT.of (f1.sub _ _ hb), hR _ _ hk _ _ p.ext (walkD_zip (G := fun H => SqT X.K H a xs ∧ SqT X.K H b ys) ?_ (fun H s => ⟨SqT.of (s _ _ ha), SqT.of (s _ _ hb)⟩) hxs hys)⟩⟩
          refine ⟨fun i _ hi q => ?_, fun _ q => ⟨xs, ys, q.1, q.2, by omega⟩, fun i H v H' _ q y => ?_⟩
          · have h1 : i < xs.length := by omega
            have h2 : i < ys.length := by omega
            exact ⟨xs, ys, xs[i], ys[i], q.1, q.2, by simp [h1], by simp [h2]⟩
          · obtain ⟨T, x, z, h1, h2, h3, h4, h5⟩ := y
            exact ⟨T, x, z, h1, h2, h3, h4 xs q.1, h5 ys q.2⟩
        · cases ez
  · exact hk.elim
theorem walkD_enum {a : Addr} {xs : List V} {ds : List PyData} (h : F a = some (.lst xs)) (hd : DenL K F S xs ds) : WalkD K F S (Ite K a) (ds.zipIdx.map fun p => .tuple [.int (p.2 : Nat), p.1]) := by
  refine (show Walk (Ite K a) (ds.zipIdx.map fun p => PyData.tuple [.int (p.2 : Nat), p.1]).length _ _ from ?_)
  rw [List.length_map, List.length_zipIdx, ← hd.length]
  refine walk_enum.mono (fun H s => SqL.of (s _ _ h)) fun i H x H' hi s y n F' sF fr => ?_
  obtain ⟨T, a, b, rfl, hT, rfl, ea, eb⟩ := y
  cases ea
  obtain ⟨e, e2, q2⟩ := hd.getV eb
  refine ⟨.tuple [.int (i : Nat), e], ?_, Post.tup fr hT (.cons (.int _) (.cons (q2.mono sF) .nil))⟩
  rw [List.getElem?_map, List.getElem?_zipIdx, e2]
  simp
theorem di_enum {ms : MA} {p pos tpos : Pos} {elts : List Expr} {kk : Nat} (hg : Gl X "enumerate") (hm : X.mg "enumerate" = none) (ha : DA X [e] ms) (hs : starEach [e] X.env = [(false, eval e X.env)] := by rfl) :
    DI X (.Tuple elts kk tpos) (.Call (.Name "enumerate" p) [e] [] pos) (fun γ n k => ms γ n fun ds n1 => match ds with
      | [.list zs] => k (zs.zipIdx.map fun p => .tuple [.int (p.2 : Nat), p.1]) n1
      | _ => False) := PI.weak (pi_enum hg hm ha hs) fun σ H R h => by
  obtain ⟨F, S, n, γ, ag, k, hm, hR⟩ := h
  refine ⟨F, S, n, γ, ag, _, hm, fun ds n1 hk vs H1 p => ?_⟩
  split at hk
  · obtain ⟨v, rfl, hv⟩ := p.den.one
    obtain ⟨a, xs, rfl, ha, hxs⟩ := hv.list_inv
    exact ⟨a, xs, rfl, SqL.of ((ag.next p.ext).fr.sub _ _ ha), hR _ _ hk _ _ p.ext (walkD_enum ha hxs)⟩
  · exact hk.elim
end
end DL
namespace DL
open PySem PySem.Spec PyProof.Rows L2

def exc (a : Addr) (F : Hp) : Hp := fun b => if b = a then none else F b
theorem exc_sub {a : Addr} {F : Hp} : Sub (exc a F) F := fun b o h => by
  unfold exc at h
  split at h
  · cases h
  · exact h
theorem sub_exc {a : Addr} {F G : Hp} (s : Sub F G) (h : F a = none) : Sub F (exc a G) := fun b o q => by
  unfold exc
  rw [if_neg (fun z => by rw [z, h] at q; cases q)]
  exact s b o q
structure PostN (K : PySem.W.Frag) (F : Hp) (S : Strm) (H : Hp) (a : Addr) (T : Bool) (d : PyData) (n' : Nat) (H' : Hp) : Prop where
  ext : Ext S n' H H'
  new : H a = none
  own : OwnAt K (exc a (grow F H H')) S H' a T d
theorem PostN.post {K : PySem.W.Frag} {F : Hp} {S : Strm} {n n' : Nat} {H H' : Hp} {a : Addr} {T : Bool} {d : PyData} {o o' : HO} (f : Fr F S n H) (p : PostN K F S H a T d n' H') (ho : H' a = some o) (fz : FrzOf o o') : Post K F S H (.ref a) d n' (upd H' a o') := by
  have nF := f.none p.new
  have nS : ∀ b, inS S b → b ≠ a := fun b hs z => by
    obtain ⟨xs, q⟩ := f.str.some hs
    rw [z, p.new] at q; cases q
  refine ⟨⟨fun b u h hs => ?_, ?_⟩, p.own.den (fun b u h => ?_) ho fz (grow_new nF p.new upd_same)⟩
  · rw [upd_ne (ne_of_none h p.new)]
    exact p.ext.kp b u h hs
  · have st := p.ext.str
    cases S with
    | none => trivial
    | some q =>
      obtain ⟨ne, ns, x, y, z, h1, h2, r⟩ := st
      exact ⟨ne, ns, x, y, z, by rw [upd_ne (nS _ (.inl rfl))]; exact h1, by rw [upd_ne (nS _ (.inr rfl))]; exact h2, r⟩
  · unfold exc at h
    split at h
    · cases h
    · rename_i hb
      rcases grow_cases h with h | ⟨h1, h2, h3⟩
      · exact sub_grow b u h
      · exact grow_new h1 h2 (by rw [upd_ne hb]; exact h3)
def tN (K : PySem.W.Frag) (T : Bool) (m : M) : TE := fun σ H Q => ∃ F S n γ, AgE K F S n H γ σ ∧ ∃ k, m γ n k ∧ ∀ d n', k d n' → ∀ a H', PostN K F S H a T d n' H' → Q (.ref a) H'
abbrev DN (X : Cx) (e : Expr) (T : Bool) (m : M) : Prop := PE X e (tN X.K T m)
def tNl (K : PySem.W.Frag) (m : M) : TE := fun σ H Q => ∃ F S n γ, AgE K F S n H γ σ ∧ ∃ k, m γ n k ∧ ∀ d n', k d n' → ∀ a H' xs, PostN K F S H a false d n' H' → H' a = some (.lst xs) → Q (.ref a) H'
theorem tNl_of {K : PySem.W.Frag} {m : M} {σ : L2.St} {H : Hp} {Q : VK} (h : tD K m σ H Q) : tNl K m σ H Q := by
  obtain ⟨F, S, n, γ, ag, k, hm, hQ⟩ := h
  refine ⟨F, S, n, γ, ag, k, hm, fun d n' hk a H' xs p e => hQ d n' hk _ _ ?_⟩
  have := p.post ag.fr e (.lst xs)
  rwa [upd_self e] at this
theorem tNl_N {K : PySem.W.Frag} {m : M} {σ : L2.St} {H : Hp} {Q : VK} (h : tN K false m σ H Q) : tNl K m σ H Q := by
  obtain ⟨F, S, n, γ, ag, k, hm, hQ⟩ := h
  exact ⟨F, S, n, γ, ag, k, hm, fun d n' hk a H' _ p _ => hQ d n' hk a H' p⟩
theorem dn_de {X : Cx} {e : Expr} {T : Bool} {m : M} (h : DN X e T m) : DE X e m := ⟨fun pins s σ H Q I q => by
  obtain ⟨F, S, n, γ, ag, k, hm, hQ⟩ := q
  refine thn (h.run pins s σ H (fun v H' => ∃ d n' a, k d n' ∧ v = .ref a ∧ PostN X.K F S H a T d n' H') I ⟨F, S, n, γ, ag, k, hm, fun d n' hk a H' p => ⟨d, n', a, hk, rfl, p⟩⟩) fun u s1 ⟨v, H1, I1, rv, d, n', a, hk, ev, p⟩ => ?_
  subst ev
  obtain ⟨o, o', e1, e2, I2⟩ := Inv_frz I1 p.own
  exact ⟨_, _, I2, rv, hQ d n' hk _ _ (p.post ag.fr e1 e2)⟩⟩
abbrev Tgt := PyData → Option (List (Nat × PyData))
inductive AssD (K : PySem.W.Frag) (F : Hp) (S : Strm) : List (Nat × PyData) → L2.St → L2.St → Prop
  | nil {σ : L2.St} : AssD K F S [] σ σ
  | cons {i : Nat} {d : PyData} {r : List (Nat × PyData)} {v : V} {σ σ' : L2.St} : Den K F S v d → AssD K F S r (σ.set i (some v)) σ' → AssD K F S ((i, d) :: r) σ σ'
def tDG (K : PySem.W.Frag) (t : Tgt) : TG := fun v σ H Q => ∃ F S n d ps, Fr F S n H ∧ Den K F S v d ∧ t d = some ps ∧ ∀ σ', AssD K F S ps σ σ' → Q σ' H
abbrev DG (X : Cx) (tg : Expr) (t : Tgt) : Prop := PG X tg (tDG X.K t)
theorem PG.weak {X : Cx} {tg : Expr} {t t' : TG} (h : PG X tg t) (w : ∀ v σ H Q, t' v σ H Q → t v σ H Q) : PG X tg t' := ⟨fun pins s σ H v u Q I r q => h.run pins s σ H v u Q I r (w _ _ _ _ q)⟩
theorem PGs.weak {X : Cx} {tg : List Expr} {t t' : TGs} (h : PGs X tg t) (w : ∀ v σ H Q, t' v σ H Q → t v σ H Q) : PGs X tg t' := ⟨fun pins s σ H v u Q I r q => h.run pins s σ H v u Q I r (w _ _ _ _ q)⟩
def tgN (i : Nat) : Tgt := fun d => some [(i, d)]
abbrev Tgts := List PyData → Option (List (Nat × PyData))
def tgNil : Tgts := fun ds => match ds with
  | [] => some []
  | _ => none
def tgCons (t : Tgt) (u : Tgts) : Tgts := fun ds => match ds with
  | d :: r => match t d, u r with
    | some a, some b => some (a ++ b)
    | _, _ => none
  | [] => none
def tgT (u : Tgts) : Tgt := fun d => match d with
  | .tuple ds => u ds
  | _ => none
def tDGs (K : PySem.W.Frag) (t : Tgts) : TGs := fun vs σ H Q => ∃ F S n ds ps, Fr F S n H ∧ DenL K F S vs ds ∧ t ds = some ps ∧ ∀ σ', AssD K F S ps σ σ' → Q σ' H
abbrev DGs (X : Cx) (ts : List Expr) (t : Tgts) : Prop := PGs X ts (tDGs X.K t)
theorem AssD.append {K : PySem.W.Frag} {F : Hp} {S : Strm} : ∀ {a b : List (Nat × PyData)} {σ σ' σ'' : L2.St}, AssD K F S a σ σ' → AssD K F S b σ' σ'' → AssD K F S (a ++ b) σ σ''
  | _, _, _, _, _, .nil, h => h
  | _, _, _, _, _, .cons h1 h2, h => .cons h1 (AssD.append h2 h)
section
variable {X : Cx} {e : Expr} {es : List Expr} {t : Tgt} {u : Tgts} {pos : Pos}
theorem dg_name {i : Nat} {x : Str} (hN : X.N.Nodup) (hi : X.N[i]? = some x) (hx : Loc X.env.scope x) (hf : X.fn x = true ∨ X.env.scope.names.lookup x = some .local := by first | exact .inl rfl | exact .inr rfl | assumption) : DG X (.Name x pos) (tgN i) :=
  PG.weak (pg_name hN hi hx hf) fun v σ H Q h => by
    obtain ⟨F, S, n, d, ps, fr, hd, e, hQ⟩ := h
    cases e
    exact hQ _ (.cons hd .nil)
theorem dgs_nil : DGs X [] tgNil := PGs.weak pgs_nil fun vs σ H Q h => by
  obtain ⟨F, S, n, ds, ps, fr, hd, e, hQ⟩ := h
  unfold tgNil at e
  split at e
  · cases e; cases hd
    exact ⟨rfl, hQ _ .nil⟩
  · cases e
theorem tgCons_inv {ds : List PyData} {ps : List (Nat × PyData)} (h : tgCons t u ds = some ps) : ∃ d r a b, ds = d :: r ∧ t d = some a ∧ u r = some b ∧ ps = a ++ b := by
  cases ds with
  | nil => cases h
  | cons d r =>
    have h : (match t d, u r with
      | some a, some b => some (a ++ b)
      | _, _ => none) = some ps := h
    cases ht : t d with
    | none => rw [ht] at h; cases h
    | some a =>
      cases hu : u r with
      | none => rw [ht, hu] at h; cases h
      | some b =>
        rw [ht, hu] at h
        cases h
        exact ⟨d, r, a, b, rfl, ht, hu, rfl⟩
theorem dgs_cons (h1 : DG X e t) (h2 : DGs X es u) (hs : (assignEach (e :: es) X.env).map (·.2) = assign e X.env :: (assignEach es X.env).map (·.2) := by rfl) : DGs X (e :: es) (tgCons t u) := PGs.weak (pgs_cons h1 h2 hs) fun vs σ H Q h => by
  obtain ⟨F, S, n, ds, ps, fr, hd, e, hQ⟩ := h
  obtain ⟨d, r, a, b, rfl, ea, eb, rfl⟩ := tgCons_inv e
  cases hd with
  | cons d1 d2 => exact ⟨_, _, rfl, F, S, n, _, a, fr, d1, ea, fun σ' h' => ⟨F, S, n, _, b, fr, d2, eb, fun σ'' h'' => hQ _ (h'.append h'')⟩⟩
theorem dg_tup {k : Nat} {n : Nat} (hc : X.calm = true) (h : DGs X es u) (hlen : ∀ ds ps, u ds = some ps → ds.length = n)
    (hn : (assignEach es X.env).length = n := by rfl) (hst : (assignEach es X.env).findIdx? (·.1) = none := by rfl) : DG X (.Tuple es k pos) (tgT u) := PG.weak (pg_tup hc h hn hst) fun v σ H Q h => by
  obtain ⟨F, S, m, d, ps, fr, hd, e, hQ⟩ := h
  unfold tgT at e
  split at e
  · obtain ⟨a, xs, rfl, ha, hxs⟩ := hd.tup_inv
    exact ⟨a, xs, rfl, SqT.of (fr.sub _ _ ha), by rw [hxs.length]; exact hlen _ _ e, F, S, m, _, ps, fr, hxs, e, hQ⟩
  · cases e
end
theorem tgCons_len {t : Tgt} {u : Tgts} {n : Nat} (h : ∀ ds ps, u ds = some ps → ds.length = n) : ∀ ds ps, tgCons t u ds = some ps → ds.length = n + 1 := fun ds ps e => by
  unfold tgCons at e
  split at e
  · split at e
    · rename_i h2
      rw [List.length_cons, h _ _ h2]
    · cases e
  · cases e
theorem tgNil_len : ∀ ds ps, tgNil ds = some ps → ds.length = 0 := fun ds ps e => by
  unfold tgNil at e
  split at e
  · rfl
  · cases e
def setE (γ : Env) (ps : List (Nat × PyData)) : Env := ps.foldl (fun γ p => γ.set p.1 (some p.2)) γ
def setG (γ : G) (ps : List (Nat × PyData)) : G := ps.foldl (fun γ p => γ.set p.1 (.val p.2)) γ
section
variable {K : PySem.W.Frag} {F : Hp} {S : Strm} {n : Nat} {H : Hp}
theorem AgE.set {γ : Env} {σ : L2.St} (a : AgE K F S n H γ σ) {i : Nat} {v : V} {d : PyData} (h : Den K F S v d) : AgE K F S n H (γ.set i (some d)) (σ.set i (some v)) :=
  ⟨a.fr, fun j e q => by
    by_cases hj : i = j
    · subst hj
      obtain ⟨hlt, _⟩ := List.getElem?_eq_some_iff.mp q
      rw [List.length_set] at hlt
      rw [List.getElem?_set_self hlt] at q
      cases q
      have := a.len
      exact ⟨v, by rw [List.getElem?_set_self (by omega)], h⟩
    · rw [List.getElem?_set_ne hj] at q
      rw [List.getElem?_set_ne hj]
      exact a.slot j e q, by simpa using a.len⟩
theorem AgE.ass : ∀ {ps : List (Nat × PyData)} {γ : Env} {σ σ' : L2.St}, AgE K F S n H γ σ → AssD K F S ps σ σ' → AgE K F S n H (setE γ ps) σ'
  | [], _, _, _, a, .nil => a
  | (i, d) :: r, γ, _, σ', a, .cons h1 h2 => show AgE K F S n H (setE (γ.set i (some d)) r) σ' from AgE.ass (a.set h1) h2
theorem setG_length : ∀ (ps : List (Nat × PyData)) (γ : G), (setG γ ps).length = γ.length
  | [], _ => rfl
  | p :: r, γ => (setG_length r (γ.set p.1 (.val p.2))).trans (by simp)
theorem AssD.length : ∀ {ps : List (Nat × PyData)} {σ σ' : L2.St}, AssD K F S ps σ σ' → σ'.length = σ.length
  | _, _, _, .nil => rfl
  | _, _, _, .cons _ h => h.length.trans (by simp)
theorem AgS.ass {H0 F0 : Hp} : ∀ {ps : List (Nat × PyData)} {γ : G} {σ σ' : L2.St}, AgS K H0 F0 F S n H γ σ → AssD K F S ps σ σ' → AgS K H0 F0 F S n H (setG γ ps) σ'
  | [], _, _, _, a, .nil => a
  | (i, d) :: r, γ, _, σ', a, .cons h1 h2 => show AgS K H0 F0 F S n H (setG (γ.set i (.val d)) r) σ' from AgS.ass (a.setVal h1 a.len) h2
end
def wipeE (γ : Env) : List Nat → Env
  | [] => γ
  | v :: vs => (wipeE γ vs).set v none
theorem wipeE_length (γ : Env) : ∀ vs : List Nat, (wipeE γ vs).length = γ.length
  | [] => rfl
  | v :: vs => by unfold wipeE; rw [List.length_set, wipeE_length γ vs]
theorem AgE.wipe {K : PySem.W.Frag} {F : Hp} {S : Strm} {n : Nat} {H : Hp} {γ : Env} {σ : L2.St} (a : AgE K F S n H γ σ) : ∀ vs : List Nat, AgE K F S n H (wipeE γ vs) (L2.wipe σ vs)
  | [] => a
  | v :: vs => by
    have b := a.wipe vs
    refine ⟨a.fr, fun j e q => ?_, by rw [wipeE_length, wipe_length]; exact a.len⟩
    unfold wipeE at q
    by_cases hj : v = j
    · subst hj
      obtain ⟨hlt, _⟩ := List.getElem?_eq_some_iff.mp q
      rw [List.length_set] at hlt
      rw [List.getElem?_set_self hlt] at q
      cases q
    · rw [List.getElem?_set_ne hj] at q
      unfold L2.wipe
      rw [List.getElem?_set_ne hj]
      exact b.slot j e q
theorem wipe_set {σ : L2.St} {i : Nat} {x : Option V} : ∀ {vs : List Nat}, i ∈ vs → wipe (σ.set i x) vs = wipe σ vs
  | v :: vs, h => by
    unfold wipe
    by_cases hi : i ∈ vs
    · rw [wipe_set hi]
    · have hv : i = v := by
        rcases List.mem_cons.mp h with e | e
        · exact e
        · exact absurd e hi
      subst hv
      have : ∀ {ws : List Nat}, i ∉ ws → wipe (σ.set i x) ws = (wipe σ ws).set i x := by
        intro ws
        induction ws with
        | nil => intro _; rfl
        | cons w r ih =>
          intro hw
          rw [List.mem_cons, not_or] at hw
          unfold wipe
          rw [ih hw.2, List.set_comm _ _ hw.1]
      rw [this hi, List.set_set]
theorem wipe_wipe {σ : L2.St} (vs : List Nat) : wipe (wipe σ vs) vs = wipe σ vs := by
  have : ∀ (us : List Nat), (∀ u ∈ us, u ∈ vs) → wipe (wipe σ us) vs = wipe σ vs := by
    intro us
    induction us with
    | nil => intro _; rfl
    | cons u r ih =>
      intro h
      show wipe ((wipe σ r).set u none) vs = _
      rw [wipe_set (h u (by simp)), ih fun w hw => h w (by simp [hw])]
  exact this vs fun _ h => h
theorem AssD.wipe {K : PySem.W.Frag} {F : Hp} {S : Strm} {vs : List Nat} : ∀ {ps : List (Nat × PyData)} {σ σ' : L2.St}, AssD K F S ps σ σ' → (∀ p ∈ ps, p.1 ∈ vs) → L2.wipe σ' vs = L2.wipe σ vs
  | _, _, _, .nil, _ => rfl
  | _, _, _, .cons h1 h2, h => by
    rw [AssD.wipe h2 fun p hp => h p (by simp [hp]), wipe_set (h _ (List.mem_cons_self ..))]
def lcW (t : Tgt) (tests : MT) (elt : M) (γ : Env) : List PyData → List PyData → Nat → (List PyData → Nat → Prop) → Prop
  | [], acc, n, k => k acc n
  | d :: ds, acc, n, k => ∃ ps, t d = some ps ∧ tests (setE γ ps) n fun b n1 => if b = true then elt (setE γ ps) n1 fun x n2 => acc.length < sizeLine ∧ lcW t tests elt γ ds (acc ++ [x]) n2 k else lcW t tests elt γ ds acc n1 k
def mLc (src : MA) (t : Tgt) (tests : MT) (elt : M) (vs : List Nat) : M := fun γ n k => src γ n fun ds n1 => lcW t tests elt (wipeE γ vs) ds [] n1 fun out n2 => k (.list out) n2
def mYes : MT := fun _ n k => k true n
abbrev DTs (X : Cx) (ifs : List Expr) (m : MT) : Prop := PTs X ifs (tDT X.K m)
theorem PTs.weak {X : Cx} {e : List Expr} {t t' : TT} (h : PTs X e t) (w : ∀ σ H Q, t' σ H Q → t σ H Q) : PTs X e t' := ⟨fun pins s σ H Q I q => h.run pins s σ H Q I (w σ H Q q)⟩
theorem dts_nil {X : Cx} : DTs X [] mYes := PTs.weak pts_nil fun σ H Q h => by
  obtain ⟨F, S, n, γ, ag, k, hm, hQ⟩ := h
  exact hQ _ _ hm _ ag.fr.ext
theorem dts_one {X : Cx} {c : Expr} {m : MT} (h : DT X c m) : DTs X [c] m := pts_one h
def TgtIn (t : Tgt) (vs : List Nat) : Prop := ∀ d ps, t d = some ps → ∀ p ∈ ps, p.1 ∈ vs
theorem tgN_in {i : Nat} {vs : List Nat} (h : i ∈ vs) : TgtIn (tgN i) vs := fun d ps e p hp => by
  cases e
  simp at hp
  subst hp
  exact h
def TgtsIn (t : Tgts) (vs : List Nat) : Prop := ∀ d ps, t d = some ps → ∀ p ∈ ps, p.1 ∈ vs
theorem tgNil_in {vs : List Nat} : TgtsIn tgNil vs := fun d ps e p hp => by
  unfold tgNil at e
  split at e
  · cases e; cases hp
  · cases e
theorem tgCons_in {t : Tgt} {u : Tgts} {vs : List Nat} (h1 : TgtIn t vs) (h2 : TgtsIn u vs) : TgtsIn (tgCons t u) vs := fun d ps e p hp => by
  unfold tgCons at e
  split at e
  · split at e
    · rename_i a b ea eb
      cases e
      rcases List.mem_append.mp hp with hp | hp
      · exact h1 _ _ ea p hp
      · exact h2 _ _ eb p hp
    · cases e
  · cases e
theorem tgT_in {u : Tgts} {vs : List Nat} (h : TgtsIn u vs) : TgtIn (tgT u) vs := fun d ps e p hp => by
  unfold tgT at e
  split at e
  · exact h _ _ e p hp
  · cases e
section
variable {X : Cx} {elt tg iter : Expr} {ifs : List Expr} {scope : Scope} {own : List (Str × Nat)} {pos : Pos} {src : MA} {t : Tgt} {tests : MT} {me : M}
theorem tLc_N {K : PySem.W.Frag} {vs : List Nat} (hin : TgtIn t vs) {σ : L2.St} {H : Hp} {Q : VK} (h : tNl K (mLc src t tests me vs) σ H Q) : tLc (tDI K src) (tDG K t) (tDT K tests) (tD K me) vs σ H Q := by
  obtain ⟨F, S, n0, γ, ag, k, hm, hQ⟩ := h
  refine ⟨F, S, n0, γ, ag, _, hm, fun ds n1 hk J H1 e1 wk => ?_⟩
  intro D hD
  have fr1 := (ag.next e1).fr
  have key := lc_it (n := ds.length) (J := J) (G := fun H' => Sub (grow F H H1) H') wk (g := tDG K t) (tt := tDT K tests) (te := tD K me) (vs := vs) (σ := σ) (H1 := H1) (D := D) (Qd := fun H' => Q (.ref D) H')
    (fun i H' => ∃ F' n acc xs, Fr F' S n H' ∧ Kp S H H' ∧ Sub F' (grow F H H') ∧ Sub (grow F H H1) F' ∧ F' D = none ∧ H' D = some (.lst xs) ∧ DenL K F' S xs acc ∧ lcW t tests me (wipeE γ vs) (ds.drop i) acc n fun out n2 => k (.list out) n2)
  refine key ?_ ?_ ?_ ?_
  · refine ⟨grow F H H1, n1, [], [], ⟨fun b o h => ?_, fr1.nos, fr1.str.upd_new hD, fun b ys h => ?_⟩, e1.kp.trans (Kp.upd_new hD), fun b o h => ?_, Sub.refl _, ?_, upd_same, .nil, hk⟩
    · have := fr1.sub b o h
      rw [upd_ne (ne_of_none this hD)]; exact this
    · by_cases hb : b = D
      · subst hb; rw [upd_same] at h; cases h
      · rw [upd_ne hb] at h; exact fr1.tp b ys h
    · rcases grow_cases h with h | ⟨h1, h2, h3⟩
      · exact sub_grow b o h
      · exact grow_new h1 h2 (by rw [upd_ne (ne_of_none h3 hD)]; exact h3)
    · exact fr1.none hD
  · intro i H' hi ⟨F', n, acc, xs, fr, _, _, s1, _⟩
    exact s1.trans fr.sub
  · rintro i x H' H2 hi ⟨F', n, acc, xs, fr, kp, sg, s1, nD, hD', hx, hw⟩ y
    obtain ⟨d, ed, px⟩ := y n F' s1 fr
    have hdr : ds.drop i = d :: ds.drop (i + 1) := by
      obtain ⟨hl, e⟩ := List.getElem?_eq_some_iff.mp ed
      rw [List.drop_eq_getElem_cons hl, e]
    rw [hdr] at hw
    obtain ⟨ps, ep, hw⟩ := hw
    have ex : Ext S n H' H2 := px.ext
    have fr2 : Fr (grow F' H' H2) S n H2 := fr.next ex
    have dx : Den K (grow F' H' H2) S x d := px.den
    refine ⟨grow F' H' H2, S, n, d, ps, fr2, dx, ep, fun σ' as => ?_⟩
    have ag0 : AgE K (grow F' H' H2) S n H2 (wipeE γ vs) (wipe σ vs) := by
      have a1 := (ag.next e1).wipe vs
      refine ⟨fr2, fun j e q => ?_, a1.len⟩
      obtain ⟨v, q1, q2⟩ := a1.slot j e q
      exact ⟨v, q1, q2.mono (s1.trans sub_grow)⟩
    have ag2 := ag0.ass as
    refine ⟨(as.wipe fun p hp => hin _ _ ep p hp).trans (wipe_wipe vs), ?_⟩
    refine ⟨_, S, n, _, ag2, _, hw, fun b n3 hb H3 e3 => ?_⟩
    have ag3 := ag2.next e3
    have kp3 : Kp S H H3 := (kp.trans ex.kp).trans e3.kp
    have nS : ¬ inS S D := fun hs => by
      obtain ⟨ys, z⟩ := e1.str.some hs
      rw [hD] at z; cases z
    have hD2 : H2 D = some (.lst xs) := ex.kp _ _ hD' nS
    have hD3 : H3 D = some (.lst xs) := e3.kp _ _ hD2 nS
    have g2 : Sub (grow F' H' H2) (grow F H H2) := by
      intro b o h
      rcases grow_cases h with h | ⟨h1, h2, h3⟩
      · have hs : ¬ inS S b := fun hs => by rw [fr.nos b hs] at h; cases h
        rcases grow_cases (sg b o h) with h | ⟨h1, h2, h3⟩
        · exact sub_grow b o h
        · exact grow_new h1 h2 (ex.kp b o h3 hs)
      · have hHb : H b = none := by
          cases q : H b with
          | none => rfl
          | some u =>
            by_cases hs : inS S b
            · obtain ⟨ys, z⟩ := fr.str.some hs
              rw [h2] at z; cases z
            · have := kp b u q hs
              rw [h2] at this; cases this
        exact grow_new (ag.fr.none hHb) hHb h3
    have lift : ∀ {F2 H2 H3 : Hp} {n2 n3 : Nat}, Fr F2 S n2 H2 → Kp S H H2 → Sub F2 (grow F H H2) → Ext S n3 H2 H3 → Sub (grow F2 H2 H3) (grow F H H3) := fun {F2 H2 H3 n2 n3} f2 kp2 sg2 e => by
      intro b o h
      rcases grow_cases h with h | ⟨h1, h2, h3⟩
      · have hs : ¬ inS S b := fun hs => by rw [f2.nos b hs] at h; cases h
        rcases grow_cases (sg2 b o h) with h | ⟨h1, h2, h3⟩
        · exact sub_grow b o h
        · exact grow_new h1 h2 (e.kp b o h3 hs)
      · have hHb : H b = none := by
          cases q : H b with
          | none => rfl
          | some u =>
            by_cases hs : inS S b
            · obtain ⟨ys, z⟩ := f2.str.some hs
              rw [h2] at z; cases z
            · have := kp2 b u q hs
              rw [h2] at this; cases this
        exact grow_new (ag.fr.none hHb) hHb h3
    have g3 := lift fr2 (kp.trans ex.kp) g2 e3
    have nD2 : grow F' H' H2 D = none := by unfold grow; rw [nD, hD']
    have nD3 : grow (grow F' H' H2) H2 H3 D = none := by
      show (match grow F' H' H2 D with | some o => some o | none => match H2 D with | none => H3 D | some _ => none) = none
      rw [nD2, hD2]
    cases b with
    | false =>
      simp only [Bool.false_eq_true, if_false] at hb ⊢
      exact ⟨_, n3, acc, xs, ag3.fr, kp3, g3, s1.trans (sub_grow.trans sub_grow), nD3, hD3, (hx.mono sub_grow).mono sub_grow, hb⟩
    | true =>
      simp only [if_true] at hb ⊢
      refine ⟨_, S, n3, _, ag3, _, hb, fun z n4 hz w H4 p4 => ?_⟩
      have hD4 : H4 D = some (.lst xs) := p4.ext.kp _ _ hD3 nS
      refine ⟨xs, hD4, by rw [hx.length]; exact hz.1, ?_⟩
      have ag4 := ag3.next p4.ext
      have g4 := lift ag3.fr kp3 g3 p4.ext
      have nD4 : grow (grow (grow F' H' H2) H2 H3) H3 H4 D = none := by
        show (match grow (grow F' H' H2) H2 H3 D with | some o => some o | none => match H3 D with | none => H4 D | some _ => none) = none
        rw [nD3, hD3]
      have neD : ∀ b o, grow (grow (grow F' H' H2) H2 H3) H3 H4 b = some o → b ≠ D := fun b o h z => by rw [z, nD4] at h; cases h
      refine ⟨_, n4, acc ++ [z], xs ++ [w], ⟨fun b o h => ?_, ag4.fr.nos, ?_, fun b ys h => ?_⟩, fun b o h hs => ?_, fun b o h => ?_, s1.trans (sub_grow.trans (sub_grow.trans sub_grow)), nD4, upd_same, (((hx.mono sub_grow).mono sub_grow).mono sub_grow).append (.cons p4.den .nil), hz.2⟩
      · rw [upd_ne (neD b o h)]; exact ag4.fr.sub b o h
      · have st := ag4.fr.str
        cases S with
        | none => trivial
        | some p =>
          obtain ⟨ne, ns, x, y, z, h1, h2, r⟩ := st
          have m1 : p.1 ≠ D := fun q => nS (.inl q.symm)
          have m2 : p.2 ≠ D := fun q => nS (.inr q.symm)
          exact ⟨ne, ns, x, y, z, by rw [upd_ne m1]; exact h1, by rw [upd_ne m2]; exact h2, r⟩
      · by_cases hb : b = D
        · subst hb; rw [upd_same] at h; cases h
        · rw [upd_ne hb] at h; exact ag4.fr.tp b ys h
      · have hbD : b ≠ D := fun z => by
          subst z
          have := e1.kp _ _ h hs
          rw [hD] at this; cases this
        rw [upd_ne hbD]
        exact (kp3.trans p4.ext.kp) b o h hs
      · rcases grow_cases (g4 b o h) with h' | ⟨h1, h2, h3⟩
        · exact sub_grow b o h'
        · exact grow_new h1 h2 (by rw [upd_ne (neD b o h)]; exact h3)
  · rintro H' ⟨F', n, acc, xs, fr, kp, sg, s1, nD, hD', hx, hw⟩
    rw [List.drop_length] at hw
    have hH : H D = none := by
      cases q : H D with
      | none => rfl
      | some u =>
        by_cases hs : inS S D
        · obtain ⟨ys, z⟩ := e1.str.some hs
          rw [hD] at z; cases z
        · have := e1.kp _ _ q hs
          rw [hD] at this; cases this
    exact hQ _ _ hw _ _ xs ⟨⟨kp, fr.str⟩, hH, .lst hD' (hx.mono (sub_exc sg nD))⟩ hD'
end
end DL
namespace DL
open PySem PySem.Spec PyProof.Rows L2

section
variable {X : Cx} {elt tg iter : Expr} {ifs : List Expr} {scope : Scope} {own : List (Str × Nat)} {pos : Pos} {src : MA} {t : Tgt} {tests : MT} {me : M}
theorem dn_lc (hc : X.calm = true) (hN : X.N.Nodup) (hi : DI X tg iter src) (ok : BlkOk X.N X.env.scope scope own) (hin : TgtIn t (own.map (·.2)))
    (hg : ∀ (s : Shared) (H : Hp) (C : Addr) (cl : List (Str × Addr)) (fp : List Addr), DG (X.blk s H scope (compEnvC scope cl C X.env) fp) tg t) (ht : ∀ (s : Shared) (H : Hp) (C : Addr) (cl : List (Str × Addr)) (fp : List Addr), DTs (X.blk s H scope (compEnvC scope cl C X.env) fp) ifs tests)
    (he : ∀ (s : Shared) (H : Hp) (C : Addr) (cl : List (Str × Addr)) (fp : List Addr), DE (X.blk s H scope (compEnvC scope cl C X.env) fp) elt me) (hs : ∀ x, foldedSetIterable iter X.env x = pure x := by intro _; rfl) :
    DN X (.ListComp elt [⟨tg, iter, ifs, 0⟩] scope pos) false (mLc src t tests me (own.map (·.2))) :=
  PE.weak (pe_lc hc hN hi ok hg ht he hs) fun _ _ _ h => tLc_N hin (tNl_N h)
theorem de_lc (hc : X.calm = true) (hN : X.N.Nodup) (hi : DI X tg iter src) (ok : BlkOk X.N X.env.scope scope own) (hin : TgtIn t (own.map (·.2)))
    (hg : ∀ (s : Shared) (H : Hp) (C : Addr) (cl : List (Str × Addr)) (fp : List Addr), DG (X.blk s H scope (compEnvC scope cl C X.env) fp) tg t) (ht : ∀ (s : Shared) (H : Hp) (C : Addr) (cl : List (Str × Addr)) (fp : List Addr), DTs (X.blk s H scope (compEnvC scope cl C X.env) fp) ifs tests)
    (he : ∀ (s : Shared) (H : Hp) (C : Addr) (cl : List (Str × Addr)) (fp : List Addr), DE (X.blk s H scope (compEnvC scope cl C X.env) fp) elt me) (hs : ∀ x, foldedSetIterable iter X.env x = pure x := by intro _; rfl) :
    DE X (.ListComp elt [⟨tg, iter, ifs, 0⟩] scope pos) (mLc src t tests me (own.map (·.2))) := dn_de (dn_lc hc hN hi ok hin hg ht he hs)
theorem ds_setLc {i : Nat} {y : Str} {py spos : Pos} (hc : X.calm = true) (hN : X.N.Nodup) (hy : X.N[i]? = some y) (hyl : X.env.scope.names.lookup y = some .local)
    (hsw : swapsWith (.ListComp elt [⟨tg, iter, ifs, 0⟩] scope pos) (some (.Name y py)) spos.line X.env = pure true) (hi : DI X tg iter src) (ok : BlkOk X.N X.env.scope scope own) (hin : TgtIn t (own.map (·.2)))
    (hg : ∀ (s : Shared) (H : Hp) (C : Addr) (cl : List (Str × Addr)) (fp : List Addr), DG (X.blk s H scope (compEnvC scope cl C X.env) fp) tg t) (ht : ∀ (s : Shared) (H : Hp) (C : Addr) (cl : List (Str × Addr)) (fp : List Addr), DTs (X.blk s H scope (compEnvC scope cl C X.env) fp) ifs tests)
    (he : ∀ (s : Shared) (H : Hp) (C : Addr) (cl : List (Str × Addr)) (fp : List Addr), DE (X.blk s H scope (compEnvC scope cl C X.env) fp) elt me) (hs : ∀ x, foldedSetIterable iter X.env x = pure x := by intro _; rfl) :
    DS X (.Assign [.Name y py] (.ListComp elt [⟨tg, iter, ifs, 0⟩] scope pos) spos) (mSet i (mLc src t tests me (own.map (·.2)))) :=
  PS.weak (ps_setLc hc hN hy hyl hsw hi ok hg ht he hs) fun _ _ _ h => tLc_N hin (tNl_of (tSet_D h))
def mOwn (i : Nat) (T : Bool) (m : M) : MS := fun γ n k => m (pl γ) n fun d n1 => k.nx (γ.set i (.own T d)) n1
theorem OwnAt.excl {K : PySem.W.Frag} {F : Hp} {S : Strm} {H : Hp} {a : Addr} {T : Bool} {d : PyData} (h : OwnAt K F S H a T d) (hF : F a = none) : OwnAt K (exc a F) S H a T d := h.mono (sub_exc (Sub.refl _) hF) rfl
theorem tOwn_N {K : PySem.W.Frag} {i : Nat} {T : Bool} {m : M} {D : Ends} {σ : L2.St} {H : Hp} (h : tS K (mOwn i T m) D σ H) : tAsg (tN K T m) (gName i) D σ H := by
  obtain ⟨H0, F0, Fb, F, S, n, γ, l, ag, sb, l1, l2, k, hm, ft⟩ := h
  refine ⟨F, S, n, _, ag.plain, _, hm, fun d n1 hk a H1 p => ?_⟩
  have ag1 := ag.next p.ext
  have nS : ¬ inS S a := fun hs => by
    obtain ⟨xs, z⟩ := ag.fr.str.some hs
    rw [p.new] at z; cases z
  have h0 : H0 a = none := by
    cases q : H0 a with
    | none => rfl
    | some u => have := ag.kp a u q nS; rw [p.new] at this; cases this
  have nF : F a = none := ag.fr.none p.new
  have old : ∀ {v : V} {e : PyData}, Den K F S v e → Den K (exc a (grow F H H1)) S v e := fun h => h.mono (sub_exc sub_grow nF)
  have ag2 : AgS K H0 F0 (exc a (grow F H H1)) S n1 H1 γ σ := by
    refine ⟨ag1.f0, ag1.n0, ag1.s0, ⟨exc_sub.trans ag1.fr.sub, fun b hs => ?_, ag1.fr.str, fun b xs h => ?_⟩, ag1.kp, exc_sub.trans ag1.inn, fun j e q => ?_, fun j U e q => ?_, ag1.dis, ag1.len⟩
    · unfold exc
      split
      · rfl
      · exact ag1.fr.nos b hs
    · have hb : b ≠ a := fun z => by
        subst z
        cases p.own with
        | lst h1 _ => rw [h1] at h; cases h
        | dK h1 _ _ _ => rw [h1] at h; cases h
        | dT h1 _ _ _ => rw [h1] at h; cases h
      unfold exc
      rw [if_neg hb]
      exact ag1.fr.tp b xs h
    · obtain ⟨v, q1, q2⟩ := ag.val j e q
      exact ⟨v, q1, old q2⟩
    · obtain ⟨b, q1, q2, q3, q4, q5⟩ := ag.own j U e q
      obtain ⟨o, ho⟩ := q5.there
      have : grow F H H1 b = none := by unfold grow; rw [q3, ho]
      refine ⟨b, q1, q2, ?_, q4, q5.mono (sub_exc sub_grow nF) ((p.ext.kp b o ho q4).trans ho.symm)⟩
      unfold exc
      split
      · rfl
      · exact this
  refine ft.nx _ _ hk _ _ _ (ag2.setOwn ag2.len h0 (by unfold exc; rw [if_pos rfl]) nS p.own fun j U e hj q z => ?_) ((sub_exc (sb.trans sub_grow) ?_)) (by rw [List.length_set]; exact l1) (by rw [List.length_set]; exact l2)
  · obtain ⟨b, q1, q2, q3, q4, q5⟩ := ag.own j U e q
    rw [z] at q1
    cases q1
    obtain ⟨o, ho⟩ := q5.there
    rw [p.new] at ho; cases ho
  · cases q : Fb a with
    | none => rfl
    | some u => have := sb a u q; rw [nF] at this; cases this
theorem ds_own {i : Nat} {x : Str} {e : Expr} {T : Bool} {m : M} {pos' : Pos} (hN : X.N.Nodup) (hi : X.N[i]? = some x) (hx : Loc X.env.scope x) (he : DN X e T m) (hs : swapsWith e (some (.Name x pos')) pos.line X.env = pure false := by rfl) (hf : X.fn x = true ∨ X.env.scope.names.lookup x = some .local := by first | exact .inl rfl | exact .inr rfl | assumption) :
    DS X (.Assign [.Name x pos'] e pos) (mOwn i T m) := PS.weak (ps_set hN hi hx he hs hf) fun _ _ _ h => tOwn_N h
theorem PostN.lst {K : PySem.W.Frag} {F : Hp} {S : Strm} {n n' : Nat} {H H1 : Hp} {p : Addr} {zs : List V} {ds : List PyData} (f : Fr F S n H) (e : Ext S n' H H1) (hp : H1 p = none) (h : DenL K (grow F H H1) S zs ds) : PostN K F S H p false (.list ds) n' (upd H1 p (.lst zs)) := by
  have f1 := f.next e
  have hH : H p = none := by
    cases q : H p with
    | none => rfl
    | some u =>
      by_cases hs : inS S p
      · obtain ⟨xs, z⟩ := e.str.some hs
        rw [hp] at z; cases z
      · have := e.kp p u q hs
        rw [hp] at this; cases this
  refine ⟨e.trans (Ext.new f1 hp), hH, .lst upd_same (h.mono fun b o q => ?_)⟩
  have hb : b ≠ p := fun z => by
    have := f1.sub b o q
    rw [z, hp] at this; cases this
  unfold exc
  rw [if_neg hb]
  have := grow_grow f e (Ext.new (o := .lst zs) f1 hp)
  rw [← this]
  exact sub_grow b o q
theorem dn_lst {es : List Expr} {ms : MA} (h : DA X es ms) : DN X (.List es pos) false (mLst ms) := PE.weak (pe_lst h) fun σ H Q h => by
  obtain ⟨F, S, n, γ, ag, k, hm, hQ⟩ := h
  refine ⟨F, S, n, γ, ag, _, hm, fun ds n1 hk vs H1 p => ?_⟩
  exact ⟨by rw [p.den.length]; exact hk.1, fun q hq => hQ _ _ hk.2 _ _ (PostN.lst ag.fr p.ext hq p.den)⟩
def mDict0 : M := fun _ n k => k (.dict []) n
theorem dn_dict0K : DN X (.Dict [] [] pos) false mDict0 := PE.weak pe_dnewK fun σ H Q h => by
  obtain ⟨F, S, n, γ, ag, k, hm, hQ⟩ := h
  intro d hd
  exact hQ _ _ hm _ _ ⟨Ext.new ag.fr hd, hd, .dK (kvs := []) (es := []) upd_same rfl .nil rfl⟩
theorem dn_dict0T : DN X (.Dict [] [] pos) true mDict0 := PE.weak pe_dnewT fun σ H Q h => by
  obtain ⟨F, S, n, γ, ag, k, hm, hQ⟩ := h
  intro d hd
  exact hQ _ _ hm _ _ ⟨Ext.new ag.fr hd, hd, .dT (kvs := []) (es := []) upd_same rfl .nil rfl⟩
end
def forW (t : Tgt) (body : MS) : List PyData → MS
  | [], γ, n, k => k.nx γ n
  | d :: ds, γ, n, k => ∃ ps, t d = some ps ∧ body (setG γ ps) n { nx := fun γ' n' => forW t body ds γ' n' k, rt := k.rt, bk := k.nx, ct := fun γ' n' => forW t body ds γ' n' k }
def mFor (src : MA) (t : Tgt) (body : MS) : MS := fun γ n k => src (pl γ) n fun ds n1 => forW t body ds γ n1 k
section
variable {X : Cx} {tg iter : Expr} {body : List Stmt} {pos : Pos} {src : MA} {t : Tgt} {mb : MS}
theorem tFor_D {K : PySem.W.Frag} {D : Ends} {σ : L2.St} {H : Hp} (h : tS K (mFor src t mb) D σ H) : tFor (tDI K src) (tDG K t) (tS K mb) D σ H := by
  obtain ⟨H0, F0, Fb, F, S, n0, γ, l, ag, sb, l1, l2, k, hm, ft⟩ := h
  refine ⟨F, S, n0, _, ag.plain, _, hm, fun ds n1 hk J H1 e1 wk => ?_⟩
  have ag1 := ag.next e1
  have sb1 : Sub Fb (grow F H H1) := sb.trans sub_grow
  refine for_it (n := ds.length) (J := J) (G := fun H' => Sub (grow F H H1) H') wk
    (fun i σ' H' => ∃ F' n γ', AgS K H0 F0 F' S n H' γ' σ' ∧ Sub (grow F H H1) F' ∧ γ'.length = l ∧ σ'.length = l ∧ forW t mb (ds.drop i) γ' n k)
    ⟨_, n1, γ, ag1, Sub.refl _, l1, l2, hk⟩ (fun i σ' H' _ ⟨F', n, γ', a, s, _⟩ => s.trans a.fr.sub) ?_ ?_
  · rintro i x σ' H' H2 hi ⟨F', n, γ', a, s, q1, q2, hw⟩ y
    obtain ⟨d, ed, px⟩ := y n F' s a.fr
    have hdr : ds.drop i = d :: ds.drop (i + 1) := by
      obtain ⟨hl, e⟩ := List.getElem?_eq_some_iff.mp ed
      rw [List.drop_eq_getElem_cons hl, e]
    rw [hdr] at hw
    obtain ⟨ps, ep, hw⟩ := hw
    have a2 := a.next px.ext
    have dx : Den K (grow F' H' H2) S x d := px.den
    refine ⟨grow F' H' H2, S, n, d, ps, a2.fr, dx, ep, fun σ2 as => ?_⟩
    refine ⟨H0, F0, grow F H H1, _, S, n, setG γ' ps, l, a2.ass as, s.trans sub_grow, (setG_length _ _).trans q1, as.length.trans q2, _, hw, ?_⟩
    exact ⟨fun γ3 n3 h3 σ3 H3 F3 a3 s3 e1 e2 => ⟨F3, n3, γ3, a3, s3, e1, e2, h3⟩, ft.rt, fun γ3 n3 h3 σ3 H3 F3 a3 s3 e1 e2 => ft.nx _ _ h3 _ _ _ a3 (sb1.trans s3) e1 e2, fun γ3 n3 h3 σ3 H3 F3 a3 s3 e1 e2 => ⟨F3, n3, γ3, a3, s3, e1, e2, h3⟩⟩
  · rintro σ' H' ⟨F', n, γ', a, s, q1, q2, hw⟩
    rw [List.drop_length] at hw
    exact ft.nx _ _ hw _ _ _ a (sb1.trans s) q1 q2
theorem ds_for (hp : PassesOwn (model X.prog X.w) X.A X.env X.xe) (hc : X.calm = true) (hi : DI X tg iter src) (hg : DG X tg t) (hb : DSs X body mb) (hs : ∀ x, foldedSetIterable iter X.env x = pure x := by intro _; rfl) :
    DS X (.For tg iter body [] pos) (mFor src t mb) := PS.weak (ps_for hp hc hi hg hb hs) fun _ _ _ h => tFor_D h
def whW (c : MT) (body : MS) : Nat → MS
  | 0, _, _, _ => False
  | m + 1, γ, n, k => c (pk γ) n fun b n1 => if b = true then body γ n1 { nx := fun γ' n' => whW c body m γ' n' k, rt := k.rt, bk := k.nx, ct := fun γ' n' => whW c body m γ' n' k } else k.nx γ n1
def mWh (c : MT) (body : MS) : MS := fun γ n k => ∃ m, whW c body m γ n k
theorem ds_while {c : Expr} {mc : MT} (hp : PassesOwn (model X.prog X.w) X.A X.env X.xe) (hc : DT X c mc) (hb : DSs X body mb) : DS X (.While c body [] pos) (mWh mc mb) := PS.weak (ps_while hp (pt_pk hc) hb) fun D σ H h => by
  obtain ⟨H0, F0, Fb, F, S, n0, γ, l, ag, sb, l1, l2, k, ⟨m0, hm⟩, ft⟩ := h
  refine ⟨fun m σ' H' => ∃ F' n γ', AgS X.K H0 F0 F' S n H' γ' σ' ∧ Sub Fb F' ∧ γ'.length = l ∧ σ'.length = l ∧ whW mc mb m γ' n k, ⟨m0, F, n0, γ, ag, sb, l1, l2, hm⟩, ?_⟩
  rintro m σ' H' ⟨F', n, γ', a, s, q1, q2, hw⟩
  cases m with
  | zero => exact hw.elim
  | succ m =>
    refine ⟨H0, F0, F', S, n, γ', a, _, hw, fun b n1 hk H1 e1 => ?_⟩
    have a1 := a.next e1
    cases b with
    | true =>
      refine ⟨fun σ2 H2 => ∃ F' n γ', AgS X.K H0 F0 F' S n H2 γ' σ2 ∧ Sub Fb F' ∧ γ'.length = l ∧ σ2.length = l ∧ whW mc mb m γ' n k, fun σ2 H2 h2 => ⟨m, Nat.lt_succ_self _, h2⟩, ?_⟩
      refine ⟨H0, F0, Fb, _, S, n1, γ', l, a1, s.trans sub_grow, q1, q2, _, hk, ?_⟩
      exact ⟨fun γ3 n3 h3 σ3 H3 F3 a3 s3 e1 e2 => ⟨F3, n3, γ3, a3, s3, e1, e2, h3⟩, ft.rt, fun γ3 n3 h3 σ3 H3 F3 a3 s3 e1 e2 => ft.nx _ _ h3 _ _ _ a3 s3 e1 e2, fun γ3 n3 h3 σ3 H3 F3 a3 s3 e1 e2 => ⟨F3, n3, γ3, a3, s3, e1, e2, h3⟩⟩
    | false => exact ft.nx _ _ hk _ _ _ a1 (s.trans sub_grow) q1 q2
end
section
variable {X : Cx} {e : Expr} {m : M} {pos apos cpos p : Pos} {x : Str} {i : Nat}
def mApp (i : Nat) (m : M) : MS := fun γ n k => ∃ ds, γ[i]? = some (.own false (.list ds)) ∧ m (pl γ) n fun d n1 => ds.length < sizeLine ∧ k.nx (γ.set i (.own false (.list (ds ++ [d])))) n1
def mAppP (i : Nat) (m : M) : MS := fun γ n k => ∃ ds, γ[i]? = some (.own false (.list ds)) ∧ m (pk γ) n fun d n1 => ds.length < sizeLine ∧ atom d = true ∧ k.nx (γ.set i (.own false (.list (ds ++ [d])))) n1
theorem OwnAt.list_inv {K : PySem.W.Frag} {F : Hp} {S : Strm} {H : Hp} {a : Addr} {ds : List PyData} (h : OwnAt K F S H a false (.list ds)) : ∃ xs, H a = some (.lst xs) ∧ DenL K F S xs ds := by
  cases h with
  | lst h1 h2 => exact ⟨_, h1, h2⟩
theorem AgS.app {K : PySem.W.Frag} {H0 F0 F : Hp} {S : Strm} {n : Nat} {H : Hp} {γ : G} {σ : L2.St} (a : AgS K H0 F0 F S n H γ σ) {i : Nat} {ds : List PyData} (hi : γ[i]? = some (.own false (.list ds))) {v : V} {d : PyData} (hv : Den K F S v d) :
    ∃ b xs, σ[i]? = some (some (.ref b)) ∧ H b = some (.lst xs) ∧ xs.length = ds.length ∧ AgS K H0 F0 F S n (upd H b (.lst (xs ++ [v]))) (γ.set i (.own false (.list (ds ++ [d])))) σ := by
  obtain ⟨b, q1, q2, q3, q4, q5⟩ := a.own i _ _ hi
  obtain ⟨xs, h1, h2⟩ := q5.list_inv
  exact ⟨b, xs, q1, h1, h2.length, a.write hi q1 (.lst upd_same (h2.append (.cons hv .nil)))⟩
theorem ds_app (hN : X.N[i]? = some x) (hv : Vis X.env.scope x) (he : DE X e m) (hd : (x == ("__debug__" : Str)) = false := by decide) (hcd : (x == ("__classdict__" : Str)) = false := by decide)
    (hbase : attributeBase (.Name x p) "append" X.env (eval (.Name x p) X.env) = eval (.Name x p) X.env := by rfl)
    (hfew : ((backTo cpos (starEach [e] X.env)).all (fun x => !x.1) && (backToKw cpos (keywordEach [] X.env)).all (fun x => x.1.isSome)
      && decide (([e] : List Expr).length + ([] : List Keyword).length + (if ([] : List Keyword).isEmpty then 0 else 1) < 30)) = true := by rfl)
    (hline : (apos.endLine == cpos.line) = true := by rfl) (hs : starEach [e] X.env = (false, eval e X.env) :: starEach [] X.env := by rfl) (hplain : (backTo cpos (starEach [] X.env)).any (·.1) = false := by rfl)
    (hsw : swapsWith (.Call (.Attribute (.Name x p) "append" apos) [e] [] cpos) none pos.line X.env = pure false := by rfl) :
    DS X (.Expr (.Call (.Attribute (.Name x p) "append" apos) [e] [] cpos) pos) (mApp i m) :=
  PS.weak (ps_expr (pe_bm PySem.F.plainAttrs_list PySem.F.slot_list_append PySem.F.type_list_append mt_append (pe_var hN hv hd hcd) (pa_cons he pa_nil hs) hbase hfew hline hs hplain) hsw) fun D σ H h => by
    obtain ⟨H0, F0, Fb, F, S, n, γ, l, ag, sb, l1, l2, k, ⟨ds, hi, hm⟩, ft⟩ := h
    obtain ⟨b, q1, q2, q3, q4, q5⟩ := ag.own i _ _ hi
    obtain ⟨xs, h1, h2⟩ := q5.list_inv
    refine ⟨_, q1, .inl ⟨rfl, xs, SqL.of h1⟩, F, S, n, _, ag.plain, _, hm, fun d n1 hk v H1 p => ?_⟩
    obtain ⟨b', xs', z1, z2, z3, a2⟩ := (ag.next p.ext).app hi p.den
    rw [q1] at z1
    cases z1
    exact ⟨b, xs', v, rfl, rfl, z2, by rw [z3]; exact hk.1, ft.nx _ _ hk.2 _ _ _ a2 (sb.trans sub_grow) (by rw [List.length_set]; exact l1) l2⟩
theorem ds_appP (hN : X.N[i]? = some x) (hv : Vis X.env.scope x) (he : DE X e m) (hd : (x == ("__debug__" : Str)) = false := by decide) (hcd : (x == ("__classdict__" : Str)) = false := by decide)
    (hbase : attributeBase (.Name x p) "append" X.env (eval (.Name x p) X.env) = eval (.Name x p) X.env := by rfl)
    (hfew : ((backTo cpos (starEach [e] X.env)).all (fun x => !x.1) && (backToKw cpos (keywordEach [] X.env)).all (fun x => x.1.isSome)
      && decide (([e] : List Expr).length + ([] : List Keyword).length + (if ([] : List Keyword).isEmpty then 0 else 1) < 30)) = true := by rfl)
    (hline : (apos.endLine == cpos.line) = true := by rfl) (hs : starEach [e] X.env = (false, eval e X.env) :: starEach [] X.env := by rfl) (hplain : (backTo cpos (starEach [] X.env)).any (·.1) = false := by rfl)
    (hsw : swapsWith (.Call (.Attribute (.Name x p) "append" apos) [e] [] cpos) none pos.line X.env = pure false := by rfl) :
    DS X (.Expr (.Call (.Attribute (.Name x p) "append" apos) [e] [] cpos) pos) (mAppP i m) :=
  PS.weak (ps_expr (pe_bm PySem.F.plainAttrs_list PySem.F.slot_list_append PySem.F.type_list_append mt_append (pe_var hN hv hd hcd) (pa_cons (pe_pk he) pa_nil hs) hbase hfew hline hs hplain) hsw) fun D σ H h => by
    obtain ⟨H0, F0, Fb, F, S, n, γ, l, ag, sb, l1, l2, k, ⟨ds, hi, hm⟩, ft⟩ := h
    obtain ⟨b, q1, q2, q3, q4, q5⟩ := ag.own i _ _ hi
    obtain ⟨xs, h1, h2⟩ := q5.list_inv
    refine ⟨_, q1, .inl ⟨rfl, xs, SqL.of h1⟩, H0, F0, F, S, n, γ, ag, _, hm, fun d n1 hk v H1 p hd => ?_⟩
    obtain ⟨b', xs', z1, z2, z3, a2⟩ := (ag.next p).app hi (hd (grow F H H1) hk.2.1)
    rw [q1] at z1
    cases z1
    exact ⟨b, xs', v, rfl, rfl, z2, by rw [z3]; exact hk.1, ft.nx _ _ hk.2.2 _ _ _ a2 (sb.trans sub_grow) (by rw [List.length_set]; exact l1) l2⟩
def mExt (i : Nat) (m : M) : MS := fun γ n k => ∃ ds, γ[i]? = some (.own false (.list ds)) ∧ m (pl γ) n fun d n1 => ∃ es, d = .list es ∧ ds.length + es.length ≤ sizeLine ∧ k.nx (γ.set i (.own false (.list (ds ++ es)))) n1
theorem ds_ext (hN : X.N[i]? = some x) (hv : Vis X.env.scope x) (he : DE X e m) (hd : (x == ("__debug__" : Str)) = false := by decide) (hcd : (x == ("__classdict__" : Str)) = false := by decide)
    (hbase : attributeBase (.Name x p) "extend" X.env (eval (.Name x p) X.env) = eval (.Name x p) X.env := by rfl)
    (hfew : ((backTo cpos (starEach [e] X.env)).all (fun x => !x.1) && (backToKw cpos (keywordEach [] X.env)).all (fun x => x.1.isSome)
      && decide (([e] : List Expr).length + ([] : List Keyword).length + (if ([] : List Keyword).isEmpty then 0 else 1) < 30)) = true := by rfl)
    (hline : (apos.endLine == cpos.line) = true := by rfl) (hs : starEach [e] X.env = (false, eval e X.env) :: starEach [] X.env := by rfl) (hplain : (backTo cpos (starEach [] X.env)).any (·.1) = false := by rfl)
    (hsw : swapsWith (.Call (.Attribute (.Name x p) "extend" apos) [e] [] cpos) none pos.line X.env = pure false := by rfl) :
    DS X (.Expr (.Call (.Attribute (.Name x p) "extend" apos) [e] [] cpos) pos) (mExt i m) :=
  PS.weak (ps_expr (pe_bm PySem.F.plainAttrs_list PySem.F.slot_list_extend PySem.F.type_list_extend mt_extend (pe_var hN hv hd hcd) (pa_cons he pa_nil hs) hbase hfew hline hs hplain) hsw) fun D σ H h => by
    obtain ⟨H0, F0, Fb, F, S, n, γ, l, ag, sb, l1, l2, k, ⟨ds, hi, hm⟩, ft⟩ := h
    obtain ⟨b, q1, q2, q3, q4, q5⟩ := ag.own i _ _ hi
    obtain ⟨xs, h1, h2⟩ := q5.list_inv
    refine ⟨_, q1, .inl ⟨rfl, xs, SqL.of h1⟩, F, S, n, _, ag.plain, _, hm, fun d n1 hk v H1 p => ?_⟩
    obtain ⟨es, rfl, hlen, hk⟩ := hk
    obtain ⟨c, zs, rfl, hc, hzs⟩ := p.den.list_inv
    have ag1 := ag.next p.ext
    obtain ⟨b2, w1, w2, w3, w4, w5⟩ := ag1.own i _ _ hi
    rw [q1] at w1
    cases w1
    obtain ⟨ys, y1, y2⟩ := w5.list_inv
    exact ⟨b, c, ys, zs, rfl, rfl, y1, ag1.fr.sub _ _ hc, by rw [y2.length, hzs.length]; exact hlen, ft.nx _ _ hk _ _ _ (ag1.write hi q1 (.lst upd_same (y2.append hzs))) (sb.trans sub_grow) (by rw [List.length_set]; exact l1) l2⟩
end
end DL
namespace DL
open PySem PySem.Spec PyProof.Rows L2
open PySem.W (AllAlike Sortable EachIs dataLe dataLt alike sorted_data list_sort_data)

mutual
theorem reads_lt {h : Heap} : ∀ {v : Value} {d : PyData} {as : List Addr}, Reads h v d as → ∀ a ∈ as, a < h.objs.size
  | _, _, _, .none => fun _ q => nomatch q
  | _, _, _, .bool _ => fun _ q => nomatch q
  | _, _, _, .int _ _ => fun _ q => nomatch q
  | _, _, _, .str _ _ => fun _ q => nomatch q
  | _, _, _, .list h1 _ _ h4 => fun a q => by
    rcases List.mem_cons.mp q with e | q
    · rw [e]; exact Heap.lt_size h1
    · exact readsAll_lt h4 a q
  | _, _, _, .tuple h1 _ _ h4 => fun a q => readsAll_lt h4 a q
  | _, _, _, .dict h1 _ _ h4 h5 => fun a q => by
    rcases List.mem_append.mp q with q | q
    · rcases List.mem_cons.mp q with e | q
      · rw [e]; exact Heap.lt_size h1
      · exact readsAll_lt h4 a q
    · exact readsAll_lt h5 a q
theorem readsAll_lt {h : Heap} : ∀ {vs : List Value} {ds : List PyData} {as : List Addr}, ReadsAll h vs ds as → ∀ a ∈ as, a < h.objs.size
  | _, _, _, .nil => fun _ q => nomatch q
  | _, _, _, .cons h1 h2 => fun a q => by
    rcases List.mem_append.mp q with q | q
    · exact reads_lt h1 a q
    · exact readsAll_lt h2 a q
end
def sortP (ds : List PyData) : List PyData := ds.mergeSort (dataLe false id)
structure SortOk (ds : List PyData) : Prop where
  al : AllAlike ds
  sb : Sortable ds
  nd : ndL ds = true
  dp : ∀ d ∈ ds, d.depth ≤ 40
section
variable {X : Cx} {pins : List (Addr × Obj)} {σ : L2.St} {H : Hp} {s : Shared}
theorem each_of {K : PySem.W.Frag} {F : Hp} {S : Strm} : ∀ {xs : List V} {ds : List PyData} {us : List Value}, DenL K F S xs ds → Vals xs us → EachIs (fun u d => ∃ v, RelV v u ∧ Den K F S v d) us ds
  | _, _, _, .nil, .nil => .nil
  | _, _, _, .cons h1 h2, .cons r1 r2 => .cons ⟨_, r1, h1⟩ (each_of h2 r2)
theorem of_each {K : PySem.W.Frag} {F : Hp} {S : Strm} : ∀ {us : List Value} {ds : List PyData}, EachIs (fun u d => ∃ v, RelV v u ∧ Den K F S v d) us ds → ∃ xs, Vals xs us ∧ DenL K F S xs ds
  | _, _, .nil => ⟨[], .nil, .nil⟩
  | _, _, .cons ⟨v, r, d⟩ t => let ⟨xs, h1, h2⟩ := of_each t; ⟨v :: xs, .cons r h1, .cons d h2⟩
theorem each_reads {h : Heap} : ∀ {vs : List Value} {ds : List PyData} {as : List Addr}, ReadsAll h vs ds as → EachIs (fun v d => ∃ as, Reads h v d as) vs ds
  | _, _, _, .nil => .nil
  | _, _, _, .cons h1 h2 => .cons ⟨_, h1⟩ (each_reads h2)
theorem sortTail {F : Hp} {S : Strm} {n : Nat} {xs : List V} {us : List Value} {ds : List PyData} {P : PySem.Fin → Shared → Prop} {E : Value → Shared → Prop} (I : Inv X pins σ H s) (fr : Fr F S n H) (rv : Vals xs us) (hd : DenL X.K F S xs ds) (ok : SortOk ds) (hl : ds.length ≤ sizeLine) (hu : X.A.units + 65 < cLine)
    (h : ∀ zs p s', DenL X.K F S zs (sortP ds) → H p = none → Inv X pins σ (upd H p (.lst zs)) s' → P (.done (.ret (.ref p))) s') :
    wpAny (model X.prog X.w) X.A.in1 (do let l ← newList us; let _ ← holding [l] (call (.builtin "list.sort") [l] []); ret l) P E s := by
  have lu : us.length = ds.length := by rw [← rv.length, hd.length]
  refine wpAny_bind (wpAny_newList ?_ (by rw [lu]; exact hl))
  have ho : (s.heap.push (seqObj "list" us.toArray 0)).get? s.heap.objs.size = some (seqObj "list" us.toArray 0) := Heap.get?_push_size _ rfl
  show wpAny _ _ _ _ _ { s with heap := s.heap.push (seqObj "list" us.toArray 0) }
  obtain ⟨as, ra⟩ := Dp.readsAll I ds xs us (dpAll_mono fr.sub (hd.dp ok.nd).1) rv
  have lt := readsAll_lt ra
  have er : EachIs (fun v d => ∃ as, Reads (s.heap.push (seqObj "list" us.toArray 0)) v d as ∧ s.heap.objs.size ∉ as) us (ds.map id) := by
    rw [List.map_id]
    have : ∀ {vs : List Value} {es : List PyData} {bs : List Addr}, ReadsAll s.heap vs es bs → EachIs (fun v d => ∃ as, Reads (s.heap.push (seqObj "list" us.toArray 0)) v d as ∧ s.heap.objs.size ∉ as) vs es := by
      intro vs
      induction vs with
      | nil => intro es bs r; cases r; exact .nil
      | cons v vs ih =>
        intro es bs r
        cases r with
        | cons r1 r2 => exact .cons ⟨_, PyProof.Rows.Reads.keeps (fun _ _ e => Heap.get?_push_of_some _ e) r1, fun z => Nat.lt_irrefl _ (reads_lt r1 _ z)⟩ (ih r2)
    exact this ra
  refine wpAny_bind (wpAny_holding (list_sort_data (enc := id) (bs := ds) (R := fun u d => ∃ v, RelV v u ∧ Den X.K F S v d) ho (each_of hd rv) (by rw [List.map_id] at er; exact er) (by rw [List.map_id]; exact ok.al) (by rw [List.map_id]; exact ok.sb) hl (fun b hb => ?_) fun out lo eo => ?_))
  · have := ok.dp b hb
    show (X.A.in1).units + 1 + b.depth < cLine
    have e : (X.A.in1).units ≤ X.A.units + 1 := Nat.le_refl _
    omega
  · obtain ⟨zs, r1, d1⟩ := of_each eo
    obtain ⟨ep, he'⟩ := sortedHeap_at (vs := us) (out := out.toArray) ho
    have hlen : zs.length ≤ sizeLine := by rw [r1.length, lo]; exact hl
    have I' : Inv X pins σ (upd H s.heap.objs.size (.lst zs)) { s with heap := sortedHeap (s.heap.push (seqObj "list" us.toArray 0)) s.heap.objs.size us out.toArray } := I.laid (t' := s.toks) (fun b u e => by
      have hb : b < s.heap.objs.size := Heap.lt_size e
      rw [sortedHeap_old (Nat.ne_of_lt hb) (by rw [size_push']; exact Nat.lt_succ_of_lt hb)]
      exact Heap.get?_push_of_some _ e) (Nat.le_refl _) ⟨hlen, out, ep, r1, he'⟩
    exact wpAny_pure (h zs _ _ d1 (I.hok.fresh (Nat.le_refl _)) I')
def sortSrc : PyData → Option (List PyData)
  | .list ds => some ds
  | .tuple ds => some ds
  | .dict es => if noNone es = true then some (es.map (·.1)) else none
  | _ => none
def oSorted : O1 := fun d k => ∃ ds, sortSrc d = some ds ∧ SortOk ds ∧ k (.list (sortP ds))
theorem denL_keys {K : PySem.W.Frag} {F : Hp} {S : Strm} : ∀ {ks : List Key}, ks.all kOk = true → DenL K F S (ks.map kV) (ks.map kP)
  | [], _ => .nil
  | .inl i :: ks, h => .cons (.int i) (denL_keys (by simpa [kOk] using h))
  | .inr z :: ks, h => by
    have h := Bool.and_eq_true_iff.mp (show (kOk (.inr z) && ks.all kOk) = true from h)
    exact .cons (.str z h.1) (denL_keys h.2)
theorem call_sortedD1 (hc : X.calm = true) (hu : X.A.units + 65 < cLine) : CallR X (.builtin "sorted") (rDN X.K (on1 oSorted)) := call1 fun pins s σ H x u Q I rx h => by
  obtain ⟨F, S, n, d, fr, hx, k, ho, hQ⟩ := h
  obtain ⟨ds, es, ok, ho⟩ := ho
  have fin : ∀ {xs : List V} {us : List Value} {s' : Shared}, Inv X pins σ H s' → Vals xs us → DenL X.K F S xs ds → ds.length ≤ sizeLine →
      wpAny (model X.prog X.w) X.A.in1 (do let l ← newList us; let _ ← holding [l] (call (.builtin "list.sort") [l] []); ret l) (fun f s' => ∃ v, f = .done (.ret v) ∧ EP X pins σ Q v s') X.xe s' := fun {xs us s'} I' rv hd hl =>
    sortTail I' fr rv hd ok hl hu fun zs p s2 dz hp I2 => ⟨_, rfl, .ref p, _, I2, rfl, hQ _ ho _ _ (Post.lst fr hp dz)⟩
  refine Calls.call_function_entry PyProof.Rows.kind_sorted PyProof.Rows.plain_sorted PyProof.Rows.entry_sorted (PyProof.Rows.args_sorted1 _) ?_
  unfold Builtin.«sorted»
  refine wpAny_bind (m := checkCount "sorted" 1 1 _) (wpAny_pure ?_)
  unfold sortSrc at es
  split at es
  · cases es
    obtain ⟨a, xs, rfl, ha, hxs⟩ := hx.list_inv
    cases rx
    obtain ⟨its, rv, q, hz⟩ := I.list (SqL.of (fr.sub _ _ ha))
    obtain ⟨o, ho', hc', n', hd'⟩ := id q.isList
    refine wpAny_bind (wpAny_collect_seq a (T := "list") (.inl rfl) ho' hc' hd' (fun h' hk => ?_) (by have := rv.length; simp; omega))
    have hl : ds.length ≤ sizeLine := by rw [← hxs.length]; exact hz
    exact fin (I.kept (t' := s.toks) hk) rv hxs hl
  · cases es
    obtain ⟨a, xs, rfl, ha, hxs⟩ := hx.tup_inv
    cases rx
    obtain ⟨its, rv, q, hz⟩ := I.tuple (SqT.of (fr.sub _ _ ha))
    obtain ⟨o, ho', hc', n', hd'⟩ := id q
    refine wpAny_bind (wpAny_collect_seq a (T := "tuple") (.inr rfl) ho' hc' hd' (fun h' hk => ?_) (by have := rv.length; simp; omega))
    have hl : ds.length ≤ sizeLine := by rw [← hxs.length]; exact hz
    exact fin (I.kept (t' := s.toks) hk) rv hxs hl
  · split at es
    · rename_i hn
      cases es
      rcases hx.dict_inv rfl with ⟨ex, ed, h1, h2, h3, hko⟩ | ⟨ex, ed, h1, h2, h3, hko⟩ | ⟨ex, ed, h1, h2, h3⟩ | ⟨ex, ed, h1⟩ | ⟨ex, ed, h1, h0, h2, h3⟩
      · rename_i a ob kvs es0
        subst ex
        cases rx
        unfold dkP at ed
        injection ed with ed
        subst ed
        obtain ⟨z, lo, vs, rel, dd⟩ := dk_rd I.hok (.inr ⟨_, fr.sub _ _ h1⟩)
        obtain ⟨ep, hat⟩ := dd.dictAt
        have lv : vs.length = kvs.length := (Paired.length rel).symm
        refine wpAny_bind (PySem.W.kdu_collect (A := X.A.in1) (PySem.W.kdl_dict (knd := mixKind X.prog X.w) (kvs := vs) (ep := ep) lo) (I.ok.hd hc) hat (by rw [lv]; exact z) fun h' tk acc hk hacc => ?_)
        have hv := keys_at (us := acc.toList) (vs := vs) (by rw [Array.length_toList, hacc.1]) fun j v e => hacc.2 j v (by rw [← Array.getElem?_toList]; exact e)
        have e1 : vs.map (fun p => kV p.1) = (es0.map (·.1)).map kV := by
          rw [← h2, rel.keys, List.map_map]; rfl
        rw [e1] at hv
        have e2 : (es0.map fun p => (kP p.1, p.2)).map (·.1) = (es0.map (·.1)).map kP := by rw [List.map_map, List.map_map]; rfl
        refine fin (xs := (es0.map (·.1)).map kV) (I.kept (t' := tk) hk) hv (by rw [e2]; exact denL_keys (by rw [List.all_map]; exact hko)) ?_
        rw [List.length_map, List.length_map, ← List.length_map (f := Prod.fst) (as := es0), ← h2, List.length_map]; exact z
      · rename_i a ob kvs es0
        subst ex
        cases rx
        unfold dtP at ed
        injection ed with ed
        subst ed
        obtain ⟨z, _⟩ := dt_rd I.hok (.inr ⟨_, fr.sub _ _ h1⟩)
        obtain ⟨hs, hgd, hxx, es, ep, hdt, hsz, ent⟩ := I.frzT (fr.sub _ _ h1)
        refine wpAny_bind (PySem.W.kdu_collect (A := X.A.in1) (kdl_raw hs hxx hdt) (I.ok.hd hc) hgd (by omega) fun h' tk acc hk hacc => ?_)
        have key : ∀ (j : Nat) (ks : List Key), (es0.map (·.1))[j]? = some ks → ∃ q, acc.toList[j]? = some (.ref q) ∧ H q = some (.tup (ks.map kV)) := fun j ks hj => by
          rw [← h2, List.getElem?_map] at hj
          cases hkv : kvs[j]? with
          | none => rw [hkv] at hj; cases hj
          | some p =>
            rw [hkv] at hj
            cases hj
            obtain ⟨en, q, e1, e2, e3⟩ := ent j p.1 p.2 hkv
            refine ⟨q, ?_, e3⟩
            have hlt : j < acc.size := by rw [hacc.1, hsz]; exact (List.getElem?_eq_some_iff.mp hkv).1
            obtain ⟨en', e4, e5⟩ := hacc.2 j acc[j] (Array.getElem?_eq_getElem hlt)
            rw [e1] at e4
            cases e4
            rw [Array.getElem?_toList, Array.getElem?_eq_getElem hlt, e5, e2]
        have lacc : acc.toList.length = es0.length := by
          rw [Array.length_toList, hacc.1, hsz, ← List.length_map (f := Prod.fst) (as := kvs), h2, List.length_map]
        have all : ∀ {us : List Value} {ls : List (List Key)}, us.length = ls.length → (ls.all fun l => l.all kOk) = true → (∀ (j : Nat) (ks : List Key), ls[j]? = some ks → ∃ q, us[j]? = some (.ref q) ∧ H q = some (.tup (ks.map kV))) → ∃ xs, Vals xs us ∧ DenL X.K F S xs (ls.map ktP) := by
          intro us
          induction us with
          | nil => intro ls hl _ _; cases ls with
            | nil => exact ⟨[], .nil, .nil⟩
            | cons _ _ => simp at hl
          | cons u us ih =>
            intro ls hl ha hk
            cases ls with
            | nil => simp at hl
            | cons l ls =>
              obtain ⟨q, e1, e2⟩ := hk 0 l rfl
              cases e1
              have ha := Bool.and_eq_true_iff.mp (show (l.all kOk && ls.all fun l => l.all kOk) = true from ha)
              obtain ⟨xs, r1, r2⟩ := ih (by simpa using hl) ha.2 fun j ks hj => hk (j + 1) ks hj
              exact ⟨.ref q :: xs, .cons rfl r1, .cons (.tup (fr.tp _ _ e2) (denL_keys ha.1)) r2⟩
        obtain ⟨xs, r1, r2⟩ := all (us := acc.toList) (ls := es0.map (·.1)) (by rw [lacc, List.length_map]) (by rw [List.all_map]; exact hko) key
        have e2 : (es0.map fun p => (ktP p.1, p.2)).map (·.1) = (es0.map (·.1)).map ktP := by rw [List.map_map, List.map_map]; rfl
        refine fin (I.kept (t' := tk) hk) r1 (by rw [e2]; exact r2) ?_
        rw [List.length_map, List.length_map, ← List.length_map (f := Prod.fst) (as := es0), ← h2, List.length_map]; exact z
      · unfold insP at ed; injection ed with ed; subst ed; simp [noNone, isNone] at hn
      · unfold strmP at ed; injection ed with ed; subst ed; simp [noNone, isNone] at hn
      · unfold parP at ed; injection ed with ed; subst ed; simp [noNone, isNone] at hn
    · cases es
  · cases es
end
end DL
namespace DL
open PySem PySem.Spec PyProof.Rows L2

def tX (K : PySem.W.Frag) : Option Bool → M → TE
  | none, m => tD K m
  | some T, m => tN K T m
abbrev DX (X : Cx) (e : Expr) (w : Option Bool) (m : M) : Prop := PE X e (tX X.K w m)
def slX : Option Bool → PyData → Sl
  | none, d => .val d
  | some T, d => .own T d
def Pend (K : PySem.W.Frag) (H0 F : Hp) (S : Strm) (H : Hp) (γ : G) (σ : L2.St) (v : V) (w : Option Bool) (d : PyData) : Prop := match w with
  | none => Den K F S v d
  | some T => ∃ a, v = .ref a ∧ H0 a = none ∧ F a = none ∧ ¬ inS S a ∧ OwnAt K F S H a T d ∧ ∀ (j : Nat) (U : Bool) (e : PyData), γ[j]? = some (.own U e) → σ[j]? ≠ some (some (.ref a))
section
variable {K : PySem.W.Frag} {H0 F0 F : Hp} {S : Strm} {n n' : Nat} {H H1 : Hp} {γ : G} {σ : L2.St} {w w2 : Option Bool} {d d2 : PyData} {v v2 : V}
theorem Pend.next (p : Pend K H0 F S H γ σ v w d) (e : Ext S n' H H1) : Pend K H0 (grow F H H1) S H1 γ σ v w d := by
  cases w with
  | none => exact (show Den K F S v d from p).mono sub_grow
  | some T =>
    obtain ⟨a, h1, h2, h3, h4, h5, h6⟩ := p
    obtain ⟨o, ho⟩ := h5.there
    refine ⟨a, h1, h2, ?_, h4, h5.mono sub_grow ((e.kp a o ho h4).trans ho.symm), h6⟩
    unfold grow
    rw [h3, ho]
theorem AgS.setPend (a : AgS K H0 F0 F S n H γ σ) (p : Pend K H0 F S H γ σ v w d) (i : Nat) : AgS K H0 F0 F S n H (γ.set i (slX w d)) (σ.set i (some v)) := by
  cases w with
  | none => exact a.setVal p a.len
  | some T =>
    obtain ⟨b, rfl, h2, h3, h4, h5, h6⟩ := p
    exact a.setOwn a.len h2 h3 h4 h5 fun j U e hj q => h6 j U e q
theorem AgS.newN (ag : AgS K H0 F0 F S n H γ σ) {a : Addr} {T : Bool} (p : PostN K F S H a T d n' H1) : AgS K H0 F0 (exc a (grow F H H1)) S n' H1 γ σ ∧ Pend K H0 (exc a (grow F H H1)) S H1 γ σ (.ref a) (some T) d ∧ Sub F (exc a (grow F H H1)) := by
  have ag1 := ag.next p.ext
  have nS : ¬ inS S a := fun hs => by
    obtain ⟨xs, z⟩ := ag.fr.str.some hs
    rw [p.new] at z; cases z
  have h0 : H0 a = none := by
    cases q : H0 a with
    | none => rfl
    | some u => have := ag.kp a u q nS; rw [p.new] at this; cases this
  have nF : F a = none := ag.fr.none p.new
  have sF : Sub F (exc a (grow F H H1)) := sub_exc sub_grow nF
  refine ⟨⟨ag1.f0, ag1.n0, ag1.s0, ⟨exc_sub.trans ag1.fr.sub, fun b hs => ?_, ag1.fr.str, fun b xs h => ?_⟩, ag1.kp, exc_sub.trans ag1.inn, fun j e q => ?_, fun j U e q => ?_, ag1.dis, ag1.len⟩, ⟨a, rfl, h0, by unfold exc; rw [if_pos rfl], nS, p.own, fun j U e q z => ?_⟩, sF⟩
  · unfold exc
    split
    · rfl
    · exact ag1.fr.nos b hs
  · have hb : b ≠ a := fun z => by
      subst z
      cases p.own with
      | lst h1 _ => rw [h1] at h; cases h
      | dK h1 _ _ _ => rw [h1] at h; cases h
      | dT h1 _ _ _ => rw [h1] at h; cases h
    unfold exc
    rw [if_neg hb]
    exact ag1.fr.tp b xs h
  · obtain ⟨v, q1, q2⟩ := ag.val j e q
    exact ⟨v, q1, q2.mono sF⟩
  · obtain ⟨b, q1, q2, q3, q4, q5⟩ := ag.own j U e q
    obtain ⟨o, ho⟩ := q5.there
    have : grow F H H1 b = none := by unfold grow; rw [q3, ho]
    refine ⟨b, q1, q2, ?_, q4, q5.mono sF ((p.ext.kp b o ho q4).trans ho.symm)⟩
    unfold exc
    split
    · rfl
    · exact this
  · obtain ⟨b, q1, q2, q3, q4, q5⟩ := ag.own j U e q
    rw [z] at q1
    cases q1
    obtain ⟨o, ho⟩ := q5.there
    rw [p.new] at ho; cases ho
theorem AgS.tx (ag : AgS K H0 F0 F S n H γ σ) {m : M} {k : PyData → Nat → Prop} (hm : m (pl γ) n k) {Q : VK}
    (hQ : ∀ d n', k d n' → ∀ v H1 F1, AgS K H0 F0 F1 S n' H1 γ σ → Sub F F1 → Pend K H0 F1 S H1 γ σ v w d → Ext S n' H H1 → Sub F1 (grow F H H1) → (∀ a, v = .ref a → w ≠ none → H a = none) → Q v H1) : tX K w m σ H Q := by
  cases w with
  | none => exact ⟨F, S, n, _, ag.plain, k, hm, fun d n' hk v H1 p => hQ d n' hk v H1 _ (ag.next p.ext) sub_grow p.den p.ext (Sub.refl _) fun _ _ z => absurd rfl z⟩
  | some T => exact ⟨F, S, n, _, ag.plain, k, hm, fun d n' hk a H1 p => let ⟨a1, p1, s1⟩ := ag.newN p; hQ d n' hk _ H1 _ a1 s1 p1 p.ext exc_sub fun b e _ => by cases e; exact p.new⟩
end
def mPar (i j : Nat) (w w2 : Option Bool) (a b : M) : MS := fun γ n k => a (pl γ) n fun d n1 => b (pl γ) n1 fun e n2 => k.nx ((γ.set i (slX w d)).set j (slX w2 e)) n2
section
variable {X : Cx} {i j : Nat} {x y : Str} {a b : Expr} {ma mb : M} {w w2 : Option Bool} {pos px py pt : Pos} {kt k2} {pt2 : Pos}
theorem ds_par (hc : X.calm = true) (hN : X.N.Nodup) (hi : X.N[i]? = some x) (hj : X.N[j]? = some y) (hij : i ≠ j) (hx : X.env.scope.names.lookup x = some .local) (hy : X.env.scope.names.lookup y = some .local) (ha : DX X a w ma) (hb : DX X b w2 mb)
    (hw : swappedStores [.Tuple [.Name x px, .Name y py] kt pt] (.Tuple [a, b] k2 pt2) X.env = pure (some [x, y]) := by rfl)
    (hs : swapsWithSole [.Tuple [.Name x px, .Name y py] kt pt] (.Tuple [a, b] k2 pt2) pos.line X.env = pure false := by rfl)
    (h1 : starEach [a, b] X.env = (false, eval a X.env) :: starEach [b] X.env := by rfl) (h2 : starEach [b] X.env = (false, eval b X.env) :: starEach [] X.env := by rfl) :
    DS X (.Assign [.Tuple [.Name x px, .Name y py] kt pt] (.Tuple [a, b] k2 pt2) pos) (mPar i j w w2 ma mb) :=
  PS.weak (ps_par hc hN hi hj hij hx hy (pa_cons ha (pa_cons hb pa_nil h2) h1) hw hs) fun D σ H h => by
    obtain ⟨H0, F0, Fb, F, S, n, γ, l, ag, sb, l1, l2, k, hm, ft⟩ := h
    refine ag.tx (w := w) hm fun d n1 hk v H1 F1 ag1 s1 p1 e1 g1 nw1 => ?_
    refine ag1.tx (w := w2) hk fun e n2 hk2 v2 H2 F2 ag2 s2 p2 e2 g2 nw2 => ?_
    refine ⟨v, v2, rfl, ?_⟩
    have q1 : Pend X.K H0 F2 S H2 γ σ v w d := by
      cases w with
      | none => exact (show Den X.K F1 S v d from p1).mono s2
      | some T =>
        obtain ⟨a1, z1, z2, z3, z4, z5, z6⟩ := p1
        obtain ⟨o, ho⟩ := z5.there
        refine ⟨a1, z1, z2, ?_, z4, z5.mono s2 ((e2.kp a1 o ho z4).trans ho.symm), z6⟩
        cases q : F2 a1 with
        | none => rfl
        | some u =>
          exfalso
          rcases grow_cases (g2 a1 u q) with q' | ⟨_, q', _⟩
          · rw [z3] at q'; cases q'
          · rw [ho] at q'; cases q'
    have ag3 := ag2.setPend q1 i
    have q2 : Pend X.K H0 F2 S H2 (γ.set i (slX w d)) (σ.set i (some v)) v2 w2 e := by
      cases w2 with
      | none => exact p2
      | some T =>
        obtain ⟨a2, z1, z2, z3, z4, z5, z6⟩ := p2
        refine ⟨a2, z1, z2, z3, z4, z5, fun jj U e' hh => ?_⟩
        by_cases hj : i = jj
        · subst hj
          obtain ⟨hlt, _⟩ := List.getElem?_eq_some_iff.mp hh
          rw [List.length_set] at hlt
          rw [List.getElem?_set_self hlt] at hh
          rw [List.getElem?_set_self (by have := ag.len; omega)]
          intro z
          cases w with
          | none => cases hh
          | some T1 =>
            obtain ⟨a1, y1, y2, y3, y4, y5, y6⟩ := p1
            obtain ⟨o, ho⟩ := y5.there
            rw [y1] at z
            cases z
            rw [nw2 _ z1 (by simp)] at ho
            cases ho
        · rw [List.getElem?_set_ne hj] at hh ⊢
          exact z6 jj U e' hh
    exact ft.nx _ _ hk2 _ _ _ (ag3.setPend q2 j) (sb.trans (s1.trans s2)) (by rw [List.length_set, List.length_set]; exact l1) (by rw [List.length_set, List.length_set]; exact l2)
end
theorem AgS.tx2 {K : PySem.W.Frag} {H0 F0 F : Hp} {S : Strm} {n : Nat} {H : Hp} {γ : G} {σ : L2.St} {w w2 : Option Bool} {ma mb : M} {k : PyData → PyData → Nat → Prop} (ag : AgS K H0 F0 F S n H γ σ) (hm : ma (pl γ) n fun d n1 => mb (pl γ) n1 fun e n2 => k d e n2) {Q : V → V → Hp → Prop}
    (hQ : ∀ d e n', k d e n' → ∀ v v2 H2 F2, AgS K H0 F0 F2 S n' H2 γ σ → Sub F F2 → Pend K H0 F2 S H2 γ σ v w d → Pend K H0 F2 S H2 γ σ v2 w2 e → (∀ a, v = .ref a → v2 = .ref a → w ≠ none → w2 ≠ none → False) → Q v v2 H2) :
    tX K w ma σ H fun v H1 => tX K w2 mb σ H1 fun v2 H2 => Q v v2 H2 := by
  refine ag.tx (w := w) hm fun d n1 hk v H1 F1 ag1 s1 p1 e1 g1 nw1 => ?_
  refine ag1.tx (w := w2) hk fun e n2 hk2 v2 H2 F2 ag2 s2 p2 e2 g2 nw2 => ?_
  have q1 : Pend K H0 F2 S H2 γ σ v w d := by
    cases w with
    | none => exact (show Den K F1 S v d from p1).mono s2
    | some T =>
      obtain ⟨a1, z1, z2, z3, z4, z5, z6⟩ := p1
      obtain ⟨o, ho⟩ := z5.there
      refine ⟨a1, z1, z2, ?_, z4, z5.mono s2 ((e2.kp a1 o ho z4).trans ho.symm), z6⟩
      cases q : F2 a1 with
      | none => rfl
      | some u =>
        exfalso
        rcases grow_cases (g2 a1 u q) with q' | ⟨_, q', _⟩
        · rw [z3] at q'; cases q'
        · rw [ho] at q'; cases q'
  refine hQ d e n2 hk2 v v2 H2 F2 ag2 (s1.trans s2) q1 p2 fun a ea ea2 hw hw2 => ?_
  cases w with
  | none => exact hw rfl
  | some T =>
    obtain ⟨a1, z1, z2, z3, z4, z5, z6⟩ := p1
    obtain ⟨o, ho⟩ := z5.there
    rw [ea] at z1
    cases z1
    rw [nw2 _ ea2 hw2] at ho
    cases ho
theorem AgS.set2 {K : PySem.W.Frag} {H0 F0 F : Hp} {S : Strm} {n : Nat} {H : Hp} {γ : G} {σ : L2.St} {w w2 : Option Bool} {d e : PyData} {v v2 : V} (ag : AgS K H0 F0 F S n H γ σ) (q1 : Pend K H0 F S H γ σ v w d) (q2 : Pend K H0 F S H γ σ v2 w2 e)
    (hne : ∀ a, v = .ref a → v2 = .ref a → w ≠ none → w2 ≠ none → False) (i j : Nat) : AgS K H0 F0 F S n H ((γ.set i (slX w d)).set j (slX w2 e)) ((σ.set i (some v)).set j (some v2)) := by
  refine (ag.setPend q1 i).setPend ?_ j
  cases w2 with
  | none => exact q2
  | some T =>
    obtain ⟨a2, z1, z2, z3, z4, z5, z6⟩ := q2
    refine ⟨a2, z1, z2, z3, z4, z5, fun jj U e' hh => ?_⟩
    by_cases hj : i = jj
    · subst hj
      obtain ⟨hlt, _⟩ := List.getElem?_eq_some_iff.mp hh
      rw [List.length_set] at hlt
      rw [List.getElem?_set_self hlt] at hh
      rw [List.getElem?_set_self (by have := ag.len; omega)]
      intro z
      cases w with
      | none => cases hh
      | some T1 =>
        cases z
        exact hne a2 rfl z1 (by simp) (by simp)
    · rw [List.getElem?_set_ne hj] at hh ⊢
      exact z6 jj U e' hh
section
variable {X : Cx} {i j : Nat} {x y : Str} {a b : Expr} {ma mb : M} {w w2 : Option Bool} {pos px py pt : Pos} {kt k2 : Nat} {pt2 : Pos}
theorem ds_parC (hc : X.calm = true) (hN : X.N.Nodup) (hi : X.N[i]? = some x) (hj : X.N[j]? = some y) (hx : Loc X.env.scope x) (hy : Loc X.env.scope y) (ha : DX X a w ma) (hb : DX X b w2 mb)
    (hs : swapsWithSole [.Tuple [.Name x px, .Name y py] kt pt] (.Tuple [a, b] k2 pt2) pos.line X.env = pure false := by rfl) (hw : swappedStores [.Tuple [.Name x px, .Name y py] kt pt] (.Tuple [a, b] k2 pt2) X.env = pure none := by rfl)
    (h1 : starEach [a, b] X.env = (false, eval a X.env) :: starEach [b] X.env := by rfl) (h2 : starEach [b] X.env = (false, eval b X.env) :: starEach [] X.env := by rfl)
    (hfx : X.fn x = true ∨ X.env.scope.names.lookup x = some .local := by first | exact .inl rfl | exact .inr rfl) (hfy : X.fn y = true ∨ X.env.scope.names.lookup y = some .local := by first | exact .inl rfl | exact .inr rfl)
    (h3 : (assignEach [.Tuple [.Name x px, .Name y py] kt pt] X.env).map (·.2) = [assign (.Tuple [.Name x px, .Name y py] kt pt) X.env] := by rfl)
    (h4 : (assignEach [.Name x px, .Name y py] X.env).map (·.2) = assign (.Name x px) X.env :: (assignEach [.Name y py] X.env).map (·.2) := by rfl) (h5 : (assignEach [.Name y py] X.env).map (·.2) = assign (.Name y py) X.env :: (assignEach [] X.env).map (·.2) := by rfl)
    (h6 : (assignEach [.Name x px, .Name y py] X.env).length = 2 := by rfl) (h7 : (assignEach [.Name x px, .Name y py] X.env).findIdx? (·.1) = none := by rfl) :
    DS X (.Assign [.Tuple [.Name x px, .Name y py] kt pt] (.Tuple [a, b] k2 pt2) pos) (mPar i j w w2 ma mb) :=
  PS.weak (ps_asg (pe_tup (pa_cons ha (pa_cons hb pa_nil h2) h1)) (pg_tup hc (pgs_cons (pg_name hN hi hx hfx) (pgs_cons (pg_name hN hj hy hfy) pgs_nil h5) h4) h6 h7) hs hw h3) fun D σ H h => by
    obtain ⟨H0, F0, Fb, F, S, n, γ, l, ag, sb, l1, l2, k, hm, ft⟩ := h
    refine ag.tx2 (w := w) (w2 := w2) hm fun d e n2 hk v v2 H2 F2 ag2 sF q1 q2 hne => ?_
    refine ⟨by show 2 ≤ sizeLine; decide, fun p hp => ?_⟩
    have ex : Ext S n2 H2 (upd H2 p (.tup [v, v2])) := Ext.new ag2.fr hp
    refine ⟨p, [v, v2], rfl, .inl (.inl upd_same), rfl, v, [v2], rfl, v2, [], rfl, rfl, ?_⟩
    exact ft.nx _ _ hk _ _ _ ((ag2.next ex).set2 (q1.next ex) (q2.next ex) hne i j) ((sb.trans sF).trans sub_grow) (by rw [List.length_set, List.length_set]; exact l1) (by rw [List.length_set, List.length_set]; exact l2)
end
def putP (es : List (PyData × PyData)) (y d : PyData) : List (PyData × PyData) :=
  if (es.any fun e => PyData.eqv e.1 y) = true then es.map (fun e => if PyData.eqv e.1 y = true then (e.1, d) else e) else es ++ [(y, d)]
def putKP {κ : Type} [DecidableEq κ] (es : List (κ × PyData)) (k : κ) (d : PyData) : List (κ × PyData) :=
  if (es.any fun e => decide (e.1 = k)) = true then es.map (fun e => if e.1 = k then (e.1, d) else e) else es ++ [(k, d)]
theorem any_pull {κ : Type} {P : κ → PyData} {q : PyData → Bool} {r : κ → Bool} (h : ∀ a, q (P a) = r a) : ∀ es : List (κ × PyData), ((es.map fun p => (P p.1, p.2)).any fun e => q e.1) = es.any fun e => r e.1
  | [] => rfl
  | e :: es => by rw [List.map_cons, List.any_cons, List.any_cons, any_pull h es, h]
theorem put_dk (es : List (Key × PyData)) (k : Key) (d : PyData) : putP (es.map fun p => (kP p.1, p.2)) (kP k) d = (putKP es k d).map fun p => (kP p.1, p.2) := by
  unfold putP putKP
  rw [any_pull (P := kP) (q := fun a => PyData.eqv a (kP k)) (r := fun a => decide (a = k)) fun a => eqv_kP a k]
  split
  · rw [List.map_map, List.map_map]
    refine List.map_congr_left fun e _ => ?_
    show (if PyData.eqv (kP e.1) (kP k) = true then _ else _) = _
    rw [eqv_kP]
    by_cases h : e.1 = k <;> simp [h]
  · rw [List.map_append]; rfl
theorem put_dt (es : List (List Key × PyData)) (k : List Key) (d : PyData) : putP (es.map fun p => (ktP p.1, p.2)) (ktP k) d = (putKP es k d).map fun p => (ktP p.1, p.2) := by
  unfold putP putKP
  rw [any_pull (P := ktP) (q := fun a => PyData.eqv a (ktP k)) (r := fun a => decide (a = k)) fun a => eqv_ktP a k]
  split
  · rw [List.map_map, List.map_map]
    refine List.map_congr_left fun e _ => ?_
    show (if PyData.eqv (ktP e.1) (ktP k) = true then _ else _) = _
    rw [eqv_ktP]
    by_cases h : e.1 = k <;> simp [h]
  · rw [List.map_append]; rfl
section
variable {κ : Type} [DecidableEq κ]
theorem put_any {kvs : List (κ × V)} {es : List (κ × PyData)} (h : kvs.map (·.1) = es.map (·.1)) (k : κ) : (kvs.any fun e => decide (e.1 = k)) = es.any fun e => decide (e.1 = k) := by
  have e1 : (kvs.any fun e => decide (e.1 = k)) = (kvs.map (·.1)).any fun a => decide (a = k) := by rw [List.any_map]; rfl
  have e2 : (es.any fun e => decide (e.1 = k)) = (es.map (·.1)).any fun a => decide (a = k) := by rw [List.any_map]; rfl
  rw [e1, e2, h]
theorem put_keys {kvs : List (κ × V)} {es : List (κ × PyData)} (h : kvs.map (·.1) = es.map (·.1)) (k : κ) (v : V) (d : PyData) : (putK kvs k v).map (·.1) = (putKP es k d).map (·.1) := by
  unfold putK putKP
  rw [put_any h]
  split
  · rw [List.map_map, List.map_map]
    have e1 : ((fun x : κ × V => x.1) ∘ fun kv : κ × V => if kv.1 = k then (kv.1, v) else kv) = fun x => x.1 := by funext x; show (if x.1 = k then (x.1, v) else x).1 = x.1; split <;> rfl
    have e2 : ((fun x : κ × PyData => x.1) ∘ fun e : κ × PyData => if e.1 = k then (e.1, d) else e) = fun x => x.1 := by funext x; show (if x.1 = k then (x.1, d) else x).1 = x.1; split <;> rfl
    rw [e1, e2]
    exact h
  · rw [List.map_append, List.map_append, h]; rfl
theorem put_vals {K : PySem.W.Frag} {F : Hp} {S : Strm} {k : κ} {v : V} {d : PyData} (hv : Den K F S v d) : ∀ {kvs : List (κ × V)} {es : List (κ × PyData)}, kvs.map (·.1) = es.map (·.1) → DenL K F S (kvs.map (·.2)) (es.map (·.2)) → DenL K F S ((putK kvs k v).map (·.2)) ((putKP es k d).map (·.2)) := by
  intro kvs es h hd
  unfold putK putKP
  rw [put_any h]
  split
  · have : ∀ {kvs : List (κ × V)} {es : List (κ × PyData)}, kvs.map (·.1) = es.map (·.1) → DenL K F S (kvs.map (·.2)) (es.map (·.2)) → DenL K F S ((kvs.map fun kv => if kv.1 = k then (kv.1, v) else kv).map (·.2)) ((es.map fun e => if e.1 = k then (e.1, d) else e).map (·.2)) := by
      intro kvs
      induction kvs with
      | nil => intro es h hd; cases es with
        | nil => exact .nil
        | cons _ _ => simp at h
      | cons p r ih =>
        intro es h hd
        cases es with
        | nil => simp at h
        | cons q t =>
          simp only [List.map_cons, List.cons.injEq] at h
          cases hd with
          | cons h1 h2 =>
            simp only [List.map_cons]
            refine .cons ?_ (ih h.2 h2)
            by_cases e : p.1 = k
            · rw [if_pos e, if_pos (h.1.symm.trans e)]; exact hv
            · rw [if_neg e, if_neg (fun z => e (h.1.trans z))]; exact h1
    exact this h hd
  · rw [List.map_append, List.map_append]
    exact hd.append (.cons hv .nil)
theorem put_ok {P : κ → Bool} {es : List (κ × PyData)} {k : κ} {d : PyData} (h : (es.all fun e => P e.1) = true) (hk : P k = true) : ((putKP es k d).all fun e => P e.1) = true := by
  unfold putKP
  split
  · rw [List.all_map]
    refine List.all_eq_true.mpr fun e he => ?_
    have := List.all_eq_true.mp h e he
    show P (if e.1 = k then (e.1, d) else e).1 = true
    split <;> exact this
  · rw [List.all_append, h]
    show (true && (P k && true)) = true
    rw [hk]; rfl
end
theorem toKey_ok {K : PySem.W.Frag} {F : Hp} {S : Strm} {y : V} {dy : PyData} {k : Key} (hy : Den K F S y dy) (hk : toKey dy = some k) : kOk k = true := by
  have e := toKey_eq hk
  subst e
  cases k with
  | inl i => rfl
  | inr z => exact (show Den K F S y (.str z) from hy).str_inv.2
theorem toKeys_ok {K : PySem.W.Frag} {F : Hp} {S : Strm} : ∀ {xs : List V} {ks : List Key}, DenL K F S xs (ks.map kP) → ks.all kOk = true
  | _, [], _ => rfl
  | _, k :: ks, h => by
    cases h with
    | cons h1 h2 =>
      rw [List.all_cons, toKeys_ok h2, toKey_ok h1 (toKey_kP k)]; rfl
theorem toKT_ok {K : PySem.W.Frag} {F : Hp} {S : Strm} {y : V} {dy : PyData} {k : List Key} (hy : Den K F S y dy) (hk : toKT dy = some k) : k.all kOk = true := by
  have e := toKT_eq hk
  subst e
  obtain ⟨b, xs, rfl, hb, hxs⟩ := (show Den K F S y (.tuple (k.map kP)) from hy).tup_inv
  exact toKeys_ok hxs
def mPut (i : Nat) (mk mv : M) : MS := fun γ n k => ∃ T es, γ[i]? = some (.own T (.dict es)) ∧ mv (pl γ) n fun d n1 => mk (pl γ) n1 fun y n2 => es.length < sizeLine ∧ (if T = true then (toKT y).isSome else (toKey y).isSome) = true ∧ k.nx (γ.set i (.own T (.dict (putP es y d)))) n2
section
variable {X : Cx} {i : Nat} {x : Str} {y value : Expr} {mk mv : M} {p pos pos' : Pos}
theorem tVar_at {i : Nat} {σ : L2.St} {H : Hp} {Q : VK} {v : V} (h : σ[i]? = some (some v)) (q : Q v H) : tVar i σ H Q := ⟨v, h, q⟩
theorem AgS.put {K : PySem.W.Frag} {H0 F0 F : Hp} {S : Strm} {n : Nat} {H : Hp} {γ : G} {σ : L2.St} (a : AgS K H0 F0 F S n H γ σ) {i : Nat} {T : Bool} {es : List (PyData × PyData)} (hi : γ[i]? = some (.own T (.dict es))) {v vy : V} {d y : PyData} (hv : Den K F S v d) (hy : Den K F S vy y)
    (hl : es.length < sizeLine) (hk : (if T = true then (toKT y).isSome else (toKey y).isSome) = true) :
    ∃ b H', σ[i]? = some (some (.ref b)) ∧ DPut H b vy v H' ∧ AgS K H0 F0 F S n H' (γ.set i (.own T (.dict (putP es y d)))) σ := by
  obtain ⟨b, q1, q2, q3, q4, q5⟩ := a.own i _ _ hi
  generalize ed : PyData.dict es = dd at q5
  cases q5 with
  | lst _ _ => cases ed
  | @dK kvs es0 h1 h2 h3 h4 =>
    unfold dkP at ed
    injection ed with ed
    subst ed
    have hk : (toKey y).isSome = true := hk
    obtain ⟨k, hk⟩ := Option.isSome_iff_exists.mp hk
    have ey := toKey_eq hk
    have ev := den_key hy hk
    subst ey ev
    have l2 : kvs.length < sizeLine := by
      rw [← List.length_map (f := Prod.fst), h2, List.length_map]
      rw [List.length_map] at hl; exact hl
    refine ⟨b, _, q1, DPut.k h1 l2, ?_⟩
    rw [put_dk]
    exact a.write hi q1 (.dK (es := putKP es0 k d) upd_same (put_keys h2 k v d) (put_vals hv h2 h3) (put_ok (P := kOk) h4 (toKey_ok hy hk)))
  | @dT kvs es0 h1 h2 h3 h4 =>
    unfold dtP at ed
    injection ed with ed
    subst ed
    have hk : (toKT y).isSome = true := hk
    obtain ⟨k, hk⟩ := Option.isSome_iff_exists.mp hk
    have ey := toKT_eq hk
    obtain ⟨c, ev, hc⟩ := den_kt hy hk
    subst ey ev
    have l2 : kvs.length < sizeLine := by
      rw [← List.length_map (f := Prod.fst), h2, List.length_map]
      rw [List.length_map] at hl; exact hl
    refine ⟨b, _, q1, DPut.t h1 (a.fr.sub _ _ hc) l2, ?_⟩
    rw [put_dt]
    exact a.write hi q1 (.dT (es := putKP es0 k d) upd_same (put_keys h2 k v d) (put_vals hv h2 h3) (put_ok (P := fun l : List Key => l.all kOk) h4 (toKT_ok hy hk)))
theorem ds_put (hu : X.A.units + 1 < cLine) (hN : X.N[i]? = some x) (hv : Vis X.env.scope x) (hk : DE X y mk) (he : DE X value mv) (hd : (x == ("__debug__" : Str)) = false := by decide) (hcd : (x == ("__classdict__" : Str)) = false := by decide)
    (hs : swapsWith value (some (.Subscript (.Name x p) y pos')) pos.line X.env = pure false := by rfl) :
    DS X (.Assign [.Subscript (.Name x p) y pos'] value pos) (mPut i mk mv) :=
  PS.weak (ps_dput hu (pe_var hN hv hd hcd) hk he hs) fun D σ H h => by
    obtain ⟨H0, F0, Fb, F, S, n, γ, l, ag, sb, l1, l2, k, ⟨T, es, hi, hm⟩, ft⟩ := h
    refine ⟨F, S, n, _, ag.plain, _, hm, fun d n1 hk1 v H1 p => ?_⟩
    have ag1 := ag.next p.ext
    obtain ⟨b, q1, q2, q3, q4, q5⟩ := ag1.own i _ _ hi
    refine ⟨_, q1, ?_⟩
    refine ⟨_, S, n1, _, ag1.plain, _, hk1, fun y n2 hk2 w H2 p2 => ?_⟩
    have ag2 := ag1.next p2.ext
    obtain ⟨e2, e3, e4⟩ := hk2
    obtain ⟨b', H', z1, z2, z3⟩ := ag2.put hi (p.den.mono sub_grow) p2.den e2 e3
    rw [q1] at z1
    cases z1
    exact ⟨b, H', rfl, z2, ft.nx _ _ e4 _ _ _ z3 ((sb.trans sub_grow).trans sub_grow) (by rw [List.length_set]; exact l1) l2⟩
end
end DL
namespace DL
open PySem PySem.Spec PyProof.Rows L2
section
variable {J : It} {n : Nat} {G : Hp → Prop} {Y : Nat → Hp → V → Hp → Prop}
theorem dc_it (w : Walk J n G Y) {g : TG} {tt : TT} {tk tv : TE} {vs : List Nat} {σ : L2.St} {H1 : Hp} {D : Addr} {Qd : Hp → Prop} (Pv : Nat → Hp → Prop) (h0 : Pv 0 (upd H1 D (.dK []))) (hG : ∀ i H, i ≤ n → Pv i H → G H)
    (hs : ∀ i x H H', i < n → Pv i H → Y i H x H' → g x (wipe σ vs) H' fun σ2 H2 => wipe σ2 vs = wipe σ vs ∧ tt σ2 H2 fun b H3 =>
      if b = true then tk σ2 H3 fun y H4 => tv σ2 H4 fun z H5 => ∃ kvs k, y = kV k ∧ H5 D = some (.dK kvs) ∧ kvs.length < sizeLine ∧ Pv (i + 1) (upd H5 D (.dK (putK kvs k z))) else Pv (i + 1) H3) (hd : ∀ H, Pv n H → Qd H) :
    ∃ W : Nat → Nat → Hp → Prop, (∃ m, W 0 m (upd H1 D (.dK []))) ∧ ∀ i m H, W i m H →
      (J.stop i H ∧ Qd H) ∨ (J.go i H ∧ ∃ Nx : Hp → Prop, (∀ H', Nx H' → ∃ m', m' < m ∧ W (i + 1) m' H') ∧ ∀ x H', J.yld i H x H' → g x (wipe σ vs) H' fun σ2 H2 => wipe σ2 vs = wipe σ vs ∧ tt σ2 H2 fun b H3 =>
        if b = true then tk σ2 H3 fun y H4 => tv σ2 H4 fun z H5 => ∃ kvs k, y = kV k ∧ H5 D = some (.dK kvs) ∧ kvs.length < sizeLine ∧ Nx (upd H5 D (.dK (putK kvs k z))) else Nx H3) := by
  refine ⟨fun i m H => m = n - i ∧ i ≤ n ∧ Pv i H, ⟨n, by simp, Nat.zero_le _, h0⟩, ?_⟩
  rintro i m H ⟨rfl, hi, p⟩
  have q := hG i H hi p
  by_cases hlt : i < n
  · refine .inr ⟨w.goes i H hlt q, Pv (i + 1), fun H' p' => ⟨n - (i + 1), by omega, rfl, hlt, p'⟩, fun x H' y => hs i x H H' hlt p (w.yields i H x H' hlt q y)⟩
  · have e : i = n := by omega
    subst e
    exact .inl ⟨w.stops H q, hd H p⟩
end
def dcW (t : Tgt) (tests : MT) (mk mv : M) (γ : Env) : List PyData → List (Key × PyData) → Nat → (List (Key × PyData) → Nat → Prop) → Prop
  | [], acc, n, k => k acc n
  | d :: ds, acc, n, k => ∃ ps, t d = some ps ∧ tests (setE γ ps) n fun b n1 => if b = true then mk (setE γ ps) n1 fun y n2 => mv (setE γ ps) n2 fun x n3 => acc.length < sizeLine ∧ ∃ key, toKey y = some key ∧ dcW t tests mk mv γ ds (putKP acc key x) n3 k else dcW t tests mk mv γ ds acc n1 k
def mDc (src : MA) (t : Tgt) (tests : MT) (mk mv : M) (vs : List Nat) : M := fun γ n k => src γ n fun ds n1 => dcW t tests mk mv (wipeE γ vs) ds [] n1 fun out n2 => k (dkP out) n2
section
variable {X : Cx} {kx vx tg iter : Expr} {ifs : List Expr} {scope : Scope} {own : List (Str × Nat)} {pos : Pos} {src : MA} {t : Tgt} {tests : MT} {mk mv : M}
theorem tDc_N {K : PySem.W.Frag} {vs : List Nat} (hin : TgtIn t vs) {σ : L2.St} {H : Hp} {Q : VK} (h : tN K false (mDc src t tests mk mv vs) σ H Q) : tDc (tDI K src) (tDG K t) (tDT K tests) (tD K mk) (tD K mv) vs σ H Q := by
  obtain ⟨F, S, n0, γ, ag, k, hm, hQ⟩ := h
  refine ⟨F, S, n0, γ, ag, _, hm, fun ds n1 hk J H1 e1 wk => ?_⟩
  intro D hD
  have fr1 := (ag.next e1).fr
  have key := dc_it (n := ds.length) (J := J) (G := fun H' => Sub (grow F H H1) H') wk (g := tDG K t) (tt := tDT K tests) (tk := tD K mk) (tv := tD K mv) (vs := vs) (σ := σ) (H1 := H1) (D := D) (Qd := fun H' => Q (.ref D) H')
    (fun i H' => ∃ F' n acc kvs, Fr F' S n H' ∧ Kp S H H' ∧ Sub F' (grow F H H') ∧ Sub (grow F H H1) F' ∧ F' D = none ∧ H' D = some (.dK kvs) ∧ kvs.map (·.1) = acc.map (·.1) ∧ DenL K F' S (kvs.map (·.2)) (acc.map (·.2)) ∧ (acc.all fun e => kOk e.1) = true ∧ dcW t tests mk mv (wipeE γ vs) (ds.drop i) acc n fun out n2 => k (dkP out) n2)
  refine key ?_ ?_ ?_ ?_
  · refine ⟨grow F H H1, n1, [], [], ⟨fun b o h => ?_, fr1.nos, fr1.str.upd_new hD, fun b ys h => ?_⟩, e1.kp.trans (Kp.upd_new hD), fun b o h => ?_, Sub.refl _, ?_, upd_same, rfl, .nil, rfl, hk⟩
    · have := fr1.sub b o h
      rw [upd_ne (ne_of_none this hD)]; exact this
    · by_cases hb : b = D
      · subst hb; rw [upd_same] at h; cases h
      · rw [upd_ne hb] at h; exact fr1.tp b ys h
    · rcases grow_cases h with h | ⟨h1, h2, h3⟩
      · exact sub_grow b o h
      · exact grow_new h1 h2 (by rw [upd_ne (ne_of_none h3 hD)]; exact h3)
    · exact fr1.none hD
  · intro i H' hi ⟨F', n, acc, kvs, fr, _, _, s1, _⟩
    exact s1.trans fr.sub
  · rintro i x H' H2 hi ⟨F', n, acc, kvs, fr, kp, sg, s1, nD, hD', hkk, hx, hok, hw⟩ y
    obtain ⟨d, ed, px⟩ := y n F' s1 fr
    have hdr : ds.drop i = d :: ds.drop (i + 1) := by
      obtain ⟨hl, e⟩ := List.getElem?_eq_some_iff.mp ed
      rw [List.drop_eq_getElem_cons hl, e]
    rw [hdr] at hw
    obtain ⟨ps, ep, hw⟩ := hw
    have ex : Ext S n H' H2 := px.ext
    have fr2 : Fr (grow F' H' H2) S n H2 := fr.next ex
    have dx : Den K (grow F' H' H2) S x d := px.den
    refine ⟨grow F' H' H2, S, n, d, ps, fr2, dx, ep, fun σ' as => ?_⟩
    have ag0 : AgE K (grow F' H' H2) S n H2 (wipeE γ vs) (wipe σ vs) := by
      have a1 := (ag.next e1).wipe vs
      refine ⟨fr2, fun j e q => ?_, a1.len⟩
      obtain ⟨v, q1, q2⟩ := a1.slot j e q
      exact ⟨v, q1, q2.mono (s1.trans sub_grow)⟩
    have ag2 := ag0.ass as
    refine ⟨(as.wipe fun p hp => hin _ _ ep p hp).trans (wipe_wipe vs), ?_⟩
    refine ⟨_, S, n, _, ag2, _, hw, fun b n3 hb H3 e3 => ?_⟩
    have ag3 := ag2.next e3
    have kp3 : Kp S H H3 := (kp.trans ex.kp).trans e3.kp
    have nS : ¬ inS S D := fun hs => by
      obtain ⟨ys, z⟩ := e1.str.some hs
      rw [hD] at z; cases z
    have hD2 : H2 D = some (.dK kvs) := ex.kp _ _ hD' nS
    have hD3 : H3 D = some (.dK kvs) := e3.kp _ _ hD2 nS
    have g2 : Sub (grow F' H' H2) (grow F H H2) := by
      intro b o h
      rcases grow_cases h with h | ⟨h1, h2, h3⟩
      · have hs : ¬ inS S b := fun hs => by rw [fr.nos b hs] at h; cases h
        rcases grow_cases (sg b o h) with h | ⟨h1, h2, h3⟩
        · exact sub_grow b o h
        · exact grow_new h1 h2 (ex.kp b o h3 hs)
      · have hHb : H b = none := by
          cases q : H b with
          | none => rfl
          | some u =>
            by_cases hs : inS S b
            · obtain ⟨ys, z⟩ := fr.str.some hs
              rw [h2] at z; cases z
            · have := kp b u q hs
              rw [h2] at this; cases this
        exact grow_new (ag.fr.none hHb) hHb h3
    have lift : ∀ {F2 H2 H3 : Hp} {n2 n3 : Nat}, Fr F2 S n2 H2 → Kp S H H2 → Sub F2 (grow F H H2) → Ext S n3 H2 H3 → Sub (grow F2 H2 H3) (grow F H H3) := fun {F2 H2 H3 n2 n3} f2 kp2 sg2 e => by
      intro b o h
      rcases grow_cases h with h | ⟨h1, h2, h3⟩
      · have hs : ¬ inS S b := fun hs => by rw [f2.nos b hs] at h; cases h
        rcases grow_cases (sg2 b o h) with h | ⟨h1, h2, h3⟩
        · exact sub_grow b o h
        · exact grow_new h1 h2 (e.kp b o h3 hs)
      · have hHb : H b = none := by
          cases q : H b with
          | none => rfl
          | some u =>
            by_cases hs : inS S b
            · obtain ⟨ys, z⟩ := f2.str.some hs
              rw [h2] at z; cases z
            · have := kp2 b u q hs
              rw [h2] at this; cases this
        exact grow_new (ag.fr.none hHb) hHb h3
    have g3 := lift fr2 (kp.trans ex.kp) g2 e3
    have nD2 : grow F' H' H2 D = none := by unfold grow; rw [nD, hD']
    have nD3 : grow (grow F' H' H2) H2 H3 D = none := by
      show (match grow F' H' H2 D with | some o => some o | none => match H2 D with | none => H3 D | some _ => none) = none
      rw [nD2, hD2]
    cases b with
    | false =>
      simp only [Bool.false_eq_true, if_false] at hb ⊢
      exact ⟨_, n3, acc, kvs, ag3.fr, kp3, g3, s1.trans (sub_grow.trans sub_grow), nD3, hD3, hkk, (hx.mono sub_grow).mono sub_grow, hok, hb⟩
    | true =>
      simp only [if_true] at hb ⊢
      refine ⟨_, S, n3, _, ag3, _, hb, fun yk n4 hz w H4 p4 => ?_⟩
      have hD4 : H4 D = some (.dK kvs) := p4.ext.kp _ _ hD3 nS
      have ag4 := ag3.next p4.ext
      have g4 := lift ag3.fr kp3 g3 p4.ext
      have kp4 : Kp S H H4 := kp3.trans p4.ext.kp
      have nD4 : grow (grow (grow F' H' H2) H2 H3) H3 H4 D = none := by
        show (match grow (grow F' H' H2) H2 H3 D with | some o => some o | none => match H3 D with | none => H4 D | some _ => none) = none
        rw [nD3, hD3]
      refine ⟨_, S, n4, _, ag4, _, hz, fun yv n5 hz5 w5 H5 p5 => ?_⟩
      obtain ⟨hlt, key, hkey, hz5⟩ := hz5
      have hD5 : H5 D = some (.dK kvs) := p5.ext.kp _ _ hD4 nS
      have ag5 := ag4.next p5.ext
      have g5 := lift ag4.fr kp4 g4 p5.ext
      have nD5 : grow (grow (grow (grow F' H' H2) H2 H3) H3 H4) H4 H5 D = none := by
        show (match grow (grow (grow F' H' H2) H2 H3) H3 H4 D with | some o => some o | none => match H4 D with | none => H5 D | some _ => none) = none
        rw [nD4, hD4]
      have hlen : kvs.length < sizeLine := by
        rw [← List.length_map (f := Prod.fst), hkk, List.length_map]; exact hlt
      refine ⟨kvs, key, den_key p4.den hkey, hD5, hlen, ?_⟩
      have neD : ∀ b o, grow (grow (grow (grow F' H' H2) H2 H3) H3 H4) H4 H5 b = some o → b ≠ D := fun b o h z => by rw [z, nD5] at h; cases h
      refine ⟨_, n5, putKP acc key yv, putK kvs key w5, ⟨fun b o h => ?_, ag5.fr.nos, ?_, fun b ys h => ?_⟩, fun b o h hs => ?_, fun b o h => ?_, s1.trans (sub_grow.trans (sub_grow.trans (sub_grow.trans sub_grow))), nD5, upd_same, put_keys hkk key w5 yv, put_vals p5.den hkk ((((hx.mono sub_grow).mono sub_grow).mono sub_grow).mono sub_grow), put_ok (P := kOk) hok (toKey_ok p4.den hkey), hz5⟩
      · rw [upd_ne (neD b o h)]; exact ag5.fr.sub b o h
      · have st := ag5.fr.str
        cases S with
        | none => trivial
        | some p =>
          obtain ⟨ne, ns, x, y, z, h1, h2, r⟩ := st
          have m1 : p.1 ≠ D := fun q => nS (.inl q.symm)
          have m2 : p.2 ≠ D := fun q => nS (.inr q.symm)
          exact ⟨ne, ns, x, y, z, by rw [upd_ne m1]; exact h1, by rw [upd_ne m2]; exact h2, r⟩
      · by_cases hb : b = D
        · subst hb; rw [upd_same] at h; cases h
        · rw [upd_ne hb] at h; exact ag5.fr.tp b ys h
      · have hbD : b ≠ D := fun z => by
          subst z
          have := e1.kp _ _ h hs
          rw [hD] at this; cases this
        rw [upd_ne hbD]
        exact (kp4.trans p5.ext.kp) b o h hs
      · rcases grow_cases (g5 b o h) with h' | ⟨h1, h2, h3⟩
        · exact sub_grow b o h'
        · exact grow_new h1 h2 (by rw [upd_ne (neD b o h)]; exact h3)
  · rintro H' ⟨F', n, acc, kvs, fr, kp, sg, s1, nD, hD', hkk, hx, hok, hw⟩
    rw [List.drop_length] at hw
    have hH : H D = none := by
      cases q : H D with
      | none => rfl
      | some u =>
        by_cases hs : inS S D
        · obtain ⟨ys, z⟩ := e1.str.some hs
          rw [hD] at z; cases z
        · have := e1.kp _ _ q hs
          rw [hD] at this; cases this
    exact hQ _ _ hw _ _ ⟨⟨kp, fr.str⟩, hH, .dK hD' hkk (hx.mono (sub_exc sg nD)) hok⟩
theorem dn_dc (hc : X.calm = true) (hN : X.N.Nodup) (hi : DI X tg iter src) (ok : BlkOk X.N X.env.scope scope own) (hin : TgtIn t (own.map (·.2)))
    (hg : ∀ (s : Shared) (H : Hp) (C : Addr) (cl : List (Str × Addr)) (fp : List Addr), DG (X.blk s H scope (compEnvC scope cl C X.env) fp) tg t) (ht : ∀ (s : Shared) (H : Hp) (C : Addr) (cl : List (Str × Addr)) (fp : List Addr), DTs (X.blk s H scope (compEnvC scope cl C X.env) fp) ifs tests)
    (hk : ∀ (s : Shared) (H : Hp) (C : Addr) (cl : List (Str × Addr)) (fp : List Addr), DE (X.blk s H scope (compEnvC scope cl C X.env) fp) kx mk)
    (he : ∀ (s : Shared) (H : Hp) (C : Addr) (cl : List (Str × Addr)) (fp : List Addr), DE (X.blk s H scope (compEnvC scope cl C X.env) fp) vx mv) (hs : ∀ x, foldedSetIterable iter X.env x = pure x := by intro _; rfl) :
    DN X (.DictComp kx vx [⟨tg, iter, ifs, 0⟩] scope pos) false (mDc src t tests mk mv (own.map (·.2))) :=
  PE.weak (pe_dc hc hN hi ok hg ht hk he hs) fun _ _ _ h => tDc_N hin h
end
def keyed (es : List (PyData × PyData)) : Bool := noNone es && match es with
  | [] => false
  | e :: _ => (toKey e.1).isSome
theorem keyed_inv {K : PySem.W.Frag} {F : Hp} {S : Strm} {v : V} {es : List (PyData × PyData)} (h : Den K F S v (.dict es)) (hk : keyed es = true) : ∃ (a : Addr) (ob : Obj) (kvs : List (Key × V)) (fs : List (Key × PyData)), v = .ref a ∧ es = (fs.map fun p => (kP p.1, p.2)) ∧ F a = some (.frz ob (.dK kvs)) ∧ kvs.map (·.1) = fs.map (·.1) ∧ DenL K F S (kvs.map (·.2)) (fs.map (·.2)) ∧ (fs.all fun e => kOk e.1) = true := by
  obtain ⟨hn, hk⟩ := Bool.and_eq_true_iff.mp (show (noNone es && _) = true from hk)
  rcases h.dict_inv rfl with ⟨ex, ed, h1, h2, h3, hko⟩ | ⟨ex, ed, h1, h2, h3, hko⟩ | ⟨ex, ed, h1, h2, h3⟩ | ⟨ex, ed, h1⟩ | ⟨ex, ed, h1, h0, h2, h3⟩
  · unfold dkP at ed
    injection ed with ed
    exact ⟨_, _, _, _, ex, ed, h1, h2, h3, hko⟩
  · rename_i a ob kvs es0
    unfold dtP at ed
    injection ed with ed
    subst ed
    cases es0 with
    | nil => cases hk
    | cons p r => simp [toKey_ktP] at hk
  · unfold insP at ed; injection ed with ed; subst ed; simp [noNone, isNone] at hn
  · unfold strmP at ed; injection ed with ed; subst ed; simp [noNone, isNone] at hn
  · unfold parP at ed; injection ed with ed; subst ed; simp [noNone, isNone] at hn
section
variable {X : Cx} {tg e : Expr} {m : M} {apos cpos : Pos} {K : PySem.W.Frag} {F : Hp} {S : Strm}
theorem key_den {k : Key} (h : kOk k = true) : Den K F S (kV k) (kP k) := by
  cases k with
  | inl i => exact .int i
  | inr z => exact .str z h
theorem same_get {kvs : List (Key × V)} {fs : List (Key × PyData)} (h2 : kvs.map (·.1) = fs.map (·.1)) (h3 : DenL K F S (kvs.map (·.2)) (fs.map (·.2))) (hko : (fs.all fun e => kOk e.1) = true) {i : Nat} {k : Key} {v : V} (hi : kvs[i]? = some (k, v)) : ∃ d, fs[i]? = some (k, d) ∧ Den K F S v d ∧ kOk k = true := by
  have e1 : (fs.map (·.1))[i]? = some k := by rw [← h2, List.getElem?_map, hi]; rfl
  obtain ⟨d, e2, hd⟩ := h3.getV (i := i) (v := v) (by rw [List.getElem?_map, hi]; rfl)
  rw [List.getElem?_map] at e1 e2
  cases hf : fs[i]? with
  | none => rw [hf] at e1; cases e1
  | some p =>
    rw [hf] at e1 e2
    obtain ⟨p1, p2⟩ := p
    cases e1
    cases e2
    exact ⟨_, rfl, hd, List.all_eq_true.mp hko _ (List.mem_of_getElem? hf)⟩
def mItemsD (m : M) : MA := fun γ n k => m γ n fun d n1 => ∃ es, d = .dict es ∧ keyed es = true ∧ k (es.map fun e => .tuple [e.1, e.2]) n1
theorem di_items {elts : List Expr} {kk : Nat} {tpos : Pos} (he : DE X e m) (hbase : attributeBase e "items" X.env (eval e X.env) = eval e X.env := by rfl) (hline : (apos.endLine == cpos.line) = true := by rfl) :
    DI X (.Tuple elts kk tpos) (.Call (.Attribute e "items" apos) [] [] cpos) (mItemsD m) := PI.weak (pi_items he hbase hline) fun σ H R h => by
  obtain ⟨F, S, n, γ, ag, k, hm, hR⟩ := h
  refine ⟨F, S, n, γ, ag, _, hm, fun d n1 hk v H1 p => ?_⟩
  obtain ⟨es, rfl, hkd, hk⟩ := hk
  obtain ⟨a, ob, kvs, fs, rfl, rfl, h1, h2, h3, hko⟩ := keyed_inv p.den hkd
  refine ⟨a, ob, kvs, rfl, (ag.next p.ext).fr.sub _ _ h1, hR _ _ hk _ _ p.ext ?_⟩
  refine (show Walk (Iti a ob kvs) ((fs.map fun p => (kP p.1, p.2)).map fun e => PyData.tuple [e.1, e.2]).length _ _ from ?_)
  rw [List.length_map, List.length_map, ← List.length_map (f := Prod.fst) (as := fs), ← h2, List.length_map]
  refine walk_items.mono (fun H s => s _ _ h1) fun i H x H' hi s y n F' sF fr => ?_
  obtain ⟨T, b, c, rfl, hT, rfl, eb, ec⟩ := y
  have eb : (kvs[i]?).map (fun kv => kV kv.1) = some b := eb
  have ec : (kvs[i]?).map Prod.snd = some c := ec
  cases hkv : kvs[i]? with
  | none => rw [hkv] at eb; cases eb
  | some q =>
    rw [hkv] at eb ec
    obtain ⟨q1, q2⟩ := q
    cases eb
    cases ec
    obtain ⟨d, e1, hd, ho⟩ := same_get h2 h3 hko hkv
    refine ⟨.tuple [kP q1, d], by rw [List.getElem?_map, List.getElem?_map, e1]; rfl, Post.tup fr hT (.cons (key_den ho) (.cons (hd.mono sF) .nil))⟩
def mValuesD (m : M) : MA := fun γ n k => m γ n fun d n1 => ∃ es, d = .dict es ∧ keyed es = true ∧ k (es.map (·.2)) n1
theorem di_values (he : DE X e m) (hbase : attributeBase e "values" X.env (eval e X.env) = eval e X.env := by rfl) (hline : (apos.endLine == cpos.line) = true := by rfl) :
    DI X tg (.Call (.Attribute e "values" apos) [] [] cpos) (mValuesD m) := PI.weak (pi_values he hbase hline) fun σ H R h => by
  obtain ⟨F, S, n, γ, ag, k, hm, hR⟩ := h
  refine ⟨F, S, n, γ, ag, _, hm, fun d n1 hk v H1 p => ?_⟩
  obtain ⟨es, rfl, hkd, hk⟩ := hk
  obtain ⟨a, ob, kvs, fs, rfl, rfl, h1, h2, h3, hko⟩ := keyed_inv p.den hkd
  refine ⟨a, ob, kvs, rfl, (ag.next p.ext).fr.sub _ _ h1, hR _ _ hk _ _ p.ext ?_⟩
  refine (show Walk (Itd a ob kvs) ((fs.map fun p => (kP p.1, p.2)).map (·.2)).length _ _ from ?_)
  rw [List.length_map, List.length_map, ← List.length_map (f := Prod.fst) (as := fs), ← h2, List.length_map]
  refine walk_values.mono (fun H s => s _ _ h1) fun i H x H' hi s y n F' sF fr => ?_
  obtain ⟨rfl, k0, hkv⟩ := y
  obtain ⟨d, e1, hd, ho⟩ := same_get h2 h3 hko hkv
  exact ⟨d, by rw [List.getElem?_map, List.getElem?_map, e1]; rfl, Post.here fr (hd.mono sF)⟩
def mKeysD (m : M) : MA := fun γ n k => m γ n fun d n1 => ∃ es, d = .dict es ∧ keyed es = true ∧ k (es.map (·.1)) n1
theorem walkD_keys {a : Addr} {ob : Obj} {kvs : List (Key × V)} {fs : List (Key × PyData)} (h1 : F a = some (.frz ob (.dK kvs))) (h2 : kvs.map (·.1) = fs.map (·.1)) (h3 : DenL K F S (kvs.map (·.2)) (fs.map (·.2))) (hko : (fs.all fun e => kOk e.1) = true) :
    WalkD K F S (Itk a ob kvs) ((fs.map fun p => (kP p.1, p.2)).map (·.1)) := by
  refine (show Walk (Itk a ob kvs) ((fs.map fun p => (kP p.1, p.2)).map (·.1)).length _ _ from ?_)
  rw [List.length_map, List.length_map, ← List.length_map (f := Prod.fst) (as := fs), ← h2, List.length_map]
  refine walk_keys.mono (fun H s => s _ _ h1) fun i H x H' hi s y n F' sF fr => ?_
  obtain ⟨rfl, k0, v0, hkv, rfl⟩ := y
  obtain ⟨d, e1, hd, ho⟩ := same_get h2 h3 hko hkv
  exact ⟨kP k0, by rw [List.getElem?_map, List.getElem?_map, e1]; rfl, Post.here fr (key_den ho)⟩
theorem di_keys (he : DE X e m) : DI X tg e (mKeysD m) := PI.weak (pi_keys he) fun σ H R h => by
  obtain ⟨F, S, n, γ, ag, k, hm, hR⟩ := h
  refine ⟨F, S, n, γ, ag, _, hm, fun d n1 hk v H1 p => ?_⟩
  obtain ⟨es, rfl, hkd, hk⟩ := hk
  obtain ⟨a, ob, kvs, fs, rfl, rfl, h1, h2, h3, hko⟩ := keyed_inv p.den hkd
  exact ⟨a, ob, rfl, .inl ⟨kvs, (ag.next p.ext).fr.sub _ _ h1, hR _ _ hk _ _ p.ext (walkD_keys h1 h2 h3 hko)⟩⟩
end
end DL
namespace DL
open PySem PySem.Spec PyProof.Rows L2

def spN (K : PySem.W.Frag) (T : Bool) (m : Nat) (sp : SpecD) : Sp := fun vs H Q _ => vs.length = m ∧ ∃ F S n ds, Fr F S n H ∧ DenL K F S vs ds ∧ ∃ k, sp ds n k ∧ ∀ d n', k d n' → ∀ a H', PostN K F S H a T d n' H' → Q (.ref a) H'
structure CalN (P : Program) (w : World) (K : PySem.W.Frag) (mg : Str → Option Value) (base : Heap) (k m : Nat) (T : Bool) (x : Str) (sp : SpecD) : Prop where
  ex : ∃ (f : Addr) (fd : FuncData) (ps : List Str), FnOk P w K mg base CX0 k f fd ps (spN K T m sp) ∧ mg x = some (.ref f) ∧ PySem.W.keepIn K (.ref f) = true ∧ Binds K fd ps []
structure MetN (P : Program) (w : World) (K : PySem.W.Frag) (mg : Str → Option Value) (base : Heap) (k m : Nat) (T : Bool) (C x : Str) (sp : SpecD) : Prop where
  ex : ∃ (f : Addr) (fd : FuncData) (ps : List Str), Cls K (He.ga K C) ∧ Meth K (He.ga K C) x f ∧ FnOk P w K mg base CX0 k f fd ps (spN K T m sp) ∧ Binds K fd ps []
theorem PostN.after {K : PySem.W.Frag} {F : Hp} {S : Strm} {n n1 n2 : Nat} {H H1 H2 : Hp} {a : Addr} {T : Bool} {d : PyData} (f : Fr F S n H) (e : Ext S n1 H H1) (p : PostN K (grow F H H1) S H1 a T d n2 H2) : PostN K F S H a T d n2 H2 := by
  refine ⟨e.trans p.ext, ?_, ?_⟩
  · cases q : H a with
    | none => rfl
    | some u =>
      by_cases hs : inS S a
      · obtain ⟨xs, z⟩ := e.str.some hs
        rw [p.new] at z; cases z
      · have := e.kp a u q hs
        rw [p.new] at this; cases this
  · have := p.own
    rwa [grow_grow f e p.ext] at this
section
variable {X : Cx} {k j m : Nat} {T : Bool} {x C : Str} {sp : SpecD} {p pos apos : Pos} {e o : Expr} {es : List Expr} {ms : MA} {mo : M}
theorem tCall_N {K : PySem.W.Frag} {E : XK} {σ : L2.St} {H : Hp} {Q : VK} (h : tN K T (mCall m sp ms) σ H Q) : tCall (spN K T m sp) [] E (tDA K ms) σ H Q := by
  obtain ⟨F, S, n, γ, ag, k, hm, hQ⟩ := h
  refine ⟨F, S, n, γ, ag, _, hm, fun ds n1 hk vs H1 p => ?_⟩
  show spN K T m sp (vs ++ []) H1 Q E
  rw [List.append_nil]
  exact ⟨by rw [p.den.length]; exact hk.1, _, S, n1, ds, (ag.next p.ext).fr, p.den, k, hk.2, fun d n2 hk2 a H2 p2 => hQ _ _ hk2 _ _ (PostN.after ag.fr p.ext p2)⟩
theorem dn_call (c : CalN X.prog X.w X.K X.mg X.base k m T x sp) (hr : Room j X.A) (hk : k ≤ j) (hg : Gl X x) (ha : DA X (e :: es) ms)
    (hdb : (x == ("__debug__" : Str)) = false := by decide) (he : starEach (e :: es) X.env = (false, eval e X.env) :: starEach es X.env := by rfl) (hpl : (backTo pos (starEach es X.env)).any (·.1) = false := by rfl) :
    DN X (.Call (.Name x p) (e :: es) [] pos) T (mCall m sp ms) := by
  obtain ⟨f, fd, ps, F, hm, kp, b⟩ := c.ex
  exact PE.weak (pe_call F (hr.mono hk) hg hm kp b .nil pass0 ha hdb he hpl) fun _ _ _ h => tCall_N (E := E0) h
theorem tMeth_N {K : PySem.W.Frag} {E : XK} {σ : L2.St} {H : Hp} {Q : VK} (h : tN K T (mMeth C x m sp mo ms) σ H Q) : tMeth (He.ga K C) x (spN K T m sp) [] E (tD K mo) (tDA K ms) σ H Q := by
  obtain ⟨F, S, n, γ, ag, k, hm, hQ⟩ := h
  refine ⟨F, S, n, γ, ag, _, hm, fun d n1 hk v H1 p => ?_⟩
  obtain ⟨fs0, rfl, hl, hk⟩ := hk
  obtain ⟨a, dx, fs, rfl, h1, h2, h3⟩ := p.den.ins_inv
  have ag1 := ag.next p.ext
  refine ⟨a, dx, fs, rfl, ag1.fr.sub _ _ h1, look_none h2 hl, ?_⟩
  refine ⟨_, S, n1, γ, ag1, _, hk, fun ds n2 hk2 vs H2 p2 => ?_⟩
  show spN K T m sp (.ref a :: (vs ++ [])) H2 Q E
  rw [List.append_nil]
  refine ⟨by rw [List.length_cons, p2.den.length]; exact hk2.1, _, S, n2, _, (ag1.next p2.ext).fr, .cons (p.den.mono sub_grow) p2.den, k, hk2.2, fun d n3 hk3 b H3 p3 => hQ _ _ hk3 _ _ (PostN.after ag.fr p.ext (PostN.after ag1.fr p2.ext p3))⟩
theorem dn_meth {pl : Sem Bool} (c : MetN X.prog X.w X.K X.mg X.base k m T C x sp) (hr : Room j X.A) (hk : k ≤ j) (ho : DE X o mo) (ha : DA X (e :: es) ms)
    (hst : starEach (e :: es) X.env = (false, eval e X.env) :: starEach es X.env := by rfl) (hpl : (backTo pos (starEach es X.env)).any (·.1) = false := by rfl)
    (ht : eval (.Call (.Attribute o x apos) (e :: es) [] pos) X.env = (do
      let ov ← eval o X.env
      standAt apos.atName
      let (f, first) ← holding [ov] (getMethod ov x pl)
      callWith pos f first (backTo pos (starEach (e :: es) X.env)) (backToKw pos (keywordEach [] X.env))) := by rfl) :
    DN X (.Call (.Attribute o x apos) (e :: es) [] pos) T (mMeth C x m sp mo ms) := by
  obtain ⟨f, fd, ps, hc, hm, F, b⟩ := c.ex
  exact PE.weak (pe_meth (pl := pl) ho hc hm F (hr.mono hk) b .nil pass0 ha hst hpl ht) fun _ _ _ h => tMeth_N (E := E0) h
theorem dn_meth0 {pl : Sem Bool} (c : MetN X.prog X.w X.K X.mg X.base k m T C x sp) (hr : Room j X.A) (hk : k ≤ j) (ho : DE X o mo)
    (ht : eval (.Call (.Attribute o x apos) [] [] pos) X.env = (do
      let ov ← eval o X.env
      standAt apos.atName
      let (f, first) ← holding [ov] (getMethod ov x pl)
      callWith pos f first (backTo pos (starEach [] X.env)) (backToKw pos (keywordEach [] X.env))) := by rfl) :
    DN X (.Call (.Attribute o x apos) [] [] pos) T (mMeth C x m sp mo mNil) := by
  obtain ⟨f, fd, ps, hc, hm, F, b⟩ := c.ex
  refine PE.weak (pe_meth0 (pl := pl) ho hc hm F (hr.mono hk) b .nil pass0 ht) fun σ H Q h => ?_
  obtain ⟨F, S, n, γ, ag, k, hm, hQ⟩ := h
  refine ⟨F, S, n, γ, ag, _, hm, fun d n1 hk v H1 p => ?_⟩
  obtain ⟨fs0, rfl, hl, hk⟩ := hk
  obtain ⟨a, dx, fs, rfl, h1, h2, h3⟩ := p.den.ins_inv
  have ag1 := ag.next p.ext
  refine ⟨a, dx, fs, rfl, ag1.fr.sub _ _ h1, look_none h2 hl, ?_⟩
  show spN X.K T m sp (.ref a :: ([] ++ [])) H1 Q E0
  have hk : ([] : List PyData).length + 1 = m ∧ sp (insP C fs0 :: []) n1 k := hk
  exact ⟨hk.1, _, S, n1, _, ag1.fr, .cons p.den .nil, k, hk.2, fun d n3 hk3 b H3 p3 => hQ _ _ hk3 _ _ (PostN.after ag.fr p.ext p3)⟩
end
def spI (K : PySem.W.Frag) (C : Str) (m : Nat) (sp : SpecD) : Sp := fun vs H Q _ => ∃ x dx vs' H0, vs = .ref x :: vs' ∧ vs'.length = m ∧ H0 x = none ∧ H0 dx = none ∧ dx ≠ x ∧ H = upd (upd H0 dx (.own x)) x (.ins (He.ga K C) dx []) ∧
  ∃ F S n ds, Fr F S n H0 ∧ DenL K F S vs' ds ∧ ∃ k, sp ds n k ∧ ∀ d n', k d n' → ∀ H', Post K F S H0 (.ref x) d n' H' → Q .non H'
structure MakD (P : Program) (w : World) (K : PySem.W.Frag) (mg : Str → Option Value) (base : Heap) (k m : Nat) (C : Str) (sp : SpecD) : Prop where
  ex : ∃ (f : Addr) (fd : FuncData) (ps : List Str), Mk K (He.ga K C) f ∧ FnOk P w K mg base CX0 k f fd ps (spI K C m sp) ∧ mg C = some (.ref (He.ga K C)) ∧ Binds K fd ps []
section
variable {X : Cx} {k j m : Nat} {x C : Str} {sp : SpecD} {p pos apos : Pos} {e o : Expr} {es : List Expr} {ms : MA} {mo : M}
theorem de_make (c : MakD X.prog X.w X.K X.mg X.base k m C sp) (hr : Room j X.A) (hk : k + 1 ≤ j) (hg : Gl X C) (ha : DA X (e :: es) ms)
    (hdb : (C == ("__debug__" : Str)) = false := by decide) (he : starEach (e :: es) X.env = (false, eval e X.env) :: starEach es X.env := by rfl) (hpl : (backTo pos (starEach es X.env)).any (·.1) = false := by rfl) :
    DE X (.Call (.Name C p) (e :: es) [] pos) (mCall m sp ms) := by
  obtain ⟨f, fd, ps, M, F, hm, b⟩ := c.ex
  exact PE.weak (pe_make M F (hr.mono hk) hg hm b .nil pass0 ha hdb he hpl) fun σ H Q h => by
    obtain ⟨F, S, n, γ, ag, k, hm, hQ⟩ := h
    refine ⟨F, S, n, γ, ag, _, hm, fun ds n1 hk vs H1 p x dx hx hdx ne => ?_⟩
    refine ⟨x, dx, vs, H1, by rw [List.append_nil], by rw [p.den.length]; exact hk.1, hx, hdx, ne, rfl, _, S, n1, ds, (ag.next p.ext).fr, p.den, k, hk.2, fun d n2 hk2 H2 p2 => ⟨rfl, hQ _ _ hk2 _ _ (Post.after ag.fr p.ext p2)⟩⟩
end
def pick {α : Type} (ix : List Nat) (ws : List α) : List α := ix.filterMap fun i => ws[i]?
structure CalK (P : Program) (w : World) (K : PySem.W.Frag) (mg : Str → Option Value) (base : Heap) (k m : Nat) (x : Str) (ks : List Str) (ix : List Nat) (sp : SpecD) : Prop where
  ex : ∃ (f : Addr) (fd : FuncData) (ps : List Str), FnOk P w K mg base CX0 k f fd ps (spD K m sp) ∧ mg x = some (.ref f) ∧ PySem.W.keepIn K (.ref f) = true ∧ KBn K fd ps 0 ks (fun _ ws => pick ix ws) (fun _ ws => pick ix ws)
structure CalKN (P : Program) (w : World) (K : PySem.W.Frag) (mg : Str → Option Value) (base : Heap) (k m : Nat) (T : Bool) (x : Str) (ks : List Str) (ix : List Nat) (sp : SpecD) : Prop where
  ex : ∃ (f : Addr) (fd : FuncData) (ps : List Str), FnOk P w K mg base CX0 k f fd ps (spN K T m sp) ∧ mg x = some (.ref f) ∧ PySem.W.keepIn K (.ref f) = true ∧ KBn K fd ps 0 ks (fun _ ws => pick ix ws) (fun _ ws => pick ix ws)
theorem pick_vals : ∀ {ix : List Nat} {vs : List V} {us : List Value}, Vals vs us → Vals (pick ix vs) (pick ix us)
  | [], _, _, _ => .nil
  | i :: ix, vs, us, r => by
    unfold pick
    rw [List.filterMap_cons, List.filterMap_cons]
    have ih := pick_vals (ix := ix) r
    cases h : vs[i]? with
    | none =>
      have h2 : us[i]? = none := by
        rw [List.getElem?_eq_none_iff] at h ⊢
        rw [← r.length]; exact h
      rw [h2]; exact ih
    | some v =>
      obtain ⟨u, hu, ru⟩ := r.get h
      rw [hu]; exact .cons ru ih
theorem pick_den {K : PySem.W.Frag} {F : Hp} {S : Strm} : ∀ {ix : List Nat} {vs : List V} {ds : List PyData}, DenL K F S vs ds → DenL K F S (pick ix vs) (pick ix ds)
  | [], _, _, _ => .nil
  | i :: ix, vs, ds, r => by
    unfold pick
    rw [List.filterMap_cons, List.filterMap_cons]
    have ih := pick_den (ix := ix) r
    cases h : vs[i]? with
    | none =>
      have h2 : ds[i]? = none := by
        rw [List.getElem?_eq_none_iff] at h ⊢
        rw [← r.length]; exact h
      rw [h2]; exact ih
    | some v =>
      obtain ⟨d, hd, rd⟩ := r.getV h
      rw [hd]; exact .cons rd ih
abbrev DK (X : Cx) (kws : List Keyword) (m : MA) : Prop := PK X kws (tDA X.K m)
theorem PK.weak {X : Cx} {kws : List Keyword} {t t' : TA} (h : PK X kws t) (w : ∀ σ H Q, t' σ H Q → t σ H Q) : PK X kws t' := ⟨fun pos pins s σ H Q I q => h.run pos pins s σ H Q I (w σ H Q q)⟩
section
variable {X : Cx} {k j m : Nat} {x : Str} {T : Bool} {ks : List Str} {ix : List Nat} {sp : SpecD} {p pos kpos : Pos} {e : Expr} {nm : Option Str} {kws : List Keyword} {ms : MA} {mo : M}
theorem dk_nil : DK X [] mNil := PK.weak pk_nil fun σ H Q h => by
  obtain ⟨F, S, n, γ, ag, k, hm, hQ⟩ := h
  exact hQ [] n hm [] H ⟨ag.fr.ext, .nil⟩
theorem dk_cons (ha : DE X e mo) (hr : DK X kws ms) : DK X (⟨nm, e, kpos⟩ :: kws) (mCons mo ms) := PK.weak (pk_cons ha hr) fun _ _ _ h => tCons_D h
def mCallK (m l : Nat) (ix : List Nat) (sp : SpecD) (ms : MA) : M := fun γ n k => ms γ n fun ds n1 => ds.length = l ∧ (pick ix ds).length = m ∧ sp (pick ix ds) n1 k
theorem pe_callK0 {CX : CXT} {f : Addr} {fd : FuncData} {ps : List Str} {s0 : Sp} {E : XK} {tk : TA} {g : List Value → List Value → List Value} {gV : List V → List V → List V} (F : FnOk X.prog X.w X.K X.mg X.base CX k f fd ps s0) (hr : Room k X.A) (hg : Gl X x) (hm : X.mg x = some (.ref f)) (hk : PySem.W.keepIn X.K (.ref f) = true) (hb : KBn X.K fd ps 0 ks g gV) (hx : Passes CX X E) (hkw : PK X kws tk)
    (hall : (backToKw pos (keywordEach kws X.env)).all (·.1.isSome) = true := by rfl) (hks : (backToKw pos (keywordEach kws X.env)).filterMap (·.1) = ks := by rfl) (hdb : (x == ("__debug__" : Str)) = false := by decide)
    (hpl : ((backTo pos (starEach [] X.env)).any (·.1) || (backToKw pos (keywordEach kws X.env)).any (·.1.isNone)) = false := by rfl) :
    PE X (.Call (.Name x p) [] kws pos) (tCallN 0 ks.length s0 gV E tNil tk) := by
  refine ⟨fun pins s σ H Q I h => ?_⟩
  refine wpAny_Call_Name_kw (ld_glob I hg hm ?_ hdb)
  refine PySem.W.callWith_KW0 (h₀ := X.base) I.ok.mod.kin hk hall ?_ hpl
  refine thn (hkw.run pos pins s σ H _ I h) fun ws s2 ⟨zs, H2, I2, rz, l1, l2, q2⟩ => ⟨I2.kIn, ?_⟩
  rw [hks]
  exact run_fnN (us := []) (vs := []) F hr hb hx I2 .nil rz rfl l2 q2
theorem de_callK (c : CalK X.prog X.w X.K X.mg X.base k m x ks ix sp) (hr : Room j X.A) (hk : k ≤ j) (hg : Gl X x) (ha : DK X kws ms)
    (hall : (backToKw pos (keywordEach kws X.env)).all (·.1.isSome) = true := by rfl) (hks : (backToKw pos (keywordEach kws X.env)).filterMap (·.1) = ks := by rfl) (hdb : (x == ("__debug__" : Str)) = false := by decide)
    (hpl : ((backTo pos (starEach [] X.env)).any (·.1) || (backToKw pos (keywordEach kws X.env)).any (·.1.isNone)) = false := by rfl) :
    DE X (.Call (.Name x p) [] kws pos) (mCallK m ks.length ix sp ms) := by
  obtain ⟨f, fd, ps, F, hm, kp, b⟩ := c.ex
  exact PE.weak (pe_callK0 F (hr.mono hk) hg hm kp b pass0 ha hall hks hdb hpl) fun σ H Q h => by
    obtain ⟨F, S, n, γ, ag, k, hm, hQ⟩ := h
    refine ⟨F, S, n, γ, ag, _, hm, fun ds n1 hk vs H1 p => ?_⟩
    obtain ⟨e1, e2, hk⟩ := hk
    exact ⟨rfl, by rw [p.den.length]; exact e1, by rw [(pick_den p.den).length]; exact e2, _, S, n1, _, (ag.next p.ext).fr, pick_den p.den, k, hk, fun d n2 hk2 v H2 p2 => hQ _ _ hk2 _ _ (Post.after ag.fr p.ext p2)⟩
theorem dn_callK (c : CalKN X.prog X.w X.K X.mg X.base k m T x ks ix sp) (hr : Room j X.A) (hk : k ≤ j) (hg : Gl X x) (ha : DK X kws ms)
    (hall : (backToKw pos (keywordEach kws X.env)).all (·.1.isSome) = true := by rfl) (hks : (backToKw pos (keywordEach kws X.env)).filterMap (·.1) = ks := by rfl) (hdb : (x == ("__debug__" : Str)) = false := by decide)
    (hpl : ((backTo pos (starEach [] X.env)).any (·.1) || (backToKw pos (keywordEach kws X.env)).any (·.1.isNone)) = false := by rfl) :
    DN X (.Call (.Name x p) [] kws pos) T (mCallK m ks.length ix sp ms) := by
  obtain ⟨f, fd, ps, F, hm, kp, b⟩ := c.ex
  exact PE.weak (pe_callK0 F (hr.mono hk) hg hm kp b pass0 ha hall hks hdb hpl) fun σ H Q h => by
    obtain ⟨F, S, n, γ, ag, k, hm, hQ⟩ := h
    refine ⟨F, S, n, γ, ag, _, hm, fun ds n1 hk vs H1 p => ?_⟩
    obtain ⟨e1, e2, hk⟩ := hk
    exact ⟨rfl, by rw [p.den.length]; exact e1, by rw [(pick_den p.den).length]; exact e2, _, S, n1, _, (ag.next p.ext).fr, pick_den p.den, k, hk, fun d n2 hk2 v H2 p2 => hQ _ _ hk2 _ _ (PostN.after ag.fr p.ext p2)⟩
end
end DL
namespace DL
open PySem PySem.Spec PyProof.Rows L2
theorem meets_enumerate_newT (l : Addr) (items : Array Value) (n : Nat) (dct : Option Addr) (sl : Array (Option Value)) :
    Meets (Builtin.«enumerate.__new__» ⟨[.type "enumerate", .ref l], []⟩) (fun _ R s => s.heap.get? l = some { cls := .type "tuple", dict := dct, data := .seq items n, slots := sl } ∧
      R (.ok (.ret (.ref (s.heap.push { cls := .type "tuple_iterator", data := .fields #[.ref l, .int 0 0] }).objs.size)))
        { s with heap := (s.heap.push { cls := .type "tuple_iterator", data := .fields #[.ref l, .int 0 0] }).push { cls := .type "enumerate", data := .fields #[.none, .bool false, .ref s.heap.objs.size, rawInt 0, .none, .none] } }) :=
  .of_wp fun prog w A R s h => by
    obtain ⟨hp, g, d, tk, os⟩ := s; obtain ⟨hl, h⟩ := h
    have hsub := sub_enumerate
    have hL : Heap.IsTuple (Shared.heap ⟨hp, g, d, tk, os⟩) l items := ⟨_, hl, rfl, n, rfl⟩
    wp_walk using AutoSeq1.wpAny_loadPart' hl
    refine wpAny_stack_any fun st => wpAny_pure ?_
    split
    · rename_i c _ _ _ _ _
      cases (c == Value.type "enumerate")
      · wp_walk using AutoSeq1.wpAny_loadPart' hl, wpAny_pyIter_tuple hL
        exact ⟨_, rfl, h⟩
      · wp_walk using AutoSeq1.wpAny_loadPart' hl, wpAny_pyIter_tuple hL
        exact ⟨_, rfl, h⟩
    · wp_walk using AutoSeq1.wpAny_loadPart' hl, wpAny_pyIter_tuple hL
      exact ⟨_, rfl, h⟩
section
variable {prog : Program} {w : World} {A : Around} {E : Value → Shared → Prop} {s : Shared}
theorem call_enumerate_tuple {l : Addr} {items : Array Value} {Q : Value → Shared → Prop} (hL : s.heap.IsTuple l items)
    (h : ∀ h', IsEnum h' (s.heap.objs.size + 1) s.heap.objs.size 0 .none → h'.IsTupleIter s.heap.objs.size l 0 → h'.objs.size = s.heap.objs.size + 2 →
      (∀ b o, s.heap.get? b = some o → h'.get? b = some o) → Q (.ref (s.heap.objs.size + 1)) { s with heap := h' }) :
    wpAny (model prog w) A (call (.type "enumerate") [.ref l]) Q E s := by
  obtain ⟨⟨c, dct, dt, sl⟩, hl, hc, n, hd⟩ := hL
  replace hc : c = .type "tuple" := hc
  replace hd : dt = .seq items n := hd
  subst hc hd
  refine callType_new F.called_enumerate (by decide) (F.typeCall_enumerate_1 _) (F.newCall_enumerate_1 _) (fun obj => F.args_object_init_2 obj _) F.entry_enumerate_new
    (meets_enumerate_newT l items n dct sl) ⟨hl, ?_⟩
  have hz : (s.heap.push { cls := .type "tuple_iterator", data := .fields #[.ref l, .int 0 0] }).objs.size = s.heap.objs.size + 1 := Heap.size_push ..
  show _ ∧ _
  rw [hz]
  have he : IsEnum ((s.heap.push { cls := .type "tuple_iterator", data := .fields #[.ref l, .int 0 0] }).push
      { cls := .type "enumerate", data := .fields #[.none, .bool false, .ref s.heap.objs.size, rawInt 0, .none, .none] }) (s.heap.objs.size + 1) s.heap.objs.size 0 .none := by
    have := Heap.get?_push_size (s.heap.push { cls := .type "tuple_iterator", data := .fields #[.ref l, .int 0 0] })
      (o := { cls := .type "enumerate", data := .fields #[.none, .bool false, .ref s.heap.objs.size, rawInt 0, .none, .none] }) rfl
    rw [hz] at this; exact this
  refine ⟨⟨_, he, rfl⟩, h _ he ⟨_, Heap.get?_push_of_some _ (Heap.get?_push_size _ rfl), rfl, rfl⟩ (by rw [Heap.size_push, hz]) fun b o x => Heap.get?_push_of_some _ (Heap.get?_push_of_some _ x)⟩
end
def Itet (K : PySem.W.Frag) (a : Addr) : It :=
  ⟨fun i H => ∃ (xs : List V) (x : V), SqT K H a xs ∧ xs[i]? = some x, fun i H v H' => ∃ T x, v = .ref T ∧ H T = none ∧ H' = upd H T (.tup [.int (i : Nat), x]) ∧ ∀ xs, SqT K H a xs → xs[i]? = some x, fun i H => ∃ xs : List V, SqT K H a xs ∧ xs.length ≤ i⟩
theorem tup_ne {h : Heap} {a it e : Addr} {i : Nat} {c : Int} {old : Value} {its : Array Value} (ht : h.IsTuple a its) (hit : h.IsTupleIter it a i) (he : IsEnum h e it c old) : a ≠ it ∧ e ∉ [it, a] ∨ e = it := by
  obtain ⟨o, ho, hc, _⟩ := ht
  obtain ⟨o2, ho2, hc2, _⟩ := hit
  have he' : h.get? e = some _ := he
  by_cases hq : e = it
  · exact .inr hq
  · refine .inl ⟨fun z => ?_, fun z => ?_⟩
    · rw [z, ho2] at ho
      cases ho
      rw [hc2] at hc
      exact absurd hc (by decide)
    · rcases List.mem_cons.mp z with z | z
      · exact hq z
      · rw [List.mem_singleton.mp z, ho] at he'
        have he' := Option.some.inj he'
        rw [he'] at hc
        have hc : Value.type "enumerate" = Value.type "tuple" := hc
        exact absurd hc (by decide)
section
variable {prog : Program} {w : World} {A : Around} {E : Value → Shared → Prop} {s : Shared}
theorem next_enumT_end {e it a : Addr} {i : Nat} {items : Array Value} {c : Int} {old : Value} {Q : Option Value → Shared → Prop} (hh : A.handled = none)
    (he : IsEnum s.heap e it c old) (hit : s.heap.IsTupleIter it a i) (hl : s.heap.IsTuple a items) (hx : items[i]? = none)
    (hQ : ∀ h', Heap.ExtBut it s.heap h' → Q none { s with heap := h' }) : wpAny (model prog w) A (pyNext (.ref e)) Q E s := by
  have hT : s.TypeIs (.ref e) "enumerate" := ⟨_, he, rfl⟩
  unfold pyNext
  refine wpAny_bind (wpAny_attempt (wpAny_callSpecial?_slot (name := Str.ofString "__next__") hT F.slot_enumerate_next
    (wpAny_call_entry F.slot_enumerate_next hT F.entry_enumerate_next ?_ (F.args_enumerate_next_1 _))))
  show wpAny _ _ (field (.ref e) 2 >>= _) _ _ _
  refine wpAny_bind (wpAny_field he rfl (x := .ref it) rfl ?_)
  refine wpAny_bind (wpAny_nextOf_tuple_end hh hit hl hx fun h' x he' hx' => ?_)
  obtain ⟨o, ho, hc⟩ := hx'
  refine wpAny_bind (wpAny_isInstance (T := "StopIteration") (b := true) ⟨o, ho, hc⟩ isSubtype_stop ?_)
  exact wpAny_pure (hQ _ he')
end
theorem turn_enumT {P : Program} {w : World} {K : PySem.W.Frag} {elts : List Expr} {kk : Nat} {tpos : Pos} (a e it : Addr) :
    Turn P w K (.Tuple elts kk tpos) (Itet K a) [e, it] e (fun i h => (∃ old, IsEnum h e it ((i : Nat) : Int) old) ∧ h.IsTupleIter it a i ∧ e ≠ it) where
  mem := by simp
  obj := fun i h st b hb => by
    obtain ⟨⟨old, he⟩, ⟨o, ho, hc, hd⟩, _⟩ := st
    have e' : b = e ∨ b = it := by simpa using hb
    rcases e' with z | z
    · rw [z]; exact ⟨_, he, fun v q => nomatch q⟩
    · rw [z]; exact ⟨o, ho, fun v q => by rw [hd] at q; cases q⟩
  keep := fun i h h' st k => let ⟨⟨old, he⟩, hi, hne⟩ := st; ⟨⟨old, k e (by simp) _ he⟩, hi.at fun o q => k it (by simp) o q, hne⟩
  item := by
    intro X hP hw hK hc i pins s σ H E I hf st hg
    subst hP hw hK
    obtain ⟨⟨old, he⟩, hit, hne⟩ := st
    obtain ⟨xs, x, hq, hx⟩ := hg
    obtain ⟨its, rv, p, hz⟩ := I.tuple hq
    obtain ⟨u, hu, ru⟩ := rv.get hx
    have hel : e < s.heap.objs.size := Heap.lt_size he
    have hil : it < s.heap.objs.size := by obtain ⟨_, q, _⟩ := hit; exact Heap.lt_size q
    have p : s.heap.IsTuple a its.toArray := p
    rcases tup_ne p hit he with ⟨n1, n2⟩ | n1
    · have hlt : i < its.toArray.size := by have := (List.getElem?_eq_some_iff.mp hu).1; simpa using this
      refine wpAny_pyNext_enum_itemD (Draws.tuple (A := X.A.in1) (I.ok.hd hc) it a n1 its.toArray) he ⟨hit, p⟩ hlt hne n2 fun v h' tk hP' ho' st' hT hsz hk => ?_
      have ev : v = u := by
        have : its.toArray[i]? = some u := by simpa using hu
        rw [this] at hP'
        exact (Option.some.inj hP').symm
      subst ev
      refine ⟨_, rfl, wpAny_letOwnedTupleGo_enum (s := { s with heap := h', toks := tk + 1 }) ho' fun h'' he' sb => ?_⟩
      have hT2 : h''.get? s.heap.objs.size = some { cls := .type "tuple", data := .seq #[.int i tk, v] } := (sb.2 _ (Nat.ne_of_gt hel)).trans hT
      have new : ObjOk X.prog X.w (upd H s.heap.objs.size (.tup [.int (i : Nat), x])) h'' s.heap.objs.size (.tup [.int (i : Nat), x]) :=
        ⟨by show 2 ≤ sizeLine; decide, [.int i tk, v], .cons ⟨_, rfl⟩ (.cons ru .nil), ⟨_, hT2, rfl, _, rfl⟩⟩
      have I1 : Inv X pins σ (upd H s.heap.objs.size (.tup [.int (i : Nat), x])) { s with heap := h'', toks := tk + 1 } :=
        I.turnedNew (ch := [e, it]) (fun b ob hb q => (sb.2 b (fun z => hb (by simp [z]))).trans (hk b ob (fun z => hb (by simp [z])) (fun z => hb (by simp [z])) q)) hf (Nat.le_refl _) new
      refine ⟨.ref s.heap.objs.size, _, I1, rfl, ⟨_, x, rfl, I.hok.fresh (Nat.le_refl _), rfl, fun ys hy => ?_⟩, ⟨⟨v, ?_⟩, st'.1.at fun o q => (sb.2 it (Ne.symm hne)).trans q, hne⟩, fun b hb => ?_⟩
      · rw [I.tuple_inj hy hq]; exact hx
      · have e1 : ((i + 1 : Nat) : Int) = (i : Int) + 1 := by omega
        rw [e1]; exact he'
      · have hb' : b < s.heap.objs.size := by
          have e' : b = e ∨ b = it := by simpa using hb
          rcases e' with z | z
          · rw [z]; exact hel
          · rw [z]; exact hil
        rw [upd_ne (Nat.ne_of_lt hb')]
        exact (hf b hb).1
    · exact absurd n1 hne
  done := by
    intro X hP hw hK hc i pins s σ H E I hf st hg
    subst hP hw hK
    obtain ⟨⟨old, he⟩, hit, hne⟩ := st
    obtain ⟨xs, hq, hx⟩ := hg
    obtain ⟨its, rv, p, hz⟩ := I.tuple hq
    obtain ⟨f0, f1, f2, f3, f4, f5⟩ := hf it (by simp)
    have hl := rv.length
    have p : s.heap.IsTuple a its.toArray := p
    exact next_enumT_end (I.ok.hd hc) he hit p (by simp; omega) fun h' eb => ⟨rfl, I.turned (t' := s.toks) (fun b o hb q => eb b o hb q) f0 f1 f3 f4 f5⟩
  self := fun A i s Q E st h => let ⟨⟨_, he⟩, _⟩ := st; wpAny_pyIter_enum he h
theorem walk_enumT {K : PySem.W.Frag} {a : Addr} {xs : List V} : Walk (Itet K a) xs.length (fun H => SqT K H a xs) (YPair (fun i => some (.int (i : Nat))) (fun i => xs[i]?)) := by
  refine ⟨fun i _ hi q => ⟨xs, xs[i], q, by simp [hi]⟩, fun _ q => ⟨xs, q, Nat.le_refl _⟩, fun i H v H' _ q y => ?_⟩
  obtain ⟨T, x, h1, h2, h3, h4⟩ := y
  exact ⟨T, _, x, h1, h2, h3, rfl, h4 xs q⟩
section
variable {X : Cx} {tg e : Expr} {K : PySem.W.Frag} {F : Hp} {S : Strm}
theorem walkD_enumT {a : Addr} {xs : List V} {ds : List PyData} (h : F a = some (.tup xs)) (hd : DenL K F S xs ds) : WalkD K F S (Itet K a) (ds.zipIdx.map fun p => .tuple [.int (p.2 : Nat), p.1]) := by
  refine (show Walk (Itet K a) (ds.zipIdx.map fun p => PyData.tuple [.int (p.2 : Nat), p.1]).length _ _ from ?_)
  rw [List.length_map, List.length_zipIdx, ← hd.length]
  refine walk_enumT.mono (fun H s => SqT.of (s _ _ h)) fun i H x H' hi s y n F' sF fr => ?_
  obtain ⟨T, a, b, rfl, hT, rfl, ea, eb⟩ := y
  cases ea
  obtain ⟨e, e2, q2⟩ := hd.getV eb
  refine ⟨.tuple [.int (i : Nat), e], ?_, Post.tup fr hT (.cons (.int _) (.cons (q2.mono sF) .nil))⟩
  rw [List.getElem?_map, List.getElem?_zipIdx, e2]
  simp
def enumP : PyData → Option (List PyData)
  | .list zs => some (zs.zipIdx.map fun p => .tuple [.int (p.2 : Nat), p.1])
  | .tuple zs => some (zs.zipIdx.map fun p => .tuple [.int (p.2 : Nat), p.1])
  | _ => none
def mEnum (ms : MA) : MA := fun γ n k => ms γ n fun ds n1 => match ds with
  | [d] => ∃ zs, enumP d = some zs ∧ k zs n1
  | _ => False
theorem di_enumA {ms : MA} {p pos tpos : Pos} {elts : List Expr} {kk : Nat} (hg : Gl X "enumerate") (hm : X.mg "enumerate" = none) (ha : DA X [e] ms) (hs : starEach [e] X.env = [(false, eval e X.env)] := by rfl) :
    DI X (.Tuple elts kk tpos) (.Call (.Name "enumerate" p) [e] [] pos) (mEnum ms) := by
  refine ⟨fun pins s σ H R I h => ?_⟩
  obtain ⟨F, S, n, γ, ag, k, hm', hR⟩ := h
  have ha' : wpAny (model X.prog X.w) X.A (spliced (backTo pos (starEach [e] X.env))) (AP X pins σ fun vs H1 => ∃ d n1 zs v, vs = [v] ∧ Ext S n1 H H1 ∧ Den X.K (grow F H H1) S v d ∧ enumP d = some zs ∧ k zs n1) X.xe s :=
    ha.run pos pins s σ H _ I ⟨F, S, n, γ, ag, _, hm', fun ds n1 hk vs H1 p => by
      split at hk
      · obtain ⟨zs, e1, hk⟩ := hk
        obtain ⟨v, e2, hv⟩ := p.den.one
        exact ⟨_, n1, zs, v, e2, p.ext, hv, e1, hk⟩
      · exact hk.elim⟩
  refine Call_ (ld_blt I hg hm boot_enumerate (PyProof.Rows.callWith_type1 (thn ha' fun us s1 ⟨vs, H1, I1, r1, d, n1, zs, v, ev, ex, hv, ez, hk⟩ => ?_) hs rfl))
  subst ev
  have f1 := (ag.next ex).fr
  cases r1 with
  | cons r rr =>
    cases rr
    unfold enumP at ez
    split at ez
    · cases ez
      obtain ⟨a, xs, rfl, ha, hxs⟩ := hv.list_inv
      cases r
      obtain ⟨its, rv, p', hz⟩ := I1.list (SqL.of (f1.sub _ _ ha))
      refine call_enumerate_list p'.isList fun h' he hit hsz hk' => wpAny_pyIter_enum he ?_
      have I2 : Inv X pins σ H1 { s1 with heap := h' } := I1.kept (t' := s1.toks) hk'
      refine ⟨s1.heap.objs.size + 1, [s1.heap.objs.size + 1, s1.heap.objs.size], _, _, H1, rfl, I2, turn_enum a (s1.heap.objs.size + 1) s1.heap.objs.size, ⟨⟨.none, he⟩, hit, Nat.succ_ne_self _⟩, fun b hb => ?_, hR _ _ hk _ _ ex (walkD_enum ha hxs)⟩
      have e' : b = s1.heap.objs.size + 1 ∨ b = s1.heap.objs.size := by simpa using hb
      have hle : s1.heap.objs.size ≤ b := by
        rcases e' with z | z
        · rw [z]; exact Nat.le_add_right _ _
        · rw [z]; exact Nat.le_refl _
      exact I1.fpOk hle (I1.hok.fresh hle)
    · cases ez
      obtain ⟨a, xs, rfl, ha, hxs⟩ := hv.tup_inv
      cases r
      obtain ⟨its, rv, p', hz⟩ := I1.tuple (SqT.of (f1.sub _ _ ha))
      refine call_enumerate_tuple (show s1.heap.IsTuple a its.toArray from p') fun h' he hit hsz hk' => wpAny_pyIter_enum he ?_
      have I2 : Inv X pins σ H1 { s1 with heap := h' } := I1.kept (t' := s1.toks) hk'
      refine ⟨s1.heap.objs.size + 1, [s1.heap.objs.size + 1, s1.heap.objs.size], _, _, H1, rfl, I2, turn_enumT a (s1.heap.objs.size + 1) s1.heap.objs.size, ⟨⟨.none, he⟩, hit, Nat.succ_ne_self _⟩, fun b hb => ?_, hR _ _ hk _ _ ex (walkD_enumT ha hxs)⟩
      have e' : b = s1.heap.objs.size + 1 ∨ b = s1.heap.objs.size := by simpa using hb
      have hle : s1.heap.objs.size ≤ b := by
        rcases e' with z | z
        · rw [z]; exact Nat.le_add_right _ _
        · rw [z]; exact Nat.le_refl _
      exact I1.fpOk hle (I1.hok.fresh hle)
    · cases ez
end
end DL
namespace DL
open PySem PySem.Spec PyProof.Rows L2
open PySem.W (minD maxD AlikeAll min_list_data min_tuple_data max_list_data max_tuple_data)

section
variable {X : Cx}
def seqP : PyData → Option (List PyData)
  | .list ds => some ds
  | .tuple ds => some ds
  | _ => none
def oBest (f : PyData → List PyData → PyData) : O1 := fun d k => ∃ x r, seqP d = some (x :: r) ∧ allStr (x :: r) = true ∧ k (f x r)
theorem allStr_mem : ∀ {ds : List PyData}, allStr ds = true → ∀ d ∈ ds, ∃ z, d = .str z
  | [], _, _, h => by cases h
  | d :: ds, q, e, h => by
    cases d with
    | str z =>
      rcases List.mem_cons.mp h with h | h
      · exact ⟨z, h⟩
      · exact allStr_mem (ds := ds) q e h
    | _ => cases q
theorem foldBest_mem {c : PyData → PyData → Bool} : ∀ (r : List PyData) (x : PyData), r.foldl (fun a y => if c a y = true then y else a) x ∈ x :: r
  | [], x => by simp
  | y :: r, x => by
    have h := foldBest_mem (c := c) r (if c x y = true then y else x)
    rw [List.foldl_cons]
    rcases List.mem_cons.mp h with e | e
    · rw [e]
      split <;> simp
    · simp [e]
theorem minD_mem (x : PyData) (r : List PyData) : minD x r ∈ x :: r := foldBest_mem (c := fun a y => W.dataLt y a) r x
theorem maxD_mem (x : PyData) (r : List PyData) : maxD x r ∈ x :: r := foldBest_mem (c := fun a y => W.dataLt a y) r x
theorem str_alike {ds : List PyData} (h : allStr ds = true) : AlikeAll ds := by
  refine ⟨fun x hx y hy => ?_, fun x hx e => ?_⟩
  · obtain ⟨a, rfl⟩ := allStr_mem h x hx
    obtain ⟨b, rfl⟩ := allStr_mem h y hy
    simp [W.alike]
  · obtain ⟨a, rfl⟩ := allStr_mem h x hx
    cases e
theorem str_depth : ∀ {ds : List PyData}, allStr ds = true → PyData.depthAll ds = 0 ∧ ndL ds = true
  | [], _ => by simp [PyData.depthAll, ndL]
  | d :: ds, q => by
    cases d with
    | str z =>
      have := str_depth (ds := ds) q
      simp [PyData.depthAll, PyData.depth, ndL, nd, this.1, this.2]
    | _ => cases q
theorem DenL.mem {K : PySem.W.Frag} {F : Hp} {S : Strm} : ∀ {vs : List V} {ds : List PyData} {d : PyData}, DenL K F S vs ds → d ∈ ds → ∃ v, Den K F S v d
  | _, _, _, .nil, h => nomatch h
  | _, _, _, .cons h1 h2, h => by
    rcases List.mem_cons.mp h with e | e
    · rw [e]; exact ⟨_, h1⟩
    · exact h2.mem e
theorem call_best {id : String} {f : PyData → List PyData → PyData} (hmem : ∀ x r, f x r ∈ x :: r)
    (hl : ∀ (A : Around) (E : Value → Shared → Prop) (s : Shared) (l : Addr) (vs : Array Value) (x : PyData) (xs : List PyData) (as : List Addr) (Q : Value → Shared → Prop), A.handled = none → s.heap.IsList l vs → ReadsAll s.heap vs.toList (x :: xs) as → AlikeAll (x :: xs) → A.units + 1 + PyData.depthAll (x :: xs) < cLine →
      (∀ (i : Nat) v h' tk bs, vs[i]? = some v → Reads h' v (f x xs) bs → (∀ b o, s.heap.get? b = some o → h'.get? b = some o) → Q v { s with heap := h', toks := tk }) → wpAny (model X.prog X.w) A (call (.builtin id) [.ref l]) Q E s)
    (ht : ∀ (A : Around) (E : Value → Shared → Prop) (s : Shared) (l : Addr) (vs : Array Value) (x : PyData) (xs : List PyData) (as : List Addr) (Q : Value → Shared → Prop), A.handled = none → s.heap.IsTuple l vs → ReadsAll s.heap vs.toList (x :: xs) as → AlikeAll (x :: xs) → A.units + 1 + PyData.depthAll (x :: xs) < cLine →
      (∀ (i : Nat) v h' tk bs, vs[i]? = some v → Reads h' v (f x xs) bs → (∀ b o, s.heap.get? b = some o → h'.get? b = some o) → Q v { s with heap := h', toks := tk }) → wpAny (model X.prog X.w) A (call (.builtin id) [.ref l]) Q E s)
    (hc : X.calm = true) (hu : X.A.units + 65 < cLine) : CallR X (.builtin id) (rDN X.K (on1 (oBest f))) := call1 fun pins s σ H v u Q I rx h => by
  obtain ⟨F, S, n, d, fr, hx, k, ⟨x, r, es, ok, ho⟩, hQ⟩ := h
  have hdep : X.A.units + 1 + PyData.depthAll (x :: r) < cLine := by rw [(str_depth ok).1]; omega
  have fin : ∀ {xs : List V} (v : Value) (h' : Heap) (tk : Nat) (bs : List Addr), DenL X.K F S xs (x :: r) → Reads h' v (f x r) bs → (∀ b o, s.heap.get? b = some o → h'.get? b = some o) → EP X pins σ Q v { s with heap := h', toks := tk } := fun {xs} v h' tk bs hd rd hk => by
    have hm := hmem x r
    obtain ⟨z, ez⟩ := allStr_mem ok _ hm
    obtain ⟨w, hw⟩ := hd.mem hm
    rw [ez] at rd hw
    cases rd with
    | str _ t =>
      obtain ⟨_, hz⟩ := hw.str_inv
      refine ⟨.str z, H, I.kept hk, ⟨t, rfl⟩, hQ _ ho _ _ (Post.here fr ?_)⟩
      rw [ez]
      exact .str z hz
  unfold seqP at es
  split at es
  · cases es
    obtain ⟨a, xs, rfl, ha, hxs⟩ := hx.list_inv
    cases rx
    obtain ⟨its, rv, q, hz⟩ := I.list (SqL.of (fr.sub _ _ ha))
    obtain ⟨as, ra⟩ := Dp.readsAll I (x :: r) xs its (dpAll_mono fr.sub (hxs.dp (str_depth ok).2).1) rv
    exact hl X.A X.xe s a its.toArray x r as _ (I.ok.hd hc) q.isList (by simpa using ra) (str_alike ok) hdep fun i v h' tk bs _ rd hk => fin v h' tk bs hxs rd hk
  · cases es
    obtain ⟨a, xs, rfl, ha, hxs⟩ := hx.tup_inv
    cases rx
    obtain ⟨its, rv, q, hz⟩ := I.tuple (SqT.of (fr.sub _ _ ha))
    obtain ⟨as, ra⟩ := Dp.readsAll I (x :: r) xs its (dpAll_mono fr.sub (hxs.dp (str_depth ok).2).1) rv
    exact ht X.A X.xe s a its.toArray x r as _ (I.ok.hd hc) (show s.heap.IsTuple a its.toArray from q) (by simpa using ra) (str_alike ok) hdep fun i v h' tk bs _ rd hk => fin v h' tk bs hxs rd hk
  · cases es
abbrev oMin : O1 := oBest minD
abbrev oMax : O1 := oBest maxD
theorem call_minD1 (hc : X.calm = true) (hu : X.A.units + 65 < cLine) : CallR X (.builtin "min") (rDN X.K (on1 oMin)) :=
  call_best minD_mem (fun A E s l vs x xs as Q h1 h2 h3 h4 h5 h6 => min_list_data h1 h2 h3 h4 h5 h6) (fun A E s l vs x xs as Q h1 h2 h3 h4 h5 h6 => min_tuple_data h1 h2 h3 h4 h5 h6) hc hu
theorem call_maxD1 (hc : X.calm = true) (hu : X.A.units + 65 < cLine) : CallR X (.builtin "max") (rDN X.K (on1 oMax)) :=
  call_best maxD_mem (fun A E s l vs x xs as Q h1 h2 h3 h4 h5 h6 => max_list_data h1 h2 h3 h4 h5 h6) (fun A E s l vs x xs as Q h1 h2 h3 h4 h5 h6 => max_tuple_data h1 h2 h3 h4 h5 h6) hc hu
def strsP : List PyData → Option (List Str)
  | [] => some []
  | .str z :: r => (strsP r).map (z :: ·)
  | _ :: _ => none
theorem strsP_den {K : PySem.W.Frag} {F : Hp} {S : Strm} : ∀ {xs : List V} {ds : List PyData} {zs : List Str}, DenL K F S xs ds → strsP ds = some zs → xs = zs.map V.str
  | _, _, zs, .nil, e => by cases e; rfl
  | _, _, zs, .cons (v := v) (d := d) h1 h2, e => by
    cases d with
    | str z =>
      unfold strsP at e
      cases q : strsP _ with
      | none => rw [q] at e; cases e
      | some ys =>
        rw [q] at e
        cases e
        rw [strsP_den h2 q]
        cases h1
        rfl
    | _ => cases e
def mJoin (mo me : M) : M := fun γ n k => mo γ n fun x n1 => ∃ a, x = .str a ∧ me γ n1 fun y n2 => ∃ ds ys, seqP y = some ds ∧ strsP ds = some ys ∧ (ys.map (·.length)).sum + ys.length * a.length ≤ 16777216 ∧ PyData.strOk (Txt.join a ys) = true ∧ k (.str (Txt.join a ys)) n2
theorem de_join {o e : Expr} {mo me : M} {apos pos : Pos} (ho : DE X o mo) (he : DE X e me) (hs : starEach [e] X.env = [(false, eval e X.env)] := by rfl) (hbase : attributeBase o "join" X.env (eval o X.env) = eval o X.env := by rfl) (hline : (apos.endLine == pos.line) = true := by rfl) :
    DE X (.Call (.Attribute o "join" apos) [e] [] pos) (mJoin mo me) := PE.weak (pe_join ho he hs hbase hline) fun σ H Q h => by
  obtain ⟨F, S, n, γ, ag, k, hm, hQ⟩ := h
  refine ⟨F, S, n, γ, ag, _, hm, fun x n1 hk v H1 p => ?_⟩
  obtain ⟨a, ex, hk⟩ := hk
  subst ex
  obtain ⟨ev, oa⟩ := p.den.str_inv
  subst ev
  have ag1 := ag.next p.ext
  refine ⟨⟨a, rfl⟩, _, S, n1, γ, ag1, _, hk, fun y n2 hk2 w H2 p2 => ?_⟩
  obtain ⟨ds, ys, e1, e2, e3, e4, hk2⟩ := hk2
  have f2 := (ag1.next p2.ext).fr
  have fin := hQ _ _ hk2 (.str (Txt.join a ys)) H2 ⟨p.ext.trans p2.ext, .str _ e4⟩
  unfold seqP at e1
  split at e1
  · cases e1
    obtain ⟨b, xs, rfl, hb, hxs⟩ := p2.den.list_inv
    have := strsP_den hxs e2
    subst this
    exact ⟨a, b, ys, rfl, rfl, .inl (SqL.of (f2.sub _ _ hb)), e3, fin⟩
  · cases e1
    obtain ⟨b, xs, rfl, hb, hxs⟩ := p2.den.tup_inv
    have := strsP_den hxs e2
    subst this
    exact ⟨a, b, ys, rfl, rfl, .inr (SqT.of (f2.sub _ _ hb)), e3, fin⟩
  · cases e1
def oRepr : O1 := fun d k => nd d = true ∧ d.depth ≤ 40 ∧ (∃ ds, seqP d = some ds) ∧ d.showable = true ∧ d.shown.length ≤ sizeLine ∧ PyData.strOk d.shown = true ∧ k (.str d.shown)
mutual
theorem nd_noDict : ∀ (d : PyData), nd d = true → d.hasDict = false
  | .dict _, h => by cases h
  | .list ds, h => by simpa [PyData.hasDict] using ndL_noDict ds h
  | .tuple ds, h => by simpa [PyData.hasDict] using ndL_noDict ds h
  | .none, _ => by simp [PyData.hasDict]
  | .bool _, _ => by simp [PyData.hasDict]
  | .int _, _ => by simp [PyData.hasDict]
  | .str _, _ => by simp [PyData.hasDict]
theorem ndL_noDict : ∀ (ds : List PyData), ndL ds = true → PyData.hasDictAll ds = false
  | [], _ => by simp [PyData.hasDictAll]
  | d :: ds, h => by
    have h := Bool.and_eq_true_iff.mp (show (nd d && ndL ds) = true from h)
    simp [PyData.hasDictAll, nd_noDict d h.1, ndL_noDict ds h.2]
end
theorem call_reprD1 (hg : X.A.guards = some []) (hu : X.A.units + 65 < cLine) : CallR X (.builtin "repr") (rDN X.K (on1 oRepr)) := call1 fun pins s σ H v u Q I rx h => by
  obtain ⟨F, S, n, d, fr, hx, k, ⟨h1, h2, ⟨ds, h3⟩, h4, h5, h6, ho⟩, hQ⟩ := h
  obtain ⟨as, ra⟩ := Dp.reads I d v u (dp_mono fr.sub (hx.dp h1).1) rx
  have hd := nd_noDict d h1
  have fin : ∀ (a : Addr), u = .ref a → wpAny (model X.prog X.w) X.A (call (.builtin "repr") [u]) (EP X pins σ Q) X.xe s := fun a e => by
    subst e
    exact repr_of_reads' ra h4 (fun z => by rw [hd] at z; cases z) hg (by omega) (fun _ _ q => q) (fun h' w tk hk => ⟨.str d.shown, H, I.kept hk, ⟨w, rfl⟩, hQ _ ho _ _ (Post.here fr (.str _ h6))⟩) h5
  unfold seqP at h3
  split at h3
  · obtain ⟨a, xs, rfl, ha, hxs⟩ := hx.list_inv
    exact fin a rx
  · obtain ⟨a, xs, rfl, ha, hxs⟩ := hx.tup_inv
    exact fin a rx
  · cases h3
end
end DL
namespace DL
open PySem PySem.Spec PyProof.Rows L2

theorem deeper_guards (A : Around) (env : PySem.Env) : (A.deeper env).guards = A.guards := by
  cases A
  rfl
structure FnG (P : Program) (w : World) (K : PySem.W.Frag) (mg : Str → Option Value) (base : Heap) (CX : CXT) (k : Nat) (f : Addr) (fd : FuncData) (ps : List Str) (sp : Sp) : Prop where
  len : ∀ vs H Q E, sp vs H Q E → vs.length = ps.length
  run : ∀ (A : Around) (outer : List PySem.Env) (s : Shared) (H : Hp) (args : Args) (us : List Value) (vs : List V) (Q : VK) (E : XK), A.guards = some [] → Room k A → Env0 P w K mg base A outer s H → BindsTo s fd args (ps.zip us) → Vals vs us → sp vs H Q E →
    codeAny (model P w) A (.call (.ref f) args) (CR CX outer P w H s Q E) s
section
variable {P : Program} {w : World} {K : PySem.W.Frag} {mg : Str → Option Value} {base : Heap} {CX : CXT} {x qual : Str} {params : Arguments} {body : List Stmt} {scope : Scope} {dvs : List V} {kws : List (Str × V)} {f : Addr} {fd : FuncData} {N ps : List Str} {k : Nat} {sp : Sp}
theorem FnOk_g (F : FnOk P w K mg base CX k f fd ps sp) : FnG P w K mg base CX k f fd ps sp :=
  ⟨F.len, fun A outer s H args us vs Q E _ hr e0 hb r h => F.run A outer s H args us vs Q E hr e0 hb r h⟩
theorem fnG_ok (F : FunD K x qual params body scope dvs kws f fd) (S : FnScope N ps scope) (len : ∀ vs H Q E, sp vs H Q E → vs.length = ps.length)
    (hbody : ∀ (cdv : Value) (A : Around) (outer : List PySem.Env) (s : Shared) (H : Hp) (vs : List V) (Q : VK) (E : XK), A.guards = some [] → Room k (A.deeper (envOfC qual scope s.heap.objs.size f cdv)) → sp vs H Q E →
      ∃ t, PSs (cxOf CX P w K mg base N qual scope f cdv A outer s H E) body t ∧ t { nx := fun _ H' => Q .non H', rt := Q } (L2.start N vs) H) : FnG P w K mg base CX (k + 1) f fd ps sp := by
  obtain ⟨oc, od, dV, kV, doc, pm, an, cdv, ct, osl, rfl, lk, hcd, _, _⟩ := F.ex
  refine ⟨len, fun A outer s H args us vs Q E hgd hr e0 hb r hsp => ?_⟩
  have kin : K.In s.heap := e0.mod.kin.keeps fun b o e => (e0.bs b o e).1
  refine codeAny_call_function hr.depth (kin _ _ lk) rfl S.co S.gen rfl (PySem.W.codeRec_of kin hcd) (hb _ _ _ _ ?_)
  refine wpAny_newFunctionEnv_cells S.kind (fun ⟨n, v⟩ hy => (S.par n (List.of_mem_zip hy).1).imp id fun q => ⟨q, PySem.W.cellsFrom_some _ _ _ (.inl q)⟩) fun env he s1 x => ?_
  subst he
  refine ⟨(e0.mod.nolimit.keeps fun b o e => (e0.bs b o e).1).keeps x.toInCall.keep, codeAny_func ?_⟩
  obtain ⟨t, ht, hq⟩ := hbody cdv A outer s H vs Q E hgd (hr.deeper _) hsp
  have J0 := inv_start (CX := CX) (E := E) (cd := cdv) (qual := qual) S hr.hd e0 (len _ _ _ _ hsp) r x
  refine wpAny_mono (ht.run [] s1 _ H _ J0 hq) (fun fl s' hs => ?_) fun e s' hs => hs
  cases fl with
  | ret u => obtain ⟨v, _, H', J, rv, q⟩ := hs; exact ⟨v, H', J.os, J.bare, J.base, J.hok, rv, q⟩
  | next => obtain ⟨_, H', J, q⟩ := hs; exact ⟨.non, H', J.os, J.bare, J.base, J.hok, rfl, q⟩
  | brk => exact hs.elim fun _ h => h.elim fun _ h => h.2.elim
  | cont => exact hs.elim fun _ h => h.elim fun _ h => h.2.elim
end
section
variable {X : Cx} {k : Nat} {f : Addr} {fd : FuncData} {ps : List Str} {sp : Sp} {x : Str} {p pos : Pos} {e : Expr} {es : List Expr} {t : TA} {E : XK}
theorem pe_callG (F : FnG X.prog X.w X.K X.mg X.base CX0 k f fd ps sp) (hgd : X.A.guards = some []) (hr : Room k X.A) (hg : Gl X x) (hm : X.mg x = some (.ref f)) (hk : PySem.W.keepIn X.K (.ref f) = true) (hb : Binds X.K fd ps [])
    (ha : PA X (e :: es) t) (hdb : (x == ("__debug__" : Str)) = false := by decide) (he : starEach (e :: es) X.env = (false, eval e X.env) :: starEach es X.env := by rfl) (hpl : (backTo pos (starEach es X.env)).any (·.1) = false := by rfl) :
    PE X (.Call (.Name x p) (e :: es) [] pos) (tCall sp [] E0 t) := by
  refine ⟨fun pins s σ H Q I h => ?_⟩
  refine wpAny_Call_Name_kw (ld_glob I hg hm ?_ hdb)
  refine PySem.W.callWith_K (h₀ := X.base) I.ok.mod.kin hk (thn (ha.run pos pins s σ H _ I h) fun us s1 ⟨vs, H1, I1, r, q⟩ => ⟨I1.kIn, ?_⟩) he hpl
  have q : sp (vs ++ []) H1 Q E0 := q
  rw [List.append_nil] at q
  have hl : us.length = ps.length := by rw [← r.length]; exact F.len _ _ _ _ q
  refine wpAny_call (codeAny_mono (F.run X.A X.stack s1 H1 ⟨us, []⟩ us vs Q E0 hgd hr I1.env0 (by have := hb s1 us I1.kIn (by rw [List.append_nil]; exact hl); rwa [List.append_nil] at this) r q) fun r s' hq => ?_)
  cases r with
  | error e => exact hq.elim
  | ok fl =>
    cases fl with
    | ret u => exact I1.after hq
    | next => exact False.elim hq
    | brk => exact False.elim hq
    | cont => exact False.elim hq
end
structure CalG (P : Program) (w : World) (K : PySem.W.Frag) (mg : Str → Option Value) (base : Heap) (k m : Nat) (x : Str) (sp : SpecD) : Prop where
  ex : ∃ (f : Addr) (fd : FuncData) (ps : List Str), FnG P w K mg base CX0 k f fd ps (spD K m sp) ∧ mg x = some (.ref f) ∧ PySem.W.keepIn K (.ref f) = true ∧ Binds K fd ps []
theorem de_callG {X : Cx} {k j m : Nat} {x : Str} {sp : SpecD} {p pos : Pos} {e : Expr} {es : List Expr} {ms : MA} (c : CalG X.prog X.w X.K X.mg X.base k m x sp) (hgd : X.A.guards = some []) (hr : Room j X.A) (hk : k ≤ j) (hg : Gl X x) (ha : DA X (e :: es) ms)
    (hdb : (x == ("__debug__" : Str)) = false := by decide) (he : starEach (e :: es) X.env = (false, eval e X.env) :: starEach es X.env := by rfl) (hpl : (backTo pos (starEach es X.env)).any (·.1) = false := by rfl) :
    DE X (.Call (.Name x p) (e :: es) [] pos) (mCall m sp ms) := by
  obtain ⟨f, fd, ps, F, hm, kp, b⟩ := c.ex
  exact PE.weak (pe_callG F hgd (hr.mono hk) hg hm kp b ha hdb he hpl) fun _ _ _ h => tCall_D (E := E0) h
end DL
namespace DL
open PySem PySem.Spec PyProof.Rows L2

section
variable {X : Cx}
theorem op_mulD : OpR X (binaryOp .Mult) (rD X.K oMul) := by
  intro pins s σ H x y v u Q I rx ry h
  obtain ⟨F, S, n, dx, dy, fr, hx, hy, k, ho, hQ⟩ := h
  unfold oMul at ho
  split at ho
  · cases hx.int_inv; cases hy.int_inv
    exact op_mul pins s σ H _ _ v u Q I rx ry ⟨_, _, rfl, rfl, ho.1, hQ _ ho.2 _ _ (Post.here fr (.int _))⟩
  · obtain ⟨a, xs, rfl, ha, hxs⟩ := hx.list_inv
    cases hy.int_inv
    obtain ⟨h1, h2, h3, h4⟩ := ho
    rename_i ds b
    refine op_rep pins s σ H _ _ v u Q I rx ry ⟨a, b, xs, rfl, rfl, fr.sub _ _ ha, h1, h2, by rw [hxs.length]; exact h3, fun p hp => hQ _ h4 _ _ (Post.lst fr hp ?_)⟩
    generalize b.toNat = m
    induction m with
    | zero => exact .nil
    | succ m ih => rw [List.replicate_succ, List.replicate_succ, List.flatten_cons, List.flatten_cons]; exact hxs.append ih
  · exact ho.elim
def oNeg : O1 := fun d k => match d with
  | .int i => k (.int (-i))
  | _ => False
def mU (o : O1) (a : M) : M := fun γ n k => a γ n fun d n1 => o d fun e => k e n1
theorem de_neg {a : Expr} {ma : M} {pos : Pos} (ha : DE X a ma) : DE X (.UnaryOp .USub a pos) (mU oNeg ma) := PE.weak (pe_un un_neg ha) fun σ H Q h => by
  obtain ⟨F, S, n, γ, ag, k, hm, hQ⟩ := h
  refine ⟨F, S, n, γ, ag, _, hm, fun d n1 hk v H1 p => ?_⟩
  unfold oNeg at hk
  split at hk
  · cases p.den.int_inv
    exact ⟨_, rfl, hQ _ _ hk _ _ ⟨p.ext, .int _⟩⟩
  · exact hk.elim
def mAsg (t : Tgt) (m : M) : MS := fun γ n k => m (pl γ) n fun d n1 => ∃ ps, t d = some ps ∧ k.nx (setG γ ps) n1
theorem ds_asg {tg e : Expr} {t : Tgt} {m : M} {pos : Pos} (he : DE X e m) (hg : DG X tg t) (hs : swapsWithSole [tg] e pos.line X.env = pure false := by rfl) (hw : swappedStores [tg] e X.env = pure none := by rfl)
    (h1 : (assignEach [tg] X.env).map (·.2) = [assign tg X.env] := by rfl) : DS X (.Assign [tg] e pos) (mAsg t m) := PS.weak (ps_asg he hg hs hw h1) fun D σ H h => by
  obtain ⟨H0, F0, Fb, F, S, n, γ, l, ag, sb, l1, l2, k, hm, ft⟩ := h
  refine ⟨F, S, n, _, ag.plain, _, hm, fun d n1 hk v H1 p => ?_⟩
  obtain ⟨ps, e, hk⟩ := hk
  have ag1 := ag.next p.ext
  exact ⟨_, S, n1, d, ps, ag1.fr, p.den, e, fun σ' as => ft.nx _ _ hk _ _ _ (ag1.ass as) (sb.trans sub_grow) ((setG_length _ _).trans l1) (as.length.trans l2)⟩
theorem dn_listB {x : Str} {p pos : Pos} {e : Expr} {ms : MA} (hg : Gl X x) (hm : X.mg x = none) (hv : bootBuiltins x = some (.type "list")) (ha : DA X [e] ms) (hn : x ≠ "__name__" := by decide) (hdb : (x == ("__debug__" : Str)) = false := by decide)
    (he : starEach [e] X.env = (false, eval e X.env) :: starEach [] X.env := by rfl) (hpl : (backTo pos (starEach [] X.env)).any (·.1) = false := by rfl) : DN X (.Call (.Name x p) [e] [] pos) false (mON (on1 oList) ms) :=
  PE.weak (pe_callTy call_list_of hg hm hv ha hn hdb he hpl) fun σ H Q h => by
    obtain ⟨F, S, n, γ, ag, k, hm, hQ⟩ := h
    refine ⟨F, S, n, γ, ag, _, hm, fun ds n1 hk vs H1 p => ?_⟩
    unfold on1 at hk
    split at hk
    · obtain ⟨v, rfl, hv⟩ := p.den.one
      have f1 := (ag.next p.ext).fr
      unfold oList at hk
      split at hk
      · obtain ⟨a, xs, rfl, ha, hxs⟩ := hv.list_inv
        exact ⟨a, xs, rfl, .inl (SqL.of (f1.sub _ _ ha)), fun q hq => hQ _ _ hk _ _ (PostN.lst ag.fr p.ext hq hxs)⟩
      · obtain ⟨a, xs, rfl, ha, hxs⟩ := hv.tup_inv
        exact ⟨a, xs, rfl, .inr (SqT.of (f1.sub _ _ ha)), fun q hq => hQ _ _ hk _ _ (PostN.lst ag.fr p.ext hq hxs)⟩
      · exact hk.elim
    · exact hk.elim
end
theorem de_gl {X : Cx} {x : Str} {v : V} {d : PyData} {u : Value} {pos : Pos} (hg : Gl X x) (hm : X.mg x = some u) (r : RelV v u) (hd : ∀ K F S, Den K F S v d) (hb : (x == ("__debug__" : Str)) = false := by decide) : DE X (.Name x pos) (mC d) :=
  de_const (pe_glob hg hm r hb) hd
def mInK (neg : Bool) (ks : List Str) (m : M) : M := fun γ n k => m γ n fun d n1 => isStr d = true ∧ k (.bool (if neg then !(ks.any fun z => PyData.eqv (.str z) d) else ks.any fun z => PyData.eqv (.str z) d)) n1
theorem inV_K {a : Str} : ∀ ks : List Str, inV (.str a) (ks.map V.str) = ks.any fun z => PyData.eqv (.str z) (.str a)
  | [] => rfl
  | k :: ks => by
    have ih := inV_K (a := a) ks
    unfold inV at ih ⊢
    rw [List.map_cons, List.any_cons, List.any_cons, ih]
    rfl
theorem flat_K : ∀ ks : List Str, (ks.map V.str).all flatV = true
  | [] => rfl
  | k :: ks => by rw [List.map_cons, List.all_cons, flat_K ks]; rfl
theorem tInK {K : PySem.W.Frag} {m : M} {A : Addr} {ks : List Str} (neg : Bool) (hA : ∀ H, SqL K H A (ks.map V.str)) {σ : L2.St} {H : Hp} {Q : V → Hp → Prop} (h : tD K (mInK neg ks m) σ H Q) :
    tD K m σ H fun x H1 => ∃ a xs, (V.ref A) = .ref a ∧ (SqL K H1 a xs ∨ SqT K H1 a xs) ∧ flatV x = true ∧ xs.all flatV = true ∧ Q (.bl (if neg then !(inV x xs) else inV x xs)) H1 := by
  obtain ⟨F, S, n, γ, ag, k, hm', hQ⟩ := h
  refine ⟨F, S, n, γ, ag, _, hm', fun d n1 hk v H1 p => ?_⟩
  obtain ⟨hs, hk⟩ := hk
  cases d with
  | str a =>
    cases p.den.str_inv.1
    refine ⟨A, _, rfl, .inl (hA H1), rfl, flat_K ks, ?_⟩
    rw [inV_K]
    exact hQ _ _ hk _ _ ⟨p.ext, .bl _⟩
  | _ => cases hs
theorem de_inK {X : Cx} {e : Expr} {m : M} {x : Str} {p pos : Pos} {A : Addr} {ks : List Str} (neg : Bool) {op : CmpOp} (hop : op = if neg then .NotIn else .In) (he : DE X e m) (hg : Gl X x) (hm : X.mg x = some (.ref A)) (hA : ∀ H, SqL X.K H A (ks.map V.str)) (hb : (x == ("__debug__" : Str)) = false := by decide)
    (hmk : behindInMarks op (.Name x p) = false := by rfl) : DE X (.Compare e [op] [.Name x p] pos) (mInK neg ks m) := by
  cases neg with
  | false => subst hop; exact PE.weak (pe_cmpR op_in_seq he (pe_glob (v := .ref A) hg hm rfl hb) hmk) fun σ H Q h => tInK false hA h
  | true => subst hop; exact PE.weak (pe_cmpR op_notIn_seq he (pe_glob (v := .ref A) hg hm rfl hb) hmk) fun σ H Q h => tInK true hA h
theorem dt_inK {X : Cx} {e : Expr} {m : M} {x : Str} {p pos : Pos} {A : Addr} {ks : List Str} (neg : Bool) {op : CmpOp} (hop : op = if neg then .NotIn else .In) (he : DE X e m) (hg : Gl X x) (hm : X.mg x = some (.ref A)) (hA : ∀ H, SqL X.K H A (ks.map V.str)) (hb : (x == ("__debug__" : Str)) = false := by decide)
    (hmk : behindInMarks op (.Name x p) = false := by rfl) : DT X (.Compare e [op] [.Name x p] pos) (mB (mInK neg ks m)) := by
  cases neg with
  | false => subst hop; exact PT.weak (pt_cmpR op_in_seq he (pe_glob (v := .ref A) hg hm rfl hb) hmk) fun σ H Q h => tInK false hA (tB_D h)
  | true => subst hop; exact PT.weak (pt_cmpR op_notIn_seq he (pe_glob (v := .ref A) hg hm rfl hb) hmk) fun σ H Q h => tInK true hA (tB_D h)
def mForR (m : M) (t : Tgt) (body : MS) : MS := fun γ n k => m (pk γ) n fun d n1 => match d with
  | .int j => -(2 ^ 62) ≤ j ∧ j < 2 ^ 62 ∧ forW t body ((List.range j.toNat).map fun i => .int (i : Nat)) γ n1 k
  | _ => False
theorem walkD_range {K : PySem.W.Frag} {F : Hp} {S : Strm} {m : Nat} : WalkD K F S (Itr 0 m) ((List.range m).map fun i => .int (i : Nat)) := by
  refine (show Walk (Itr 0 m) ((List.range m).map fun i => PyData.int (i : Nat)).length _ _ from ?_)
  rw [List.length_map, List.length_range]
  refine walk_range.mono (fun _ _ => trivial) fun i H x H' hi s y n F' sF fr => ?_
  obtain ⟨rfl, rfl⟩ := y
  refine ⟨.int (i : Nat), by rw [List.getElem?_map, List.getElem?_range hi]; rfl, ?_⟩
  show Post _ _ _ _ (V.int (0 + (i : Int))) _ _ _
  rw [Int.zero_add]
  exact Post.here fr (.int _)
theorem tFor_W {K : PySem.W.Frag} {t : Tgt} {mb : MS} {D : Ends} {σ : L2.St} {H0 F0 Fb F : Hp} {S : Strm} {n : Nat} {H : Hp} {γ : G} {l : Nat} {k : Ks} {ds : List PyData} {J : It} (ag : AgS K H0 F0 F S n H γ σ) (sb : Sub Fb F) (l1 : γ.length = l) (l2 : σ.length = l) (ft : Fits K H0 F0 Fb S l k D)
    (hk : forW t mb ds γ n k) (wk : WalkD K F S J ds) :
    ∃ W : Nat → Nat → L2.St → Hp → Prop, (∃ m, W 0 m σ H) ∧ ∀ i m σ H, W i m σ H →
      (J.stop i H ∧ D.nx σ H) ∨ (J.go i H ∧ ∃ N : L2.St → Hp → Prop, (∀ σ' H', N σ' H' → ∃ m', m' < m ∧ W (i + 1) m' σ' H') ∧ ∀ x H', J.yld i H x H' → tDG K t x σ H' fun σ2 H2 => tS K mb { D with nx := N, ct := N, bk := D.nx } σ2 H2) := by
  refine for_it (n := ds.length) (J := J) (G := fun H' => Sub F H') wk
    (fun i σ' H' => ∃ F' n γ', AgS K H0 F0 F' S n H' γ' σ' ∧ Sub F F' ∧ γ'.length = l ∧ σ'.length = l ∧ forW t mb (ds.drop i) γ' n k)
    ⟨_, n, γ, ag, Sub.refl _, l1, l2, hk⟩ (fun i σ' H' _ ⟨F', n, γ', a, s, _⟩ => s.trans a.fr.sub) ?_ ?_
  · rintro i x σ' H' H2 hi ⟨F', n, γ', a, s, q1, q2, hw⟩ y
    obtain ⟨d, ed, px⟩ := y n F' s a.fr
    have hdr : ds.drop i = d :: ds.drop (i + 1) := by
      obtain ⟨hl, e⟩ := List.getElem?_eq_some_iff.mp ed
      rw [List.drop_eq_getElem_cons hl, e]
    rw [hdr] at hw
    obtain ⟨ps, ep, hw⟩ := hw
    have a2 := a.next px.ext
    refine ⟨grow F' H' H2, S, n, d, ps, a2.fr, px.den, ep, fun σ2 as => ?_⟩
    refine ⟨H0, F0, F, _, S, n, setG γ' ps, l, a2.ass as, s.trans sub_grow, (setG_length _ _).trans q1, as.length.trans q2, _, hw, ?_⟩
    exact ⟨fun γ3 n3 h3 σ3 H3 F3 a3 s3 e1 e2 => ⟨F3, n3, γ3, a3, s3, e1, e2, h3⟩, ft.rt, fun γ3 n3 h3 σ3 H3 F3 a3 s3 e1 e2 => ft.nx _ _ h3 _ _ _ a3 (sb.trans s3) e1 e2, fun γ3 n3 h3 σ3 H3 F3 a3 s3 e1 e2 => ⟨F3, n3, γ3, a3, s3, e1, e2, h3⟩⟩
  · rintro σ' H' ⟨F', n, γ', a, s, q1, q2, hw⟩
    rw [List.drop_length] at hw
    exact ft.nx _ _ hw _ _ _ a (sb.trans s) q1 q2
theorem ds_forR {X : Cx} {tg a : Expr} {body : List Stmt} {t : Tgt} {m : M} {mb : MS} {p pos2 pos : Pos} (hp : PassesOwn (model X.prog X.w) X.A X.env X.xe) (hc : X.calm = true) (hgl : Gl X "range") (hm : X.mg "range" = none) (ha : DE X a m) (hg : DG X tg t) (hb : DSs X body mb)
    (hst : starEach [a] X.env = [(false, eval a X.env)] := by rfl) (hs : ∀ x, foldedSetIterable (.Call (.Name "range" p) [a] [] pos2) X.env x = pure x := by intro _; rfl) :
    DS X (.For tg (.Call (.Name "range" p) [a] [] pos2) body [] pos) (mForR m t mb) := PS.weak (ps_for hp hc (pi_range1 hgl hm (pa_cons (pe_pk ha) pa_nil hst) hst) hg hb hs) fun D σ H h => by
  obtain ⟨H0, F0, Fb, F, S, n, γ, l, ag, sb, l1, l2, k, hm, ft⟩ := h
  refine ⟨H0, F0, F, S, n, γ, ag, _, hm, fun d n1 hk v H1 e1 hd => ?_⟩
  split at hk
  · rename_i j
    cases (hd F rfl).int_inv
    exact ⟨j, rfl, hk.1, hk.2.1, tFor_W (ag.next e1) (sb.trans sub_grow) l1 l2 ft hk.2.2 walkD_range⟩
  · exact hk.elim
def mAppPop (i j : Nat) (m : M) : MS := fun γ n k => ∃ ds es, γ[i]? = some (.own false (.list ds)) ∧ γ[j]? = some (.own false (.list es)) ∧ i ≠ j ∧ ds.length < sizeLine ∧ m (pk γ) n fun d n1 => ∃ c e, d = .int c ∧ -(2 ^ 63) ≤ c ∧ c < 2 ^ 63 ∧ ∃ q, seqIndex? c es.length = some q ∧ es[q]? = some e ∧ k.nx ((γ.set j (.own false (.list (es.eraseIdx q)))).set i (.own false (.list (ds ++ [e])))) n1
theorem DenL.erase {K : PySem.W.Frag} {F : Hp} {S : Strm} : ∀ {vs : List V} {ds : List PyData} (q : Nat), DenL K F S vs ds → DenL K F S (vs.eraseIdx q) (ds.eraseIdx q)
  | _, _, _, .nil => .nil
  | _, _, 0, .cons _ t => t
  | _, _, q + 1, .cons r t => .cons r (t.erase q)
theorem ds_appPop {X : Cx} {i j : Nat} {x y : Str} {e : Expr} {m : M} {px py apos apos2 cpos cpos2 pos : Pos} (hN : X.N[i]? = some x) (hv : Vis X.env.scope x) (hN2 : X.N[j]? = some y) (hv2 : Vis X.env.scope y) (he : DE X e m) (hd : (x == ("__debug__" : Str)) = false := by decide) (hcd : (x == ("__classdict__" : Str)) = false := by decide)
    (hd2 : (y == ("__debug__" : Str)) = false := by decide) (hcd2 : (y == ("__classdict__" : Str)) = false := by decide)
    (hbase : attributeBase (.Name x px) "append" X.env (eval (.Name x px) X.env) = eval (.Name x px) X.env := by rfl)
    (hbase2 : attributeBase (.Name y py) "pop" X.env (eval (.Name y py) X.env) = eval (.Name y py) X.env := by rfl)
    (hfew : ((backTo cpos (starEach [(.Call (.Attribute (.Name y py) "pop" apos2) [e] [] cpos2)] X.env)).all (fun x => !x.1) && (backToKw cpos (keywordEach [] X.env)).all (fun x => x.1.isSome)
      && decide (([(.Call (.Attribute (.Name y py) "pop" apos2) [e] [] cpos2)] : List Expr).length + ([] : List Keyword).length + (if ([] : List Keyword).isEmpty then 0 else 1) < 30)) = true := by rfl)
    (hfew2 : ((backTo cpos2 (starEach [e] X.env)).all (fun x => !x.1) && (backToKw cpos2 (keywordEach [] X.env)).all (fun x => x.1.isSome)
      && decide (([e] : List Expr).length + ([] : List Keyword).length + (if ([] : List Keyword).isEmpty then 0 else 1) < 30)) = true := by rfl)
    (hline : (apos.endLine == cpos.line) = true := by rfl) (hline2 : (apos2.endLine == cpos2.line) = true := by rfl) (hs : starEach [(.Call (.Attribute (.Name y py) "pop" apos2) [e] [] cpos2)] X.env = (false, eval (.Call (.Attribute (.Name y py) "pop" apos2) [e] [] cpos2) X.env) :: starEach [] X.env := by rfl)
    (hs2 : starEach [e] X.env = (false, eval e X.env) :: starEach [] X.env := by rfl) (hplain : (backTo cpos (starEach [] X.env)).any (·.1) = false := by rfl) (hplain2 : (backTo cpos2 (starEach [] X.env)).any (·.1) = false := by rfl)
    (hsw : swapsWith (.Call (.Attribute (.Name x px) "append" apos) [(.Call (.Attribute (.Name y py) "pop" apos2) [e] [] cpos2)] [] cpos) none pos.line X.env = pure false := by rfl) :
    DS X (.Expr (.Call (.Attribute (.Name x px) "append" apos) [(.Call (.Attribute (.Name y py) "pop" apos2) [e] [] cpos2)] [] cpos) pos) (mAppPop i j m) :=
  PS.weak (ps_expr (pe_bm PySem.F.plainAttrs_list PySem.F.slot_list_append PySem.F.type_list_append mt_append (pe_var hN hv hd hcd) (pa_cons (pe_bm PySem.F.plainAttrs_list PySem.F.slot_list_pop PySem.F.type_list_pop mt_popAt (pe_var hN2 hv2 hd2 hcd2) (pa_cons (pe_pk he) pa_nil hs2) hbase2 hfew2 hline2 hs2 hplain2) pa_nil hs) hbase hfew hline hs hplain) hsw) fun D σ H h => by
    obtain ⟨H0, F0, Fb, F, S, n, γ, l, ag, sb, l1, l2, k, ⟨ds, es, hi, hj, hij, hlt, hm⟩, ft⟩ := h
    obtain ⟨b, q1, q2, q3, q4, q5⟩ := ag.own i _ _ hi
    obtain ⟨xs, h1, h2⟩ := q5.list_inv
    obtain ⟨c, r1, r2, r3, r4, r5⟩ := ag.own j _ _ hj
    obtain ⟨ys, g1, g2⟩ := r5.list_inv
    have hbc : b ≠ c := fun z => ag.dis i j _ _ _ _ b hi hj hij q1 (by rw [z]; exact r1)
    refine ⟨_, q1, .inl ⟨rfl, xs, SqL.of h1⟩, _, r1, .inl ⟨rfl, ys, SqL.of g1⟩, H0, F0, F, S, n, γ, ag, _, hm, fun d n1 hk v H1 p hd => ?_⟩
    obtain ⟨t, e, ed, b1, b2, q, s1, s2, hk⟩ := hk
    subst ed
    cases (hd F rfl).int_inv
    have ag1 := ag.next p
    have k1 : H1 b = some (.lst xs) := p.kp _ _ h1 q4
    have k2 : H1 c = some (.lst ys) := p.kp _ _ g1 r4
    obtain ⟨w, hw, dw⟩ := g2.get s2
    have dw1 : Den X.K (grow F H H1) S w e := dw.mono sub_grow
    have ag2 := ag1.write hj r1 (T' := false) (o := .lst (ys.eraseIdx q)) (.lst upd_same ((g2.erase q).mono sub_grow))
    refine ⟨c, ys, t, q, w, rfl, rfl, k2, b1, b2, by rw [g2.length]; exact s1, hw, ?_⟩
    have hi2 : (γ.set j (.own false (.list (es.eraseIdx q))))[i]? = some (.own false (.list ds)) := by rw [List.getElem?_set_ne (Ne.symm hij)]; exact hi
    obtain ⟨b', xs', z1, z2, z3, ag3⟩ := ag2.app hi2 dw1
    rw [q1] at z1
    cases z1
    exact ⟨b, xs', w, rfl, rfl, z2, by rw [z3]; exact hlt, ft.nx _ _ hk _ _ _ ag3 (sb.trans sub_grow) (by rw [List.length_set, List.length_set]; exact l1) l2⟩
end DL
namespace DL
open PySem PySem.Spec PyProof.Rows L2
section
variable {X : Cx}
theorem dv (i : Nat) {x : Str} {pos : Pos} (hN : X.N[i]? = some x := by rfl) (hv : Vis X.env.scope x := by first | exact Or.inl rfl | exact Or.inr (Or.inl rfl) | exact Or.inr (Or.inr rfl)) (hd : (x == ("__debug__" : Str)) = false := by decide)
    (hcd : (x == ("__classdict__" : Str)) = false := by decide) : DE X (.Name x pos) (mVar i) := de_var hN hv hd hcd
theorem dg (i : Nat) {x : Str} {pos : Pos} (hN : X.N.Nodup) (hi : X.N[i]? = some x := by rfl) (hx : Loc X.env.scope x := by first | exact Or.inl rfl | exact Or.inr rfl) (hf : X.fn x = true ∨ X.env.scope.names.lookup x = some .local := by first | exact .inl rfl | exact .inr rfl) : DG X (.Name x pos) (tgN i) :=
  dg_name hN hi hx hf
theorem pe_bty {T : String} {x : Str} {pos : Pos} (hg : Gl X x) (hm : X.mg x = none) (hv : bootBuiltins x = some (.type T)) (hn : x ≠ "__name__" := by decide) (hdb : (x == ("__debug__" : Str)) = false := by decide) : PE X (.Name x pos) (tC (.ty T)) :=
  ⟨fun pins s σ H Q I h => ld_blt I hg hm hv ⟨.ty T, H, I, rfl, h⟩ hn hdb⟩
theorem pe_bty2 {T U : String} {x y : Str} {px py pos : Pos} {k : Nat} (hg : Gl X x) (hm : X.mg x = none) (hv : bootBuiltins x = some (.type T)) (hg2 : Gl X y) (hm2 : X.mg y = none) (hv2 : bootBuiltins y = some (.type U)) (hn : x ≠ "__name__" := by decide) (hdb : (x == ("__debug__" : Str)) = false := by decide) (hn2 : y ≠ "__name__" := by decide) (hdb2 : (y == ("__debug__" : Str)) = false := by decide)
    (h1 : starEach [.Name x px, .Name y py] X.env = (false, eval (.Name x px) X.env) :: starEach [.Name y py] X.env := by rfl) (h2 : starEach [.Name y py] X.env = (false, eval (.Name y py) X.env) :: starEach [] X.env := by rfl) :
    PE X (.Tuple [.Name x px, .Name y py] k pos) (fun σ H Q => ∀ p, H p = none → Q (.ref p) (upd H p (.tup ([T, U].map V.ty)))) :=
  PE.weak (pe_tup (pa_cons (pe_bty hg hm hv hn hdb) (pa_cons (pe_bty hg2 hm2 hv2 hn2 hdb2) pa_nil h2) h1)) fun σ H Q h => ⟨by show 2 ≤ sizeLine; decide, h⟩
theorem pe_bty3 {T U W : String} {x y z : Str} {px py pz pos : Pos} {k : Nat} (hg : Gl X x) (hm : X.mg x = none) (hv : bootBuiltins x = some (.type T)) (hg2 : Gl X y) (hm2 : X.mg y = none) (hv2 : bootBuiltins y = some (.type U)) (hg3 : Gl X z) (hm3 : X.mg z = none) (hv3 : bootBuiltins z = some (.type W)) (hn : x ≠ "__name__" := by decide) (hdb : (x == ("__debug__" : Str)) = false := by decide) (hn2 : y ≠ "__name__" := by decide) (hdb2 : (y == ("__debug__" : Str)) = false := by decide) (hn3 : z ≠ "__name__" := by decide) (hdb3 : (z == ("__debug__" : Str)) = false := by decide)
    (h1 : starEach [.Name x px, .Name y py, .Name z pz] X.env = (false, eval (.Name x px) X.env) :: starEach [.Name y py, .Name z pz] X.env := by rfl) (h2 : starEach [.Name y py, .Name z pz] X.env = (false, eval (.Name y py) X.env) :: starEach [.Name z pz] X.env := by rfl) (h3 : starEach [.Name z pz] X.env = (false, eval (.Name z pz) X.env) :: starEach [] X.env := by rfl) :
    PE X (.Tuple [.Name x px, .Name y py, .Name z pz] k pos) (fun σ H Q => ∀ p, H p = none → Q (.ref p) (upd H p (.tup ([T, U, W].map V.ty)))) :=
  PE.weak (pe_tup (pa_cons (pe_bty hg hm hv hn hdb) (pa_cons (pe_bty hg2 hm2 hv2 hn2 hdb2) (pa_cons (pe_bty hg3 hm3 hv3 hn3 hdb3) pa_nil h3) h2) h1)) fun σ H Q h => ⟨by show 3 ≤ sizeLine; decide, h⟩
end
end DL
namespace DL
open PySem PySem.Spec PyProof.Rows L2
section
variable {X : Cx} {pins : List (Addr × Obj)} {σ : L2.St} {H : Hp} {s : Shared}
theorem keys_den {K : PySem.W.Frag} {F : Hp} {S : Strm} : ∀ {ks : List Key} {ys : List V}, DenL K F S ys (ks.map kP) → ys = ks.map kV
  | [], _, .nil => rfl
  | .inl i :: ks, _, .cons h1 h2 => by
    cases (show Den K F S _ (.int i) from h1).int_inv
    rw [keys_den h2]; rfl
  | .inr z :: ks, _, .cons h1 h2 => by
    cases (show Den K F S _ (.str z) from h1).str_inv.1
    rw [keys_den h2]; rfl
theorem pairsT_of {F : Hp} {S : Strm} (I : Inv X pins σ H s) (sb : Sub F H) : ∀ {es : List (List Key × PyData)} {xs : List V}, DenL X.K F S xs (es.map fun p => .tuple [ktP p.1, p.2]) →
    ∃ (ts : List Addr) (prs : List (List Key × Addr × Value)) (kvs : List (List Key × V)), xs = ts.map V.ref ∧ KT H kvs prs ∧ kvs.map (·.1) = es.map (·.1) ∧ DenL X.K F S (kvs.map (·.2)) (es.map (·.2)) ∧ prs.length = ts.length ∧
      ∀ (j : Nat) (q : List Key × Addr × Value), prs[j]? = some q → ∃ t, ts[j]? = some t ∧ PairAt s.heap t (.ref q.2.1) q.2.2 ∧ (tupleKind (mixKind X.prog X.w)).is s.heap q.1 q.2.1
  | [], _, .nil => ⟨[], [], [], rfl, .nil, rfl, .nil, rfl, fun j q e => by simp at e⟩
  | e :: es, _, .cons h1 h2 => by
    obtain ⟨ts, prs, kvs, e1, kt, e2, hd, hl, hp⟩ := pairsT_of I sb h2
    obtain ⟨t, ys, rfl, ht, hys⟩ := h1.tup_inv
    cases hys with
    | cons hk hys =>
      cases hys with
      | cons hv hn =>
        cases hn
        obtain ⟨b, zs, rfl, hb, hzs⟩ := (show Den X.K F S _ (.tuple (e.1.map kP)) from hk).tup_inv
        have ez := keys_den hzs
        subst ez
        obtain ⟨its, rv, htup, _⟩ := I.tuple (SqT.of (sb _ _ ht))
        obtain ⟨u, y, ei, ru, ry⟩ := vals2 rv
        subst ei
        cases ru
        refine ⟨t :: ts, (e.1, b, y) :: prs, (e.1, _) :: kvs, by rw [e1]; rfl, .cons ⟨rfl, sb _ _ hb, ry⟩ kt, by simp [e2], .cons hv hd, by simp [hl], fun j q e3 => ?_⟩
        cases j with
        | zero =>
          have e4 := Option.some.inj (show some (e.1, b, y) = some q from e3)
          subst e4
          exact ⟨t, rfl, .inl htup, key_of I.hok (sb _ _ hb)⟩
        | succ j =>
          obtain ⟨t', a1, a2⟩ := hp j q (by simpa using e3)
          exact ⟨t', by simpa using a1, a2⟩
def oDictT : O1 := fun d k => ∃ es : List (List Key × PyData), d = .list (es.map fun p => .tuple [ktP p.1, p.2]) ∧ (es.all fun e => e.1.all kOk) = true ∧ k (dtP (es.foldl (fun acc p => putKP acc p.1 p.2) []))
theorem KT_all {H : Hp} {kvs : List (List Key × V)} {prs : List (List Key × Addr × Value)} (t : KT H kvs prs) : ∀ {acc : List (List Key × V)} {acx : List (List Key × Addr × Value)}, KT H acc acx →
    KT H (kvs.foldl (fun a p => putK a p.1 p.2) acc) (storedAllH acx prs) := by
  induction t with
  | nil => exact fun h => h
  | @cons p q kvs prs h1 t ih =>
    intro acc acx h
    obtain ⟨h1, h2, h3⟩ := h1
    have := h.put p.1 h2 h3
    rw [h1] at this
    rw [List.foldl_cons, h1]
    exact ih this
theorem fold_den {K : PySem.W.Frag} {F : Hp} {S : Strm} : ∀ {kvs : List (List Key × V)} {es : List (List Key × PyData)} {acc : List (List Key × V)} {ace : List (List Key × PyData)}, kvs.map (·.1) = es.map (·.1) → DenL K F S (kvs.map (·.2)) (es.map (·.2)) → (es.all fun e => e.1.all kOk) = true →
    acc.map (·.1) = ace.map (·.1) → DenL K F S (acc.map (·.2)) (ace.map (·.2)) → (ace.all fun e => e.1.all kOk) = true →
    (kvs.foldl (fun a p => putK a p.1 p.2) acc).map (·.1) = (es.foldl (fun a p => putKP a p.1 p.2) ace).map (·.1) ∧ DenL K F S ((kvs.foldl (fun a p => putK a p.1 p.2) acc).map (·.2)) ((es.foldl (fun a p => putKP a p.1 p.2) ace).map (·.2)) ∧ ((es.foldl (fun a p => putKP a p.1 p.2) ace).all fun e => e.1.all kOk) = true
  | [], [], _, _, _, _, _, h1, h2, h3 => ⟨h1, h2, h3⟩
  | [], _ :: _, _, _, h, _, _, _, _, _ => by simp at h
  | _ :: _, [], _, _, h, _, _, _, _, _ => by simp at h
  | p :: kvs, e :: es, acc, ace, h, hd, ho, h1, h2, h3 => by
    simp only [List.map_cons, List.cons.injEq] at h
    rw [List.all_cons, Bool.and_eq_true] at ho
    cases hd with
    | cons hv hd =>
      have e1 : p.1 = e.1 := h.1
      simp only [List.foldl_cons]
      refine fold_den (acc := putK acc p.1 p.2) (ace := putKP ace e.1 e.2) h.2 hd ho.2 ?_ ?_ ?_
      · rw [e1]; exact put_keys h1 e.1 _ _
      · rw [e1]; exact put_vals hv h1 h2
      · exact put_ok (P := fun l : List Key => l.all kOk) h3 ho.1
theorem foldK_len : ∀ {kvs acc : List (List Key × V)}, (kvs.foldl (fun a p => putK a p.1 p.2) acc).length ≤ acc.length + kvs.length
  | [], acc => by simp
  | p :: kvs, acc => by
    rw [List.foldl_cons]
    refine Nat.le_trans foldK_len ?_
    have : (putK acc p.1 p.2).length ≤ acc.length + 1 := by
      unfold putK
      split
      · simp
      · simp
    rw [List.length_cons]; omega
theorem call_dictTD1 (hc : X.calm = true) (hu : X.A.units + 2 < cLine) : CallR X (.type "dict") (rDN X.K (on1 oDictT)) := call1 fun pins s σ H x u Q I rx h => by
  obtain ⟨F, S, n, d, fr, hx, k, ho, hQ⟩ := h
  obtain ⟨es, rfl, hok, hk⟩ := ho
  obtain ⟨a, xs, rfl, ha, hxs⟩ := hx.list_inv
  cases rx
  obtain ⟨ts, prs, kvs, ex, kt, e2, hd, hl, hp⟩ := pairsT_of I fr.sub hxs
  obtain ⟨its, rv, pl, hz⟩ := I.list (SqL.of (fr.sub _ _ ha))
  subst ex
  have ei := refs_at rv
  subst ei
  rw [List.length_map] at hz
  have hlen : (prs.map fun q => ((Value.ref q.2.1, q.2.2) : Value × Value)).length = ts.length := by rw [List.length_map, hl]
  refine PySem.call_dict_pairsH (knd := tupleKind (mixKind X.prog X.w)) (ps := prs) (PairArg.list a (ts.map Value.ref).toArray (fun j => ts.getD j 0) (prs.map fun q => (Value.ref q.2.1, q.2.2))) (I.ok.hd hc) ?_ ⟨?_, ?_⟩ ⟨by rw [hlen, hl], ?_⟩ ?_ (by rw [hlen]; exact hz) fun h' tk hd' hkeep => ?_
  · show X.A.in1.in1.units < cLine
    show X.A.units + 1 + 1 < cLine
    omega
  · obtain ⟨o, m, q1, q2, q3, q4⟩ := pl
    first
      | exact ⟨o, m, q1, q2, q3, q4⟩
      | exact ⟨o, _, q1, q2, q3, q4⟩
      | exact ⟨o, q4, m, q1, q2, q3⟩
      | exact ⟨o, q3, m, q1, q2, q4⟩
  · refine ⟨by rw [hlen]; simp, fun j kk v hj => ?_⟩
    rw [List.getElem?_map] at hj
    cases hq : prs[j]? with
    | none => rw [hq] at hj; cases hj
    | some q =>
      rw [hq] at hj
      cases hj
      obtain ⟨t, h1, h2, _⟩ := hp j q hq
      have hget : ts.getD j 0 = t := by rw [List.getD_eq_getElem?_getD, h1]; rfl
      show (ts.map Value.ref).toArray[j]? = some (Value.ref (ts.getD j 0)) ∧ PairAt s.heap (ts.getD j 0) _ _
      rw [hget]
      exact ⟨by simp [h1], h2⟩
  · intro i key v hr
    have hr : (prs.map fun q => ((Value.ref q.2.1, q.2.2) : Value × Value))[i]? = some (key, v) := hr
    rw [List.getElem?_map] at hr
    cases hq : prs[i]? with
    | none => rw [hq] at hr; cases hr
    | some q =>
      rw [hq] at hr
      cases hr
      exact ⟨q.1, q.2.1, rfl, rfl⟩
  · intro h' hk q hq
    obtain ⟨j, hj⟩ := List.getElem?_of_mem hq
    obtain ⟨t, _, _, o, its, m, h1, h2, h3, h4⟩ := hp j q hj
    exact ⟨o, its, m, hk _ _ (Nat.ne_of_lt (Heap.lt_size h1)) (List.not_mem_nil) h1, h2, h3, h4⟩
  · have hm : (s.heap.objs.size == sysModules) = false := beq_eq_false_iff_ne.mpr (Nat.ne_of_gt I.big)
    obtain ⟨f1, f2, f3⟩ := fold_den (acc := []) (ace := []) e2 hd hok rfl .nil rfl
    have hkt := KT_all kt (acc := []) (acx := []) .nil
    have hll : (kvs.foldl (fun a p => putK a p.1 p.2) []).length ≤ sizeLine := by
      refine Nat.le_trans foldK_len ?_
      have : kvs.length = prs.length := Paired.length kt
      rw [List.length_nil, this, hl]; omega
    have hkp : ∀ b o, s.heap.get? b = some o → h'.get? b = some o := fun b o e => hkeep b o List.not_mem_nil e
    have hok2 : ObjOk X.prog X.w (upd H s.heap.objs.size (.dT (kvs.foldl (fun a p => putK a p.1 p.2) []))) h' s.heap.objs.size (.dT (kvs.foldl (fun a p => putK a p.1 p.2) [])) := by
      refine ⟨hll, hm, storedAllH [] prs, ?_, ?_⟩
      · refine (hkt.keeps fun b ys e => ?_)
        rw [upd_ne, e]
        intro e3
        subst e3
        rw [I.hok.fresh (Nat.le_refl _)] at e; cases e
      · obtain ⟨o, es', ep, g1, g2, g3, g4, _, g5⟩ := hd'
        exact ⟨o, es', ep, g1, g2, g3, g4, g5⟩
    have I2 := I.laid (t' := tk) hkp (Nat.le_refl _) hok2
    obtain ⟨ob, I3⟩ := I2.lock upd_same trivial
    rw [show upd (upd H s.heap.objs.size (.dT (kvs.foldl (fun a p => putK a p.1 p.2) []))) s.heap.objs.size (.frz ob (.dT (kvs.foldl (fun a p => putK a p.1 p.2) []))) = upd H s.heap.objs.size (.frz ob (.dT (kvs.foldl (fun a p => putK a p.1 p.2) []))) from by
      funext b
      by_cases hb : b = s.heap.objs.size
      · subst hb; rw [upd_same, upd_same]
      · rw [upd_ne hb, upd_ne hb, upd_ne hb]] at I3
    exact ⟨.ref s.heap.objs.size, _, I3, rfl, hQ _ hk _ _ (Post.dT fr (I.hok.fresh (Nat.le_refl _)) f1 f2 f3)⟩
end
end DL
namespace DL
open PySem PySem.Spec PyProof.Rows L2
theorem pairs_at {prog : Program} {w : World} {K : Type} [DecidableEq K] {knd : PySem.KeyKind prog w K} : ∀ {es : List DictEntry} {kvs : List (K × Value)}, Pairs knd es kvs → ∀ {j : Nat} {e : DictEntry}, es[j]? = some e → ∃ p, kvs[j]? = some p ∧ knd.is p.1 e.key = true ∧ e.val = p.2
  | _, _, .nil, j, e, h => by simp at h
  | _, _, .cons h1 h2 t, 0, e, h => by
    cases h
    exact ⟨_, rfl, h1, h2⟩
  | _, _, .cons h1 h2 t, j + 1, e, h => pairs_at t (by simpa using h)
theorem KV.flip {kvs : List (Key × V)} {vs : List (Key × Value)} (h : KV kvs vs) : Paired (fun (q : Key × Value) (p : Key × V) => p.1 = q.1 ∧ RelV p.2 q.2) vs kvs := by
  induction h with
  | nil => exact .nil
  | cons h1 _ ih => exact .cons h1 ih
def tItV (te : TE) : TE := fun σ H Q => te σ H fun x H1 => ∃ (a : Addr) (ob : Obj) (kvs : List (Key × V)), x = .ref a ∧ H1 a = some (.frz ob (.dK kvs)) ∧ ∀ p, H1 p = none → Q (.ref p) (upd H1 p (DX.itemsO p a))
section
variable {X : Cx} {pins : List (Addr × Obj)} {σ : L2.St} {H : Hp} {s : Shared} {e : Expr} {te : TE} {apos cpos p pos : Pos} {m : M}
theorem pe_itV (he : PE X e te) (hbase : attributeBase e "items" X.env (eval e X.env) = eval e X.env := by rfl) (hline : (apos.endLine == cpos.line) = true := by rfl) : PE X (.Call (.Attribute e "items" apos) [] [] cpos) (tItV te) := by
  refine ⟨fun pins s σ H Q I h => ?_⟩
  refine wpAny_Call_method (T := "dict") (id := "dict.items") hbase rfl hline F.plainAttrs_dict F.slot_dict_items F.type_dict_items (thn (he.run pins s σ H _ I h) fun u s1 ⟨x, H1, I1, rx, d, o, kvs, ex, hd, q⟩ => ?_)
  subst ex
  obtain rfl : u = Value.ref d := rx
  obtain ⟨hs, hgd, hx, es, ep, vs, hdt, hsz, kv, hm⟩ := I1.frzK hd
  refine ⟨hm.dictOf.typeIs, hm.dictOf.mapOf.noDict, ?_⟩
  have hf : H1 s1.heap.objs.size = none := I1.hok.fresh (Nat.le_refl _)
  have I2 : Inv X pins σ (upd H1 s1.heap.objs.size (DX.itemsO s1.heap.objs.size d)) { s1 with heap := s1.heap.push { cls := .type "dict_items", data := .fields #[.ref d] } } :=
    I1.laid (t' := s1.toks) (fun b u e => Heap.get?_push_of_some _ e) (Nat.le_refl _) (DX.itemsO_ok (Heap.get?_push_size _ rfl))
  show wpAny _ _ (callWith cpos (.builtin "dict.items") [.ref d] [] []) _ X.xe s1
  exact method_meetsIn F.slot_dict_items F.entry_dict_items rfl (PySem.evalArgs_none ⟨rfl, hm.dictOf.typeIs, F.args_dict_items_1 _, _, meets_dict_items (mixKind X.prog X.w) d hs, ⟨vs, hm.dictOf⟩, ⟨.ref s1.heap.objs.size, _, I2, rfl, q _ hf⟩⟩)
def rSortK (X : Cx) : List V → Hp → VK → Prop := fun vs H Q => ∃ (p a : Addr) (ob : Obj) (kvs : List (Key × V)) (fs : List (Key × PyData)) (F : Hp) (S : Strm) (n : Nat), vs = [.ref p] ∧ H p = some (DX.itemsO p a) ∧ H a = some (.frz ob (.dK kvs)) ∧ Fr F S n H ∧
  kvs.map (·.1) = fs.map (·.1) ∧ DenL X.K F S (kvs.map (·.2)) (fs.map (·.2)) ∧ (fs.all fun e => kOk e.1) = true ∧ SortOk (fs.map fun e => .tuple [kP e.1, e.2]) ∧
  ∀ v H', Post X.K F S H v (.list (sortP (fs.map fun e => .tuple [kP e.1, e.2]))) n H' → Q v H'
theorem denL_refs {K : PySem.W.Frag} {F : Hp} {S : Strm} : ∀ {as : List Addr} {ds : List PyData}, as.length = ds.length → (∀ (j : Nat) (a : Addr) (d : PyData), as[j]? = some a → ds[j]? = some d → Den K F S (.ref a) d) → DenL K F S (as.map V.ref) ds
  | [], [], _, _ => .nil
  | [], _ :: _, h, _ => by simp at h
  | _ :: _, [], h, _ => by simp at h
  | a :: as, d :: ds, h, g => .cons (g 0 a d rfl rfl) (denL_refs (by simpa using h) fun j b e h1 h2 => g (j + 1) b e (by simpa using h1) (by simpa using h2))
theorem call_sortK (hc : X.calm = true) (hu : X.A.units + 65 < cLine) : CallR X (.builtin "sorted") (rSortK X) := by
  intro pins s σ H xs us Q I r h
  obtain ⟨p, a, ob, kvs, fs, F, S, n, rfl, hp, ha, fr, hkk, hdv, hko, ok, q⟩ := h
  obtain rfl := Vals.ref1 r
  have view : s.heap.IsItemsView p a := (show ObjOk X.prog X.w H s.heap p (DX.itemsO p a) from I.hok p _ hp).1
  obtain ⟨hs, hgd, hx, es, ep, vs, hdt, hsz, kv, hm⟩ := I.frzK ha
  obtain ⟨hzl, _, _, _, _⟩ := dk_rd I.hok (.inr ⟨_, ha⟩)
  have hh : X.A.handled = none := I.ok.hd hc
  refine Calls.call_function_entry PyProof.Rows.kind_sorted PyProof.Rows.plain_sorted PyProof.Rows.entry_sorted (PyProof.Rows.args_sorted1 _) ?_
  unfold Builtin.«sorted»
  refine wpAny_bind (m := checkCount "sorted" 1 1 _) (wpAny_pure ?_)
  refine wpAny_bind (DT.collectI (A := X.A.in1) (es := es) (ep := ep) hh view ⟨ob, hgd, hx, hdt⟩ (by rw [hsz]; exact hzl) fun h' tk as hk hlt hl hG => ?_)
  have I1 : Inv X pins σ H { s with heap := h', toks := tk } := I.kept (t' := tk) hk
  have nd : as.Nodup := List.Pairwise.imp (fun h => Nat.ne_of_lt h) hG.rise
  have new : ∀ b ∈ as, H b = none := fun b hb => I.hok.fresh (Nat.le_of_lt (hG.above b hb))
  obtain ⟨ot, est, ht1, ht2, ht3, ht4, ht5, ht6⟩ := hm
  have eq : est = es := by
    rw [hgd] at ht1; cases ht1
    rw [hdt] at ht3; cases ht3; rfl
  subst eq
  obtain ⟨H2, I2, gr, qt⟩ := DX.takeT (P := fun b xs => ∃ (j : Nat) (e : Key × V), as[j]? = some b ∧ kvs[j]? = some e ∧ xs = [kV e.1, e.2]) I as H I1 nd fun b hb => by
    obtain ⟨j, hj⟩ := List.mem_iff_getElem?.mp hb
    obtain ⟨en, he, hg⟩ := hG.pairs j b hj
    obtain ⟨pv, hpv, hkey, hval⟩ := pairs_at ht5 (j := j) (e := en) (by rw [Array.getElem?_toList]; exact he)
    obtain ⟨e0, he0, r1, r2⟩ : ∃ e0, kvs[j]? = some e0 ∧ e0.1 = pv.1 ∧ RelV e0.2 pv.2 := by
      obtain ⟨e0, he0, r1, r2⟩ := LiI.paired_get (F := fun (q : Key × Value) (p : Key × V) => p.1 = q.1 ∧ RelV p.2 q.2) (KV.flip kv) hpv
      exact ⟨e0, he0, r1, r2⟩
    refine ⟨Nat.le_of_lt (hG.above b hb), new b hb, [kV e0.1, e0.2], ⟨j, e0, hj, he0, rfl⟩, fun H3 => ⟨(by rw [sizeLine_eq]; show 2 ≤ 16777216; omega), [en.key, en.val], .cons ?_ (.cons (by rw [hval]; exact r2) .nil), ⟨_, hg, rfl, 0, rfl⟩⟩⟩
    rw [r1]
    exact relV_key (show keyIs pv.1 en.key = true from hkey)
  have ext : Ext S n H H2 := by
    refine ⟨fun b o h _ => gr b o h, ?_⟩
    have st := fr.str
    cases S with
    | none => trivial
    | some p =>
      obtain ⟨ne, ns, x, y, z, h1, h2, r⟩ := st
      exact ⟨ne, ns, x, y, z, gr _ _ h1, gr _ _ h2, r⟩
  have fr2 := fr.next ext
  have lk : kvs.length = fs.length := by rw [← List.length_map (f := Prod.fst) (as := kvs), hkk, List.length_map]
  have la : as.length = fs.length := by omega
  refine sortTail (xs := as.map V.ref) (ds := fs.map fun e => .tuple [kP e.1, e.2]) (F := grow F H H2) I2 fr2 (LiI.vals_refs as) (denL_refs (by simp [la]) fun j b d h1 h2 => ?_) ok (by rw [List.length_map]; omega) hu fun zs l s2 dz hl I3 => ⟨_, rfl, .ref l, _, I3, rfl, q _ _ (Post.after fr ext (Post.lst fr2 hl dz))⟩
  obtain ⟨xs, ⟨i, e0, i1, i2, rfl⟩, hH⟩ := qt b (List.mem_of_getElem? h1)
  have eij : i = j := (List.getElem?_inj (List.getElem?_eq_some_iff.mp i1).1 nd).mp (i1.trans h1.symm)
  subst eij
  obtain ⟨k0, v0⟩ := e0
  obtain ⟨d0, e1, hd, ho⟩ := same_get hkk hdv hko i2
  rw [List.getElem?_map, e1] at h2
  cases h2
  exact .tup (fr2.tp _ _ hH) (.cons (key_den ho) (.cons (hd.mono sub_grow) .nil))
def mSortIt (m : M) : M := fun γ n k => m γ n fun d n1 => ∃ es, d = .dict es ∧ keyed es = true ∧ SortOk (es.map fun e => .tuple [e.1, e.2]) ∧ k (.list (sortP (es.map fun e => .tuple [e.1, e.2]))) n1
theorem de_sortIt (hc : X.calm = true) (hu : X.A.units + 65 < cLine) (he : DE X e m) (hg : Gl X "sorted") (hm : X.mg "sorted" = none) (hv : bootBuiltins "sorted" = some (.builtin "sorted")) (hbase : attributeBase e "items" X.env (eval e X.env) = eval e X.env := by rfl) (hline : (apos.endLine == cpos.line) = true := by rfl)
    (hs : starEach [.Call (.Attribute e "items" apos) [] [] cpos] X.env = (false, eval (.Call (.Attribute e "items" apos) [] [] cpos) X.env) :: starEach [] X.env := by rfl) (hpl : (backTo pos (starEach [] X.env)).any (·.1) = false := by rfl) :
    DE X (.Call (.Name "sorted" p) [.Call (.Attribute e "items" apos) [] [] cpos] [] pos) (mSortIt m) := by
  refine PE.weak (pe_callB (call_sortK hc hu) hg hm hv (pa_cons (pe_itV he hbase hline) pa_nil) (by decide) (by decide) hs hpl) fun σ H Q h => ?_
  obtain ⟨F, S, n, γ, ag, k, hmm, hQ⟩ := h
  refine ⟨F, S, n, γ, ag, _, hmm, fun d n1 hk v H1 p1 => ?_⟩
  obtain ⟨es, rfl, hkd, ok, hk⟩ := hk
  obtain ⟨a, ob, kvs, fs, rfl, rfl, h1, h2, h3, hko⟩ := keyed_inv p1.den hkd
  have ag1 := ag.next p1.ext
  refine ⟨a, ob, kvs, rfl, ag1.fr.sub _ _ h1, fun q hq => ?_⟩
  have ext : Ext S n1 H1 (upd H1 q (DX.itemsO q a)) := Ext.new ag1.fr hq
  have fr2 := ag1.fr.next ext
  have haq : a ≠ q := fun z => by
    have := ag1.fr.sub _ _ h1
    rw [z, hq] at this; cases this
  rw [List.map_map] at ok hk
  refine ⟨q, a, ob, kvs, fs, _, S, n1, rfl, upd_same, by rw [upd_ne haq]; exact ag1.fr.sub _ _ h1, fr2, h2, h3.mono sub_grow, hko, ok, fun v H' p2 => hQ _ _ hk _ _ (Post.after ag.fr p1.ext (Post.after ag1.fr ext p2))⟩
end
end DL
namespace DL
open PySem PySem.Spec PyProof.Rows L2
mutual
inductive Shp (H : Hp) : Nat → V → List Addr → Prop
  | str {j : Nat} (z : Str) : Shp H j (.str z) []
  | tup {j : Nat} {t : Addr} {xs : List V} {L : List Addr} : H t = some (.tup xs) → ShpL H j xs L → Shp H (j + 1) (.ref t) L
  | lst {j : Nat} {a : Addr} {xs : List V} {L : List Addr} : H a = some (.lst xs) → xs.length < sizeLine → ShpL H j xs L → a ∉ L → Shp H (j + 1) (.ref a) (a :: L)
inductive ShpL (H : Hp) : Nat → List V → List Addr → Prop
  | nil {j : Nat} : ShpL H j [] []
  | cons {j : Nat} {v : V} {vs : List V} {L M : List Addr} : Shp H j v L → ShpL H j vs M → (∀ b ∈ L, b ∉ M) → ShpL H j (v :: vs) (L ++ M)
end
structure Spd (H H' : Hp) (L : List Addr) : Prop where
  kp : ∀ b o, H b = some o → b ∉ L → H' b = some o
  ls : ∀ b ∈ L, ∃ ys, H' b = some (.lst ys)
theorem Spd.refl (H : Hp) : Spd H H [] := ⟨fun _ _ h _ => h, fun _ h => nomatch h⟩
theorem Spd.trans {H H1 H2 : Hp} {L M : List Addr} (a : Spd H H1 L) (b : Spd H1 H2 M) : Spd H H2 (L ++ M) where
  kp := fun c o h hc => by
    rw [List.mem_append] at hc
    exact b.kp c o (a.kp c o h fun z => hc (.inl z)) fun z => hc (.inr z)
  ls := fun c hc => by
    by_cases hm : c ∈ M
    · exact b.ls c hm
    · rcases List.mem_append.mp hc with h | h
      · obtain ⟨ys, e⟩ := a.ls c h
        exact ⟨ys, b.kp c _ e hm⟩
      · exact absurd h hm
mutual
theorem Shp.mem {H : Hp} : ∀ {j : Nat} {v : V} {L : List Addr}, Shp H j v L → ∀ b ∈ L, ∃ xs, H b = some (.lst xs)
  | _, _, _, .str z, b, h => nomatch h
  | _, _, _, .tup h1 h2, b, h => ShpL.mem h2 b h
  | _, _, _, .lst h1 _ h2 _, b, h => by
    rcases List.mem_cons.mp h with rfl | h
    · exact ⟨_, h1⟩
    · exact ShpL.mem h2 b h
theorem ShpL.mem {H : Hp} : ∀ {j : Nat} {vs : List V} {L : List Addr}, ShpL H j vs L → ∀ b ∈ L, ∃ xs, H b = some (.lst xs)
  | _, _, _, .nil, b, h => nomatch h
  | _, _, _, .cons h1 h2 _, b, h => by
    rcases List.mem_append.mp h with h | h
    · exact Shp.mem h1 b h
    · exact ShpL.mem h2 b h
end
mutual
theorem Shp.keep {H H' : Hp} {X : List Addr} (kp : ∀ b o, H b = some o → b ∉ X → H' b = some o) (hX : ∀ b ∈ X, ∃ xs, H b = some (.lst xs)) : ∀ {j : Nat} {v : V} {L : List Addr}, Shp H j v L → (∀ b ∈ L, b ∉ X) → Shp H' j v L
  | _, _, _, .str z, _ => .str z
  | _, _, _, .tup h1 h2, h => .tup (kp _ _ h1 fun z => by obtain ⟨xs, e⟩ := hX _ z; rw [h1] at e; cases e) (ShpL.keep kp hX h2 h)
  | _, _, _, .lst h1 h3 h2 h4, h => .lst (kp _ _ h1 (h _ List.mem_cons_self)) h3 (ShpL.keep kp hX h2 fun b hb => h b (List.mem_cons_of_mem _ hb)) h4
theorem ShpL.keep {H H' : Hp} {X : List Addr} (kp : ∀ b o, H b = some o → b ∉ X → H' b = some o) (hX : ∀ b ∈ X, ∃ xs, H b = some (.lst xs)) : ∀ {j : Nat} {vs : List V} {L : List Addr}, ShpL H j vs L → (∀ b ∈ L, b ∉ X) → ShpL H' j vs L
  | _, _, _, .nil, _ => .nil
  | _, _, _, .cons h1 h2 h3, h => .cons (Shp.keep kp hX h1 fun b hb => h b (List.mem_append_left _ hb)) (ShpL.keep kp hX h2 fun b hb => h b (List.mem_append_right _ hb)) h3
end
def spSpo (j : Nat) : Sp := fun vs H Q _ => ∃ v L, vs = [v] ∧ Shp H j v L ∧ ∀ H', Spd H H' L → Q .non H'
structure CalR (P : Program) (w : World) (K : PySem.W.Frag) (mg : Str → Option Value) (base : Heap) (k : Nat) (x : Str) (sp : Sp) : Prop where
  ex : ∃ (f : Addr) (fd : FuncData) (ps : List Str), FnOk P w K mg base CX0 k f fd ps sp ∧ mg x = some (.ref f) ∧ PySem.W.keepIn K (.ref f) = true ∧ Binds K fd ps []
section
variable {X : Cx} {k j : Nat} {x : Str} {sp : Sp} {p pos : Pos} {e : Expr} {es : List Expr} {t : TA}
theorem pe_callR (c : CalR X.prog X.w X.K X.mg X.base k x sp) (hr : Room j X.A) (hk : k ≤ j) (hg : Gl X x) (ha : PA X (e :: es) t)
    (hdb : (x == ("__debug__" : Str)) = false := by decide) (he : starEach (e :: es) X.env = (false, eval e X.env) :: starEach es X.env := by rfl) (hpl : (backTo pos (starEach es X.env)).any (·.1) = false := by rfl) :
    PE X (.Call (.Name x p) (e :: es) [] pos) (tCall sp [] E0 t) := by
  obtain ⟨f, fd, ps, F, hm, kp, b⟩ := c.ex
  exact pe_call F (hr.mono hk) hg hm kp b .nil pass0 ha hdb he hpl
end
structure Spi (j : Nat) (xs : List V) (L : List Addr) (H : Hp) (i : Nat) (H' : Hp) : Prop where
  ex : ∃ M N, Spd H H' M ∧ ShpL H' j (xs.drop i) N ∧ (∀ b ∈ M, b ∈ L ∧ b ∉ N) ∧ (∀ b ∈ N, b ∈ L) ∧ ∀ b ∈ L, b ∈ M ∨ b ∈ N
theorem Spi.start {j : Nat} {xs : List V} {L : List Addr} {H : Hp} (h : ShpL H j xs L) : Spi j xs L H 0 H := ⟨[], L, Spd.refl H, h, (fun _ h => nomatch h), fun _ h => h, fun _ h => .inr h⟩
theorem Spi.kept {j : Nat} {xs : List V} {L : List Addr} {H H' : Hp} {i : Nat} (h : Spi j xs L H i H') {b : Addr} {o : HO} (e : H b = some o) (hb : b ∉ L) : H' b = some o := by
  obtain ⟨M, N, s, _, m, _, _⟩ := h.ex
  exact s.kp b o e fun z => hb (m b z).1
theorem Spi.step {j : Nat} {xs : List V} {L : List Addr} {H H' : Hp} {i : Nat} {x : V} (h : Spi j xs L H i H') (hx : xs[i]? = some x) : ∃ L1, Shp H' j x L1 ∧ ∀ H2, Spd H' H2 L1 → Spi j xs L H (i + 1) H2 := by
  obtain ⟨M, N, s, sh, m1, m2, m3⟩ := h.ex
  obtain ⟨hi, e⟩ := List.getElem?_eq_some_iff.mp hx
  rw [List.drop_eq_getElem_cons hi, e] at sh
  cases sh with
  | @cons _ _ _ L1 N1 h1 h2 h3 =>
    refine ⟨L1, h1, fun H2 s2 => ⟨M ++ L1, N1, s.trans s2, ShpL.keep s2.kp (fun b hb => h1.mem b hb) h2 (fun b hb hb1 => h3 b hb1 hb), fun b hb => ?_, fun b hb => m2 b (List.mem_append_right _ hb), fun b hb => ?_⟩⟩
    · rcases List.mem_append.mp hb with hb | hb
      · exact ⟨(m1 b hb).1, fun z => (m1 b hb).2 (List.mem_append_right _ z)⟩
      · exact ⟨m2 b (List.mem_append_left _ hb), h3 b hb⟩
    · rcases m3 b hb with h | h
      · exact .inl (List.mem_append_left _ h)
      · rcases List.mem_append.mp h with h | h
        · exact .inl (List.mem_append_right _ h)
        · exact .inr h
theorem Spi.fin {j : Nat} {xs : List V} {L : List Addr} {H H' : Hp} (h : Spi j xs L H xs.length H') : Spd H H' L := by
  obtain ⟨M, N, s, sh, m1, m2, m3⟩ := h.ex
  rw [List.drop_length] at sh
  cases sh
  refine ⟨fun b o e hb => s.kp b o e fun z => hb (m1 b z).1, fun b hb => ?_⟩
  rcases m3 b hb with h | h
  · exact s.ls b h
  · cases h
end DL
namespace DL
open PySem PySem.Spec PyProof.Rows L2
def gFld (K : PySem.W.Frag) (ta : TE) (f : Str) : TG := fun v σ H Q => ta σ H fun x H2 => ∃ a C dx fs, x = .ref a ∧ H2 a = some (.ins C dx fs) ∧ Cls K C ∧ NoAttr K C f ∧ fs.length < 1000 ∧ Q σ (upd H2 a (.ins C dx (putF f v fs)))
theorem pg_fld {X : Cx} {o : Expr} {ta : TE} {f : Str} {pos : Pos} (ha : PE X o ta) : PG X (.Attribute o f pos) (gFld X.K ta f) := by
  refine ⟨fun pins s σ H v u Q I r h => ?_⟩
  show wpAny _ _ (do
    let ov ← holding [u] (eval o X.env)
    standAt pos.atName
    holding [u, ov] (setAttr ov f u)
    release [u, ov] []) _ _ _
  refine wpAny_bind (wpAny_holding (thn (ha.run pins s σ H _ I h) fun ov s1 ⟨x, H1, I1, r1, a, C, dx, fs, ex, ea, c, n, l, q⟩ => ?_))
  subst ex
  obtain rfl : ov = Value.ref a := r1
  refine wpAny_bind (wpAny_standAt (wpAny_bind (wpAny_holding (setattr_ok I1 ea c n l r fun s2 I2 => ?_))))
  exact wpAny_release ⟨σ, _, I2, q⟩
theorem pss_lockEnd {X : Cx} {body : List Stmt} {t : TS} (h : PSs X body t) : PSs X body fun D σ H => t { D with nx := fun σ' H' => ∃ d u, H' d = some u ∧ Mut (some u) ∧ ∀ od, D.nx σ' (upd H' d (.frz od u)) } σ H := by
  refine ⟨fun pins s σ H D I hw => ?_⟩
  refine thn (h.run pins s σ _ _ I hw) fun f s1 q => ?_
  cases f with
  | next =>
    obtain ⟨σ', H', I2, d, u, hd, mu, q⟩ := q
    obtain ⟨od, I3⟩ := I2.lock hd mu
    exact ⟨σ', _, I3, q od⟩
  | brk => exact q
  | cont => exact q
  | ret v => exact q
mutual
theorem Den.only {K : PySem.W.Frag} {F F' : Hp} {S : Strm} (h : ∀ a o, F a = some o → ((∃ xs, o = .lst xs) ∨ ∃ xs, o = .tup xs) → F' a = some o) : ∀ {v : V} {d : PyData}, Den K F S v d → nd d = true → Den K F' S v d
  | _, _, .non, _ => .non
  | _, _, .bl b, _ => .bl b
  | _, _, .int i, _ => .int i
  | _, _, .str x hx, _ => .str x hx
  | _, _, .lst h1 h2, hn => .lst (h _ _ h1 (.inl ⟨_, rfl⟩)) (DenL.only h h2 hn)
  | _, _, .tup h1 h2, hn => .tup (h _ _ h1 (.inr ⟨_, rfl⟩)) (DenL.only h h2 hn)
  | _, _, .dK _ _ _ _, hn => Bool.noConfusion (show false = true from hn)
  | _, _, .dT _ _ _ _, hn => Bool.noConfusion (show false = true from hn)
  | _, _, .ins _ _ _, hn => Bool.noConfusion (show false = true from hn)
  | _, _, .par _ _ _ _, hn => Bool.noConfusion (show false = true from hn)
  | _, _, .strm _, hn => Bool.noConfusion (show false = true from hn)
theorem DenL.only {K : PySem.W.Frag} {F F' : Hp} {S : Strm} (h : ∀ a o, F a = some o → ((∃ xs, o = .lst xs) ∨ ∃ xs, o = .tup xs) → F' a = some o) : ∀ {vs : List V} {ds : List PyData}, DenL K F S vs ds → ndL ds = true → DenL K F' S vs ds
  | _, _, .nil, _ => .nil
  | _, _, .cons h1 h2, hn => .cons (Den.only h h1 (Bool.and_eq_true_iff.mp hn).1) (DenL.only h h2 (Bool.and_eq_true_iff.mp hn).2)
end
def exs (X : List Addr) (F : Hp) : Hp := fun b => if b ∈ X then none else F b
theorem exs_sub {X : List Addr} {F : Hp} : Sub (exs X F) F := fun b o h => by
  unfold exs at h
  split at h
  · cases h
  · exact h
theorem sub_exs {X : List Addr} {F G : Hp} (s : Sub F G) (h : ∀ a ∈ X, F a = none) : Sub F (exs X G) := fun b o q => by
  unfold exs
  rw [if_neg fun hb => by rw [h b hb] at q; cases q]
  exact s b o q
theorem exs_none {X : List Addr} {F : Hp} {a : Addr} (h : a ∈ X) : exs X F a = none := by unfold exs; rw [if_pos h]
section
variable {K : PySem.W.Frag} {F : Hp} {S : Strm} {n : Nat} {H H' : Hp} {γ : G} {σ : L2.St}
theorem AgS.begin (fr : Fr F S n H) (e : Ext S n H H') (X : List Addr) (hX : ∀ a ∈ X, H a = none) (hX2 : ∀ a ∈ X, ∀ xs, H' a ≠ some (.tup xs))
    (val : ∀ (i : Nat) (d : PyData), γ[i]? = some (.val d) → ∃ v, σ[i]? = some (some v) ∧ Den K F S v d)
    (own : ∀ (i : Nat) (T : Bool) (d : PyData), γ[i]? = some (.own T d) → ∃ a, σ[i]? = some (some (.ref a)) ∧ a ∈ X ∧ OwnAt K (exs X (grow F H H')) S H' a T d)
    (dis : ∀ (i j : Nat) (T U : Bool) (d e : PyData) (a : Addr), γ[i]? = some (.own T d) → γ[j]? = some (.own U e) → i ≠ j → σ[i]? = some (some (.ref a)) → σ[j]? ≠ some (some (.ref a)))
    (len : γ.length = σ.length) : AgS K H F (exs X (grow F H H')) S n H' γ σ where
  f0 := fr.sub
  n0 := fr.nos
  s0 := fun b hs => let ⟨xs, h⟩ := fr.str.some hs; ⟨_, h⟩
  fr := by
    have f1 := fr.next e
    refine ⟨exs_sub.trans f1.sub, fun b hs => ?_, f1.str, fun b xs h => ?_⟩
    · unfold exs
      split
      · rfl
      · exact f1.nos b hs
    · unfold exs
      rw [if_neg fun hb => hX2 b hb xs h]
      exact f1.tp b xs h
  kp := e.kp
  inn := exs_sub
  val := fun i d h => by
    obtain ⟨v, h1, h2⟩ := val i d h
    refine ⟨v, h1, h2.mono (sub_exs sub_grow fun a ha => ?_)⟩
    cases q : F a with
    | none => rfl
    | some u => have := fr.sub a u q; rw [hX a ha] at this; cases this
  own := fun i T d h => by
    obtain ⟨a, h1, h2, h3⟩ := own i T d h
    exact ⟨a, h1, hX a h2, exs_none h2, (fun hs => by obtain ⟨xs, z⟩ := fr.str.some hs; rw [hX a h2] at z; cases z), h3⟩
  dis := dis
  len := len
theorem AgE.pre {φ : G} {τ : L2.St} (a : AgE K F S n H (pl (γ ++ φ)) (σ ++ τ)) (hl : γ.length = σ.length) : AgE K F S n H (pl γ) σ := by
  refine ⟨a.fr, fun i d h => ?_, by simpa using hl⟩
  have hi : i < γ.length := by
    have := (List.getElem?_eq_some_iff.mp h).1
    simpa using this
  have h2 : (pl (γ ++ φ))[i]? = some (some d) := by
    unfold pl at h ⊢
    rw [List.map_append, List.getElem?_append_left (by simpa using hi)]
    exact h
  obtain ⟨v, h3, h4⟩ := a.slot i d h2
  rw [List.getElem?_append_left (by omega)] at h3
  exact ⟨v, h3, h4⟩
theorem AssD.app {τ : L2.St} : ∀ {ps : List (Nat × PyData)} {σ σ' : L2.St}, AssD K F S ps σ σ' → (∀ p ∈ ps, p.1 < σ.length) → AssD K F S ps (σ ++ τ) (σ' ++ τ)
  | [], _, _, .nil, _ => .nil
  | (i, d) :: r, σ, σ', .cons (v := v) h1 h2, hb => by
    refine .cons h1 ?_
    have hi := hb _ (List.mem_cons_self ..)
    rw [List.set_append_left _ _ hi]
    exact AssD.app h2 fun p hp => by rw [List.length_set]; exact hb p (List.mem_cons_of_mem _ hp)
theorem setG_app {φ : G} : ∀ (ps : List (Nat × PyData)) (γ : G), (∀ p ∈ ps, p.1 < γ.length) → setG (γ ++ φ) ps = setG γ ps ++ φ
  | [], _, _ => rfl
  | p :: r, γ, hb => by
    show setG ((γ ++ φ).set p.1 (.val p.2)) r = setG (γ.set p.1 (.val p.2)) r ++ φ
    rw [List.set_append_left _ _ (hb p (List.mem_cons_self ..))]
    exact setG_app r _ fun q hq => by rw [List.length_set]; exact hb q (List.mem_cons_of_mem _ hq)
theorem AgS.sets {F0 H0 : Hp} {φ : G} {τ : L2.St} {i : Nat} {v : V} {d : PyData} (a : AgS K H0 F0 F S n H (γ ++ φ) (σ ++ τ)) (hl : γ.length = σ.length) (hi : i < σ.length) (hv : Den K F S v d) : AgS K H0 F0 F S n H (γ.set i (.val d) ++ φ) (σ.set i (some v) ++ τ) := by
  have := a.setVal (i := i) hv a.len
  rw [List.set_append_left _ _ (by omega), List.set_append_left _ _ hi] at this
  exact this
theorem Ext.over {n' : Nat} {a : Addr} {o : HO} (fr : Fr F S n H) (e : Ext S n' H H') (ha : H a = none) : Ext S n' H (upd H' a o) := by
  have ne : ∀ b u, H b = some u → b ≠ a := fun b u h z => by rw [z, ha] at h; cases h
  refine ⟨fun b u h hs => by rw [upd_ne (ne b u h)]; exact e.kp b u h hs, ?_⟩
  have key : ∀ b, inS S b → upd H' a o b = H' b := fun b hs => by
    obtain ⟨xs, h⟩ := fr.str.some hs
    exact upd_ne (ne b _ h)
  have h := e.str
  cases S with
  | none => trivial
  | some p =>
    obtain ⟨h1, ns, x, y, z, h2, h3, h4⟩ := h
    exact ⟨h1, ns, x, y, z, by rw [key _ (.inl rfl)]; exact h2, by rw [key _ (.inr rfl)]; exact h3, h4⟩
theorem str_over {a : Addr} {o : HO} (h : StrOk S n H) (ha : ¬ inS S a) : StrOk S n (upd H a o) := by
  have key : ∀ b, inS S b → upd H a o b = H b := fun b hs => upd_ne fun z => ha (z ▸ hs)
  cases S with
  | none => trivial
  | some p =>
    obtain ⟨h1, ns, x, y, z, h2, h3, h4⟩ := h
    exact ⟨h1, ns, x, y, z, by rw [key _ (.inl rfl)]; exact h2, by rw [key _ (.inr rfl)]; exact h3, h4⟩
theorem Fr.notS {a : Addr} (fr : Fr F S n H) (ha : H a = Option.none) : ¬ inS S a := fun hs => by
  obtain ⟨xs, z⟩ := fr.str.some hs
  rw [ha] at z; cases z
theorem Fr.wide (fr : Fr F S n H) (e : Ext S n H H') (hnt : ∀ b xs, H b = Option.none → H' b ≠ some (.tup xs)) : Fr F S n H' := by
  refine ⟨fun b o h => e.kp b o (fr.sub b o h) (fun hs => by rw [fr.nos b hs] at h; cases h), fr.nos, e.str, fun b xs h => ?_⟩
  cases q : H b with
  | none => exact absurd h (hnt b xs q)
  | some u =>
    by_cases hs : inS S b
    · obtain ⟨ys, z⟩ := e.str.some hs
      rw [h] at z; cases z
    · have := e.kp b u q hs
      rw [h] at this; cases this
      exact fr.tp b xs q
theorem Fr.put {x : Addr} {o : HO} (fr : Fr F S n H) (hx : ¬ inS S x) (h1 : ∀ xs, o ≠ .tup xs) : Fr (upd F x o) S n (upd H x o) := by
  refine ⟨fun b u h => ?_, fun b hs => ?_, str_over fr.str hx, fun b xs h => ?_⟩
  · by_cases hb : b = x
    · subst hb; rw [upd_same] at h ⊢; exact h
    · rw [upd_ne hb] at h ⊢; exact fr.sub b u h
  · rw [upd_ne fun (e : b = x) => hx (e ▸ hs)]; exact fr.nos b hs
  · by_cases hb : b = x
    · subst hb; rw [upd_same] at h; cases h; exact absurd rfl (h1 xs)
    · rw [upd_ne hb] at h ⊢; exact fr.tp b xs h
theorem Den.atPut {x : Addr} {o : HO} {v : V} {d : PyData} (h : Den K F S v d) (hn : nd d = true) (h1 : ∀ xs, F x ≠ some (.lst xs)) (h2 : ∀ xs, F x ≠ some (.tup xs)) : Den K (upd F x o) S v d :=
  Den.only (fun a u ha hu => by
    rw [upd_ne]
    · exact ha
    · rintro rfl
      rcases hu with ⟨xs, rfl⟩ | ⟨xs, rfl⟩
      · exact h1 xs ha
      · exact h2 xs ha) h hn
theorem AgS.base (fr : Fr F S n H) (val : ∀ (i : Nat) (d : PyData), γ[i]? = some (.val d) → ∃ v, σ[i]? = some (some v) ∧ Den K F S v d) (own : ∀ (i : Nat) (T : Bool) (d : PyData), γ[i]? ≠ some (.own T d)) (len : γ.length = σ.length) : AgS K H F F S n H γ σ where
  f0 := fr.sub
  n0 := fr.nos
  s0 := fun b hs => let ⟨xs, h⟩ := fr.str.some hs; ⟨_, h⟩
  fr := fr
  kp := Kp.refl _ _
  inn := sub_grow
  val := val
  own := fun i T d h => absurd h (own i T d)
  dis := fun i j T U d e a h => absurd h (own i T d)
  len := len
theorem Fr.mine {a : Addr} {o : HO} (fr : Fr F S n H) (hF : F a = Option.none) (ha : ¬ inS S a) (h1 : ∀ xs, o ≠ .tup xs) : Fr F S n (upd H a o) := by
  refine ⟨fun b u h => ?_, fr.nos, str_over fr.str ha, fun b xs h => ?_⟩
  · rw [upd_ne (fun (e : b = a) => by rw [e, hF] at h; cases h)]; exact fr.sub b u h
  · by_cases hb : b = a
    · subst hb; rw [upd_same] at h; cases h; exact absurd rfl (h1 xs)
    · rw [upd_ne hb] at h; exact fr.tp b xs h
abbrev laK (la : List (Str × Addr)) : List (Key × V) := la.map fun p => (Sum.inr p.1, V.ref p.2)
theorem valV_la : ∀ {la : List (Str × Addr)} {a : Str} {l : Addr}, (la.map (·.1)).Nodup → (a, l) ∈ la → valV (laK la) (Sum.inr a) = some (.ref l)
  | [], _, _, _, h => absurd h List.not_mem_nil
  | p :: la, a, l, nd, h => by
    rw [List.map_cons, List.nodup_cons] at nd
    unfold valV laK
    rw [List.map_cons, List.find?_cons]
    rcases List.mem_cons.mp h with h | h
    · subst h
      simp
    · have hne : p.1 ≠ a := fun e => nd.1 (by rw [e]; exact List.mem_map.mpr ⟨_, h, rfl⟩)
      have : decide ((Sum.inr p.1 : Key) = Sum.inr a) = false := by simp [hne]
      rw [this]
      exact valV_la nd.2 h
theorem putK_la {la : List (Str × Addr)} {r : Str} {l : Addr} (h : r ∉ la.map (·.1)) : putK (laK la) (Sum.inr r) (.ref l) = laK (la ++ [(r, l)]) := by
  unfold putK
  rw [if_neg]
  · simp [laK]
  · unfold laK
    rw [List.any_map]
    intro e
    obtain ⟨p, hp, e⟩ := List.any_eq_true.mp e
    have : p.1 = r := by simpa using e
    exact h (List.mem_map.mpr ⟨p, hp, this⟩)
theorem grow_old {b : Addr} {o : HO} (h1 : F b = Option.none) (h2 : H b = some o) : grow F H H' b = Option.none := by
  unfold grow; rw [h1, h2]
theorem Ext.none0 {n' : Nat} (fr : Fr F S n H) (e : Ext S n' H H') {a : Addr} (h : H' a = Option.none) : H a = Option.none := by
  cases q : H a with
  | none => rfl
  | some u => obtain ⟨o, z⟩ := e.there fr.str q; rw [h] at z; cases z
def Prov (x : Addr) (F0 H0 F H : Hp) : Prop := ∀ a o, F a = some o → a ≠ x → F0 a = some o ∨ (H0 a = Option.none ∧ H a = some o)
theorem Prov.next {x : Addr} {F0 H0 : Hp} {n0 n' : Nat} (p : Prov x F0 H0 F H) (fr0 : Fr F0 S n0 H0) (fr : Fr F S n H) (e0 : Ext S n H0 H) (e : Ext S n' H H') : Prov x F0 H0 (grow F H H') H' := fun a o h hx => by
  rcases grow_cases h with h | ⟨_, h2, h3⟩
  · rcases p a o h hx with h | ⟨h1, h2⟩
    · exact .inl h
    · refine .inr ⟨h1, e.kp a o h2 fun hs => ?_⟩
      rw [fr.nos a hs] at h; cases h
  · exact .inr ⟨e0.none0 fr0 h2, h3⟩
theorem Prov.put {x : Addr} {F0 H0 : Hp} {o : HO} (p : Prov x F0 H0 F H) : Prov x F0 H0 (upd F x o) (upd H x o) := fun a u h hx => by
  rw [upd_ne hx] at h ⊢; exact p a u h hx
theorem Prov.ofInn {x : Addr} {F0 H0 F1 H1 : Hp} {n0 n1 : Nat} (p : Prov x F0 H0 F1 H1) (fr0 : Fr F0 S n0 H0) (fr1 : Fr F1 S n1 H1) (e0 : Ext S n1 H0 H1) (i : Sub F (grow F1 H1 H)) (kp : Kp S H1 H) : Prov x F0 H0 F H := fun a o h hx => by
  rcases grow_cases (i a o h) with h | ⟨_, h2, h3⟩
  · rcases p a o h hx with h | ⟨h1, h2⟩
    · exact .inl h
    · refine .inr ⟨h1, kp a o h2 fun hs => ?_⟩
      rw [fr1.nos a hs] at h; cases h
  · exact .inr ⟨e0.none0 fr0 h2, h3⟩
theorem Prov.grow {x : Addr} {F0 H0 : Hp} (p : Prov x F0 H0 F H) {n0 : Nat} (fr0 : Fr F0 S n0 H0) {a : Addr} {o : HO} (h : F a = some o) (hx : a ≠ x) : grow F0 H0 H a = some o := by
  rcases p a o h hx with h | ⟨h1, h2⟩
  · exact sub_grow a o h
  · exact grow_new (fr0.none h1) h1 h2
end
end DL
namespace DL
open PySem PySem.Spec PyProof.Rows L2
structure Free (H0 F : Hp) (S : Strm) (γ : G) (σ : L2.St) (a : Addr) : Prop where
  h0 : H0 a = none
  f : F a = none
  s : ¬ inS S a
  no : ∀ (i : Nat) (T : Bool) (d : PyData), γ[i]? = some (.own T d) → σ[i]? ≠ some (some (.ref a))
section
variable {K : PySem.W.Frag} {H0 F0 F : Hp} {S : Strm} {n n' : Nat} {H H' : Hp} {γ : G} {σ : L2.St}
theorem sub_spd {L : List Addr} (fr : ∀ b ∈ L, F b = none) : Sub F (exs L (grow F H H')) := sub_exs sub_grow fr
theorem AgS.spd {L : List Addr} (ag : AgS K H0 F0 F S n H γ σ) (sd : Spd H H' L) (fr : ∀ b ∈ L, Free H0 F S γ σ b) : AgS K H0 F0 (exs L (grow F H H')) S n H' γ σ := by
  have sF : Sub F (exs L (grow F H H')) := sub_spd fun b hb => (fr b hb).f
  have F0n : ∀ b, H0 b = none → F0 b = none := fun b h => by
    cases q : F0 b with
    | none => rfl
    | some u => have := ag.f0 b u q; rw [h] at this; cases this
  have H0n : ∀ b, H b = none → H0 b = none := fun b h => by
    cases q : H0 b with
    | none => rfl
    | some u =>
      by_cases hs : inS S b
      · obtain ⟨xs, z⟩ := ag.fr.str.some hs
        rw [h] at z; cases z
      · have := ag.kp b u q hs
        rw [h] at this; cases this
  have str : StrOk S n H' := by
    have st := ag.fr.str
    cases S with
    | none => trivial
    | some p =>
      obtain ⟨ne, ns, x, y, z, h1, h2, r⟩ := st
      exact ⟨ne, ns, x, y, z, sd.kp _ _ h1 fun h => (fr _ h).s (.inl rfl), sd.kp _ _ h2 fun h => (fr _ h).s (.inr rfl), r⟩
  have cs : ∀ b o, exs L (grow F H H') b = some o → b ∉ L ∧ (F b = some o ∨ (F b = none ∧ H b = none ∧ H' b = some o)) := fun b o h => by
    unfold exs at h
    split at h
    · cases h
    · rename_i hb
      exact ⟨hb, grow_cases h⟩
  refine ⟨ag.f0, ag.n0, ag.s0, ⟨fun b o h => ?_, fun b hs => ?_, str, fun b xs h => ?_⟩, fun b o h hs => ?_, fun b o h => ?_, fun i d h => ?_, fun i T d h => ?_, ag.dis, ag.len⟩
  · obtain ⟨hb, h | ⟨_, _, h⟩⟩ := cs b o h
    · exact sd.kp b o (ag.fr.sub b o h) hb
    · exact h
  · cases q : exs L (grow F H H') b with
    | none => rfl
    | some o =>
      obtain ⟨xs, z⟩ := ag.fr.str.some hs
      obtain ⟨_, h | ⟨_, h, _⟩⟩ := cs b o q
      · rw [ag.fr.nos b hs] at h; cases h
      · rw [z] at h; cases h
  · have hb : b ∉ L := fun hb => by obtain ⟨ys, z⟩ := sd.ls b hb; rw [h] at z; cases z
    unfold exs
    rw [if_neg hb]
    cases q : H b with
    | none =>
      refine grow_new ?_ q h
      cases q2 : F b with
      | none => rfl
      | some u => have := ag.fr.sub b u q2; rw [q] at this; cases this
    | some u =>
      have := sd.kp b u q hb
      rw [h] at this
      cases this
      exact sub_grow b _ (ag.fr.tp b xs q)
  · have hb : b ∉ L := fun hb => by rw [(fr b hb).h0] at h; cases h
    exact sd.kp b o (ag.kp b o h hs) hb
  · obtain ⟨hb, h | ⟨_, h1, h2⟩⟩ := cs b o h
    · rcases grow_cases (ag.inn b o h) with h | ⟨h1, h2, h3⟩
      · exact sub_grow b o h
      · exact grow_new h1 h2 (sd.kp b o h3 hb)
    · exact grow_new (F0n b (H0n b h1)) (H0n b h1) h2
  · obtain ⟨v, h1, h2⟩ := ag.val i d h
    exact ⟨v, h1, h2.mono sF⟩
  · obtain ⟨a, h1, h2, h3, h4, h5⟩ := ag.own i T d h
    have hb : a ∉ L := fun hb => (fr a hb).no i T d h h1
    obtain ⟨o, ho⟩ := h5.there
    refine ⟨a, h1, h2, ?_, h4, h5.mono sF ((sd.kp a o ho hb).trans ho.symm)⟩
    unfold exs
    rw [if_neg hb]
    unfold grow
    rw [h3, ho]
theorem AgS.putF (ag : AgS K H0 F0 F S n H γ σ) {x : Addr} {xs : List V} (fr : Free H0 F S γ σ x) (hx : H x = some (.lst xs)) : AgS K H0 F0 (upd F x (.lst xs)) S n H γ σ := by
  have sF : Sub F (upd F x (.lst xs)) := fun b o h => by rw [upd_ne (fun z => by rw [z, fr.f] at h; cases h)]; exact h
  have f1 : Fr (upd F x (.lst xs)) S n H := by
    have := ag.fr.put (o := .lst xs) fr.s (fun _ e => by cases e)
    rwa [upd_self hx] at this
  refine ⟨ag.f0, ag.n0, ag.s0, f1, ag.kp, fun b o h => ?_, fun i d h => ?_, fun i T d h => ?_, ag.dis, ag.len⟩
  · by_cases hb : b = x
    · subst hb
      rw [upd_same] at h
      cases h
      refine grow_new ?_ fr.h0 hx
      cases q : F0 b with
      | none => rfl
      | some u => have := ag.f0 b u q; rw [fr.h0] at this; cases this
    · rw [upd_ne hb] at h
      exact ag.inn b o h
  · obtain ⟨v, h1, h2⟩ := ag.val i d h
    exact ⟨v, h1, h2.mono sF⟩
  · obtain ⟨a, h1, h2, h3, h4, h5⟩ := ag.own i T d h
    refine ⟨a, h1, h2, ?_, h4, h5.mono sF rfl⟩
    rw [upd_ne (fun z => fr.no i T d h (by rw [h1, z]))]
    exact h3
theorem Free.other {x y : Addr} {o : HO} (fr : Free H0 F S γ σ x) (ne : x ≠ y) : Free H0 (upd F y o) S γ σ x := ⟨fr.h0, by rw [upd_ne ne]; exact fr.f, fr.s, fr.no⟩
theorem Free.spd {x : Addr} {L : List Addr} (fr : Free H0 F S γ σ x) (hx : ∃ o, H x = some o) : Free H0 (exs L (grow F H H')) S γ σ x := by
  refine ⟨fr.h0, ?_, fr.s, fr.no⟩
  obtain ⟨o, ho⟩ := hx
  unfold exs
  split
  · rfl
  · unfold grow; rw [fr.f, ho]
theorem Free.next {x : Addr} (fr : Free H0 F S γ σ x) (hx : ∃ o, H x = some o) : Free H0 (grow F H H') S γ σ x := by
  refine ⟨fr.h0, ?_, fr.s, fr.no⟩
  obtain ⟨o, ho⟩ := hx
  unfold grow; rw [fr.f, ho]
theorem Free.exc {x y : Addr} (fr : Free H0 (grow F H H') S γ σ x) : Free H0 (exc y (grow F H H')) S γ σ x := by
  refine ⟨fr.h0, ?_, fr.s, fr.no⟩
  unfold DL.exc
  split
  · rfl
  · exact fr.f
theorem AgS.setNo (ag : AgS K H0 F0 F S n H γ σ) (i : Nat) (v : V) : AgS K H0 F0 F S n H (γ.set i .no) (σ.set i (some v)) := by
  have key : ∀ {j : Nat} {s : Sl}, (γ.set i .no)[j]? = some s → s ≠ .no → γ[j]? = some s ∧ (σ.set i (some v))[j]? = σ[j]? := fun {j s} h hs => by
    by_cases hj : i = j
    · subst hj
      have hi := (List.getElem?_eq_some_iff.mp h).1
      rw [List.length_set] at hi
      rw [List.getElem?_set_self hi] at h
      exact absurd (Option.some.inj h).symm hs
    · rw [List.getElem?_set_ne hj] at h
      rw [List.getElem?_set_ne hj]
      exact ⟨h, rfl⟩
  refine ⟨ag.f0, ag.n0, ag.s0, ag.fr, ag.kp, ag.inn, fun j d h => ?_, fun j T d h => ?_, fun j k T U d e a h1 h2 hne h3 => ?_, by rw [List.length_set, List.length_set]; exact ag.len⟩
  · obtain ⟨h1, h2⟩ := key h (by simp)
    rw [h2]; exact ag.val j d h1
  · obtain ⟨h1, h2⟩ := key h (by simp)
    rw [h2]; exact ag.own j T d h1
  · obtain ⟨q1, q2⟩ := key h1 (by simp)
    obtain ⟨q3, q4⟩ := key h2 (by simp)
    rw [q2] at h3
    rw [q4]
    exact ag.dis j k T U d e a q1 q3 hne h3
theorem Free.setNo {x : Addr} (fr : Free H0 F S γ σ x) (i : Nat) (v : V) : Free H0 F S (γ.set i .no) (σ.set i (some v)) x := by
  refine ⟨fr.h0, fr.f, fr.s, fun j T d h => ?_⟩
  by_cases hj : i = j
  · subst hj
    have hi := (List.getElem?_eq_some_iff.mp h).1
    rw [List.length_set] at hi
    rw [List.getElem?_set_self hi] at h
    cases h
  · rw [List.getElem?_set_ne hj] at h ⊢
    exact fr.no j T d h
end
def flatT : Nat → PyData → Prop
  | _, .str _ => True
  | j + 1, .tuple l => ∀ d ∈ l, flatT j d
  | _, _ => False
mutual
theorem shp_flat {K : PySem.W.Frag} {F H : Hp} {S : Strm} (s : Sub F H) : ∀ {v : V} {d : PyData} {j : Nat}, Den K F S v d → flatT j d → Shp H j v []
  | _, _, j, .str x _, _ => .str x
  | _, _, j + 1, .tup h1 h2, h => .tup (s _ _ h1) (shpL_flat s h2 h)
  | _, _, 0, .tup h1 h2, h => absurd h id
  | _, _, j, .non, h => by cases j <;> exact absurd h id
  | _, _, j, .bl b, h => by cases j <;> exact absurd h id
  | _, _, j, .int b, h => by cases j <;> exact absurd h id
  | _, _, j, .lst h1 h2, h => by cases j <;> exact absurd h id
  | _, _, j, .dK h1 h2 h3 h4, h => by cases j <;> exact absurd h id
  | _, _, j, .dT h1 h2 h3 h4, h => by cases j <;> exact absurd h id
  | _, _, j, .ins h1 h2 h3, h => by cases j <;> exact absurd h id
  | _, _, j, .par h1 h2 h3 h4, h => by cases j <;> exact absurd h id
  | _, _, j, .strm h1, h => by cases j <;> exact absurd h id
theorem shpL_flat {K : PySem.W.Frag} {F H : Hp} {S : Strm} (s : Sub F H) : ∀ {vs : List V} {ds : List PyData} {j : Nat}, DenL K F S vs ds → (∀ d ∈ ds, flatT j d) → ShpL H j vs []
  | _, _, j, .nil, _ => .nil
  | _, _, j, .cons h1 h2, h => .cons (L := []) (M := []) (shp_flat s h1 (h _ List.mem_cons_self)) (shpL_flat s h2 fun d hd => h d (List.mem_cons_of_mem _ hd)) (fun b hb => nomatch hb)
end
end DL
namespace DL
open PySem PySem.Spec PyProof.Rows L2
def mSpoil (i : Nat) (m1 m2 : M) (t : MT) (r : MS) : MS := fun γ n k => m1 (pl γ) n fun d1 n1 => m2 (pl γ) n1 fun d2 n2 =>
  i < γ.length ∧ (∃ l1 l2, d1 = .list l1 ∧ d2 = .list l2 ∧ l1.length < sizeLine ∧ l2.length < sizeLine ∧ (∀ d ∈ l1, flatT 1 d) ∧ ∀ d ∈ l2, flatT 1 d) ∧
    t (pk (γ.set i (.val (.list [d1, d2])))) n2 fun c n3 => c = false ∧ r (γ.set i .no) n3 k
section
variable {X : Cx} {e1 e2 c : Expr} {m1 m2 : M} {t : MT} {r : MS} {x y : Str} {px lpos pos ipos p px2 cpos epos : Pos} {sa rest : List Stmt} {i j : Nat}
theorem dss_spoil (hN : X.N.Nodup) (hi : X.N[i]? = some x) (hx : Loc X.env.scope x) (hv : Vis X.env.scope x) (hf : X.fn x = true ∨ X.env.scope.names.lookup x = some .local)
    (h1 : DN X e1 false m1) (h2 : DN X e2 false m2) (hc : DT X c t) (hcal : CalR X.prog X.w X.K X.mg X.base 4 y (spSpo 3)) (hr : Room j X.A) (hj : 4 ≤ j) (hg : Gl X y) (hrest : DSs X rest r)
    (hd : (x == ("__debug__" : Str)) = false := by decide) (hcd : (x == ("__classdict__" : Str)) = false := by decide) (hdb : (y == ("__debug__" : Str)) = false := by decide)
    (hs : swapsWith (.List [e1, e2] lpos) (some (.Name x px)) pos.line X.env = pure false := by rfl)
    (he1 : starEach [e1, e2] X.env = (false, eval e1 X.env) :: starEach [e2] X.env := by rfl) (he2 : starEach [e2] X.env = (false, eval e2 X.env) :: starEach [] X.env := by rfl)
    (he3 : starEach [.Name x px2] X.env = (false, eval (.Name x px2) X.env) :: starEach [] X.env := by rfl) (hpl : (backTo cpos (starEach [] X.env)).any (·.1) = false := by rfl)
    (hs2 : swapsWith (.Call (.Name y p) [.Name x px2] [] cpos) none epos.line X.env = pure false := by rfl) :
    DSs X (.Assign [.Name x px] (.List [e1, e2] lpos) pos :: .If c sa [] ipos :: .Expr (.Call (.Name y p) [.Name x px2] [] cpos) epos :: rest) (mSpoil i m1 m2 t r) :=
  PSs.weak (pss_cons (ps_set hN hi hx (pe_lst (pa_cons h1 (pa_cons h2 pa_nil he2) he1)) hs hf) (pss_cons (ps_if (pt_pk hc) pss_never pss_nil) (pss_cons (ps_expr (pe_callR hcal hr hj hg (pa_cons (pe_var hi hv hd hcd) pa_nil he3) hdb he3 hpl) hs2) hrest))) fun D σ H h => by
    obtain ⟨H0, F0, Fb, F, S, n, γ, l, ag, sb, hl1, hl2, k, hm, ft⟩ := h
    refine ⟨F, S, n, _, ag.plain, _, hm, fun d1 n1 hk a1 H1 p1 => ?_⟩
    obtain ⟨ag1, pd1, sF1⟩ := ag.newN p1
    obtain ⟨b1, eb1, z1, z2, z3, o1, z4⟩ := pd1
    cases eb1
    have fr1 : Free H0 (exc a1 (grow F H H1)) S γ σ a1 := ⟨z1, z2, z3, z4⟩
    refine ⟨_, S, n1, _, ag1.plain, _, hk, fun d2 n2 hk a2 H2 p2 => ?_⟩
    obtain ⟨hig, ⟨l1, l2, rfl, rfl, ll1, ll2, fl1, fl2⟩, ht⟩ := hk
    obtain ⟨ag2, pd2, sF2⟩ := ag1.newN p2
    obtain ⟨b2, eb2, y1, y2, y3, o2, y4⟩ := pd2
    cases eb2
    have fr2 : Free H0 _ S γ σ a2 := ⟨y1, y2, y3, y4⟩
    obtain ⟨xs, hx1, dx1⟩ := o1.list_inv
    obtain ⟨ys, hx2, dx2⟩ := o2.list_inv
    have hx1' : H2 a1 = some (.lst xs) := p2.ext.kp _ _ hx1 z3
    have fr1' := (fr1.next (H := H1) (H' := H2) ⟨_, hx1⟩).exc (y := a2)
    have ne12 : a1 ≠ a2 := fun z => by rw [z, p2.new] at hx1; cases hx1
    have dx1' := dx1.mono sF2
    generalize exc a2 (grow (exc a1 (grow F H H1)) H1 H2) = F2 at ag2 fr2 fr1' sF2 dx1' dx2
    have sbF2 : Sub F F2 := sF1.trans sF2
    refine ⟨by show 2 ≤ sizeLine; decide, fun q hq => ?_⟩
    have nq1 : a1 ≠ q := fun z => by rw [z, hq] at hx1'; cases hx1'
    have nq2 : a2 ≠ q := fun z => by rw [z, hq] at hx2; cases hx2
    have qS : ¬ inS S q := ag2.fr.notS hq
    have q0 : H0 q = none := by
      cases h : H0 q with
      | none => rfl
      | some u => have := ag2.kp q u h qS; rw [hq] at this; cases this
    have frq : Free H0 F2 S γ σ q := ⟨q0, ag2.fr.none hq, qS, fun j T d hj e => by
      obtain ⟨b, r1, _, _, _, r5⟩ := ag2.own j T d hj
      rw [e] at r1; cases r1
      obtain ⟨o, ho⟩ := r5.there
      rw [hq] at ho; cases ho⟩
    have sd3 : Spd H2 (upd H2 q (.lst [.ref a1, .ref a2])) [q] := ⟨fun b o h hb => by rw [upd_ne (by simpa using hb)]; exact h, fun b hb => by rw [List.mem_singleton.mp hb]; exact ⟨_, upd_same⟩⟩
    have ag3 := ag2.spd sd3 (fun b hb => by rw [List.mem_singleton.mp hb]; exact frq)
    have sF3 : Sub F2 (exs [q] (grow F2 H2 (upd H2 q (.lst [.ref a1, .ref a2])))) := sub_spd fun b hb => by rw [List.mem_singleton.mp hb]; exact frq.f
    have fr1'' : Free H0 (exs [q] (grow F2 H2 (upd H2 q (.lst [.ref a1, .ref a2])))) S γ σ a1 := fr1'.spd ⟨_, hx1'⟩
    have fr2'' : Free H0 (exs [q] (grow F2 H2 (upd H2 q (.lst [.ref a1, .ref a2])))) S γ σ a2 := fr2.spd ⟨_, hx2⟩
    have frq'' : Free H0 (exs [q] (grow F2 H2 (upd H2 q (.lst [.ref a1, .ref a2])))) S γ σ q := ⟨q0, exs_none (by simp), qS, frq.no⟩
    have hq3 : upd H2 q (.lst [.ref a1, .ref a2]) q = some (.lst [.ref a1, .ref a2]) := upd_same
    have h13 : upd H2 q (.lst [.ref a1, .ref a2]) a1 = some (.lst xs) := by rw [upd_ne nq1]; exact hx1'
    have h23 : upd H2 q (.lst [.ref a1, .ref a2]) a2 = some (.lst ys) := by rw [upd_ne nq2]; exact hx2
    have dx1'' := dx1'.mono sF3
    have dx2'' := dx2.mono sF3
    generalize exs [q] (grow F2 H2 (upd H2 q (.lst [.ref a1, .ref a2]))) = F3 at ag3 sF3 fr1'' fr2'' frq'' dx1'' dx2''
    generalize upd H2 q (.lst [.ref a1, .ref a2]) = H3 at ag3 hq3 h13 h23
    have agT := ((ag3.putF fr1'' h13).putF (fr2''.other (Ne.symm ne12)) h23).putF ((frq''.other (Ne.symm nq1)).other (Ne.symm nq2)) hq3
    have sT : Sub F3 (upd (upd (upd F3 a1 (.lst xs)) a2 (.lst ys)) q (.lst [.ref a1, .ref a2])) := fun b o h => by
      rw [upd_ne (fun z => by rw [z, frq''.f] at h; cases h), upd_ne (fun z => by rw [z, fr2''.f] at h; cases h), upd_ne (fun z => by rw [z, fr1''.f] at h; cases h)]
      exact h
    have dT : Den X.K (upd (upd (upd F3 a1 (.lst xs)) a2 (.lst ys)) q (.lst [.ref a1, .ref a2])) S (.ref q) (.list [.list l1, .list l2]) := by
      refine .lst upd_same (.cons (.lst ?_ (dx1''.mono sT)) (.cons (.lst ?_ (dx2''.mono sT)) .nil))
      · rw [upd_ne nq1, upd_ne ne12]; exact upd_same
      · rw [upd_ne nq2]; exact upd_same
    have agT2 := agT.setVal (i := i) dT (hl1.trans hl2.symm)
    refine ⟨H0, F0, _, S, n2, _, agT2, _, ht, fun cc n3 hk H4 e4 => ?_⟩
    obtain ⟨rfl, hk⟩ := hk
    refine (show _ from ?_)
    have ag4 := ag3.next e4
    have hq4 : H4 q = some (.lst [.ref a1, .ref a2]) := e4.kp _ _ hq3 qS
    have h14 : H4 a1 = some (.lst xs) := e4.kp _ _ h13 z3
    have h24 : H4 a2 = some (.lst ys) := e4.kp _ _ h23 y3
    have f1 := fr1''.next (H' := H4) ⟨_, h13⟩
    have f2 := fr2''.next (H' := H4) ⟨_, h23⟩
    have fq := frq''.next (H' := H4) ⟨_, hq3⟩
    have sF4 : Sub F3 (grow F3 H3 H4) := sub_grow
    have dx1n := dx1''.mono sF4
    have dx2n := dx2''.mono sF4
    generalize grow F3 H3 H4 = F4 at ag4 f1 f2 fq sF4 dx1n dx2n
    have hil : i < σ.length := by omega
    refine ⟨.ref q, by rw [List.getElem?_set_self hil], ?_⟩
    refine ⟨.ref q, [q] ++ ([a1] ++ ([a2] ++ [])), rfl, ?_, fun H5 sd => ?_⟩
    · have s1 : Shp H4 2 (.ref a1) [a1] := .lst h14 (by rw [dx1n.length]; exact ll1) (shpL_flat ag4.fr.sub dx1n fl1) (by simp)
      have s2 : Shp H4 2 (.ref a2) [a2] := .lst h24 (by rw [dx2n.length]; exact ll2) (shpL_flat ag4.fr.sub dx2n fl2) (by simp)
      have s3 : ShpL H4 2 [.ref a2] ([a2] ++ []) := ShpL.cons (L := [a2]) (M := []) s2 .nil (fun _ _ h => nomatch h)
      have s4 : ShpL H4 2 [.ref a1, .ref a2] ([a1] ++ ([a2] ++ [])) := ShpL.cons (L := [a1]) (M := [a2] ++ []) s1 s3 (fun b hb hb2 => ne12 (by rw [List.mem_singleton.mp hb] at hb2; simpa using hb2))
      exact Shp.lst (L := [a1] ++ ([a2] ++ [])) hq4 (by show 2 < sizeLine; decide) s4 (by simp [Ne.symm nq1, Ne.symm nq2])
    · have frs : ∀ b ∈ [q] ++ ([a1] ++ ([a2] ++ [])), Free H0 F4 S (γ.set i .no) (σ.set i (some (.ref q))) b := fun b hb => by
        simp at hb
        rcases hb with rfl | rfl | rfl
        · exact fq.setNo i _
        · exact f1.setNo i _
        · exact f2.setNo i _
      have ag5 := (ag4.setNo i (.ref q)).spd sd frs
      have sF5 := sub_spd (F := F4) (H := H4) (H' := H5) (fun b hb => (frs b hb).f)
      exact ⟨H0, F0, Fb, _, S, n3, _, l, ag5, (((sb.trans sbF2).trans sF3).trans sF4).trans sF5, by rw [List.length_set]; exact hl1, by rw [List.length_set]; exact hl2, k, hk, ft⟩
end
structure FitsN (K : PySem.W.Frag) (H0 F0 Fb : Hp) (S : Strm) (l : Nat) (k : Ks) (D : Ends) : Prop where
  rt : ∀ d n, k.rt d n → ∀ a H, PostN K F0 S H0 a false d n H → D.rt (.ref a) H
def tSN (K : PySem.W.Frag) (m : MS) : TS := fun D σ H => ∃ H0 F0 Fb F S n γ l, AgS K H0 F0 F S n H γ σ ∧ Sub Fb F ∧ γ.length = l ∧ σ.length = l ∧ ∃ k, m γ n k ∧ FitsN K H0 F0 Fb S l k D
def mSeqN (a b : MS) : MS := fun γ n k => a γ n { nx := fun γ' n' => b γ' n' k, rt := fun _ _ => False }
def mRetOwn (i : Nat) : MS := fun γ n k => ∃ ds, γ[i]? = some (.own false (.list ds)) ∧ k.rt (.list ds) n
section
variable {X : Cx} {st : Stmt} {rest : List Stmt} {a b : MS} {e : Expr} {m : M} {x : Str} {p pos : Pos} {i : Nat}
theorem dss_consN (h1 : DS X st a) (h2 : PSs X rest (tSN X.K b)) : PSs X (st :: rest) (tSN X.K (mSeqN a b)) := PSs.weak (pss_cons h1 h2) fun D σ H h => by
  obtain ⟨H0, F0, Fb, F, S, n, γ, l, ag, sb, l1, l2, k, hm, ft⟩ := h
  refine ⟨H0, F0, Fb, F, S, n, γ, l, ag, sb, l1, l2, _, hm, fun γ' n' hk σ' H' F' ag' sb' l1' l2' => ?_, fun _ _ h => h.elim, fun _ _ h => h.elim, fun _ _ h => h.elim⟩
  exact ⟨H0, F0, Fb, F', S, n', γ', l, ag', sb', l1', l2', k, hk, ft⟩
theorem dss_retN (he : DN X e false m) : PSs X [.Return (some e) pos] (tSN X.K (mRet m)) := PSs.weak (pss_one (ps_ret he)) fun D σ H h => by
  obtain ⟨H0, F0, Fb, F, S, n, γ, l, ag, sb, l1, l2, k, hm, ft⟩ := h
  refine ⟨F, S, n, _, ag.plain, _, hm, fun d n' hk b H' q => ft.rt d n' hk b H' ?_⟩
  obtain ⟨ag1, pd, _⟩ := ag.newN q
  obtain ⟨b', eb, z1, z2, z3, o, _⟩ := pd
  cases eb
  refine ⟨⟨ag1.kp, ag1.fr.str⟩, z1, o.mono ?_ rfl⟩
  exact sub_exc (ag1.inn) z2
theorem dss_retOwn (hi : X.N[i]? = some x) (hv : Vis X.env.scope x) (hd : (x == ("__debug__" : Str)) = false := by decide) (hcd : (x == ("__classdict__" : Str)) = false := by decide) :
    PSs X [.Return (some (.Name x p)) pos] (tSN X.K (mRetOwn i)) := PSs.weak (pss_one (ps_ret (pe_var hi hv hd hcd))) fun D σ H h => by
  obtain ⟨H0, F0, Fb, F, S, n, γ, l, ag, sb, l1, l2, k, ⟨ds, hg, hm⟩, ft⟩ := h
  obtain ⟨b, q1, q2, q3, q4, q5⟩ := ag.own i _ _ hg
  exact ⟨_, q1, ft.rt _ _ hm b H ⟨⟨ag.kp, ag.fr.str⟩, q2, q5.mono (sub_exc ag.inn q3) rfl⟩⟩
end
def KeepsN (N ps : List Str) (sp : SpecD) (body : MS) : Prop := ∀ ds n k, ds.length = ps.length → sp ds n k → body (startG ps.length N ds) n { nx := fun _ _ => False, rt := k }
section
variable {P : Program} {w : World} {K : PySem.W.Frag} {mg : Str → Option Value} {base : Heap} {x qual : Str} {params : Arguments} {body : List Stmt} {scope : Scope} {f : Addr} {fd : FuncData} {N ps : List Str} {k : Nat} {sp : SpecD} {mb : MS}
theorem def_okN (F : FunD K x qual params body scope [] [] f fd) (S : FnScope N ps scope)
    (hb : ∀ (cdv : Value) (A : Around) (outer : List PySem.Env) (s : Shared) (H : Hp) (E : XK), Room k (A.deeper (envOfC qual scope s.heap.objs.size f cdv)) → PSs (cxOf CX0 P w K mg base N qual scope f cdv A outer s H E).nox body (tSN K mb)) (hk : KeepsN N ps sp mb) :
    FnOk P w K mg base CX0 (k + 1) f fd ps (spN K false ps.length sp) := by
  refine F.ok S (fun vs H Q E h => h.1) fun cdv A outer s H vs Q E hr h => ⟨_, (hb cdv A outer s H E hr).nox, ?_⟩
  obtain ⟨hl, F0, St, n, ds, fr, hd, k, hsp, hQ⟩ := h
  have hdl : ds.length = ps.length := by rw [← hd.length]; exact hl
  have hpl : ps.length ≤ N.length := by
    have := S.pre
    have h2 := congrArg List.length this
    rw [List.length_take] at h2
    omega
  refine ⟨H, F0, F0, F0, St, n, startG ps.length N ds, N.length, AgS.base fr (fun i d h => ?_) (fun i T d h => ?_) ?_, Sub.refl _, ?_, ?_, _, hk ds n k hdl hsp, ?_⟩
  · unfold startG at h
    by_cases hi : i < ds.length
    · rw [List.getElem?_append_left (by rw [List.length_map]; exact hi), List.getElem?_map] at h
      cases e : ds[i]? with
      | none => rw [e] at h; cases h
      | some d' =>
        rw [e] at h
        cases h
        obtain ⟨v, h1, h2⟩ := hd.get e
        refine ⟨v, ?_, h2⟩
        unfold L2.start
        rw [List.getElem?_append_left (by rw [List.length_map, hd.length]; exact hi), List.getElem?_map, h1]
        rfl
    · rw [List.getElem?_append_right (by rw [List.length_map]; omega), List.getElem?_replicate] at h
      split at h <;> cases h
  · unfold startG at h
    by_cases hi : i < ds.length
    · rw [List.getElem?_append_left (by rw [List.length_map]; exact hi), List.getElem?_map] at h
      cases e : ds[i]? <;> rw [e] at h <;> cases h
    · rw [List.getElem?_append_right (by rw [List.length_map]; omega), List.getElem?_replicate] at h
      split at h <;> cases h
  · unfold startG L2.start
    rw [List.length_append, List.length_map, List.length_replicate, List.length_append, List.length_map, List.length_replicate, hd.length, hdl]
  · unfold startG
    rw [List.length_append, List.length_map, List.length_replicate]
    omega
  · unfold L2.start
    rw [List.length_append, List.length_map, List.length_replicate]
    omega
  · exact ⟨fun d n' hk a H' p => hQ d n' hk a H' p⟩
end
end DL
namespace W
open PySem PySem.Spec PyProof.Rows L2 DL
structure Sps where
  is_list : SpecD
  is_row : SpecD
  is_name : SpecD
  is_rising : SpecD
  first_bad_room : SpecD
  check_hall : SpecD
  is_room : SpecD
  check_room : SpecD
  is_lot_of : SpecD
  check_lot : SpecD
  check_kind : SpecD
  summed : SpecD
  touch : SpecD
  touches_of : SpecD
  is_even_with : SpecD
  check_two : SpecD
  told_of : SpecD
  presses_or_watch : SpecD
  sums_of : SpecD
  quiets : SpecD
  within : SpecD
  twins : SpecD
  without_rooms : SpecD
  ends : SpecD
  law_stream : SpecD
  law_draw : SpecD
  law_pick : SpecD
  law_mixed : SpecD
  law_same : SpecD
  law_loose : SpecD
  law_spoilt : SpecD
  law_names : SpecD
  law_around : SpecD
  law_touch : SpecD
  law_sum : SpecD
  law_behind : SpecD
  law_lots : SpecD
  law_quiets : SpecD
  law_hall : SpecD
  law_lot : SpecD
  law_made : SpecD
  law_with : SpecD
  law_without : SpecD
  law_lots_right : SpecD
  law_twins_right : SpecD
  law_ends_right : SpecD
  law : SpecD
  Hall_is_wire : SpecD
  Hall_rooms : SpecD
  Hall_wires : SpecD
  Hall_around : SpecD
  Solved_reduced : SpecD
  BadWires : SpecD
  BadHall : SpecD
  BadRoom : SpecD
  BadLot : SpecD
  BadKind : SpecD
  Hall : SpecD
  Solved : SpecD
abbrev N_is_list : List Str := ["thing"]
abbrev N_is_row : List Str := ["thing", "many"]
abbrev N_is_name : List Str := ["thing", "sign"]
abbrev N_is_rising : List Str := ["things", "one", "other"]
abbrev N_first_bad_room : List Str := ["rooms", "known", "index", "room"]
abbrev N_check_hall : List Str := ["hall"]
abbrev N_is_room : List Str := ["hall", "thing"]
abbrev N_check_room : List Str := ["hall", "room"]
abbrev N_is_lot_of : List Str := ["hall", "thing", "room"]
abbrev N_check_lot : List Str := ["hall", "lot"]
abbrev N_check_kind : List Str := ["hall", "kind"]
abbrev N_summed : List Str := ["one", "other", "thing"]
abbrev N_touch : List Str := ["hall", "is_own", "room"]
abbrev N_touches_of : List Str := ["hall", "kind", "room"]
abbrev N_is_even_with : List Str := ["lot", "other", "room"]
abbrev N_check_two : List Str := ["hall", "kind", "lighting", "other"]
abbrev N_told_of : List Str := ["hall", "kind", "lot", "solved", "rest", "lots", "quiet"]
abbrev N_presses_or_watch : List Str := ["hall", "kind", "lighting", "other"]
abbrev N_sums_of : List Str := ["lots", "found", "lot", "one"]
abbrev N_quiets : List Str := ["hall", "kind"]
abbrev N_within : List Str := ["hall", "rooms", "wire"]
abbrev N_twins : List Str := ["hall", "kind", "found", "touches", "at", "one", "other"]
abbrev N_without_rooms : List Str := ["hall", "lot", "room"]
abbrev N_ends : List Str := ["hall", "room", "around"]
abbrev N_law_stream : List Str := ["script"]
abbrev N_law_draw : List Str := ["stream", "many", "cell", "digit", "mixed"]
abbrev N_law_pick : List Str := ["stream", "things"]
abbrev N_law_mixed : List Str := ["stream", "things", "left", "found", "k"]
abbrev N_law_same : List Str := ["found", "due", "mine", "theirs"]
abbrev N_law_loose : List Str := ["stream", "thing", "some", "one"]
abbrev N_law_spoilt : List Str := ["thing", "key", "part"]
abbrev N_law_names : List Str := ["stream", "many", "found", "signs", "k", "name", "one", "at"]
abbrev N_law_around : List Str := ["hall", "room", "found", "wire"]
abbrev N_law_touch : List Str := ["hall", "kind", "room"]
abbrev N_law_sum : List Str := ["one", "other", "room"]
abbrev N_law_behind : List Str := ["hall", "kind", "lighting", "lot", "found", "room"]
abbrev N_law_lots : List Str := ["rooms", "found", "room", "lot"]
abbrev N_law_quiets : List Str := ["hall", "kind", "lot"]
abbrev N_law_hall : List Str := ["stream", "rooms", "wires", "names", "way", "mixed", "found", "at", "k", "pairs", "wire"]
abbrev N_law_lot : List Str := ["stream", "hall"]
abbrev N_law_made : List Str := ["stream", "hall", "wires", "wire"]
abbrev N_law_with : List Str := ["stream", "hall", "kind", "way", "room", "around", "wires", "other"]
abbrev N_law_without : List Str := ["hall", "lot", "room", "wire"]
abbrev N_law_lots_right : List Str := ["stream", "hall", "made", "lot", "room", "due", "handed", "was", "found", "one"]
abbrev N_law_twins_right : List Str := ["stream", "hall", "made", "kind", "due", "at", "one", "other", "found", "gone", "stays", "rest", "far", "turn", "goal", "word", "less", "room", "is_led"]
abbrev N_law_ends_right : List Str := ["hall", "made", "rows", "room", "due", "around", "found", "quiet", "end", "friend", "lot", "rest", "far"]
abbrev N_law : List Str := ["script", "stream", "turn", "kind", "hall", "made", "kept", "found"]
abbrev N_BadWires_init : List Str := ["self", "index"]
abbrev N_BadHall_init : List Str := ["self", "hall"]
abbrev N_BadRoom_init : List Str := ["self", "room"]
abbrev N_BadLot_init : List Str := ["self", "lot"]
abbrev N_BadKind_init : List Str := ["self", "kind"]
abbrev N_Hall_init : List Str := ["self", "rooms", "wires", "wrong", "known", "index", "wire", "room", "one", "other", "others"]
abbrev N_Hall_is_wire : List Str := ["self", "thing", "room"]
abbrev N_Hall_rooms : List Str := ["self"]
abbrev N_Hall_wires : List Str := ["self"]
abbrev N_Hall_around : List Str := ["self", "room"]
abbrev N_Solved_init : List Str := ["self", "touches", "room", "lot", "rest", "lots"]
abbrev N_Solved_reduced : List Str := ["self", "lot", "rest", "lots", "led", "room", "row"]
def b_is_list (s : Sps) : MS :=
    (mRet (mIsi ["list", "tuple"] (mVar 0)))
def b_is_name (s : Sps) : MS :=
    (mRet (mAnd (mIsi ["str"] (mVar 0)) (mAnd (mChain oLt oLt (mC (.int 0)) (mON (on1 oLen) (mCons (mVar 0) mNil)) (mC (.int 9))) (mON (on1 oAll) (mCons (mLc (mItems (mVar 0)) (tgN 1) mYes (mOp oIn (mVar 1) (mC (.str "abcdefghijklmnopqrstuvwxyz"))) [1]) mNil)))))
def b_is_rising (s : Sps) : MS :=
    (mRet (mON (on1 oAll) (mCons (mLc (mZip (mCons (mVar 0) (mCons (mSl (mVar 0) (mSome (mC (.int 1))) mNone) mNil))) (tgT (tgCons (tgN 1) (tgCons (tgN 2) tgNil))) mYes (mOp oLt (mVar 1) (mVar 2)) [1, 2]) mNil)))
def b_is_room (s : Sps) : MS :=
    (mRet (mAnd (mIsi ["str"] (mVar 1)) (mOp oIn (mVar 1) (mFld "Hall" "own_around" (mVar 0)))))
def b_summed (s : Sps) : MS :=
    (mRet (mON (on1 oSorted) (mCons (mOp oAdd (mLc (mItems (mVar 0)) (tgN 2) (mB (mOp oNotIn (mVar 2) (mVar 1))) (mVar 2) [2]) (mLc (mItems (mVar 1)) (tgN 2) (mB (mOp oNotIn (mVar 2) (mVar 0))) (mVar 2) [2])) mNil)))
def b_is_even_with (s : Sps) : MS :=
    (mRet (mOp oEq (mOp oMod (mON (on1 oLen) (mCons (mLc (mItems (mVar 0)) (tgN 2) (mB (mOp oIn (mVar 2) (mVar 1))) (mVar 2) [2]) mNil)) (mC (.int 2))) (mC (.int 0))))
def b_law_around (s : Sps) : MS :=
    (mSeq (mSet 2 (mLc (mItems (mOp oIx (mVar 0) (mC (.int 1)))) (tgN 3) (mB (mOp oIn (mVar 1) (mVar 3))) (mIf (mB (mOp oEq (mOp oIx (mVar 3) (mC (.int 0))) (mVar 1))) (mOp oIx (mVar 3) (mC (.int 1))) (mOp oIx (mVar 3) (mC (.int 0)))) [3]))
    (mRet (mON (on1 oSorted) (mCons (mVar 2) mNil))))
def b_law_sum (s : Sps) : MS :=
    (mRet (mON (on1 oSorted) (mCons (mOp oAdd (mLc (mItems (mVar 0)) (tgN 2) (mB (mOp oNotIn (mVar 2) (mVar 1))) (mVar 2) [2]) (mLc (mItems (mVar 1)) (tgN 2) (mB (mOp oNotIn (mVar 2) (mVar 0))) (mVar 2) [2])) mNil)))
def b_law_lots (s : Sps) : MS :=
    (mSeq (mSet 1 (mLst (mCons (mLst mNil) mNil)))
    (mSeq (mFor (mItems (mVar 0)) (tgN 2) (mSet 1 (mOp oAdd (mVar 1) (mLc (mItems (mVar 1)) (tgN 3) mYes (mOp oAdd (mVar 3) (mLst (mCons (mVar 2) mNil))) [3]))))
    (mRet (mON (on1 oSorted) (mCons (mVar 1) mNil)))))
def b_law_without (s : Sps) : MS :=
    (mRet (mTup (mCons (mLc (mItems (mOp oIx (mVar 0) (mC (.int 0)))) (tgN 2) (mB (mOp oNotIn (mVar 2) (mVar 1))) (mVar 2) [2]) (mCons (mLc (mItems (mOp oIx (mVar 0) (mC (.int 1)))) (tgN 3) (mAndT (mB (mOp oNotIn (mOp oIx (mVar 3) (mC (.int 0))) (mVar 1))) (mB (mOp oNotIn (mOp oIx (mVar 3) (mC (.int 1))) (mVar 1)))) (mVar 3) [3]) mNil))))
def b_Hall_rooms (s : Sps) : MS :=
    (mRet (mON (on1 oList) (mCons (mFld "Hall" "own_rooms" (mVar 0)) mNil)))
def b_Hall_wires (s : Sps) : MS :=
    (mRet (mON (on1 oList) (mCons (mFld "Hall" "own_wires" (mVar 0)) mNil)))
def b_is_row (s : Sps) : MS :=
    (mRet (mAnd (mCall 1 s.is_list (mCons (mVar 0) mNil)) (mOp oEq (mON (on1 oLen) (mCons (mVar 0) mNil)) (mVar 1))))
def b_first_bad_room (s : Sps) : MS :=
    (mSeq (mOwn 1 false mDict0)
    (mSeq (mIfS (mOrT (mNotT (mB (mCall 1 s.is_list (mCons (mVar 0) mNil)))) (mB (mOp oEq (mON (on1 oLen) (mCons (mVar 0) mNil)) (mC (.int 0))))) (mRet (mC (.int 0))) mSkip)
    (mSeq (mFor (mEnum (mCons (mVar 0) mNil)) (tgT (tgCons (tgN 2) (tgCons (tgN 3) tgNil))) (mSeq (mIfS (mOrT (mNotT (mB (mCall 1 s.is_name (mCons (mVar 3) mNil)))) (mB (mOp oIn (mVar 3) (mVar 1)))) (mRet (mVar 2)) mSkip)
    (mPut 1 (mVar 3) (mC (.bool true)))))
    (mRet (mC .none)))))
def b_is_lot_of (s : Sps) : MS :=
    (mRet (mAnd (mCall 1 s.is_list (mCons (mVar 1) mNil)) (mAnd (mON (on1 oAll) (mCons (mLc (mItems (mVar 1)) (tgN 2) mYes (mCall 2 s.is_room (mCons (mVar 0) (mCons (mVar 2) mNil))) [2]) mNil)) (mCall 1 s.is_rising (mCons (mVar 1) mNil)))))
def b_touch (s : Sps) : MS :=
    (mRet (mIf (mB (mVar 1)) (mCall 2 s.summed (mCons (mOp oIx (mFld "Hall" "own_around" (mVar 0)) (mVar 2)) (mCons (mLst (mCons (mVar 2) mNil)) mNil))) (mON (on1 oList) (mCons (mOp oIx (mFld "Hall" "own_around" (mVar 0)) (mVar 2)) mNil))))
def b_sums_of (s : Sps) : MS :=
    (mSeq (mSet 1 (mLst (mCons (mLst mNil) mNil)))
    (mSeq (mFor (mItems (mVar 0)) (tgN 2) (mSet 1 (mOp oAdd (mVar 1) (mLc (mItems (mVar 1)) (tgN 3) mYes (mCall 2 s.summed (mCons (mVar 3) (mCons (mVar 2) mNil))) [3]))))
    (mRet (mON (on1 oSorted) (mCons (mVar 1) mNil)))))
def b_law_pick (s : Sps) : MS :=
    (mRet (mOp oIx (mVar 1) (mCall 2 s.law_draw (mCons (mVar 0) (mCons (mON (on1 oLen) (mCons (mVar 1) mNil)) mNil)))))
def b_law_mixed (s : Sps) : MS :=
    (mSeq (mPar 2 3 (some false) (some false) (mON (on1 oList) (mCons (mVar 1) mNil)) (mLst mNil))
    (mSeq (mForR (mON (on1 oLen) (mCons (mVar 2) mNil)) (tgN 4) (mAppPop 3 2 (mCall 2 s.law_draw (mCons (mVar 0) (mCons (mON (on1 oLen) (mCons (mVar 2) mNil)) mNil)))))
    (mFrz 3 (mRet (mVar 3)))))
def b_law_touch (s : Sps) : MS :=
    (mRet (mON (on1 oSorted) (mCons (mOp oAdd (mCall 2 s.law_around (mCons (mVar 0) (mCons (mVar 2) mNil))) (mIf (mB (mOp oEq (mVar 1) (mC (.str "own")))) (mLst (mCons (mVar 2) mNil)) (mLst mNil))) mNil)))
def b_Solved_reduced (s : Sps) : MS :=
    (mSeq (mPar 2 3 none none (mON (on1 oList) (mCons (mVar 1) mNil)) (mLst mNil))
    (mSeq (mSet 4 (mLc (mItems (mVar 2)) (tgN 5) (mB (mOp oIn (mVar 5) (mFld "Solved" "own_rows" (mVar 0)))) (mVar 5) [5]))
    (mSeq (mWh (mB (mOp oNe (mVar 4) (mLst mNil))) (mSeq (mSet 6 (mOp oIx (mFld "Solved" "own_rows" (mVar 0)) (mOp oIx (mVar 4) (mC (.int 0)))))
    (mSeq (mPar 2 3 none none (mCall 2 s.summed (mCons (mVar 2) (mCons (mOp oIx (mVar 6) (mC (.int 0))) mNil))) (mCall 2 s.summed (mCons (mVar 3) (mCons (mOp oIx (mVar 6) (mC (.int 1))) mNil))))
    (mSet 4 (mLc (mItems (mVar 2)) (tgN 5) (mB (mOp oIn (mVar 5) (mFld "Solved" "own_rows" (mVar 0)))) (mVar 5) [5])))))
    (mRet (mTup (mCons (mVar 2) (mCons (mVar 3) mNil)))))))
def b_check_hall (s : Sps) : MS :=
    (mIfS (mNotT (mB (mIsC "Hall" (mVar 0)))) mNo mSkip)
def b_check_room (s : Sps) : MS :=
    (mIfS (mNotT (mB (mCall 2 s.is_room (mCons (mVar 0) (mCons (mVar 1) mNil))))) mNo mSkip)
def b_check_lot (s : Sps) : MS :=
    (mIfS (mNotT (mB (mCall 2 s.is_lot_of (mCons (mVar 0) (mCons (mVar 1) mNil))))) mNo mSkip)
def b_touches_of (s : Sps) : MS :=
    (mRet (mDc (mItems (mFld "Hall" "own_rooms" (mVar 0))) (tgN 2) mYes (mVar 2) (mCall 3 s.touch (mCons (mVar 0) (mCons (mOp oEq (mVar 1) (mC (.str "own"))) (mCons (mVar 2) mNil)))) [2]))
def b_law_names (s : Sps) : MS :=
    (mSeq (mPar 2 3 (some false) none (mLst mNil) (mC (.str "abcdefghijklmnopqrstuvwxyz")))
    (mSeq (mFor (mRange1 (mCons (mVar 1) mNil)) (tgN 4) (mSeq (mSet 5 (mJoin (mC (.str "")) (mLc (mRange1 (mCons (mOp oAdd (mC (.int 1)) (mCall 2 s.law_draw (mCons (mVar 0) (mCons (mCall 2 s.law_pick (mCons (mVar 0) (mCons (mLst (mCons (mC (.int 1)) (mCons (mC (.int 1)) (mCons (mC (.int 3)) mNil)))) mNil))) mNil)))) mNil)) (tgN 6) mYes (mCall 2 s.law_pick (mCons (mVar 0) (mCons (mVar 3) mNil))) [6])))
    (mSeq (mForR (mOp oAdd (mON (on1 oLen) (mCons (mVar 2) mNil)) (mC (.int 1))) (tgN 7) (mIfS (mB (mOp oIn (mVar 5) (mVar 2))) (mSet 5 (mOp oAdd (mOp oAdd (mSl (mVar 5) mNone (mSome (mC (.int 3)))) (mOp oIx (mVar 3) (mOp oDiv (mVar 7) (mC (.int 26))))) (mOp oIx (mVar 3) (mOp oMod (mVar 7) (mC (.int 26)))))) mSkip))
    (mApp 2 (mVar 5)))))
    (mFrz 2 (mRet (mVar 2)))))
def b_law_behind (s : Sps) : MS :=
    (mSeq (mSet 4 (mON (on1 oList) (mCons (mVar 2) mNil)))
    (mSeq (mFor (mItems (mVar 3)) (tgN 5) (mSet 4 (mCall 2 s.law_sum (mCons (mVar 4) (mCons (mCall 3 s.law_touch (mCons (mVar 0) (mCons (mVar 1) (mCons (mVar 5) mNil)))) mNil)))))
    (mRet (mVar 4))))
def b_law_lot (s : Sps) : MS :=
    (mRet (mON (on1 oSorted) (mCons (mSl (mCall 2 s.law_mixed (mCons (mVar 0) (mCons (mOp oIx (mVar 1) (mC (.int 0))) mNil))) mNone (mSome (mCall 2 s.law_draw (mCons (mVar 0) (mCons (mOp oAdd (mON (on1 oLen) (mCons (mOp oIx (mVar 1) (mC (.int 0))) mNil)) (mC (.int 1))) mNil))))) mNil)))
def b_law_with (s : Sps) : MS :=
    (mSeq (mPar 3 4 none none (mCall 2 s.law_draw (mCons (mVar 0) (mCons (mC (.int 4)) mNil))) (mCall 2 s.law_pick (mCons (mVar 0) (mCons (mOp oIx (mVar 1) (mC (.int 0))) mNil))))
    (mSeq (mIfS (mB (mOp oEq (mVar 3) (mC (.int 3)))) (mRet (mVar 1)) mSkip)
    (mSeq (mSet 5 (mIf (mB (mOp oLt (mVar 3) (mC (.int 2)))) (mOp oAdd (mCall 2 s.law_around (mCons (mVar 1) (mCons (mVar 4) mNil))) (mIf (mB (mOp oEq (mVar 2) (mC (.str "own")))) (mLst (mCons (mVar 4) mNil)) (mLst mNil))) (mLst (mCons (mVar 4) mNil))))
    (mSeq (mSet 6 (mON (on1 oSorted) (mCons (mOp oAdd (mOp oIx (mVar 1) (mC (.int 1))) (mLc (mItems (mVar 5)) (tgN 7) mYes (mTup (mCons (mVar 7) (mCons (mC (.str "zzzzzzz")) mNil))) [7])) mNil)))
    (mRet (mTup (mCons (mON (on1 oSorted) (mCons (mOp oAdd (mOp oIx (mVar 1) (mC (.int 0))) (mLst (mCons (mC (.str "zzzzzzz")) mNil))) mNil)) (mCons (mVar 6) mNil))))))))
def b_Hall_is_wire (s : Sps) : MS :=
    (mSeq (mIfS (mOrT (mNotT (mB (mCall 2 s.is_row (mCons (mVar 1) (mCons (mC (.int 2)) mNil))))) (mNotT (mB (mON (on1 oAll) (mCons (mLc (mItems (mVar 1)) (tgN 2) mYes (mAnd (mIsi ["str"] (mVar 2)) (mOp oIn (mVar 2) (mFld "Hall" "own_rooms" (mVar 0)))) [2]) mNil))))) (mRet (mC (.bool false))) mSkip)
    (mRet (mOp oNe (mOp oIx (mVar 1) (mC (.int 0))) (mOp oIx (mVar 1) (mC (.int 1))))))
def b_check_kind (s : Sps) : MS :=
    (mSeq (mDrop (mCall 1 s.check_hall (mCons (mVar 0) mNil)))
    (mIfS (mOrT (mNotT (mB (mIsi ["str"] (mVar 1)))) (mB (mInK true ["own", "around"] (mVar 1)))) mNo mSkip))
def b_ends (s : Sps) : MS :=
    (mSeqN (mDrop (mCall 1 s.check_hall (mCons (mVar 0) mNil)))
    (mRet (mLc (mItems (mSortIt (mFld "Hall" "own_around" (mVar 0)))) (tgT (tgCons (tgN 1) (tgCons (tgN 2) tgNil))) (mB (mOp oEq (mON (on1 oLen) (mCons (mVar 2) mNil)) (mC (.int 1)))) (mTup (mCons (mVar 1) (mCons (mOp oIx (mVar 2) (mC (.int 0))) mNil))) [1, 2])))
def b_law_quiets (s : Sps) : MS :=
    (mRet (mLc (mItems (mCall 1 s.law_lots (mCons (mOp oIx (mVar 0) (mC (.int 0))) mNil))) (tgN 2) (mB (mOp oEq (mCall 4 s.law_behind (mCons (mVar 0) (mCons (mVar 1) (mCons (mLst mNil) (mCons (mVar 2) mNil))))) (mLst mNil))) (mVar 2) [2]))
def b_law_hall (s : Sps) : MS :=
    (mSeq (mPar 3 4 none none (mON (on1 oSorted) (mCons (mCall 2 s.law_names (mCons (mVar 0) (mCons (mOp oAdd (mC (.int 1)) (mCall 2 s.law_draw (mCons (mVar 0) (mCons (mVar 1) mNil)))) mNil))) mNil)) (mCall 2 s.law_draw (mCons (mVar 0) (mCons (mC (.int 5)) mNil))))
    (mSeq (mPar 5 6 none (some false) (mCall 2 s.law_mixed (mCons (mVar 0) (mCons (mVar 3) mNil))) (mLst mNil))
    (mSeq (mFor (mRange2 (mCons (mC (.int 1)) (mCons (mIf (mB (mOp oLt (mVar 4) (mC (.int 3)))) (mON (on1 oLen) (mCons (mVar 5) mNil)) (mC (.int 0))) mNil))) (tgN 7) (mApp 6 (mTup (mCons (mOp oIx (mVar 5) (mVar 7)) (mCons (mOp oIx (mVar 5) (mIf (mB (mOp oEq (mVar 4) (mC (.int 2)))) (mC (.int 0)) (mOp oSub (mVar 7) (mC (.int 1))))) mNil)))))
    (mSeq (mIfS (mAndT (mB (mOp oEq (mVar 4) (mC (.int 1)))) (mB (mOp oGt (mON (on1 oLen) (mCons (mVar 5) mNil)) (mC (.int 2))))) (mApp 6 (mTup (mCons (mOp oIx (mVar 5) (mC (.int 0))) (mCons (mOp oIx (mVar 5) (mU oNeg (mC (.int 1)))) mNil)))) mSkip)
    (mSeq (mFor (mRange1 (mCons (mIf (mB (mOp oGt (mON (on1 oLen) (mCons (mVar 3) mNil)) (mC (.int 1)))) (mCall 2 s.law_draw (mCons (mVar 0) (mCons (mOp oAdd (mVar 2) (mC (.int 1))) mNil))) (mC (.int 0))) mNil)) (tgN 8) (mApp 6 (mON (on1 oTuple) (mCons (mSl (mCall 2 s.law_mixed (mCons (mVar 0) (mCons (mVar 3) mNil))) mNone (mSome (mC (.int 2)))) mNil))))
    (mSeq (mFrz 6 (mSet 9 (mON (on1 oSorted) (mCons (mON (on1 oDictT) (mCons (mLc (mItems (mVar 6)) (tgN 10) mYes (mTup (mCons (mTup (mCons (mON (on1 oMin) (mCons (mVar 10) mNil)) (mCons (mON (on1 oMax) (mCons (mVar 10) mNil)) mNil))) (mCons (mC (.int 0)) mNil))) [10]) mNil)) mNil))))
    (mRet (mTup (mCons (mVar 3) (mCons (mON (on1 oSorted) (mCons (mSl (mCall 2 s.law_mixed (mCons (mVar 0) (mCons (mVar 9) mNil))) mNone (mSome (mVar 2))) mNil)) mNil))))))))))
def b_Hall_around (s : Sps) : MS :=
    (mSeq (mDrop (mCall 2 s.check_room (mCons (mVar 0) (mCons (mVar 1) mNil))))
    (mRet (mON (on1 oList) (mCons (mOp oIx (mFld "Hall" "own_around" (mVar 0)) (mVar 1)) mNil))))
def b_check_two (s : Sps) : MS :=
    (mSeq (mDrop (mCall 2 s.check_kind (mCons (mVar 0) (mCons (mVar 1) mNil))))
    (mSeq (mDrop (mCall 2 s.check_lot (mCons (mVar 0) (mCons (mVar 2) mNil))))
    (mDrop (mCall 2 s.check_lot (mCons (mVar 0) (mCons (mVar 3) mNil))))))
def b_told_of (s : Sps) : MS :=
    (mSeq (mSet 3 (mCall 1 s.Solved (mCons (mCall 2 s.touches_of (mCons (mVar 0) (mCons (mVar 1) mNil))) mNil)))
    (mSeq (mAsg (tgT (tgCons (tgN 4) (tgCons (tgN 5) tgNil))) (mMeth "Solved" "reduced" 2 s.Solved_reduced (mVar 3) (mCons (mVar 2) mNil)))
    (mSeq (mIfS (mB (mOp oEq (mVar 4) (mLst mNil))) (mRet (mTup (mCons (mC (.str "presses")) (mCons (mVar 5) mNil)))) mSkip)
    (mRet (mTup (mCons (mC (.str "watch")) (mCons (mOp oIx (mLc (mItems (mFld "Solved" "own_quiet" (mVar 3))) (tgN 6) (mNotT (mB (mCall 2 s.is_even_with (mCons (mVar 6) (mCons (mVar 2) mNil))))) (mVar 6) [6]) (mC (.int 0))) mNil)))))))
def b_quiets (s : Sps) : MS :=
    (mSeq (mDrop (mCall 2 s.check_kind (mCons (mVar 0) (mCons (mVar 1) mNil))))
    (mRet (mCall 1 s.sums_of (mCons (mFld "Solved" "own_quiet" (mCall 1 s.Solved (mCons (mCall 2 s.touches_of (mCons (mVar 0) (mCons (mVar 1) mNil))) mNil))) mNil))))
def b_twins (s : Sps) : MS :=
    (mSeqN (mDrop (mCall 2 s.check_kind (mCons (mVar 0) (mCons (mVar 1) mNil))))
    (mSeqN (mPar 2 3 (some false) none (mLst mNil) (mCall 2 s.touches_of (mCons (mVar 0) (mCons (mVar 1) mNil))))
    (mSeqN (mFor (mEnum (mCons (mFld "Hall" "own_rooms" (mVar 0)) mNil)) (tgT (tgCons (tgN 4) (tgCons (tgN 5) tgNil))) (mExt 2 (mLc (mItems (mSl (mFld "Hall" "own_rooms" (mVar 0)) (mSome (mOp oAdd (mVar 4) (mC (.int 1)))) mNone)) (tgN 6) (mB (mOp oEq (mOp oIx (mVar 3) (mVar 5)) (mOp oIx (mVar 3) (mVar 6)))) (mTup (mCons (mVar 5) (mCons (mVar 6) mNil))) [6])))
    (mRetOwn 2))))
def b_presses_or_watch (s : Sps) : MS :=
    (mSeq (mDrop (mCall 4 s.check_two (mCons (mVar 0) (mCons (mVar 1) (mCons (mVar 2) (mCons (mVar 3) mNil))))))
    (mRet (mCall 3 s.told_of (mCons (mVar 0) (mCons (mVar 1) (mCons (mCall 2 s.summed (mCons (mVar 2) (mCons (mVar 3) mNil))) mNil))))))
def b_within (s : Sps) : MS :=
    (mRet (mCall 2 s.Hall (mCons (mVar 1) (mCons (mLc (mItems (mFld "Hall" "own_wires" (mVar 0))) (tgN 2) (mAndT (mB (mOp oIn (mOp oIx (mVar 2) (mC (.int 0))) (mVar 1))) (mB (mOp oIn (mOp oIx (mVar 2) (mC (.int 1))) (mVar 1)))) (mVar 2) [2]) mNil))))
def b_without_rooms (s : Sps) : MS :=
    (mSeq (mDrop (mCall 1 s.check_hall (mCons (mVar 0) mNil)))
    (mSeq (mIfS (mOrT (mNotT (mB (mCall 2 s.is_lot_of (mCons (mVar 0) (mCons (mVar 1) mNil))))) (mB (mOp oEq (mON (on1 oLen) (mCons (mVar 1) mNil)) (mON (on1 oLen) (mCons (mFld "Hall" "own_rooms" (mVar 0)) mNil))))) mNo mSkip)
    (mRet (mCall 2 s.within (mCons (mVar 0) (mCons (mLc (mItems (mFld "Hall" "own_rooms" (mVar 0))) (tgN 2) (mB (mOp oNotIn (mVar 2) (mVar 1))) (mVar 2) [2]) mNil))))))
def b_law_loose (s : Sps) : MS :=
    (mSeq (mIfS (mB (mIsi ["list", "tuple"] (mVar 1))) (mSeq (mSet 2 (mLc (mItems (mVar 1)) (tgN 3) mYes (mCall 2 s.law_loose (mCons (mVar 0) (mCons (mVar 3) mNil))) [3]))
    (mRet (mIf (mB (mOp oEq (mCall 2 s.law_draw (mCons (mVar 0) (mCons (mC (.int 2)) mNil))) (mC (.int 0)))) (mVar 2) (mON (on1 oTuple) (mCons (mVar 2) mNil))))) mSkip)
    (mRet (mVar 1)))
def b_law_same (s : Sps) : MS :=
    (mSeq (mIfS (mB (mIsi ["list", "tuple"] (mVar 1))) (mSeq (mIfS (mOrT (mB (mOp oNe (mIsi ["list"] (mVar 0)) (mIsi ["list"] (mVar 1)))) (mB (mOp oNe (mIsi ["tuple"] (mVar 0)) (mIsi ["tuple"] (mVar 1))))) (mRet (mC (.bool false))) mSkip)
    (mRet (mAnd (mOp oEq (mON (on1 oLen) (mCons (mVar 0) mNil)) (mON (on1 oLen) (mCons (mVar 1) mNil))) (mON (on1 oAll) (mCons (mLc (mZip (mCons (mVar 0) (mCons (mVar 1) mNil))) (tgT (tgCons (tgN 2) (tgCons (tgN 3) tgNil))) mYes (mCall 2 s.law_same (mCons (mVar 2) (mCons (mVar 3) mNil))) [2, 3]) mNil))))) mSkip)
    (mSeq (mIfS (mB (mIsi ["dict"] (mVar 1))) mNo mSkip)
    (mSeq (mIfS (mOrT (mB (mIsi ["bool"] (mVar 1))) (mB (mIsi ["bool"] (mVar 0)))) (mRet (mAnd (mIsi ["bool"] (mVar 1)) (mAnd (mIsi ["bool"] (mVar 0)) (mOp oEq (mVar 0) (mVar 1))))) mSkip)
    (mSeq (mIfS (mOrT (mB (mOp oIsN (mVar 1) (mC .none))) (mB (mOp oIsN (mVar 0) (mC .none)))) (mRet (mAnd (mOp oIsN (mVar 1) (mC .none)) (mOp oIsN (mVar 0) (mC .none)))) mSkip)
    (mSeq (mIfS (mOrT (mB (mOp oNe (mIsi ["int"] (mVar 1)) (mIsi ["int"] (mVar 0)))) (mB (mOp oNe (mIsi ["str"] (mVar 1)) (mIsi ["str"] (mVar 0))))) (mRet (mC (.bool false))) mSkip)
    (mRet (mAnd (mNot (mIsi ["list", "tuple", "dict"] (mVar 0))) (mOp oEq (mVar 0) (mVar 1)))))))))
def b_law_made (s : Sps) : MS :=
    (mSeq (mSet 2 (mLc (mItems (mOp oIx (mVar 1) (mC (.int 1)))) (tgN 3) mYes (mCall 2 s.law_loose (mCons (mVar 0) (mCons (mON (on1 oTuple) (mCons (mCall 2 s.law_mixed (mCons (mVar 0) (mCons (mON (on1 oList) (mCons (mVar 3) mNil)) mNil))) mNil)) mNil))) [3]))
    (mRet (mCall 2 s.Hall (mCons (mCall 2 s.law_loose (mCons (mVar 0) (mCons (mCall 2 s.law_mixed (mCons (mVar 0) (mCons (mOp oIx (mVar 1) (mC (.int 0))) mNil))) mNil))) (mCons (mCall 2 s.law_loose (mCons (mVar 0) (mCons (mCall 2 s.law_mixed (mCons (mVar 0) (mCons (mVar 2) mNil))) mNil))) mNil)))))
def b_law_lots_right (s : Sps) : MS :=
    (mSeq (mSet 3 (mLc (mItems (mCall 2 s.law_lot (mCons (mVar 0) (mCons (mVar 1) mNil)))) (tgN 4) (mB (mOp oNe (mVar 4) (mOp oIx (mOp oIx (mVar 1) (mC (.int 0))) (mU oNeg (mC (.int 1)))))) (mVar 4) [4]))
    (mSeq (mPar 5 6 none none (mCall 2 s.law_without (mCons (mVar 1) (mCons (mVar 3) mNil))) (mCall 2 s.law_loose (mCons (mVar 0) (mCons (mVar 3) mNil))))
    (mSeq (mPar 7 8 none none (mON (on1 oRepr) (mCons (mVar 6) mNil)) (mLst (mCons (mCall 2 s.without_rooms (mCons (mVar 2) (mCons (mVar 6) mNil))) (mCons (mCallK 2 (["lot", "hall"] : List Str).length [1, 0] s.without_rooms (mCons (mON (on1 oList) (mCons (mVar 3) mNil)) (mCons (mVar 2) mNil))) mNil))))
    (mRet (mAnd (mCall 2 s.law_same (mCons (mLc (mItems (mVar 8)) (tgN 9) mYes (mLst (mCons (mMeth "Hall" "rooms" 1 s.Hall_rooms (mVar 9) mNil) (mCons (mMeth "Hall" "wires" 1 s.Hall_wires (mVar 9) mNil) mNil))) [9]) (mCons (mOp oMul (mLst (mCons (mLst (mCons (mOp oIx (mVar 5) (mC (.int 0))) (mCons (mOp oIx (mVar 5) (mC (.int 1))) mNil))) mNil)) (mC (.int 2))) mNil))) (mOp oEq (mON (on1 oRepr) (mCons (mVar 6) mNil)) (mVar 7)))))))
def b_law_twins_right (s : Sps) : MS :=
    (mSeq (mOwn 4 false (mLst mNil))
    (mSeq (mFor (mEnum (mCons (mOp oIx (mVar 1) (mC (.int 0))) mNil)) (tgT (tgCons (tgN 5) (tgCons (tgN 6) tgNil))) (mExt 4 (mLc (mItems (mSl (mOp oIx (mVar 1) (mC (.int 0))) (mSome (mOp oAdd (mVar 5) (mC (.int 1)))) mNone)) (tgN 7) (mB (mOp oEq (mCall 3 s.law_touch (mCons (mVar 1) (mCons (mVar 3) (mCons (mVar 6) mNil)))) (mCall 3 s.law_touch (mCons (mVar 1) (mCons (mVar 3) (mCons (mVar 7) mNil)))))) (mTup (mCons (mVar 6) (mCons (mVar 7) mNil))) [7])))
    (mSpoil 8 (mCall 2 s.twins (mCons (mVar 2) (mCons (mVar 3) mNil))) (mCallK 2 (["kind", "hall"] : List Str).length [1, 0] s.twins (mCons (mVar 3) (mCons (mVar 2) mNil))) (mNotT (mB (mCall 2 s.law_same (mCons (mVar 8) (mCons (mLst (mCons (mVar 4) (mCons (mVar 4) mNil))) mNil)))))
    (mSeq (mFrz 4 (mFor (mItems (mSl (mCall 2 s.law_mixed (mCons (mVar 0) (mCons (mVar 4) mNil))) mNone (mSome (mC (.int 2))))) (tgT (tgCons (tgN 6) (tgCons (tgN 7) tgNil))) (mSeq (mAsg (tgT (tgCons (tgN 9) (tgCons (tgN 10) tgNil))) (mIf (mB (mOp oEq (mCall 2 s.law_draw (mCons (mVar 0) (mCons (mC (.int 2)) mNil))) (mC (.int 0)))) (mTup (mCons (mVar 6) (mCons (mVar 7) mNil))) (mTup (mCons (mVar 7) (mCons (mVar 6) mNil)))))
    (mSeq (mSet 11 (mCall 2 s.law_without (mCons (mVar 1) (mCons (mLst (mCons (mVar 9) mNil)) mNil))))
    (mSeq (mSet 12 (mCall 2 s.without_rooms (mCons (mVar 2) (mCons (mLst (mCons (mVar 9) mNil)) mNil))))
    (mSeq (mIfS (mOrT (mB (mOp oNe (mOp oMul (mC (.int 2)) (mON (on1 oLen) (mCons (mCall 2 s.quiets (mCons (mVar 12) (mCons (mVar 3) mNil))) mNil))) (mON (on1 oLen) (mCons (mCall 2 s.quiets (mCons (mVar 2) (mCons (mVar 3) mNil))) mNil)))) (mB (mOp oNe (mON (on1 oLen) (mCons (mCall 2 s.quiets (mCons (mVar 12) (mCons (mVar 3) mNil))) mNil)) (mON (on1 oLen) (mCons (mCall 2 s.law_quiets (mCons (mVar 11) (mCons (mVar 3) mNil))) mNil))))) (mRet (mC (.bool false))) mSkip)
    (mFor (mRange1 (mCons (mC (.int 4)) mNil)) (tgN 13) (mSeq (mSet 14 (mIf (mB (mOp oGt (mVar 13) (mC (.int 1)))) (mCall 2 s.law_lot (mCons (mVar 0) (mCons (mVar 1) mNil))) (mCall 4 s.law_behind (mCons (mVar 1) (mCons (mVar 3) (mCons (mLst mNil) (mCons (mCall 2 s.law_lot (mCons (mVar 0) (mCons (mVar 1) mNil))) mNil)))))))
    (mSeq (mSet 15 (mOp oIx (mCall 4 s.presses_or_watch (mCons (mVar 2) (mCons (mVar 3) (mCons (mLst mNil) (mCons (mON (on1 oList) (mCons (mVar 14) mNil)) mNil))))) (mC (.int 0))))
    (mSeq (mSet 16 (mOp oIx (mCall 4 s.presses_or_watch (mCons (mVar 12) (mCons (mVar 3) (mCons (mLst mNil) (mCons (mLc (mItems (mVar 14)) (tgN 17) (mB (mOp oNe (mVar 17) (mVar 9))) (mVar 17) [17]) mNil))))) (mC (.int 0))))
    (mSeq (mSet 18 (mAnd (mOp oEq (mOp oIn (mVar 9) (mVar 14)) (mOp oIn (mVar 10) (mVar 14))) (mOp oEq (mVar 16) (mC (.str "presses")))))
    (mIfS (mNotT (mB (mCall 2 s.law_same (mCons (mVar 15) (mCons (mIf (mB (mVar 18)) (mC (.str "presses")) (mC (.str "watch"))) mNil))))) (mRet (mC (.bool false))) mSkip))))))))))))
    (mRet (mC (.bool true)))))))
def b_law_ends_right (s : Sps) : MS :=
    (mSeq (mSet 2 (mLc (mItems (mOp oIx (mVar 0) (mC (.int 0)))) (tgN 3) mYes (mTup (mCons (mVar 3) (mCons (mCall 2 s.law_around (mCons (mVar 0) (mCons (mVar 3) mNil))) mNil))) [3]))
    (mSeq (mSet 4 (mLc (mItems (mVar 2)) (tgT (tgCons (tgN 3) (tgCons (tgN 5) tgNil))) (mB (mOp oEq (mON (on1 oLen) (mCons (mVar 5) mNil)) (mC (.int 1)))) (mTup (mCons (mVar 3) (mCons (mOp oIx (mVar 5) (mC (.int 0))) mNil))) [3, 5]))
    (mSpoil 6 (mCall 1 s.ends (mCons (mVar 1) mNil)) (mCallK 1 (["hall"] : List Str).length [0] s.ends (mCons (mVar 1) mNil)) (mNotT (mB (mCall 2 s.law_same (mCons (mVar 6) (mCons (mLst (mCons (mVar 4) (mCons (mVar 4) mNil))) mNil)))))
    (mSeq (mSet 7 (mCall 2 s.quiets (mCons (mVar 1) (mCons (mC (.str "around")) mNil))))
    (mSeq (mFor (mItems (mSl (mVar 4) mNone (mSome (mC (.int 3))))) (tgT (tgCons (tgN 8) (tgCons (tgN 9) tgNil))) (mSeq (mIfS (mB (mON (on1 oAny) (mCons (mLc (mItems (mVar 7)) (tgN 10) mYes (mOp oIn (mVar 9) (mVar 10)) [10]) mNil))) (mRet (mC (.bool false))) mSkip)
    (mIfS (mB (mOp oGt (mON (on1 oLen) (mCons (mOp oIx (mVar 0) (mC (.int 0))) mNil)) (mC (.int 2)))) (mSeq (mSet 11 (mCall 2 s.law_without (mCons (mVar 0) (mCons (mLst (mCons (mVar 8) (mCons (mVar 9) mNil))) mNil))))
    (mSeq (mSet 12 (mCall 2 s.without_rooms (mCons (mVar 1) (mCons (mON (on1 oSorted) (mCons (mLst (mCons (mVar 8) (mCons (mVar 9) mNil))) mNil)) mNil))))
    (mIfS (mOrT (mB (mOp oNe (mON (on1 oLen) (mCons (mCall 2 s.quiets (mCons (mVar 12) (mCons (mC (.str "around")) mNil))) mNil)) (mON (on1 oLen) (mCons (mVar 7) mNil)))) (mB (mOp oNe (mON (on1 oLen) (mCons (mCall 2 s.law_quiets (mCons (mVar 11) (mCons (mC (.str "around")) mNil))) mNil)) (mON (on1 oLen) (mCons (mVar 7) mNil))))) (mRet (mC (.bool false))) mSkip))) mSkip)))
    (mRet (mCall 2 s.law_same (mCons (mCall 1 s.ends (mCons (mVar 1) mNil)) (mCons (mVar 4) mNil)))))))))
def b_law (s : Sps) : MS :=
    (mSeq (mFor (mRange1 (mCons (mC (.int 6)) mNil)) (tgN 2) (mSeq (mSet 3 (mCall 2 s.law_pick (mCons (mVar 1) (mCons (mLst (mCons (mC (.str "own")) (mCons (mC (.str "around")) mNil))) mNil))))
    (mSeq (mSet 4 (mCall 3 s.law_with (mCons (mVar 1) (mCons (mCall 3 s.law_hall (mCons (mVar 1) (mCons (mC (.int 6)) (mCons (mC (.int 10)) mNil)))) (mCons (mVar 3) mNil)))))
    (mSeq (mPar 5 6 none none (mCall 2 s.law_made (mCons (mVar 1) (mCons (mVar 4) mNil))) (mON (on1 oRepr) (mCons (mVar 4) mNil)))
    (mSeq (mIfS (mOrT (mNotT (mB (mCall 3 s.law_lots_right (mCons (mVar 1) (mCons (mVar 4) (mCons (mVar 5) mNil)))))) (mNotT (mB (mCall 4 s.law_twins_right (mCons (mVar 1) (mCons (mVar 4) (mCons (mVar 5) (mCons (mVar 3) mNil)))))))) (mRet (mC (.bool false))) mSkip)
    (mIfS (mOrT (mNotT (mB (mCall 2 s.law_ends_right (mCons (mVar 4) (mCons (mVar 5) mNil))))) (mB (mOp oNe (mON (on1 oRepr) (mCons (mVar 4) mNil)) (mVar 6)))) (mRet (mC (.bool false))) mSkip))))))
    (mSeq (mSet 4 (mCall 3 s.law_hall (mCons (mVar 1) (mCons (mC (.int 12)) (mCons (mC (.int 24)) mNil)))))
    (mSeq (mIfS (mNotT (mB (mCall 3 s.law_lots_right (mCons (mVar 1) (mCons (mVar 4) (mCons (mCall 2 s.law_made (mCons (mVar 1) (mCons (mVar 4) mNil))) mNil)))))) (mRet (mC (.bool false))) mSkip)
    (mSeq (mSet 5 (mCall 2 s.Hall (mCons (mLst (mCons (mC (.str "a")) (mCons (mC (.str "b")) (mCons (mC (.str "c")) (mCons (mC (.str "d")) mNil))))) (mCons (mLst (mCons (mTup (mCons (mC (.str "a")) (mCons (mC (.str "b")) mNil))) (mCons (mTup (mCons (mC (.str "b")) (mCons (mC (.str "c")) mNil))) (mCons (mTup (mCons (mC (.str "c")) (mCons (mC (.str "d")) mNil))) (mCons (mTup (mCons (mC (.str "a")) (mCons (mC (.str "d")) mNil))) (mCons (mTup (mCons (mC (.str "a")) (mCons (mC (.str "c")) mNil))) mNil)))))) mNil))))
    (mSeq (mSet 7 (mLst (mCons (mCall 2 s.twins (mCons (mVar 5) (mCons (mC (.str "own")) mNil))) (mCons (mCall 2 s.twins (mCons (mVar 5) (mCons (mC (.str "around")) mNil))) (mCons (mMeth "Hall" "wires" 1 s.Hall_wires (mCall 2 s.without_rooms (mCons (mVar 5) (mCons (mLst (mCons (mC (.str "a")) (mCons (mC (.str "c")) mNil))) mNil))) mNil) (mCons (mCall 1 s.ends (mCons (mCall 2 s.Hall (mCons (mLst (mCons (mC (.str "p")) (mCons (mC (.str "q")) (mCons (mC (.str "r")) mNil)))) (mCons (mLst (mCons (mTup (mCons (mC (.str "p")) (mCons (mC (.str "q")) mNil))) mNil)) mNil))) mNil)) mNil))))))
    (mRet (mCall 2 s.law_same (mCons (mVar 7) (mCons (mLst (mCons (mLst (mCons (mTup (mCons (mC (.str "a")) (mCons (mC (.str "c")) mNil))) mNil)) (mCons (mLst (mCons (mTup (mCons (mC (.str "b")) (mCons (mC (.str "d")) mNil))) mNil)) (mCons (mLst mNil) (mCons (mLst (mCons (mTup (mCons (mC (.str "p")) (mCons (mC (.str "q")) mNil))) (mCons (mTup (mCons (mC (.str "q")) (mCons (mC (.str "p")) mNil))) mNil))) mNil))))) mNil)))))))))
end W
namespace GF
variable {α : Type} [DecidableEq α]
def par : List α → (α → Bool) → Bool
  | [], _ => false
  | a :: l, f => f a ^^ par l f
theorem par_congr {f g : α → Bool} : ∀ {l : List α}, (∀ a ∈ l, f a = g a) → par l f = par l g
  | [], _ => rfl
  | a :: l, h => by
    show (f a ^^ par l f) = (g a ^^ par l g)
    rw [h a (List.mem_cons_self ..), par_congr fun b hb => h b (List.mem_cons_of_mem _ hb)]
theorem par_false : ∀ (l : List α), par l (fun _ => false) = false
  | [] => rfl
  | a :: l => by show (false ^^ par l _) = false; rw [par_false l]; rfl
theorem par_zero {f : α → Bool} {l : List α} (h : ∀ a ∈ l, f a = false) : par l f = false := (par_congr h).trans (par_false l)
theorem par_xor (f g : α → Bool) : ∀ l : List α, par l (fun a => f a ^^ g a) = (par l f ^^ par l g)
  | [] => rfl
  | a :: l => by
    show ((f a ^^ g a) ^^ par l _) = ((f a ^^ par l f) ^^ (g a ^^ par l g))
    rw [par_xor f g l]
    cases f a <;> cases g a <;> cases par l f <;> cases par l g <;> rfl
theorem par_swap {β : Type} [DecidableEq β] (f : α → β → Bool) (m : List β) : ∀ l : List α, par l (fun a => par m fun b => f a b) = par m (fun b => par l fun a => f a b)
  | [] => (par_false m).symm
  | a :: l => by
    show (par m (f a) ^^ par l _) = _
    rw [par_swap f m l, ← par_xor]; rfl
theorem par_single {f : α → Bool} {a : α} : ∀ {l : List α}, l.Nodup → a ∈ l → (∀ b ∈ l, b ≠ a → f b = false) → par l f = f a
  | [], _, h, _ => absurd h (List.not_mem_nil)
  | b :: l, n, h, z => by
    show (f b ^^ par l f) = f a
    rw [List.nodup_cons] at n
    by_cases e : b = a
    · subst e
      rw [par_zero fun c hc => z c (List.mem_cons_of_mem _ hc) fun e => n.1 (e ▸ hc), Bool.xor_false]
    · have hl : a ∈ l := by rcases List.mem_cons.mp h with h | h; exact absurd h.symm e; exact h
      rw [z b (List.mem_cons_self ..) e, Bool.false_xor]
      exact par_single n.2 hl fun c hc => z c (List.mem_cons_of_mem _ hc)
theorem par_and_left (c : Bool) (f : α → Bool) : ∀ l : List α, par l (fun a => c && f a) = (c && par l f)
  | [] => by cases c <;> rfl
  | a :: l => by
    show ((c && f a) ^^ par l _) = (c && (f a ^^ par l f))
    rw [par_and_left c f l]; cases c <;> simp
def dot (R : List α) (x y : α → Bool) : Bool := par R fun r => x r && y r
theorem dot_comm (R : List α) (x y : α → Bool) : dot R x y = dot R y x := par_congr fun a _ => Bool.and_comm ..
theorem dot_xor (R : List α) (x y z : α → Bool) : dot R (fun a => x a ^^ y a) z = (dot R x z ^^ dot R y z) := by
  unfold dot; rw [← par_xor]; exact par_congr fun a _ => by cases h1 : x a <;> cases h2 : y a <;> cases h3 : z a <;> simp [h1, h2, h3]
theorem dot_xor_r (R : List α) (x y z : α → Bool) : dot R z (fun a => x a ^^ y a) = (dot R z x ^^ dot R z y) := by
  rw [dot_comm, dot_xor, dot_comm R x, dot_comm R y]
theorem dot_congr {R : List α} {x y x' y' : α → Bool} (h : ∀ a ∈ R, x a = x' a) (h' : ∀ a ∈ R, y a = y' a) : dot R x y = dot R x' y' := par_congr fun a ha => by rw [h a ha, h' a ha]
def tv (T : α → α → Bool) (P : List α) (x : α → Bool) (s : α) : Bool := par P fun r => x r && T r s
theorem tv_xor (T : α → α → Bool) (P : List α) (x y : α → Bool) (s : α) : tv T P (fun a => x a ^^ y a) s = (tv T P x s ^^ tv T P y s) := by
  unfold tv; rw [← par_xor]; exact par_congr fun a _ => by cases h1 : x a <;> cases h2 : y a <;> cases h3 : T a s <;> simp [h1, h2, h3]
theorem tv_congr {T : α → α → Bool} {P : List α} {x y : α → Bool} {s : α} (h : ∀ a ∈ P, x a = y a) : tv T P x s = tv T P y s := par_congr fun a ha => by rw [h a ha]
theorem tv_single {T : α → α → Bool} {P : List α} {r s : α} (n : P.Nodup) (h : r ∈ P) : tv T P (fun a => decide (a = r)) s = T r s := by
  unfold tv
  rw [par_single n h fun b _ hb => by simp [hb]]; simp
theorem tv_zero {T : α → α → Bool} {P : List α} {x : α → Bool} {s : α} (h : ∀ a ∈ P, x a = false) : tv T P x s = false := par_zero fun a ha => by rw [h a ha]; rfl
theorem dot_tv (T : α → α → Bool) (P R : List α) (x z : α → Bool) : dot R (tv T P x) z = par P fun r => x r && dot R (T r) z := by
  show par R (fun s => par P (fun r => x r && T r s) && z s) = _
  have : ∀ s, (par P (fun r => x r && T r s) && z s) = par P fun r => x r && (T r s && z s) := fun s => by
    rw [Bool.and_comm, ← par_and_left]; exact par_congr fun a _ => by cases x a <;> cases T a s <;> cases z s <;> rfl
  rw [par_congr fun s _ => this s, par_swap]
  exact par_congr fun a _ => par_and_left ..
theorem sep (T : α → α → Bool) (R : List α) (nR : R.Nodup) : ∀ (P : List α), P.Nodup → ∀ t : α → Bool, (∃ x : α → Bool, ∀ s ∈ R, tv T P x s = t s) ∨ ∃ z : α → Bool, (∀ r ∈ P, dot R (T r) z = false) ∧ dot R t z = true
  | [], _, t => by
    by_cases h : ∀ s ∈ R, t s = false
    · exact .inl ⟨fun _ => false, fun s hs => (h s hs).symm⟩
    · have ⟨s, hs, e⟩ : ∃ s ∈ R, t s = true := Classical.byContradiction fun h2 => h fun s hs => by
        cases e : t s with
        | false => rfl
        | true => exact absurd ⟨s, hs, e⟩ h2
      refine .inr ⟨fun a => decide (a = s), fun _ h => absurd h List.not_mem_nil, ?_⟩
      unfold dot
      rw [par_single nR hs fun b _ hb => by simp [hb]]
      simp [e]
  | r :: P, n, t => by
    rw [List.nodup_cons] at n
    have put : ∀ (c : Bool) (x : α → Bool) (s : α), tv T (r :: P) (fun a => if a = r then c else x a) s = ((c && T r s) ^^ tv T P x s) := fun c x s => by
      show (((if r = r then c else x r) && T r s) ^^ tv T P _ s) = _
      rw [if_pos rfl, tv_congr (y := x) fun a ha => if_neg fun (e : a = r) => n.1 (e ▸ ha)]
    rcases sep T R nR P n.2 t with ⟨x, hx⟩ | ⟨z, hz, ht⟩
    · exact .inl ⟨_, fun s hs => by rw [put false x, hx s hs]; simp⟩
    · by_cases hr : dot R (T r) z = false
      · exact .inr ⟨z, fun a ha => by rcases List.mem_cons.mp ha with rfl | ha; exact hr; exact hz a ha, ht⟩
      · rw [Bool.not_eq_false] at hr
        rcases sep T R nR P n.2 (fun s => t s ^^ T r s) with ⟨x, hx⟩ | ⟨w, hw, hv⟩
        · exact .inl ⟨_, fun s hs => by rw [put true x, hx s hs]; cases T r s <;> cases t s <;> rfl⟩
        · rw [dot_xor] at hv
          by_cases hq : dot R (T r) w = false
          · rw [hq, Bool.xor_false] at hv
            exact .inr ⟨w, fun a ha => by rcases List.mem_cons.mp ha with rfl | ha; exact hq; exact hw a ha, hv⟩
          · rw [Bool.not_eq_false] at hq
            rw [hq] at hv
            have h2 : dot R t w = false := by cases h : dot R t w; rfl; rw [h] at hv; cases hv
            exact .inr ⟨fun a => z a ^^ w a, fun a ha => by
              rw [dot_xor_r]
              rcases List.mem_cons.mp ha with rfl | ha
              · rw [hr, hq]; rfl
              · rw [hz a ha, hw a ha]; rfl, by rw [dot_xor_r, ht, h2]; rfl⟩
def sm1 (found : List (α → Bool)) (q : α → Bool) : List (α → Bool) := found ++ found.map fun f a => f a ^^ q a
def sm (qs : List (α → Bool)) : List (α → Bool) := qs.foldl sm1 [fun _ => false]
theorem sm_snoc (qs : List (α → Bool)) (q : α → Bool) : sm (qs ++ [q]) = sm1 (sm qs) q := by
  unfold sm; rw [List.foldl_append]; rfl
theorem sm_length (qs : List (α → Bool)) : ∀ found : List (α → Bool), (qs.foldl sm1 found).length = found.length * 2 ^ qs.length := by
  induction qs with
  | nil => intro f; simp
  | cons q qs ih => intro f; rw [List.foldl_cons, ih]; simp [sm1, Nat.pow_succ]; rw [← Nat.two_mul, Nat.mul_comm 2, Nat.mul_assoc, Nat.mul_comm 2]
structure Inv (T : α → α → Bool) (R P : List α) (rows : List (α × (α → Bool) × (α → Bool))) (qs : List (α → Bool)) : Prop where
  sub : ∀ w ∈ rows, ∀ a, w.2.2 a = true → a ∈ P
  rest : ∀ w ∈ rows, ∀ s, w.2.1 s = true → s ∈ R
  lead : ∀ w ∈ rows, ∀ s ∈ R, w.2.1 s = tv T R w.2.2 s
  key : ∀ w ∈ rows, w.2.1 w.1 = true
  tri : rows.Pairwise fun v w => w.2.1 v.1 = false
  ind : ∀ y : α → Bool, (∀ a, y a = true → a ∈ P) → (∀ w ∈ rows, tv T R y w.1 = false) → ∀ s ∈ R, tv T R y s = false
  nod : (sm qs).Nodup
  ker : ∀ y : α → Bool, y ∈ sm qs ↔ (∀ a, y a = true → a ∈ P) ∧ ∀ s ∈ R, tv T R y s = false
theorem Inv.start (T : α → α → Bool) (R : List α) : Inv T R [] [] [] where
  sub := fun _ h => absurd h List.not_mem_nil
  rest := fun _ h => absurd h List.not_mem_nil
  lead := fun _ h => absurd h List.not_mem_nil
  key := fun _ h => absurd h List.not_mem_nil
  tri := .nil
  ind := fun y h _ s _ => tv_zero fun a _ => by
    cases e : y a with
    | false => rfl
    | true => exact absurd (h a e) List.not_mem_nil
  nod := by simp [sm]
  ker := fun y => by
    have : sm ([] : List (α → Bool)) = [fun _ => false] := rfl
    rw [this, List.mem_singleton]
    constructor
    · rintro rfl; exact ⟨fun a h => absurd h (by simp), fun s _ => tv_zero fun _ _ => rfl⟩
    · rintro ⟨h, _⟩; funext a
      cases e : y a with
      | false => rfl
      | true => exact absurd (h a e) List.not_mem_nil
theorem Inv.keyR {T : α → α → Bool} {R P : List α} {rows : List (α × (α → Bool) × (α → Bool))} {qs : List (α → Bool)} (I : Inv T R P rows qs) {w : α × (α → Bool) × (α → Bool)} (h : w ∈ rows) : w.1 ∈ R := I.rest w h _ (I.key w h)
theorem Inv.quiet {T : α → α → Bool} {R P : List α} {rows : List (α × (α → Bool) × (α → Bool))} {qs : List (α → Bool)} (I : Inv T R P rows qs) {r : α} (hr : r ∉ P) {l : α → Bool} (hl : ∀ a, l a = true → a ∈ P) (nR : R.Nodup) (hR : r ∈ R)
    (h : ∀ s ∈ R, (T r s ^^ tv T R l s) = false) : Inv T R (P ++ [r]) rows (qs ++ [fun a => l a ^^ decide (a = r)]) := by
  have tq : ∀ s ∈ R, tv T R (fun a => l a ^^ decide (a = r)) s = false := fun s hs => by
    rw [tv_xor, tv_single nR hR, Bool.xor_comm]; exact h s hs
  have lr : l r = false := by
    cases e : l r with
    | false => rfl
    | true => exact absurd (hl r e) hr
  have sup : ∀ y ∈ sm qs, y r = false := fun y hy => by
    cases e : y r with
    | false => rfl
    | true => exact absurd (((I.ker y).mp hy).1 r e) hr
  refine ⟨fun w hw a ha => List.mem_append_left _ (I.sub w hw a ha), I.rest, I.lead, I.key, I.tri, ?_, ?_, ?_⟩
  · intro y hy hk s hs
    cases e : y r with
    | false =>
      refine I.ind y (fun a ha => ?_) hk s hs
      rcases List.mem_append.mp (hy a ha) with h | h
      · exact h
      · rw [List.mem_singleton.mp h] at ha; rw [e] at ha; cases ha
    | true =>
      have key : ∀ s ∈ R, tv T R (fun a => y a ^^ (l a ^^ decide (a = r))) s = tv T R y s := fun s hs => by rw [tv_xor, tq s hs, Bool.xor_false]
      rw [← key s hs]
      refine I.ind _ (fun a ha => ?_) (fun w hw => by rw [key _ (I.keyR hw)]; exact hk w hw) s hs
      by_cases har : a = r
      · subst har; simp [e, lr] at ha
      · cases ea : y a with
        | true =>
          rcases List.mem_append.mp (hy a ea) with h | h
          · exact h
          · exact absurd (List.mem_singleton.mp h) har
        | false => exact hl a (by simpa [ea, har] using ha)
  · rw [sm_snoc]
    unfold sm1
    rw [List.nodup_append]
    refine ⟨I.nod, ?_, ?_⟩
    · unfold List.Nodup
      rw [List.pairwise_map]
      refine List.Pairwise.imp (fun {f g} hfg h => hfg ?_) I.nod
      funext a
      have := congrFun h a
      simpa using this
    · intro a ha b hb e
      obtain ⟨f, hf, rfl⟩ := List.mem_map.mp hb
      have := congrFun e r
      simp [sup a ha, sup f hf, lr] at this
  · intro y
    rw [sm_snoc]
    unfold sm1
    rw [List.mem_append]
    constructor
    · rintro (h | h)
      · exact ⟨fun a ha => List.mem_append_left _ (((I.ker y).mp h).1 a ha), ((I.ker y).mp h).2⟩
      · obtain ⟨f, hf, rfl⟩ := List.mem_map.mp h
        have hk := (I.ker f).mp hf
        refine ⟨fun a ha => ?_, fun s hs => by rw [tv_xor, tq s hs, hk.2 s hs]; rfl⟩
        by_cases har : a = r
        · subst har; simp
        · refine List.mem_append_left _ ?_
          cases ef : f a with
          | true => exact hk.1 a ef
          | false => exact hl a (by simpa [ef, har] using ha)
    · rintro ⟨h1, h2⟩
      cases e : y r with
      | false =>
        refine .inl ((I.ker y).mpr ⟨fun a ha => ?_, h2⟩)
        rcases List.mem_append.mp (h1 a ha) with h | h
        · exact h
        · rw [List.mem_singleton.mp h, e] at ha; cases ha
      | true =>
        refine .inr (List.mem_map.mpr ⟨fun a => y a ^^ (l a ^^ decide (a = r)), (I.ker _).mpr ⟨fun a ha => ?_, fun s hs => by rw [tv_xor, tq s hs, h2 s hs]; rfl⟩, ?_⟩)
        · by_cases har : a = r
          · subst har; simp [e, lr] at ha
          · cases ea : y a with
            | true =>
              rcases List.mem_append.mp (h1 a ea) with h | h
              · exact h
              · exact absurd (List.mem_singleton.mp h) har
            | false => exact hl a (by simpa [ea, har] using ha)
        · funext a; simp [Bool.xor_assoc]
theorem Inv.row {T : α → α → Bool} {R P : List α} {rows : List (α × (α → Bool) × (α → Bool))} {qs : List (α → Bool)} (I : Inv T R P rows qs) {r : α} (hr : r ∉ P) {l e : α → Bool} (hl : ∀ a, l a = true → a ∈ P) (nR : R.Nodup) (hR : r ∈ R)
    (h : ∀ s ∈ R, e s = (T r s ^^ tv T R l s)) (he : ∀ s, e s = true → s ∈ R) (hk : ∀ w ∈ rows, e w.1 = false) {c : α} (hc : e c = true) : Inv T R (P ++ [r]) (rows ++ [(c, e, fun a => l a ^^ decide (a = r))]) qs := by
  have tq : ∀ s ∈ R, tv T R (fun a => l a ^^ decide (a = r)) s = e s := fun s hs => by
    rw [tv_xor, tv_single nR hR, Bool.xor_comm]; exact (h s hs).symm
  have lr : l r = false := by
    cases e : l r with
    | false => rfl
    | true => exact absurd (hl r e) hr
  have down : ∀ y : α → Bool, (∀ a, y a = true → a ∈ P ++ [r]) → y r = false → ∀ a, y a = true → a ∈ P := fun y hy e a ha => by
    rcases List.mem_append.mp (hy a ha) with h | h
    · exact h
    · rw [List.mem_singleton.mp h, e] at ha; cases ha
  have up : ∀ y : α → Bool, (∀ a, y a = true → a ∈ P ++ [r]) → y r = true → (∀ w ∈ rows, tv T R y w.1 = false) → ∀ s ∈ R, tv T R y s = e s := fun y hy ey hk2 s hs => by
    have key : ∀ s ∈ R, tv T R (fun a => y a ^^ (l a ^^ decide (a = r))) s = (tv T R y s ^^ e s) := fun s hs => by rw [tv_xor, tq s hs]
    have := I.ind (fun a => y a ^^ (l a ^^ decide (a = r))) (fun a ha => by
      by_cases har : a = r
      · subst har; simp [ey, lr] at ha
      · cases ea : y a with
        | true =>
          rcases List.mem_append.mp (hy a ea) with h | h
          · exact h
          · exact absurd (List.mem_singleton.mp h) har
        | false => exact hl a (by simpa [ea, har] using ha)) (fun w hw => by rw [key _ (I.keyR hw), hk2 w hw, hk w hw]; rfl) s hs
    rw [key s hs] at this
    cases h1 : tv T R y s <;> cases h2 : e s <;> rw [h1, h2] at this <;> first | rfl | cases this
  refine ⟨?_, ?_, ?_, ?_, ?_, ?_, I.nod, ?_⟩
  · intro w hw a ha
    rcases List.mem_append.mp hw with hw | hw
    · exact List.mem_append_left _ (I.sub w hw a ha)
    · rw [List.mem_singleton.mp hw] at ha
      by_cases har : a = r
      · subst har; simp
      · exact List.mem_append_left _ (hl a (by simpa [har] using ha))
  · intro w hw s hs
    rcases List.mem_append.mp hw with hw | hw
    · exact I.rest w hw s hs
    · rw [List.mem_singleton.mp hw] at hs; exact he s hs
  · intro w hw s hs
    rcases List.mem_append.mp hw with hw | hw
    · exact I.lead w hw s hs
    · rw [List.mem_singleton.mp hw]; exact (tq s hs).symm
  · intro w hw
    rcases List.mem_append.mp hw with hw | hw
    · exact I.key w hw
    · rw [List.mem_singleton.mp hw]; exact hc
  · rw [List.pairwise_append]
    refine ⟨I.tri, by simp, fun v hv w hw => ?_⟩
    rw [List.mem_singleton.mp hw]; exact hk v hv
  · intro y hy hk2 s hs
    have hk3 : ∀ w ∈ rows, tv T R y w.1 = false := fun w hw => hk2 w (List.mem_append_left _ hw)
    cases ey : y r with
    | false => exact I.ind y (down y hy ey) hk3 s hs
    | true =>
      have h1 := up y hy ey hk3 c (he c hc)
      have h2 := hk2 _ (List.mem_append_right rows (List.mem_singleton.mpr rfl))
      rw [hc] at h1
      exact absurd (h1.symm.trans h2) (by simp)
  · intro y
    rw [I.ker y]
    constructor
    · rintro ⟨h1, h2⟩; exact ⟨fun a ha => List.mem_append_left _ (h1 a ha), h2⟩
    · rintro ⟨h1, h2⟩
      refine ⟨?_, h2⟩
      cases ey : y r with
      | false => exact down y h1 ey
      | true =>
        have h3 := up y h1 ey (fun w hw => h2 _ (I.keyR hw)) c (he c hc)
        rw [h2 c (he c hc), hc] at h3; cases h3
end GF
namespace GF
variable {α : Type} [DecidableEq α]
theorem nodup_map {β γ : Type} {f : β → γ} {l : List β} (h : ∀ a ∈ l, ∀ b ∈ l, f a = f b → a = b) (n : l.Nodup) : (l.map f).Nodup := by
  unfold List.Nodup at *
  rw [List.pairwise_map]
  refine List.Pairwise.imp_of_mem ?_ n
  intro a b ha hb hab e
  exact hab (h a ha b hb e)
theorem nodup_filter {β : Type} {p : β → Bool} {l : List β} (n : l.Nodup) : (l.filter p).Nodup := List.Pairwise.filter p n
theorem length_same {β : Type} {a b : List β} (n : a.Nodup) (m : b.Nodup) (h : ∀ x, x ∈ a ↔ x ∈ b) : a.length = b.length := ((List.perm_ext_iff_of_nodup n m).mpr h).length_eq
def meas : List (α × (α → Bool) × (α → Bool)) → (α → Bool) → Nat
  | [], _ => 0
  | w :: ws, x => (if x w.1 = true then 2 ^ ws.length else 0) + meas ws x
theorem meas_lt (x : α → Bool) : ∀ ws : List (α × (α → Bool) × (α → Bool)), meas ws x < 2 ^ ws.length
  | [] => by simp [meas]
  | w :: ws => by
    have := meas_lt x ws
    simp only [meas, List.length_cons, Nat.pow_succ]
    split <;> omega
theorem meas_down {x : α → Bool} : ∀ {ws : List (α × (α → Bool) × (α → Bool))}, (∀ w ∈ ws, w.2.1 w.1 = true) → ws.Pairwise (fun v w => w.2.1 v.1 = false) → ∀ w ∈ ws, x w.1 = true → meas ws (fun a => x a ^^ w.2.1 a) < meas ws x
  | [], _, _, w, h, _ => absurd h List.not_mem_nil
  | v :: vs, hk, ht, w, h, hx => by
    rw [List.pairwise_cons] at ht
    rcases List.mem_cons.mp h with rfl | h
    · have := meas_lt (fun a => x a ^^ w.2.1 a) vs
      simp only [meas, hk w (List.mem_cons_self ..), hx, Bool.xor_true, Bool.not_true, if_true]
      simp
      omega
    · have := meas_down (fun u hu => hk u (List.mem_cons_of_mem _ hu)) ht.2 w h hx
      simp only [meas, ht.1 w h, Bool.xor_false]
      omega
def Qt (T : α → α → Bool) (R : List α) (x : α → Bool) : Prop := (∀ a, x a = true → a ∈ R) ∧ ∀ s ∈ R, tv T R x s = false
theorem Inv.qt {T : α → α → Bool} {R : List α} {rows : List (α × (α → Bool) × (α → Bool))} {qs : List (α → Bool)} (I : Inv T R R rows qs) (y : α → Bool) : y ∈ sm qs ↔ Qt T R y := I.ker y
theorem sm_mono (n : Nat) : ∀ (qs : List (α → Bool)), qs.length = n → (fun _ => false) ∈ sm qs ∧ ∀ q ∈ qs, q ∈ sm qs := by
  induction n with
  | zero =>
    intro qs h
    have := List.eq_nil_of_length_eq_zero h
    subst this
    exact ⟨by simp [sm], fun q hq => absurd hq List.not_mem_nil⟩
  | succ n ih =>
    intro qs h
    have hne : qs ≠ [] := fun e => by rw [e] at h; cases h
    rw [← List.dropLast_concat_getLast hne, sm_snoc]
    obtain ⟨h1, h2⟩ := ih qs.dropLast (by rw [List.length_dropLast, h]; rfl)
    refine ⟨List.mem_append_left _ h1, fun q hq => ?_⟩
    rcases List.mem_append.mp hq with hq | hq
    · exact List.mem_append_left _ (h2 q hq)
    · rw [List.mem_singleton.mp hq]
      exact List.mem_append_right _ (List.mem_map.mpr ⟨_, h1, by funext a; simp⟩)
theorem Inv.qs_qt {T : α → α → Bool} {R : List α} {rows : List (α × (α → Bool) × (α → Bool))} {qs : List (α → Bool)} (I : Inv T R R rows qs) : ∀ q ∈ qs, Qt T R q := fun q hq => (I.qt q).mp ((sm_mono _ qs rfl).2 q hq)
theorem mem_sm1 {found : List (α → Bool)} {q x : α → Bool} (h : x ∈ found) : x ∈ sm1 found q := List.mem_append_left _ h
theorem sm_dot {R : List α} {t : α → Bool} (n : Nat) : ∀ qs : List (α → Bool), qs.length = n → (∀ q ∈ qs, dot R t q = false) → ∀ y ∈ sm qs, dot R t y = false := by
  induction n with
  | zero =>
    intro qs h _ y hy
    cases qs with
    | nil =>
      rw [show sm ([] : List (α → Bool)) = [fun _ => false] from rfl, List.mem_singleton] at hy
      subst hy
      exact par_zero fun a _ => by simp
    | cons => cases h
  | succ n ih =>
    intro qs h hq y hy
    have hne : qs ≠ [] := fun e => by rw [e] at h; cases h
    rw [← List.dropLast_concat_getLast hne, sm_snoc] at hy
    have hd : ∀ q ∈ qs.dropLast, dot R t q = false := fun q m => hq q (List.dropLast_subset _ m)
    have hl : qs.dropLast.length = n := by rw [List.length_dropLast, h]; rfl
    rcases List.mem_append.mp hy with hy | hy
    · exact ih _ hl hd y hy
    · obtain ⟨f, hf, rfl⟩ := List.mem_map.mp hy
      rw [dot_xor_r, ih _ hl hd f hf, hq _ (List.getLast_mem hne)]; rfl
theorem dot_single {R : List α} (n : R.Nodup) {g : α} (h : g ∈ R) (x : α → Bool) : dot R x (fun a => decide (a = g)) = x g := by
  unfold dot
  rw [par_single n h fun b _ hb => by simp [hb]]; simp
def Sym (T : α → α → Bool) (R : List α) : Prop := ∀ a ∈ R, ∀ b ∈ R, T a b = T b a
theorem tv_sym {T : α → α → Bool} {R : List α} (h : Sym T R) (x : α → Bool) {s : α} (hs : s ∈ R) : tv T R x s = dot R x (T s) := par_congr fun a ha => by rw [h a ha s hs]
theorem told {T : α → α → Bool} {R : List α} {rows : List (α × (α → Bool) × (α → Bool))} {qs : List (α → Bool)} (I : Inv T R R rows qs) (nR : R.Nodup) (hT : Sym T R) {t x rest : α → Bool}
    (h : ∀ s ∈ R, rest s = (t s ^^ tv T R x s)) (hk : ∀ w ∈ rows, rest w.1 = false) : (∀ s ∈ R, rest s = false) ∨ (∃ s ∈ R, rest s = true) ∧ ∃ q ∈ qs, dot R t q = true := by
  by_cases h0 : ∀ s ∈ R, rest s = false
  · exact .inl h0
  · refine .inr ⟨Classical.byContradiction fun h2 => h0 fun s hs => ?_, Classical.byContradiction fun h2 => h0 ?_⟩
    · cases e : rest s with
      | false => rfl
      | true => exact absurd ⟨s, hs, e⟩ h2
    · have hq : ∀ q ∈ qs, dot R t q = false := fun q m => by
        cases e : dot R t q with
        | false => rfl
        | true => exact absurd ⟨q, m, e⟩ h2
      have hall := sm_dot qs.length qs rfl hq
      rcases sep T R nR R nR t with ⟨y, hy⟩ | ⟨z, hz, ht⟩
      · -- then what is left is led to, and has no key
        have hr : ∀ s ∈ R, rest s = tv T R (fun a => if a ∈ R then (y a ^^ x a) else false) s := fun s hs => by
          rw [tv_congr (y := fun a => y a ^^ x a) fun a ha => if_pos ha, tv_xor, hy s hs, h s hs]
        intro s hs
        rw [hr s hs]
        refine I.ind _ (fun a ha => ?_) (fun w hw => by rw [← hr _ (I.keyR hw)]; exact hk w hw) s hs
        by_cases m : a ∈ R
        · exact m
        · rw [if_neg m] at ha; cases ha
      · exfalso
        have := hall (fun a => if a ∈ R then z a else false) ((I.ker _).mpr ⟨fun a ha => ?_, fun s hs => ?_⟩)
        · rw [dot_congr (fun _ _ => rfl) fun a ha => if_pos ha] at this
          exact absurd (ht.symm.trans this) (by simp)
        · by_cases m : a ∈ R
          · exact m
          · rw [if_neg m] at ha; cases ha
        · rw [tv_congr (y := z) fun a ha => if_pos ha, tv_sym hT z hs, dot_comm]
          exact hz s hs
theorem led_even {T : α → α → Bool} {R : List α} (hT : Sym T R) {t x q : α → Bool} (h : ∀ s ∈ R, tv T R x s = t s) (hq : ∀ s ∈ R, tv T R q s = false) : dot R t q = false := by
  rw [← dot_congr h fun _ _ => rfl, dot_tv]
  exact par_zero fun a ha => by
    rw [dot_comm, ← tv_sym hT q ha, hq a ha, Bool.and_false]
theorem par_filter {p : α → Bool} {f : α → Bool} : ∀ l : List α, par (l.filter p) f = par l fun a => p a && f a
  | [] => rfl
  | a :: l => by
    cases h : p a with
    | true => rw [List.filter_cons_of_pos h]; show (f a ^^ par _ f) = ((p a && f a) ^^ par l _); rw [par_filter l, h, Bool.true_and]
    | false => rw [List.filter_cons_of_neg (by simp [h])]; show par _ f = ((p a && f a) ^^ par l _); rw [par_filter l, h]; simp
section
variable {T : α → α → Bool} {R : List α} {g s : α} (nR : R.Nodup) (hT : Sym T R) (hg : g ∈ R) (hs : s ∈ R) (hgs : g ≠ s) (tw : ∀ u ∈ R, T g u = T s u)
include nR hT hg hs hgs tw
theorem twin_two {u : α} (hu : u ∈ R) : tv T R (fun a => decide (a = g) ^^ decide (a = s)) u = false := by
  rw [tv_xor, tv_single nR hg, tv_single nR hs, tw u hu, Bool.xor_self]
omit nR hs hgs tw hT hg in
theorem tv_less (x : α → Bool) (hx : x g = false) (u : α) : tv T (R.filter fun a => decide (a ≠ g)) x u = tv T R x u := by
  unfold tv
  rw [par_filter]
  refine par_congr fun a _ => ?_
  by_cases h : a = g
  · subst h; simp [hx]
  · simp [h]
omit nR hs hgs in
theorem tv_at (x : α → Bool) (hs : s ∈ R) : tv T R x g = tv T R x s := by
  unfold tv
  exact par_congr fun a ha => by rw [hT a ha g hg, hT a ha s hs, tw a ha]
theorem twin_led (t : α → Bool) : (∃ x, ∀ u ∈ R, tv T R x u = t u) ↔ t g = t s ∧ ∃ x, ∀ u ∈ R.filter (fun a => decide (a ≠ g)), tv T (R.filter fun a => decide (a ≠ g)) x u = t u := by
  constructor
  · rintro ⟨x, hx⟩
    refine ⟨by rw [← hx g hg, ← hx s hs]; exact tv_at hT hg tw x hs, ?_⟩
    cases e : x g with
    | false => exact ⟨x, fun u hu => by rw [tv_less x e]; exact hx u (List.mem_filter.mp hu).1⟩
    | true =>
      refine ⟨fun a => x a ^^ (decide (a = g) ^^ decide (a = s)), fun u hu => ?_⟩
      have hu := (List.mem_filter.mp hu).1
      rw [tv_less _ (by simp [e, hgs]), tv_xor, twin_two nR hT hg hs hgs tw hu, hx u hu, Bool.xor_false]
  · rintro ⟨e, x, hx⟩
    have key : ∀ u ∈ R, u ≠ g → tv T R (fun a => x a && decide (a ≠ g)) u = t u := fun u hu h => by
      rw [← tv_less (g := g) (fun a => x a && decide (a ≠ g)) (by simp), tv_congr (y := x) fun a ha => by
        have := (List.mem_filter.mp ha).2
        simp at this; simp [this]]
      exact hx u (List.mem_filter.mpr ⟨hu, by simp [h]⟩)
    refine ⟨fun a => x a && decide (a ≠ g), fun u hu => ?_⟩
    by_cases h : u = g
    · subst h
      rw [tv_at hT hg tw _ hs, key s hs (Ne.symm hgs), e]
    · exact key u hu h
theorem twin_count {A B : List (α → Bool)} (nA : A.Nodup) (nB : B.Nodup) (hA : ∀ x, x ∈ A ↔ Qt T R x) (hB : ∀ x, x ∈ B ↔ Qt T (R.filter fun a => decide (a ≠ g)) x) : 2 * B.length = A.length := by
  have h1 : B.length = (A.filter fun x => !(x g)).length := by
    refine length_same nB (nodup_filter nA) fun x => ?_
    rw [hB, List.mem_filter, hA]
    constructor
    · rintro ⟨h1, h2⟩
      have xg : x g = false := by
        cases e : x g with
        | false => rfl
        | true => have := (List.mem_filter.mp (h1 g e)).2; simp at this
      refine ⟨⟨fun a ha => (List.mem_filter.mp (h1 a ha)).1, fun u hu => ?_⟩, by simp [xg]⟩
      have key : ∀ u ∈ R, u ≠ g → tv T R x u = false := fun u hu h => by
        rw [← tv_less x xg]; exact h2 u (List.mem_filter.mpr ⟨hu, by simp [h]⟩)
      by_cases h : u = g
      · subst h; rw [tv_at hT hg tw _ hs]; exact key s hs (Ne.symm hgs)
      · exact key u hu h
    · rintro ⟨⟨h1, h2⟩, h3⟩
      have xg : x g = false := by simpa using h3
      refine ⟨fun a ha => List.mem_filter.mpr ⟨h1 a ha, ?_⟩, fun u hu => by rw [tv_less x xg]; exact h2 u (List.mem_filter.mp hu).1⟩
      simp; rintro rfl; rw [xg] at ha; cases ha
  have h2 : (A.filter fun x => x g).length = (A.filter fun x => !(x g)).length := by
    rw [← List.length_map (as := A.filter fun x => x g) (fun (x : α → Bool) a => x a ^^ (decide (a = g) ^^ decide (a = s)))]
    refine length_same (nodup_map ?_ (nodup_filter nA)) (nodup_filter nA) fun x => ?_
    · intro a _ b _ e
      funext u
      have := congrFun e u
      simpa using this
    · have flip : ∀ y, Qt T R y → Qt T R fun a => y a ^^ (decide (a = g) ^^ decide (a = s)) := fun y hy => by
        refine ⟨fun a ha => ?_, fun u hu => by rw [tv_xor, twin_two nR hT hg hs hgs tw hu, hy.2 u hu]; rfl⟩
        by_cases e1 : a = g
        · rw [e1]; exact hg
        · by_cases e2 : a = s
          · rw [e2]; exact hs
          · exact hy.1 a (by simpa [e1, e2] using ha)
      rw [List.mem_map, List.mem_filter, hA]
      constructor
      · rintro ⟨y, hy, rfl⟩
        rw [List.mem_filter, hA] at hy
        exact ⟨flip y hy.1, by simp [hy.2, hgs]⟩
      · rintro ⟨h, h3⟩
        refine ⟨_, List.mem_filter.mpr ⟨(hA _).mpr (flip x h), ?_⟩, ?_⟩
        · have : x g = false := by simpa using h3
          simp [this, hgs]
        · funext a; simp [Bool.xor_assoc]
  have h3 := (List.filter_append_perm (fun x : α → Bool => x g) A).length_eq
  rw [List.length_append] at h3
  omega
end
section
variable {T : α → α → Bool} {R : List α} {e f : α} (nR : R.Nodup) (hT : Sym T R) (he : e ∈ R) (hf : f ∈ R) (hef : e ≠ f) (en : ∀ u ∈ R, T e u = decide (u = f))
include nR hT he hf hef en
theorem end_at (x : α → Bool) : tv T R x e = x f := by
  rw [tv_sym hT x he, dot_congr (fun _ _ => rfl) en, dot_single nR hf]
theorem end_friend {x : α → Bool} (h : Qt T R x) : x f = false := by rw [← end_at nR hT he hf hef en x]; exact h.2 e he
theorem end_count {A B : List (α → Bool)} (nA : A.Nodup) (nB : B.Nodup) (hA : ∀ x, x ∈ A ↔ Qt T R x) (hB : ∀ x, x ∈ B ↔ Qt T (R.filter fun a => decide (a ≠ e) && decide (a ≠ f)) x) : B.length = A.length := by
  have less : ∀ (x : α → Bool), x e = false → x f = false → ∀ u, tv T (R.filter fun a => decide (a ≠ e) && decide (a ≠ f)) x u = tv T R x u := fun x h1 h2 u => by
    unfold tv
    rw [par_filter]
    refine par_congr fun a _ => ?_
    by_cases h : a = e
    · subst h; simp [h1]
    · by_cases h' : a = f
      · subst h'; simp [h2]
      · simp [h, h']
  have one : ∀ u ∈ R, u ≠ f → ∀ x : α → Bool, tv T R (fun a => x a && decide (a ≠ e)) u = tv T R x u := fun u hu h x => by
    unfold tv
    refine par_congr fun a ha => ?_
    by_cases h' : a = e
    · subst h'; rw [en u hu]; simp [h]
    · simp [h']
  rw [← List.length_map (as := A) (fun (x : α → Bool) a => x a && decide (a ≠ e))]
  refine length_same nB (nodup_map ?_ nA) fun x => ?_
  · intro x hx y hy h
    have hx := (hA x).mp hx
    have hy := (hA y).mp hy
    have off : ∀ a, a ≠ e → x a = y a := fun a ha => by have := congrFun h a; simpa [ha] using this
    funext a
    by_cases ha : a = e
    · subst ha
      have hz : tv T R (fun u => x u ^^ y u) f = false := by rw [tv_xor, hx.2 f hf, hy.2 f hf]; rfl
      have : tv T R (fun u => x u ^^ y u) f = (x a ^^ y a) := by
        unfold tv
        rw [par_single nR he fun b _ hb => by simp [off b hb]]
        rw [en f hf]; simp
      rw [this] at hz
      cases h1 : x a <;> cases h2 : y a <;> simp_all
    · exact off a ha
  · rw [hB, List.mem_map]
    constructor
    · rintro ⟨h1, h2⟩
      have xe : x e = false := by
        cases e1 : x e with
        | false => rfl
        | true => have := (List.mem_filter.mp (h1 e e1)).2; simp at this
      have xf : x f = false := by
        cases e1 : x f with
        | false => rfl
        | true => have := (List.mem_filter.mp (h1 f e1)).2; simp at this
      have key : ∀ u ∈ R, u ≠ e → u ≠ f → tv T R x u = false := fun u hu a b => by
        rw [← less x xe xf]; exact h2 u (List.mem_filter.mpr ⟨hu, by simp [a, b]⟩)
      refine ⟨fun a => x a ^^ (tv T R x f && decide (a = e)), (hA _).mpr ⟨fun a ha => ?_, fun u hu => ?_⟩, ?_⟩
      · by_cases h : a = e
        · rw [h]; exact he
        · have : x a = true := by simpa [h] using ha
          exact (List.mem_filter.mp (h1 a this)).1
      · have hsing : tv T R (fun a => tv T R x f && decide (a = e)) u = (tv T R x f && decide (u = f)) := by
          cases hc : tv T R x f with
          | false => rw [tv_zero fun a _ => by simp]; simp
          | true => rw [tv_congr (y := fun a => decide (a = e)) fun a _ => by simp, tv_single nR he, en u hu]; simp
        rw [tv_xor, hsing]
        by_cases hu2 : u = f
        · subst hu2; simp
        · by_cases hu3 : u = e
          · subst hu3; rw [end_at nR hT he hf hef en, xf]; simp [hef]
          · rw [key u hu hu3 hu2]; simp [hu2]
      · funext a
        by_cases h : a = e
        · subst h; simp [xe]
        · simp [h]
    · rintro ⟨y, hy, rfl⟩
      have hy := (hA y).mp hy
      have yf := end_friend nR hT he hf hef en hy
      refine ⟨fun a ha => List.mem_filter.mpr ⟨hy.1 a ?_, ?_⟩, fun u hu => ?_⟩
      · have : y a = true ∧ ¬ a = e := by simpa using ha
        exact this.1
      · have : y a = true ∧ ¬ a = e := by simpa using ha
        simp [this.2]
        rintro rfl; rw [yf] at this; cases this.1
      · have hu' := List.mem_filter.mp hu
        have : u ≠ e ∧ u ≠ f := by simpa using hu'.2
        rw [less _ (by simp) (by simp [yf]), one u hu'.1 this.2]
        exact hy.2 u hu'.1
end
end GF
namespace DL
open PySem PySem.Spec PySem.W PyProof.Rows L2
theorem dataLe_iff {a b : PyData} : dataLe false id a b = true ↔ dataLt b a = false := by
  show (!dataLt b a) = true ↔ _
  simp
theorem dataLt_irrefl (a : PyData) : dataLt a a = false := (listOrd itemOrd).irrefl (keyToks a)
theorem dataLt_trans {a b c : PyData} (h1 : dataLt a b = true) (h2 : dataLt b c = true) : dataLt a c = true := (listOrd itemOrd).trans (keyToks a) (keyToks b) (keyToks c) h1 h2
theorem dataLt_asymm {a b : PyData} (h : dataLt a b = true) : dataLt b a = false := by
  cases e : dataLt b a with
  | false => rfl
  | true => rw [← dataLt_irrefl a, dataLt_trans h e]
theorem sortP_perm (ds : List PyData) : (sortP ds).Perm ds := List.mergeSort_perm ds _
theorem sortP_sorted (ds : List PyData) : (sortP ds).Pairwise fun a b => dataLe false id a b = true :=
  sort_pairwise (sortLe_total (listOrd itemOrd) false fun b => keyToks (id b)) ds
theorem sortP_eq {l m : List PyData} (hp : m.Perm l) (hs : m.Pairwise fun a b => dataLt a b = true) : sortP l = m := by
  refine (List.Perm.eq_of_pairwise (le := fun a b => dataLe false id a b = true) ?_ ?_ (sortP_sorted l) (hp.trans (sortP_perm l).symm)).symm
  · intro a b ha hb h1 h2
    have hb' : b ∈ m := hp.mem_iff.mpr ((sortP_perm l).mem_iff.mp hb)
    rw [dataLe_iff] at h1 h2
    apply Classical.byContradiction
    intro hne
    have : dataLt a b = true ∨ dataLt b a = true := by
      clear hp h1 h2
      induction hs with
      | nil => exact absurd ha List.not_mem_nil
      | cons hx hr ih =>
        rcases List.mem_cons.mp ha with rfl | ha
        · rcases List.mem_cons.mp hb' with rfl | hb'
          · exact absurd rfl hne
          · exact .inl (hx _ hb')
        · rcases List.mem_cons.mp hb' with e | hb'
          · rw [e]; exact .inr (hx _ ha)
          · exact ih ha hb'
    rcases this with h | h
    · rw [h2] at h; cases h
    · rw [h1] at h; cases h
  · exact hs.imp fun {a b} h => dataLe_iff.mpr (dataLt_asymm h)
abbrev ltS (a b : Str) : Prop := dataLt (.str a) (.str b) = true
abbrev Up (R : List Str) : Prop := R.Pairwise ltS
abbrev Wire := Str × Str
def dW (w : Wire) : PyData := .tuple [.str w.1, .str w.2]
def dL (l : List Str) : PyData := .list (l.map PyData.str)
abbrev UpW (ws : List Wire) : Prop := ws.Pairwise fun a b => dataLt (dW a) (dW b) = true
theorem Up.nodup {R : List Str} (h : Up R) : R.Nodup := h.imp fun {a b} h e => by subst e; exact absurd (h.symm.trans (dataLt_irrefl (.str a))) (by simp)
theorem UpW.nodup {R : List Wire} (h : UpW R) : R.Nodup := h.imp fun {a b} h e => by subst e; exact absurd (h.symm.trans (dataLt_irrefl (dW a))) (by simp)
theorem Up.filter {R : List Str} (h : Up R) (p : Str → Bool) : Up (R.filter p) := List.Pairwise.filter p h
theorem UpW.filter {R : List Wire} (h : UpW R) (p : Wire → Bool) : UpW (R.filter p) := List.Pairwise.filter p h
theorem dS_inj {a b : Str} (h : PyData.str a = PyData.str b) : a = b := by cases h; rfl
theorem dL_inj {a b : List Str} (h : dL a = dL b) : a = b := by
  injection h with h
  exact List.map_inj_right (fun _ _ h => dS_inj h) |>.mp h
theorem sort_texts {l R : List Str} (h : Up R) (p : R.Perm l) : sortP (l.map PyData.str) = R.map PyData.str := sortP_eq (p.map _) (List.pairwise_map.mpr h)
theorem sort_wires {l R : List Wire} (h : UpW R) (p : R.Perm l) : sortP (l.map dW) = R.map dW := sortP_eq (p.map _) (List.pairwise_map.mpr h)
theorem sortOk_texts (l : List Str) : SortOk (l.map PyData.str) where
  al := fun d hd d' hd' => by
    obtain ⟨a, _, rfl⟩ := List.mem_map.mp hd
    obtain ⟨b, _, rfl⟩ := List.mem_map.mp hd'
    rfl
  sb := .inr fun d hd => by
    obtain ⟨a, _, rfl⟩ := List.mem_map.mp hd
    exact ⟨by simp [dL], by simp [dL]⟩
  nd := by
    induction l with
    | nil => rfl
    | cons a l ih => show (nd (PyData.str a) && ndL (l.map PyData.str)) = true; rw [ih]; rfl
  dp := fun d hd => by
    obtain ⟨a, _, rfl⟩ := List.mem_map.mp hd
    show PyData.depth (.str a) ≤ 40
    simp [PyData.depth]
theorem sortOk_wires (l : List Wire) : SortOk (l.map dW) where
  al := fun d hd d' hd' => by
    obtain ⟨a, _, rfl⟩ := List.mem_map.mp hd
    obtain ⟨b, _, rfl⟩ := List.mem_map.mp hd'
    simp [dW, alike, alikeAll]
  sb := .inl fun d hd => by
    obtain ⟨a, _, rfl⟩ := List.mem_map.mp hd
    exact ⟨_, _, rfl⟩
  nd := by
    induction l with
    | nil => rfl
    | cons a l ih => show (nd (dW a) && ndL (l.map dW)) = true; rw [ih]; rfl
  dp := fun d hd => by
    obtain ⟨a, _, rfl⟩ := List.mem_map.mp hd
    simp [dW, PyData.depth, PyData.depthAll]
theorem ndL_texts : ∀ l : List Str, ndL (l.map PyData.str) = true
  | [] => rfl
  | a :: l => by show (nd (PyData.str a) && ndL (l.map PyData.str)) = true; rw [ndL_texts l]; rfl
theorem depth_texts : ∀ l : List Str, PyData.depthAll (l.map PyData.str) = 0
  | [] => by simp [PyData.depthAll]
  | a :: l => by
    have ih := depth_texts l
    simp [PyData.depthAll, ih, PyData.depth]
theorem alike_texts : ∀ l m : List Str, alikeAll (l.map PyData.str) (m.map PyData.str) = true
  | [], _ => by simp [alikeAll]
  | _ :: _, [] => by simp [alikeAll]
  | a :: l, b :: m => by
    have ih := alike_texts l m
    simp [alikeAll, ih, alike]
theorem sortOk_lots (l : List (List Str)) : SortOk (l.map dL) where
  al := fun d hd d' hd' => by
    obtain ⟨a, _, rfl⟩ := List.mem_map.mp hd
    obtain ⟨b, _, rfl⟩ := List.mem_map.mp hd'
    show alike (.list _) (.list _) = true
    rw [alike]; exact alike_texts a b
  sb := .inr fun d hd => by
    obtain ⟨a, _, rfl⟩ := List.mem_map.mp hd
    exact ⟨by simp [dL], by simp [dL]⟩
  nd := by
    induction l with
    | nil => rfl
    | cons a l ih => show (ndL (a.map PyData.str) && ndL (l.map dL)) = true; rw [ih, ndL_texts]; rfl
  dp := fun d hd => by
    obtain ⟨a, _, rfl⟩ := List.mem_map.mp hd
    simp [dL, PyData.depth, depth_texts]
theorem eqv_str (a b : Str) : PyData.eqv (PyData.str a) (PyData.str b) = decide (a = b) := by
  show (a == b) = _
  by_cases h : a = b
  · subst h; simp
  · simp [h]
theorem eqvAll_texts : ∀ l m : List Str, PyData.eqvAll (l.map PyData.str) (m.map PyData.str) = decide (l = m)
  | [], [] => by simp [PyData.eqvAll]
  | [], _ :: _ => by simp [PyData.eqvAll]
  | _ :: _, [] => by simp [PyData.eqvAll]
  | a :: l, b :: m => by
    rw [List.map_cons, List.map_cons, PyData.eqvAll, eqv_str, eqvAll_texts l m]
    simp
theorem eqv_lot (l m : List Str) : PyData.eqv (dL l) (dL m) = decide (l = m) := by
  unfold dL; rw [PyData.eqv]; exact eqvAll_texts l m
theorem flat_str (a : Str) : flat (PyData.str a) = true := by simp [flat, nd, PyData.depth]
theorem flat_lot (l : List Str) : flat (dL l) = true := by
  have := ndL_texts l
  simp [flat, dL, nd, PyData.depth, depth_texts, this]
theorem inB_lot (a : Str) (l : List Str) : inB (PyData.str a) (dL l) = decide (a ∈ l) := by
  unfold inB dL
  rw [Bool.eq_iff_iff]
  simp [List.any_map, PyData.eqv, List.any_eq_true]
theorem lcW_pure {β : Type} {t : Tgt} {tests : MT} {elt : M} {γ : Env} {n : Nat} (enc : β → PyData) (p : β → Bool) (f : β → PyData) : ∀ (xs : List β) (acc : List PyData) (k : List PyData → Nat → Prop),
    (∀ x ∈ xs, ∃ ps, t (enc x) = some ps ∧ (∀ K : Bool → Nat → Prop, K (p x) n → tests (setE γ ps) n K) ∧ (p x = true → ∀ K : PyData → Nat → Prop, K (f x) n → elt (setE γ ps) n K)) →
    acc.length + xs.length ≤ sizeLine → k (acc ++ (xs.filter p).map f) n → lcW t tests elt γ (xs.map enc) acc n k
  | [], acc, k, _, _, h => by
    rw [List.filter_nil, List.map_nil, List.append_nil] at h
    exact h
  | x :: xs, acc, k, hx, hl, h => by
    obtain ⟨ps, e, ht, he⟩ := hx x (List.mem_cons_self ..)
    rw [List.length_cons] at hl
    refine ⟨ps, e, ht _ ?_⟩
    cases hp : p x with
    | true =>
      rw [if_pos rfl]
      refine he hp _ ⟨by omega, ?_⟩
      refine lcW_pure enc p f xs _ k (fun y hy => hx y (List.mem_cons_of_mem _ hy)) (by rw [List.length_append]; simp; omega) ?_
      rw [List.filter_cons_of_pos hp, List.map_cons] at h
      rw [List.append_assoc]; exact h
    | false =>
      rw [if_neg (by simp)]
      refine lcW_pure enc p f xs _ k (fun y hy => hx y (List.mem_cons_of_mem _ hy)) (by omega) ?_
      rw [List.filter_cons_of_neg (by simp [hp])] at h
      exact h
theorem oInB_lot (g : Bool → Bool) (a : Str) (l : List Str) (k : PyData → Prop) : oInB g (PyData.str a) (dL l) k = k (.bool (g (decide (a ∈ l)))) := by
  rw [← inB_lot]
  exact propext ⟨fun h => h.2.2, fun h => ⟨flat_str a, flat_lot l, h⟩⟩
theorem inB_wire (a : Str) (w : Wire) : inB (PyData.str a) (dW w) = (decide (w.1 = a) || decide (w.2 = a)) := by
  show (PyData.eqv (PyData.str w.1) (PyData.str a) || (PyData.eqv (PyData.str w.2) (PyData.str a) || false)) = _
  rw [eqv_str, eqv_str, Bool.or_false]
theorem oInB_wire (g : Bool → Bool) (a : Str) (w : Wire) (k : PyData → Prop) : oInB g (PyData.str a) (dW w) k = k (.bool (g (decide (w.1 = a) || decide (w.2 = a)))) := by
  rw [← inB_wire]
  exact propext ⟨fun h => h.2.2, fun h => ⟨rfl, rfl, h⟩⟩
theorem oEq_str (a b : Str) (k : PyData → Prop) : oEq (PyData.str a) (PyData.str b) k = k (.bool (decide (a = b))) := by
  rw [← eqv_str]
  exact propext ⟨fun h => h.2.2, fun h => ⟨flat_str a, flat_str b, h⟩⟩
theorem oNe_str (a b : Str) (k : PyData → Prop) : oNe (PyData.str a) (PyData.str b) k = k (.bool (!decide (a = b))) := by
  rw [← eqv_str]
  exact propext ⟨fun h => h.2.2, fun h => ⟨flat_str a, flat_str b, h⟩⟩
theorem oEq_lot (a b : List Str) (k : PyData → Prop) : oEq (dL a) (dL b) k = k (.bool (decide (a = b))) := by
  rw [← eqv_lot]
  exact propext ⟨fun h => h.2.2, fun h => ⟨flat_lot a, flat_lot b, h⟩⟩
theorem oNe_lot (a b : List Str) (k : PyData → Prop) : oNe (dL a) (dL b) k = k (.bool (!decide (a = b))) := by
  rw [← eqv_lot]
  exact propext ⟨fun h => h.2.2, fun h => ⟨flat_lot a, flat_lot b, h⟩⟩
theorem flat_int (i : Int) : flat (.int i) = true := by simp [flat, nd, PyData.depth]
theorem oEq_int (a b : Int) (k : PyData → Prop) : oEq (.int a) (.int b) k = k (.bool (decide (a = b))) := by
  have : PyData.eqv (.int a) (.int b) = decide (a = b) := by
    show (a == b) = _
    by_cases h : a = b
    · subst h; simp
    · simp [h]
  rw [← this]
  exact propext ⟨fun h => h.2.2, fun h => ⟨flat_int a, flat_int b, h⟩⟩
theorem oNe_int (a b : Int) (k : PyData → Prop) : oNe (.int a) (.int b) k = k (.bool (!decide (a = b))) := by
  have : PyData.eqv (.int a) (.int b) = decide (a = b) := by
    show (a == b) = _
    by_cases h : a = b
    · subst h; simp
    · simp [h]
  rw [← this]
  exact propext ⟨fun h => h.2.2, fun h => ⟨flat_int a, flat_int b, h⟩⟩
theorem itemsP_lot (l : List Str) : itemsP (dL l) = some (l.map PyData.str) := rfl
theorem itemsP_list (l : List PyData) : itemsP (.list l) = some l := rfl
theorem itemsP_tuple (l : List PyData) : itemsP (.tuple l) = some l := rfl
theorem oIx_wire0 (w : Wire) (k : PyData → Prop) : oIx (dW w) (.int 0) k = k (PyData.str w.1) := propext ⟨fun ⟨_, e, h⟩ => by cases e; exact h, fun h => ⟨_, rfl, h⟩⟩
theorem oIx_wire1 (w : Wire) (k : PyData → Prop) : oIx (dW w) (.int 1) k = k (PyData.str w.2) := propext ⟨fun ⟨_, e, h⟩ => by cases e; exact h, fun h => ⟨_, rfl, h⟩⟩
theorem oIx_t0 (a : PyData) (l : List PyData) (k : PyData → Prop) : oIx (.tuple (a :: l)) (.int 0) k = k a := propext ⟨fun ⟨_, e, h⟩ => by
    have : atI (a :: l) 0 = some a := by unfold atI ixN; simp
    rw [this] at e; cases e; exact h, fun h => ⟨a, by unfold atI ixN; simp, h⟩⟩
theorem atI_one {α : Type} (a b : α) (l : List α) : atI (a :: b :: l) 1 = some b := by
  unfold atI ixN
  have : (1 : Int) < (l.length : Int) + 1 + 1 := by omega
  simp [this]
theorem oIx_t1 (a b : PyData) (l : List PyData) (k : PyData → Prop) : oIx (.tuple (a :: b :: l)) (.int 1) k = k b := propext ⟨fun ⟨_, e, h⟩ => by
    have : atI (a :: b :: l) 1 = some b := atI_one a b l
    rw [this] at e; cases e; exact h, fun h => ⟨b, atI_one a b l, h⟩⟩
theorem oIx_l0 (a : PyData) (l : List PyData) (k : PyData → Prop) : oIx (.list (a :: l)) (.int 0) k = k a := propext ⟨fun ⟨_, e, h⟩ => by
    have : atI (a :: l) 0 = some a := by unfold atI ixN; simp
    rw [this] at e; cases e; exact h, fun h => ⟨a, by unfold atI ixN; simp, h⟩⟩
theorem add_list (a b : List PyData) (k : PyData → Prop) : oAdd (.list a) (.list b) k = (a.length + b.length ≤ sizeLine ∧ k (.list (a ++ b))) := rfl
theorem sorted_texts {l R : List Str} {k : PyData → Prop} (h : Up R) (p : R.Perm l) (hk : k (dL R)) : oSorted (.list (l.map PyData.str)) k := ⟨_, rfl, sortOk_texts l, by rw [sort_texts h p]; exact hk⟩
theorem sorted_wires {l R : List Wire} {k : PyData → Prop} (h : UpW R) (p : R.Perm l) (hk : k (.list (R.map dW))) : oSorted (.list (l.map dW)) k := ⟨_, rfl, sortOk_wires l, by rw [sort_wires h p]; exact hk⟩
theorem sorted_lots {l : List (List Str)} {k : PyData → Prop} (hk : k (.list (sortP (l.map dL)))) : oSorted (.list (l.map dL)) k := ⟨_, rfl, sortOk_lots l, hk⟩
theorem sz : 16000000 ≤ sizeLine := by decide
end DL
namespace DL
open PySem PySem.Spec PySem.W PyProof.Rows L2
inductive Al {α β : Type} (R : α → β → Prop) : List α → List β → Prop
  | nil : Al R [] []
  | cons {a : α} {b : β} {as : List α} {bs : List β} : R a b → Al R as bs → Al R (a :: as) (b :: bs)
theorem Al.length {α β : Type} {R : α → β → Prop} : ∀ {as : List α} {bs : List β}, Al R as bs → as.length = bs.length
  | _, _, .nil => rfl
  | _, _, .cons _ h => by rw [List.length_cons, List.length_cons, h.length]
theorem Al.imp {α β : Type} {R S : α → β → Prop} (h : ∀ a b, R a b → S a b) : ∀ {as : List α} {bs : List β}, Al R as bs → Al S as bs
  | _, _, .nil => .nil
  | _, _, .cons r t => .cons (h _ _ r) (t.imp h)
theorem Al.app {α β : Type} {R : α → β → Prop} : ∀ {as : List α} {bs : List β} {cs : List α} {ds : List β}, Al R as bs → Al R cs ds → Al R (as ++ cs) (bs ++ ds)
  | _, _, _, _, .nil, h => h
  | _, _, _, _, .cons r t, h => .cons r (t.app h)
theorem lcW_rel {β : Type} {t : Tgt} {elt : M} {γ : Env} (enc : β → PyData) (R : β → PyData → Prop) (c : Nat) : ∀ (xs : List β) (acc : List PyData) (n : Nat) (k : List PyData → Nat → Prop),
    (∀ x ∈ xs, ∃ ps, t (enc x) = some ps ∧ ∀ (n : Nat) (K : PyData → Nat → Prop), c ≤ n → (∀ d n', R x d → n ≤ n' + c → K d n') → elt (setE γ ps) n K) →
    acc.length + xs.length ≤ sizeLine → xs.length * c ≤ n → (∀ ds n', Al R xs ds → n ≤ n' + xs.length * c → k (acc ++ ds) n') → lcW t mYes elt γ (xs.map enc) acc n k
  | [], acc, n, k, _, _, _, h => by
    have := h [] n .nil (by simp)
    rw [List.append_nil] at this
    exact this
  | x :: xs, acc, n, k, hx, hl, hn, h => by
    obtain ⟨ps, e, he⟩ := hx x (List.mem_cons_self ..)
    rw [List.length_cons] at hl hn h
    rw [Nat.succ_mul] at hn h
    refine ⟨ps, e, ?_⟩
    simp only [mYes, if_true]
    refine he n _ (by omega) fun d n' hd hn' => ⟨by omega, ?_⟩
    refine lcW_rel enc R c xs _ n' k (fun y hy => hx y (List.mem_cons_of_mem _ hy)) (by rw [List.length_append]; simp; omega) (by omega) fun ds n2 ha h2 => ?_
    rw [List.append_assoc]
    exact h (d :: ds) n2 (.cons hd ha) (by omega)
theorem ex_fld {C : Str} {es : List (Str × PyData)} {f : Str} {d : PyData} (h : es.lookup f = some d) (P : PyData → Prop) : (∃ es' d', (insP C es = insP C es' ∨ insP C es = parP C es') ∧ es'.lookup f = some d' ∧ P d') = P d := by
  refine propext ⟨?_, fun hp => ⟨es, d, .inl rfl, h, hp⟩⟩
  rintro ⟨es', d', e | e, h', hp⟩
  · obtain ⟨_, rfl⟩ := insP_inj e
    rw [h] at h'; cases h'; exact hp
  · exact absurd e (by unfold insP parP; simp)
theorem ex_isC {C : Str} {es : List (Str × PyData)} (P : Prop) : (∃ es', insP C es = insP C es' ∧ P) = P := propext ⟨fun ⟨_, _, h⟩ => h, fun h => ⟨es, rfl, h⟩⟩
theorem ex_meth {C x : Str} {es : List (Str × PyData)} (h : es.lookup x = none) (P : Prop) : (∃ es', insP C es = insP C es' ∧ es'.lookup x = none ∧ P) = P := propext ⟨fun ⟨_, _, _, h⟩ => h, fun hp => ⟨es, rfl, h, hp⟩⟩
theorem ex_ty {d : PyData} {t : String} (h : tyS d = some t) (P : String → Prop) : (∃ t', tyS d = some t' ∧ P t') = P t := propext ⟨fun ⟨_, e, hp⟩ => by rw [h] at e; cases e; exact hp, fun hp => ⟨t, h, hp⟩⟩
theorem ex_ty_str (a : Str) (P : String → Prop) : (∃ t', tyS (PyData.str a) = some t' ∧ P t') = P "str" := ex_ty rfl P
theorem ex_ty_list (a : List PyData) (P : String → Prop) : (∃ t', tyS (.list a) = some t' ∧ P t') = P "list" := ex_ty rfl P
theorem ex_ty_tuple (a : List PyData) (P : String → Prop) : (∃ t', tyS (.tuple a) = some t' ∧ P t') = P "tuple" := ex_ty rfl P
theorem ex_some {α : Type} (a : α) (P : α → Prop) : (∃ x, some a = some x ∧ P x) = P a := propext ⟨fun ⟨_, e, h⟩ => by cases e; exact h, fun h => ⟨a, rfl, h⟩⟩
theorem isi_str : (["str"].any fun T => isTy T "str") = true := by decide
theorem isi_seq_l : (["list", "tuple"].any fun T => isTy T "list") = true := by decide
theorem isi_seq_t : (["list", "tuple"].any fun T => isTy T "tuple") = true := by decide
def sq (b : Bool) (l : List PyData) : PyData := if b = true then .tuple l else .list l
theorem itemsP_sq (b : Bool) (l : List PyData) : itemsP (sq b l) = some l := by cases b <;> rfl
theorem ex_ty_sq (b : Bool) (l : List PyData) (P : String → Prop) : (∃ t', tyS (sq b l) = some t' ∧ P t') = P (if b = true then "tuple" else "list") := by cases b; exact ex_ty rfl P; exact ex_ty rfl P
theorem isi_seq_q (b : Bool) : (["list", "tuple"].any fun T => isTy T (if b = true then "tuple" else "list")) = true := by cases b <;> decide
theorem allStr_texts : ∀ l : List Str, allStr (l.map PyData.str) = true
  | [] => rfl
  | a :: l => allStr_texts l
theorem inB_sq (b : Bool) (a : Str) (l : List Str) : inB (PyData.str a) (sq b (l.map PyData.str)) = decide (a ∈ l) := by
  have h : inB (PyData.str a) (sq b (l.map PyData.str)) = inB (PyData.str a) (dL l) := by cases b <;> rfl
  rw [h, inB_lot]
theorem oInB_sq (g : Bool → Bool) (b : Bool) (a : Str) (l : List Str) (k : PyData → Prop) : oInB g (PyData.str a) (sq b (l.map PyData.str)) k = k (.bool (g (decide (a ∈ l)))) := by
  rw [← inB_sq b]
  cases b
  · exact propext ⟨fun h => h.2.2, fun h => ⟨flat_str a, flat_lot l, h⟩⟩
  · exact propext ⟨fun h => h.2.2, fun h => ⟨rfl, allStr_texts l, h⟩⟩
theorem oLen_sq (b : Bool) (l : List PyData) (k : PyData → Prop) : oLen (sq b l) k = k (.int (l.length : Nat)) := by cases b <;> rfl
theorem oLen_list (l : List PyData) (k : PyData → Prop) : oLen (.list l) k = k (.int (l.length : Nat)) := rfl
theorem oLen_tuple (l : List PyData) (k : PyData → Prop) : oLen (.tuple l) k = k (.int (l.length : Nat)) := rfl
theorem oLen_lot (l : List Str) (k : PyData → Prop) : oLen (dL l) k = k (.int (l.length : Nat)) := by
  show k (.int ((l.map PyData.str).length : Nat)) = _
  rw [List.length_map]
theorem oList_list (l : List PyData) (k : PyData → Prop) : oList (.list l) k = k (.list l) := rfl
theorem oList_tuple (l : List PyData) (k : PyData → Prop) : oList (.tuple l) k = k (.list l) := rfl
theorem oList_sq (b : Bool) (l : List PyData) (k : PyData → Prop) : oList (sq b l) k = k (.list l) := by cases b <;> rfl
theorem oList_lot (l : List Str) (k : PyData → Prop) : oList (dL l) k = k (dL l) := rfl
theorem oList_wire (w : Wire) (k : PyData → Prop) : oList (dW w) k = k (.list [PyData.str w.1, PyData.str w.2]) := rfl
theorem oI_int {C : Int → Int → Prop} {g : Int → Int → PyData} (a b : Int) (k : PyData → Prop) : oI C g (.int a) (.int b) k = (C a b ∧ k (g a b)) := rfl
theorem oLt_int (a b : Int) (k : PyData → Prop) : oLt (.int a) (.int b) k = k (.bool (decide (a < b))) := rfl
theorem oAdd_int (a b : Int) (k : PyData → Prop) : oAdd (.int a) (.int b) k = k (.int (a + b)) := rfl
theorem oMul_int (a b : Int) (k : PyData → Prop) : oMul (.int a) (.int b) k = (CMul a b ∧ k (.int (a * b))) := rfl
theorem oLt_str (a b : Str) (k : PyData → Prop) : oLt (PyData.str a) (PyData.str b) k = k (.bool (dataLt (PyData.str a) (PyData.str b))) := by rw [dataLt_str]; rfl
theorem oIx_lot0 (a : Str) (l : List Str) (k : PyData → Prop) : oIx (dL (a :: l)) (.int 0) k = k (PyData.str a) := oIx_l0 _ _ _
theorem cutP_from {α : Type} (l : List α) (i : Nat) : cutP l (some (i : Int)) none = l.drop i := by
  unfold cutP
  rw [HT.sIx_nat, HT.sIx_none]
  by_cases h : i ≤ l.length
  · rw [Nat.min_eq_left h, List.take_of_length_le (by rw [List.length_drop]; omega)]
  · rw [Nat.min_eq_right (by omega), List.drop_length, List.drop_eq_nil_of_le (by omega), List.take_nil]
theorem cutP_to {α : Type} (l : List α) (i : Nat) : cutP l none (some (i : Int)) = l.take i := by
  unfold cutP
  rw [HT.sIx_nat, HT.sIx_none, List.drop_zero, Nat.sub_zero]
  by_cases h : i ≤ l.length
  · rw [Nat.min_eq_left h]
  · rw [Nat.min_eq_right (by omega), List.take_length, List.take_of_length_le (by omega)]
theorem oSl_sq (b : Bool) (l : List PyData) (lo hi : Option Int) (k : PyData → Prop) : oSl (sq b l) lo hi k = k (sq b (cutP l lo hi)) := by cases b <;> rfl
theorem oSl_list (l : List PyData) (lo hi : Option Int) (k : PyData → Prop) : oSl (.list l) lo hi k = k (.list (cutP l lo hi)) := rfl
theorem cutP_map {α β : Type} (f : α → β) (l : List α) (lo hi : Option Int) : cutP (l.map f) lo hi = (cutP l lo hi).map f := by
  unfold cutP
  rw [List.length_map, List.map_take, List.map_drop]
theorem oSl_lot (l : List Str) (lo hi : Option Int) (k : PyData → Prop) : oSl (dL l) lo hi k = k (dL (cutP l lo hi)) := by
  show k (.list (cutP (l.map PyData.str) lo hi)) = _
  rw [cutP_map]; rfl
theorem zipP_sq (b : Bool) (l m : List PyData) : zipP (sq b l) (sq b m) = some ((l.zip m).map fun p => .tuple [p.1, p.2]) := by cases b <;> rfl
theorem enumP_sq (b : Bool) (l : List PyData) : enumP (sq b l) = some (l.zipIdx.map fun p => .tuple [.int (p.2 : Nat), p.1]) := by cases b <;> rfl
theorem zipIdx_map {α β : Type} (f : α → β) (l : List α) : ∀ i, (l.map f).zipIdx i = (l.zipIdx i).map fun p => (f p.1, p.2) := by
  induction l with
  | nil => intro i; rfl
  | cons a l ih => intro i; simp [List.zipIdx_cons, ih]
theorem toBools_map {β : Type} (f : β → Bool) : ∀ l : List β, toBools (l.map fun x => .bool (f x)) = some (l.map f)
  | [] => rfl
  | a :: l => by
    show (toBools (l.map fun x => .bool (f x))).map (f a :: ·) = _
    rw [toBools_map f l]; rfl
theorem oAll_map {β : Type} (f : β → Bool) (l : List β) (k : PyData → Prop) (hk : k (.bool (l.all f))) : oAll (.list (l.map fun x => .bool (f x))) k := ⟨_, toBools_map f l, by rw [List.all_map]; exact hk⟩
theorem oAny_map {β : Type} (f : β → Bool) (l : List β) (k : PyData → Prop) (hk : k (.bool (l.any f))) : oAny (.list (l.map fun x => .bool (f x))) k := ⟨_, toBools_map f l, by rw [List.any_map]; exact hk⟩
theorem forW_go {β : Type} {t : Tgt} {body : MS} {k : Ks} (enc : β → PyData) (I : List β → G → Nat → Prop) (xs : List β)
    (step : ∀ done x rest γ n, xs = done ++ x :: rest → I done γ n → ∃ ps, t (enc x) = some ps ∧ ∀ K : G → Nat → Prop, (∀ γ' n', I (done ++ [x]) γ' n' → K γ' n') → body (setG γ ps) n { nx := K, rt := k.rt, bk := k.nx, ct := K })
    (fin : ∀ γ n, I xs γ n → k.nx γ n) : ∀ rest done γ n, xs = done ++ rest → I done γ n → forW t body (rest.map enc) γ n k
  | [], done, γ, n, e, h => by
    rw [List.append_nil] at e
    exact fin γ n (e ▸ h)
  | x :: rest, done, γ, n, e, h => by
    obtain ⟨ps, e1, h1⟩ := step done x rest γ n e h
    exact ⟨ps, e1, h1 _ fun γ' n' h' => forW_go enc I xs step fin rest (done ++ [x]) γ' n' (by rw [List.append_assoc]; exact e) h'⟩
theorem forW_it {β : Type} {t : Tgt} {body : MS} {k : Ks} (enc : β → PyData) (I : List β → G → Nat → Prop) (xs : List β) {γ : G} {n : Nat} (h : I [] γ n)
    (step : ∀ done x rest γ n, xs = done ++ x :: rest → I done γ n → ∃ ps, t (enc x) = some ps ∧ ∀ K : G → Nat → Prop, (∀ γ' n', I (done ++ [x]) γ' n' → K γ' n') → body (setG γ ps) n { nx := K, rt := k.rt, bk := k.nx, ct := K })
    (fin : ∀ γ n, I xs γ n → k.nx γ n) : forW t body (xs.map enc) γ n k := forW_go enc I xs step fin xs [] γ n rfl h
theorem dcW_texts {t : Tgt} {mk mv : M} {γ : Env} {n : Nat} (f : Str → PyData) : ∀ (xs : List Str) (acc : List Str) (k : List (Key × PyData) → Nat → Prop),
    (∀ x ∈ xs, ∃ ps, t (PyData.str x) = some ps ∧ (∀ K : PyData → Nat → Prop, K (PyData.str x) n → mk (setE γ ps) n K) ∧ (∀ K : PyData → Nat → Prop, K (f x) n → mv (setE γ ps) n K)) →
    (acc ++ xs).Nodup → acc.length + xs.length ≤ sizeLine → k ((acc ++ xs).map fun x => (.inr x, f x)) n → dcW t mYes mk mv γ (xs.map (fun z => PyData.str z)) (acc.map fun x => (.inr x, f x)) n k
  | [], acc, k, _, _, _, h => by
    rw [List.append_nil] at h
    exact h
  | x :: xs, acc, k, hx, nd, hl, h => by
    obtain ⟨ps, e, h1, h2⟩ := hx x (List.mem_cons_self ..)
    rw [List.length_cons] at hl
    have hd : x ∉ acc := fun hm => by
      rw [List.nodup_append] at nd
      exact nd.2.2 x hm x (List.mem_cons_self ..) rfl
    refine ⟨ps, e, ?_⟩
    simp only [mYes, if_true]
    refine h1 _ (h2 _ ⟨by rw [List.length_map]; omega, .inr x, rfl, ?_⟩)
    have : putKP (acc.map fun x => ((Sum.inr x : Key), f x)) (.inr x) (f x) = (acc ++ [x]).map fun x => (.inr x, f x) := by
      unfold putKP
      rw [if_neg]
      · simp
      · rw [List.any_map]
        intro h
        obtain ⟨y, hy, e⟩ := List.any_eq_true.mp h
        have : y = x := by simpa using e
        exact hd (this ▸ hy)
    rw [this]
    refine dcW_texts f xs (acc ++ [x]) k (fun y hy => hx y (List.mem_cons_of_mem _ hy)) (by rw [List.append_assoc]; exact nd) (by rw [List.length_append]; simp; omega) ?_
    rw [List.append_assoc]; exact h
theorem dkP_texts (f : Str → PyData) (xs : List Str) : dkP (xs.map fun x => ((Sum.inr x : Key), f x)) = .dict (xs.map fun x => (PyData.str x, f x)) := by
  unfold dkP; rw [List.map_map]; rfl
end DL
local macro_rules | `(tactic| walk_at "my_wp") => `(tactic| simp only [DL.mRet, DL.mRetN, DL.mSeq, DL.mSkip, DL.mSet, DL.mSetP, DL.mIfS, DL.mON, DL.mCons, DL.mNil, DL.mOp, DL.mLc, DL.mDc, DL.mItems, DL.mVar, DL.mC, DL.mB, DL.mAndT, DL.mOrT, DL.mNotT, DL.mAnd, DL.mOr, DL.mNot, DL.mIf, DL.mYes, DL.mChain, DL.mLst, DL.mTup, DL.mCall, DL.mMeth, DL.mFld, DL.mIsi, DL.mIsC, DL.mSl, DL.mSome, DL.mNone, DL.mFor, DL.mFrz, DL.frz, DL.mOwn, DL.mDict0, DL.mDrop, DL.mPar, DL.slX, DL.mAsg, DL.mApp, DL.mExt, DL.on1, DL.startG, DL.pl, DL.pk, DL.plS, DL.pkS, DL.setE, DL.setG, DL.wipeE, DL.tgN, DL.tgT, DL.tgCons, DL.tgNil,
  List.map_cons, List.map_nil, List.set_cons_zero, List.set_cons_succ, List.getElem?_cons_zero, List.getElem?_cons_succ, List.foldl_cons, List.foldl_nil, List.length_cons, List.length_nil, List.replicate_succ, List.replicate_zero, List.cons_append, List.nil_append, Nat.reduceAdd, Nat.reduceSub, if_true, Bool.false_eq_true, if_false,
  DL.oInB_lot, DL.oInB_wire, DL.oEq_str, DL.oNe_str, DL.oEq_lot, DL.oNe_lot, DL.oEq_int, DL.oNe_int, DL.itemsP_lot, DL.itemsP_list, DL.itemsP_tuple, DL.itemsP_sq, DL.ex_ty_sq, DL.isi_seq_q, DL.oInB_sq, DL.oLen_sq, DL.isi_str, DL.isi_seq_l, DL.isi_seq_t, DL.ex_ty_str, DL.ex_ty_list, DL.ex_ty_tuple, DL.ex_some, DL.ex_isC, DL.oIx_wire0, DL.oIx_wire1, DL.oIx_t0, DL.oIx_t1, DL.oIx_l0, DL.oIx_lot0, DL.add_list, DL.oLen_list, DL.oLen_tuple, DL.oLen_lot, DL.oList_list, DL.oList_tuple, DL.oList_sq, DL.oList_lot, DL.oList_wire, DL.oI_int, DL.oLt_int, DL.oAdd_int, DL.oMul_int, DL.oLt_str, DL.oSl_sq, DL.oSl_list, DL.oSl_lot, DL.zipP_sq, DL.enumP_sq, DL.mZip, DL.mEnum, DL.mRange1, DL.mRange2, id, true_and, Bool.not_true, Bool.not_false])
namespace W
open PySem PySem.Spec PySem.W PyProof.Rows L2 DL GF
abbrev lotD (R : List Str) (f : Str → Bool) : PyData := dL (R.filter f)
abbrev wiresD (ws : List Wire) : PyData := .list (ws.map dW)
def adj (ws : List Wire) (a b : Str) : Bool := decide ((a, b) ∈ ws) || decide ((b, a) ∈ ws)
def tch (own : Bool) (ws : List Wire) (a b : Str) : Bool := (own && decide (b = a)) ^^ adj ws a b
def letters : Str := "abcdefghijklmnopqrstuvwxyz"
structure NameOk (z : Str) : Prop where
  pos : 0 < z.length
  len : z.length < 9
  abc : ∀ c ∈ z.cps.toList, c ∈ letters.cps.toList
structure HOk (R : List Str) (ws : List Wire) : Prop where
  up : Up R
  ne : R ≠ []
  len : R.length ≤ 13
  nam : ∀ r ∈ R, NameOk r
  upw : UpW ws
  mem : ∀ w ∈ ws, w.1 ∈ R ∧ w.2 ∈ R ∧ ltS w.1 w.2
  wl : ws.length ≤ 200
abbrev lawD (R : List Str) (ws : List Wire) : PyData := .tuple [dL R, wiresD ws]
def rowD (R : List Str) (p : Str × (Str → Bool)) : PyData × PyData := (PyData.str p.1, lotD R p.2)
def roomsD (R : List Str) (f : Str → Str → Bool) : PyData := .dict (R.map fun r => (PyData.str r, lotD R (f r)))
def hallD (R : List Str) (ws : List Wire) : PyData := insP "Hall" [("own_rooms", dL R), ("own_wires", wiresD ws), ("own_around", roomsD R (adj ws))]
def kd (own : Bool) : PyData := PyData.str (if own = true then "own" else "around")
abbrev Rw := Str × (Str → Bool) × (Str → Bool)
def rwD (R : List Str) (w : Rw) : PyData × PyData := (PyData.str w.1, .tuple [lotD R w.2.1, lotD R w.2.2])
def rowsD (R : List Str) (rows : List Rw) : PyData := .dict (rows.map (rwD R))
def solvedD (R : List Str) (rows : List Rw) (qs : List (Str → Bool)) : PyData := insP "Solved" [("own_rows", rowsD R rows), ("own_quiet", .list (qs.map (lotD R)))]
def sp_is_list : SpecD := fun ds n k => ∃ b l, ds = [sq b l] ∧ k (.bool true) n
def sp_is_row : SpecD := fun ds n k => ∃ b l, ds = [sq b l, .int 2] ∧ l.length = 2 ∧ k (.bool true) n
def sp_is_name : SpecD := fun ds n k => ∃ z, NameOk z ∧ ds = [PyData.str z] ∧ k (.bool true) n
def sp_is_rising : SpecD := fun ds n k => ∃ (b : Bool) (l : List Str), Up l ∧ l.length ≤ 1000 ∧ ds = [sq b (l.map PyData.str)] ∧ k (.bool true) n
def sp_first_bad_room : SpecD := fun ds n k => ∃ (b : Bool) (l : List Str), l.Nodup ∧ l ≠ [] ∧ l.length ≤ 1000 ∧ (∀ r ∈ l, NameOk r) ∧ ds = [sq b (l.map PyData.str)] ∧ k .none n
def sp_check_hall : SpecD := fun ds n k => ∃ R ws, ds = [hallD R ws] ∧ k .none n
def sp_is_room : SpecD := fun ds n k => ∃ R ws r, HOk R ws ∧ ds = [hallD R ws, PyData.str r] ∧ k (.bool (decide (r ∈ R))) n
def sp_check_room : SpecD := fun ds n k => ∃ R ws r, HOk R ws ∧ r ∈ R ∧ ds = [hallD R ws, PyData.str r] ∧ k .none n
def sp_is_lot_of : SpecD := fun ds n k => ∃ (R : List Str) (ws : List Wire) (b : Bool) (l : List Str), HOk R ws ∧ Up l ∧ (∀ r ∈ l, r ∈ R) ∧ l.length ≤ 1000 ∧ ds = [hallD R ws, sq b (l.map PyData.str)] ∧ k (.bool true) n
def sp_check_lot : SpecD := fun ds n k => ∃ (R : List Str) (ws : List Wire) (b : Bool) (l : List Str), HOk R ws ∧ Up l ∧ (∀ r ∈ l, r ∈ R) ∧ l.length ≤ 1000 ∧ ds = [hallD R ws, sq b (l.map PyData.str)] ∧ k .none n
def sp_check_kind : SpecD := fun ds n k => ∃ R ws own, ds = [hallD R ws, kd own] ∧ k .none n
def sp_summed : SpecD := fun ds n k => ∃ R f g, Up R ∧ R.length ≤ 100000 ∧ ds = [lotD R f, lotD R g] ∧ k (lotD R fun r => f r ^^ g r) n
def sp_touch : SpecD := fun ds n k => ∃ R ws own r, HOk R ws ∧ r ∈ R ∧ ds = [hallD R ws, .bool own, PyData.str r] ∧ k (lotD R (tch own ws r)) n
def sp_touches_of : SpecD := fun ds n k => ∃ R ws own, HOk R ws ∧ ds = [hallD R ws, kd own] ∧ k (roomsD R (tch own ws)) n
def sp_is_even_with : SpecD := fun ds n k => ∃ R f g, R.length ≤ 1000 ∧ ds = [lotD R f, lotD R g] ∧ k (.bool (!(dot R f g))) n
def sp_check_two : SpecD := fun ds n k => ∃ R ws own f g, HOk R ws ∧ ds = [hallD R ws, kd own, lotD R f, lotD R g] ∧ k .none n
def ToldTo (R : List Str) (T : Str → Str → Bool) (t : Str → Bool) (k : PyData → Prop) : Prop :=
  (∀ x : Str → Bool, (∀ a, x a = true → a ∈ R) → (∀ s ∈ R, tv T R x s = t s) → k (.tuple [PyData.str "presses", lotD R x])) ∧ ∀ q : Str → Bool, Qt T R q → dot R t q = true → k (.tuple [PyData.str "watch", lotD R q])
def sp_told_of : SpecD := fun ds n k => ∃ R ws own t, HOk R ws ∧ ds = [hallD R ws, kd own, lotD R t] ∧ ToldTo R (tch own ws) t fun d => k d n
def sp_presses_or_watch : SpecD := fun ds n k => ∃ R ws own f g, HOk R ws ∧ ds = [hallD R ws, kd own, lotD R f, lotD R g] ∧ ToldTo R (tch own ws) (fun r => f r ^^ g r) fun d => k d n
def sp_sums_of : SpecD := fun ds n k => ∃ R qs, Up R ∧ R.length ≤ 1000 ∧ qs.length ≤ 13 ∧ ds = [.list (qs.map (lotD R))] ∧ k (.list (sortP ((sm qs).map (lotD R)))) n
def AllQ (T : Str → Str → Bool) (R : List Str) (A : List (Str → Bool)) : Prop := A.Nodup ∧ ∀ x, x ∈ A ↔ Qt T R x
def sp_quiets : SpecD := fun ds n k => ∃ R ws own, HOk R ws ∧ ds = [hallD R ws, kd own] ∧ ∀ A, AllQ (tch own ws) R A → k (.list (sortP (A.map (lotD R)))) n
def wIn (p : Str → Bool) (ws : List Wire) : List Wire := ws.filter fun w => p w.1 && p w.2
def sp_within : SpecD := fun ds n k => ∃ R ws p, HOk R ws ∧ R.filter p ≠ [] ∧ ds = [hallD R ws, lotD R p] ∧ k (hallD (R.filter p) (wIn p ws)) n
def twinsL (T : Str → Str → Bool) (R : List Str) : List Str → List Wire
  | [] => []
  | a :: l => ((l.filter fun b => decide (R.filter (T a) = R.filter (T b))).map fun b => (a, b)) ++ twinsL T R l
def sp_twins : SpecD := fun ds n k => ∃ R ws own, HOk R ws ∧ ds = [hallD R ws, kd own] ∧ k (wiresD (twinsL (tch own ws) R R)) n
def sp_without_rooms : SpecD := fun ds n k => ∃ (R : List Str) (ws : List Wire) (b : Bool) (l : List Str), HOk R ws ∧ Up l ∧ (∀ r ∈ l, r ∈ R) ∧ l.length < R.length ∧ ds = [hallD R ws, sq b (l.map PyData.str)] ∧ k (hallD (R.filter fun r => !decide (r ∈ l)) (wIn (fun r => !decide (r ∈ l)) ws)) n
def endsL (ws : List Wire) (R : List Str) : List Wire := (R.filter fun r => decide ((R.filter (adj ws r)).length = 1)).map fun r => (r, (R.filter (adj ws r)).headD r)
def sp_ends : SpecD := fun ds n k => ∃ R ws, HOk R ws ∧ ds = [hallD R ws] ∧ k (wiresD (endsL ws R)) n
def sp_Hall_rooms : SpecD := fun ds n k => ∃ R ws, ds = [hallD R ws] ∧ k (dL R) n
def sp_Hall_wires : SpecD := fun ds n k => ∃ R ws, ds = [hallD R ws] ∧ k (wiresD ws) n
def sp_Hall_around : SpecD := fun _ _ _ => False
def PairOf (w : Wire) (d : PyData) : Prop := ∃ b, d = sq b [PyData.str w.1, PyData.str w.2] ∨ d = sq b [PyData.str w.2, PyData.str w.1]
def sp_Hall : SpecD := fun ds n k => ∃ (R : List Str) (ws : List Wire) (b : Bool) (rs : List Str) (b' : Bool) (vs : List Wire) (es : List PyData), HOk R ws ∧ rs.Perm R ∧ vs.Perm ws ∧ Al PairOf vs es ∧ ds = [sq b (rs.map PyData.str), sq b' es] ∧ k (hallD R ws) n
def sp_is_wire : SpecD := fun ds n k => ∃ R b x y, R.length ≤ 1000 ∧ x ∈ R ∧ y ∈ R ∧ x ≠ y ∧ ds = [insP "Hall" [("own_rooms", dL R)], sq b [PyData.str x, PyData.str y]] ∧ k (.bool true) n
structure RowsOk (T : Str → Str → Bool) (R P : List Str) (rows : List Rw) : Prop where
  up : Up R
  len : R.length ≤ 13
  PR : ∀ a ∈ P, a ∈ R
  sub : ∀ w ∈ rows, ∀ a, w.2.2 a = true → a ∈ P
  rest : ∀ w ∈ rows, ∀ s, w.2.1 s = true → s ∈ R
  lead : ∀ w ∈ rows, ∀ s ∈ R, w.2.1 s = tv T R w.2.2 s
  key : ∀ w ∈ rows, w.2.1 w.1 = true
  tri : rows.Pairwise fun v w => w.2.1 v.1 = false
def redD (R : List Str) (rest l : Str → Bool) : PyData := .tuple [lotD R rest, lotD R l]
def sp_Solved_reduced : SpecD := fun ds n k => ∃ T R P rows d t, RowsOk T R P rows ∧ (d = parP "Solved" [("own_rows", rowsD R rows)] ∨ ∃ qs, d = solvedD R rows qs) ∧ ds = [d, lotD R t] ∧
  ∀ rest l : Str → Bool, (∀ s, rest s = true → s ∈ R) → (∀ a, l a = true → a ∈ P) → (∀ s ∈ R, rest s = (t s ^^ tv T R l s)) → (∀ w ∈ rows, rest w.1 = false) → k (redD R rest l) n
def sp_Solved : SpecD := fun ds n k => ∃ T R, Up R ∧ R ≠ [] ∧ R.length ≤ 13 ∧ ds = [roomsD R T] ∧ ∀ rows qs, Inv T R R rows qs → qs.length ≤ R.length → k (solvedD R rows qs) n
def sp_law_draw : SpecD := fun ds n k => ∃ (many : Nat) (n0 : Nat), ds = [strmP, .int many] ∧ 0 < many ∧ many < 100000 ∧ n = n0 + 1 ∧ ∀ i : Nat, i < many → k (.int i) n0
def pickable : PyData → List PyData
  | .list ds => ds
  | .tuple ds => ds
  | .str z => strItems z
  | _ => []
def sp_law_pick : SpecD := fun ds n k => ∃ d n0, ds = [strmP, d] ∧ pickable d ≠ [] ∧ (pickable d).length < 100000 ∧ n = n0 + 1 ∧ ∀ x ∈ pickable d, k x n0
def sp_law_mixed : SpecD := fun ds n k => ∃ b l n0, ds = [strmP, sq b l] ∧ l.length < 1000 ∧ n = n0 + l.length ∧ ∀ m : List PyData, m.Perm l → k (.list m) n0
inductive Lz : PyData → PyData → Prop
  | str (z : Str) : Lz (PyData.str z) (PyData.str z)
  | sq (b b' : Bool) {l m : List PyData} : Al Lz l m → Lz (sq b l) (sq b' m)
def sp_law_names : SpecD := fun ds n k => ∃ many : Nat, ds = [strmP, .int many] ∧ many ≤ 13 ∧ many * 5 ≤ n ∧ ∀ l n', l.length = many → l.Nodup → (∀ z ∈ l, NameOk z ∧ z.length ≤ 5) → n ≤ n' + many * 5 → k (dL l) n'
def sp_law_around : SpecD := fun ds n k => ∃ R ws r, HOk R ws ∧ r ∈ R ∧ ds = [lawD R ws, PyData.str r] ∧ k (lotD R (adj ws r)) n
def sp_law_touch : SpecD := fun ds n k => ∃ R ws own r, HOk R ws ∧ r ∈ R ∧ ds = [lawD R ws, kd own, PyData.str r] ∧ k (lotD R (tch own ws r)) n
def sp_law_behind : SpecD := fun ds n k => ∃ R ws own f x, HOk R ws ∧ ds = [lawD R ws, kd own, lotD R f, lotD R x] ∧ k (lotD R fun s => f s ^^ tv (tch own ws) R x s) n
def AllL (R : List Str) (A : List (List Str)) : Prop := A.Nodup ∧ ∀ l, l ∈ A ↔ ∃ f : Str → Bool, l = R.filter f
def sp_law_lots : SpecD := fun ds n k => ∃ R, Up R ∧ R.length ≤ 13 ∧ ds = [dL R] ∧ ∀ A, AllL R A → k (.list (A.map dL)) n
def sp_law_quiets : SpecD := fun ds n k => ∃ R ws own, HOk R ws ∧ ds = [lawD R ws, kd own] ∧ ∀ A, AllQ (tch own ws) R A → k (.list (A.map (lotD R))) n
structure HOk5 (R : List Str) (ws : List Wire) : Prop extends HOk R ws where
  five : ∀ r ∈ R, r.length ≤ 5
def sp_law_hall : SpecD := fun ds n k => ∃ rooms wires : Nat, ds = [strmP, .int rooms, .int wires] ∧ 0 < rooms ∧ rooms ≤ 12 ∧ wires ≤ 100 ∧ 2000 ≤ n ∧ ∀ R ws n', HOk5 R ws → R.length ≤ rooms → ws.length ≤ wires → n ≤ n' + 2000 → k (lawD R ws) n'
def sp_law_lot : SpecD := fun ds n k => ∃ R ws, HOk R ws ∧ ds = [strmP, lawD R ws] ∧ 14 ≤ n ∧ ∀ f n', n ≤ n' + 14 → k (lotD R f) n'
def sp_law_made : SpecD := fun ds n k => ∃ R ws, HOk R ws ∧ ds = [strmP, lawD R ws] ∧ 1100 ≤ n ∧ ∀ n', n ≤ n' + 1100 → k (hallD R ws) n'
def sp_law_with : SpecD := fun ds n k => ∃ R ws own, HOk5 R ws ∧ R.length ≤ 12 ∧ ws.length ≤ 100 ∧ ds = [strmP, lawD R ws, kd own] ∧ 2 ≤ n ∧ ∀ R' ws' n', HOk R' ws' → R'.length ≤ R.length + 1 → n ≤ n' + 2 → k (lawD R' ws') n'
def sp_law_without : SpecD := fun ds n k => ∃ R ws l, HOk R ws ∧ ds = [lawD R ws, dL l] ∧ k (lawD (R.filter fun r => !decide (r ∈ l)) (wIn (fun r => !decide (r ∈ l)) ws)) n
def sp_law_lots_right : SpecD := fun ds n k => ∃ R ws, HOk R ws ∧ ds = [strmP, lawD R ws, hallD R ws] ∧ 30 ≤ n ∧ ∀ n', n ≤ n' + 30 → k (.bool true) n'
def sp_law_twins_right : SpecD := fun ds n k => ∃ R ws own, HOk R ws ∧ R.length ≤ 8 ∧ ds = [strmP, lawD R ws, hallD R ws, kd own] ∧ 1000 ≤ n ∧ ∀ n', n ≤ n' + 1000 → k (.bool true) n'
def sp_law_ends_right : SpecD := fun ds n k => ∃ R ws, HOk R ws ∧ R.length ≤ 8 ∧ ds = [lawD R ws, hallD R ws] ∧ k (.bool true) n
def Plain : Nat → PyData → Prop
  | _, .str _ => True
  | _, .int _ => True
  | _, .bool _ => True
  | _, .none => True
  | j + 1, .list l => l.length ≤ 100000 ∧ ∀ d ∈ l, Plain j d
  | j + 1, .tuple l => l.length ≤ 100000 ∧ ∀ d ∈ l, Plain j d
  | _, _ => False
def sp_law_same (j : Nat) : SpecD := fun ds n k => ∃ d, Plain j d ∧ ds = [d, d] ∧ k (.bool true) n
def Looser : Nat → Nat → PyData → Prop
  | _, _, .str _ => True
  | j + 1, c, .list l => l.length ≤ 1000 ∧ ∃ c0, c = 1 + l.length * c0 ∧ ∀ d ∈ l, Looser j c0 d
  | j + 1, c, .tuple l => l.length ≤ 1000 ∧ ∃ c0, c = 1 + l.length * c0 ∧ ∀ d ∈ l, Looser j c0 d
  | _, _, _ => False
def sp_law_loose (j : Nat) : SpecD := fun ds n k => ∃ d c, Looser j c d ∧ ds = [strmP, d] ∧ c ≤ n ∧ ∀ d' n', Lz d d' → n ≤ n' + c → k d' n'
def SP : Sps where
  is_list := sp_is_list
  is_row := sp_is_row
  is_name := sp_is_name
  is_rising := sp_is_rising
  first_bad_room := sp_first_bad_room
  check_hall := sp_check_hall
  is_room := sp_is_room
  check_room := sp_check_room
  is_lot_of := sp_is_lot_of
  check_lot := sp_check_lot
  check_kind := sp_check_kind
  summed := sp_summed
  touch := sp_touch
  touches_of := sp_touches_of
  is_even_with := sp_is_even_with
  check_two := sp_check_two
  told_of := sp_told_of
  presses_or_watch := sp_presses_or_watch
  sums_of := sp_sums_of
  quiets := sp_quiets
  within := sp_within
  twins := sp_twins
  without_rooms := sp_without_rooms
  ends := sp_ends
  law_stream := fun _ _ _ => False
  law_draw := sp_law_draw
  law_pick := sp_law_pick
  law_mixed := sp_law_mixed
  law_same := sp_law_same 5
  law_loose := sp_law_loose 2
  law_spoilt := fun _ _ _ => False
  law_names := sp_law_names
  law_around := sp_law_around
  law_touch := sp_law_touch
  law_sum := sp_summed
  law_behind := sp_law_behind
  law_lots := sp_law_lots
  law_quiets := sp_law_quiets
  law_hall := sp_law_hall
  law_lot := sp_law_lot
  law_made := sp_law_made
  law_with := sp_law_with
  law_without := sp_law_without
  law_lots_right := sp_law_lots_right
  law_twins_right := sp_law_twins_right
  law_ends_right := sp_law_ends_right
  law := fun _ _ _ => False
  Hall_is_wire := sp_is_wire
  Hall_rooms := sp_Hall_rooms
  Hall_wires := sp_Hall_wires
  Hall_around := sp_Hall_around
  Solved_reduced := sp_Solved_reduced
  Hall := sp_Hall
  Solved := sp_Solved
  BadWires := fun _ _ _ => False
  BadHall := fun _ _ _ => False
  BadRoom := fun _ _ _ => False
  BadLot := fun _ _ _ => False
  BadKind := fun _ _ _ => False
end W
namespace W
open PySem PySem.Spec PySem.W PyProof.Rows L2 DL GF
theorem fld_rooms (R : List Str) (ws : List Wire) (P : PyData → Prop) : (∃ es' d', (hallD R ws = insP "Hall" es' ∨ hallD R ws = parP "Hall" es') ∧ es'.lookup ("own_rooms" : Str) = some d' ∧ P d') = P (dL R) := ex_fld rfl P
theorem fld_wires (R : List Str) (ws : List Wire) (P : PyData → Prop) : (∃ es' d', (hallD R ws = insP "Hall" es' ∨ hallD R ws = parP "Hall" es') ∧ es'.lookup ("own_wires" : Str) = some d' ∧ P d') = P (wiresD ws) := ex_fld rfl P
theorem fld_around (R : List Str) (ws : List Wire) (P : PyData → Prop) : (∃ es' d', (hallD R ws = insP "Hall" es' ∨ hallD R ws = parP "Hall" es') ∧ es'.lookup ("own_around" : Str) = some d' ∧ P d') = P (roomsD R (adj ws)) := ex_fld rfl P
theorem isC_hall (R : List Str) (ws : List Wire) (P : Prop) : (∃ es', hallD R ws = insP "Hall" es' ∧ P) = P := ex_isC P
theorem meth_rooms (R : List Str) (ws : List Wire) (P : Prop) : (∃ es', hallD R ws = insP "Hall" es' ∧ es'.lookup ("rooms" : Str) = none ∧ P) = P := ex_meth rfl P
theorem meth_wires (R : List Str) (ws : List Wire) (P : Prop) : (∃ es', hallD R ws = insP "Hall" es' ∧ es'.lookup ("wires" : Str) = none ∧ P) = P := ex_meth rfl P
theorem noNone_rooms (R : List Str) (f : Str → PyData) : noNone (R.map fun r => (PyData.str r, f r)) = true := by
  unfold noNone; rw [List.all_map]; exact List.all_eq_true.mpr fun _ _ => rfl
theorem keyFit_rooms {R : List Str} (h : R ≠ []) (f : Str → PyData) (a : Str) : keyFit (R.map fun r => (PyData.str r, f r)) (PyData.str a) = true := by
  cases R with
  | nil => exact absurd rfl h
  | cons b R => rfl
theorem lookP_rooms (f : Str → PyData) (a : Str) : ∀ R : List Str, lookP (R.map fun r => (PyData.str r, f r)) (PyData.str a) = if a ∈ R then some (f a) else none
  | [] => rfl
  | b :: R => by
    unfold lookP
    rw [List.map_cons, List.find?_cons]
    have e : PyData.eqv (PyData.str b) (PyData.str a) = decide (b = a) := eqv_str b a
    by_cases h : b = a
    · subst h
      simp only [e, decide_true]
      simp
    · simp only [e, h, decide_false]
      have ih := lookP_rooms f a R
      unfold lookP at ih
      rw [ih]
      have : (a ∈ b :: R) = (a ∈ R) := by simp [Ne.symm h]
      simp only [this]
theorem oIx_rooms {R : List Str} (f : Str → Str → Bool) {a : Str} (h : a ∈ R) (k : PyData → Prop) : oIx (roomsD R f) (PyData.str a) k = k (lotD R (f a)) := by
  refine propext ⟨?_, fun hk => ⟨noNone_rooms R _, keyFit_rooms (fun e => by rw [e] at h; cases h) _ a, _, by rw [lookP_rooms, if_pos h], hk⟩⟩
  rintro ⟨_, _, d, e, hk⟩
  rw [lookP_rooms, if_pos h] at e
  cases e; exact hk
theorem oIn_rooms {R : List Str} (hn : R ≠ []) (f : Str → Str → Bool) (a : Str) (g : Bool → Bool) (k : PyData → Prop) (hk : k (.bool (g (decide (a ∈ R))))) : oInB g (PyData.str a) (roomsD R f) k := by
  cases R with
  | nil => exact absurd rfl hn
  | cons b R =>
    refine ⟨noNone_rooms (b :: R) fun r => lotD (b :: R) (f r), rfl, ?_⟩
    have : inB (PyData.str a) (roomsD (b :: R) f) = decide (a ∈ b :: R) := by
      show (lookP ((b :: R).map fun r => (PyData.str r, lotD (b :: R) (f r))) (PyData.str a)).isSome = _
      rw [lookP_rooms]
      by_cases h : a ∈ b :: R
      · rw [if_pos h]; simp [h]
      · rw [if_neg h]; simp [h]
    rw [← this] at hk
    exact hk
theorem filter_len {α : Type} (p : α → Bool) (l : List α) : (l.filter p).length ≤ l.length := List.length_filter_le p l
section
variable (ds : List PyData) (n : Nat) (k : PyData → Nat → Prop)
theorem k_is_list : Keeps N_is_list ["thing"] sp_is_list (b_is_list SP) := by
  rintro ds n k hl ⟨b, l, rfl, hk⟩
  unfold b_is_list
  walk_at "my_wp"
  exact hk
theorem k_is_row : Keeps N_is_row ["thing", "many"] sp_is_row (b_is_row SP) := by
  rintro ds n k hl ⟨b, l, rfl, hz, hk⟩
  unfold b_is_row
  walk_at "my_wp"
  refine ⟨b, l, rfl, ?_⟩
  walk_at "my_wp"
  rw [hz]; exact hk
theorem k_is_room : Keeps N_is_room ["hall", "thing"] sp_is_room (b_is_room SP) := by
  rintro ds n k hl ⟨R, ws, r, hH, rfl, hk⟩
  unfold b_is_room
  walk_at "my_wp"
  simp only [fld_around]
  exact oIn_rooms hH.ne _ _ _ _ hk
theorem k_check_hall : Keeps N_check_hall ["hall"] sp_check_hall (b_check_hall SP) := by
  rintro ds n k hl ⟨R, ws, rfl, hk⟩
  unfold b_check_hall
  walk_at "my_wp"
  simp only [isC_hall]
  exact hk
theorem k_check_room : Keeps N_check_room ["hall", "room"] sp_check_room (b_check_room SP) := by
  rintro ds n k hl ⟨R, ws, r, hH, hr, rfl, hk⟩
  unfold b_check_room
  walk_at "my_wp"
  refine ⟨R, ws, r, hH, rfl, ?_⟩
  simp [hr]; exact hk
theorem k_check_lot : Keeps N_check_lot ["hall", "lot"] sp_check_lot (b_check_lot SP) := by
  rintro ds n k hl ⟨R, ws, b, l, hH, hu, hm, hz, rfl, hk⟩
  unfold b_check_lot
  walk_at "my_wp"
  exact ⟨R, ws, b, l, hH, hu, hm, hz, rfl, hk⟩
theorem k_check_kind : Keeps N_check_kind ["hall", "kind"] sp_check_kind (b_check_kind SP) := by
  rintro ds n k hl ⟨R, ws, own, rfl, hk⟩
  unfold b_check_kind
  walk_at "my_wp"
  refine ⟨R, ws, rfl, ?_⟩
  simp only [kd, mInK]
  walk_at "my_wp"
  refine ⟨rfl, ?_⟩
  cases own <;> exact hk
theorem k_Hall_rooms : Keeps N_Hall_rooms ["self"] sp_Hall_rooms (b_Hall_rooms SP) := by
  rintro ds n k hl ⟨R, ws, rfl, hk⟩
  unfold b_Hall_rooms
  walk_at "my_wp"
  simp only [fld_rooms]
  exact hk
theorem k_Hall_wires : Keeps N_Hall_wires ["self"] sp_Hall_wires (b_Hall_wires SP) := by
  rintro ds n k hl ⟨R, ws, rfl, hk⟩
  unfold b_Hall_wires
  walk_at "my_wp"
  simp only [fld_wires]
  exact hk
theorem k_check_two : Keeps N_check_two ["hall", "kind", "lighting", "other"] sp_check_two (b_check_two SP) := by
  rintro ds n k hl ⟨R, ws, own, f, g, hH, rfl, hk⟩
  unfold b_check_two
  walk_at "my_wp"
  refine ⟨R, ws, own, rfl, R, ws, false, R.filter f, hH, hH.up.filter f, fun r hr => (List.mem_filter.mp hr).1, ?_, rfl, R, ws, false, R.filter g, hH, hH.up.filter g, fun r hr => (List.mem_filter.mp hr).1, ?_, rfl, hk⟩
  · have := filter_len f R; have := hH.len; omega
  · have := filter_len g R; have := hH.len; omega
theorem perm_of {l m : List Str} (a : l.Nodup) (b : m.Nodup) (h : ∀ x, x ∈ l ↔ x ∈ m) : l.Perm m := (List.perm_ext_iff_of_nodup a b).mpr h
theorem k_summed : Keeps N_summed ["one", "other"] sp_summed (b_summed SP) := by
  rintro ds n k hl ⟨R, f, g, hR, hz, rfl, hk⟩
  unfold b_summed
  have z := sz
  have z1 := filter_len f R
  have z2 := filter_len g R
  walk_at "my_wp"
  refine lcW_pure (fun z => PyData.str z) (fun r => !(g r)) (fun z => PyData.str z) _ _ _ (fun x hx => ⟨_, rfl, fun K hK => ?_, fun _ K hK => ?_⟩) ?_ ?_
  · walk_at "my_wp"
    have := (List.mem_filter.mp hx).1
    simpa [List.mem_filter, this] using hK
  · walk_at "my_wp"; exact hK
  · simp; omega
  · refine lcW_pure (fun z => PyData.str z) (fun r => !(f r)) (fun z => PyData.str z) _ _ _ (fun x hx => ⟨_, rfl, fun K hK => ?_, fun _ K hK => ?_⟩) ?_ ?_
    · walk_at "my_wp"
      have := (List.mem_filter.mp hx).1
      simpa [List.mem_filter, this] using hK
    · walk_at "my_wp"; exact hK
    · simp; omega
    · walk_at "my_wp"
      have z3 := filter_len (fun r => !(g r)) (R.filter f)
      have z4 := filter_len (fun r => !(f r)) (R.filter g)
      refine ⟨by simp only [List.length_map]; omega, ?_⟩
      rw [← List.map_append]
      refine sorted_texts (hR.filter fun r => f r ^^ g r) (perm_of (hR.filter _).nodup ?_ fun x => ?_) hk
      · rw [List.nodup_append]
        refine ⟨((hR.filter _).filter _).nodup, ((hR.filter _).filter _).nodup, fun a ha b hb e => ?_⟩
        subst e
        simp only [List.mem_filter] at ha hb
        rw [hb.1.2] at ha
        exact absurd ha.2 (by simp)
      · simp only [List.mem_filter, List.mem_append]
        cases f x <;> cases g x <;> simp
theorem par_len {R : List Str} {f g : Str → Bool} : decide ((((R.filter f).filter g).length : Int) % 2 = 0) = !(dot R f g) := by
  have : ∀ R : List Str, (((R.filter f).filter g).length % 2 = 0 ↔ dot R f g = false) := by
    intro R
    induction R with
    | nil => simp [dot, par]
    | cons a R ih =>
      have e : dot (a :: R) f g = ((f a && g a) ^^ dot R f g) := rfl
      rw [e]
      cases hf : f a <;> cases hg : g a <;> cases hd : dot R f g <;> simp [hf, hg, hd] at ih ⊢ <;> omega
  have h := this R
  cases hd : dot R f g
  · rw [hd] at h
    have := h.mpr rfl
    exact decide_eq_true (by omega)
  · rw [hd] at h
    have : ¬ _ := fun e => absurd (h.mp e) (by simp)
    exact decide_eq_false (by omega)
theorem zip_up {l : List Str} (h : Up l) : ((l.zip (l.drop 1)).all fun p => dataLt (PyData.str p.1) (PyData.str p.2)) = true := by
  induction h with
  | nil => rfl
  | @cons a l hx hr ih =>
    cases l with
    | nil => rfl
    | cons b l =>
      show (dataLt (PyData.str a) (PyData.str b) && _) = true
      rw [hx b (List.mem_cons_self ..), Bool.true_and]
      exact ih
theorem filter_one {R : List Str} (n : R.Nodup) {r : Str} (h : r ∈ R) : R.filter (fun s => decide (s = r)) = [r] := by
  induction R with
  | nil => cases h
  | cons a R ih =>
    rw [List.nodup_cons] at n
    by_cases e : a = r
    · subst e
      rw [List.filter_cons_of_pos (by simp), List.filter_eq_nil_iff.mpr]
      intro b hb
      simp; rintro rfl; exact n.1 hb
    · rw [List.filter_cons_of_neg (by simp [e])]
      exact ih n.2 (by rcases List.mem_cons.mp h with h | h; exact absurd h.symm e; exact h)
theorem k_is_even_with : Keeps N_is_even_with ["lot", "other"] sp_is_even_with (b_is_even_with SP) := by
  rintro ds n k hl ⟨R, f, g, hz, rfl, hk⟩
  unfold b_is_even_with
  have z := sz
  have z1 := filter_len f R
  walk_at "my_wp"
  refine lcW_pure (fun z => PyData.str z) (fun r => g r) (fun z => PyData.str z) _ _ _ (fun x hx => ⟨_, rfl, fun K hK => ?_, fun _ K hK => ?_⟩) ?_ ?_
  · walk_at "my_wp"
    have := (List.mem_filter.mp hx).1
    simpa [List.mem_filter, this] using hK
  · walk_at "my_wp"; exact hK
  · simp; omega
  · walk_at "my_wp"
    refine ⟨by decide, ?_⟩
    simp only [List.length_map, par_len]
    exact hk
theorem k_is_rising : Keeps N_is_rising ["things"] sp_is_rising (b_is_rising SP) := by
  rintro ds n k hl ⟨b, l, hu, hz, rfl, hk⟩
  unfold b_is_rising
  have z := sz
  walk_at "my_wp"
  rw [show (1 : Int) = ((1 : Nat) : Int) from rfl, cutP_from, ← List.map_drop, List.zip_map, List.map_map]
  refine lcW_pure (fun p : Str × Str => (.tuple [PyData.str p.1, PyData.str p.2])) (fun _ => true) (fun p => .bool (dataLt (PyData.str p.1) (PyData.str p.2))) _ _ _ (fun x hx => ⟨_, rfl, fun K hK => hK, fun _ K hK => ?_⟩) ?_ ?_
  · walk_at "my_wp"; exact hK
  · simp; omega
  · rw [List.nil_append, List.filter_eq_self.mpr (fun _ _ => rfl)]
    refine oAll_map _ _ _ ?_
    rw [zip_up hu]; exact hk
theorem k_is_lot_of : Keeps N_is_lot_of ["hall", "thing"] sp_is_lot_of (b_is_lot_of SP) := by
  rintro ds n k hl ⟨R, ws, b, l, hH, hu, hm, hz, rfl, hk⟩
  unfold b_is_lot_of
  have z := sz
  walk_at "my_wp"
  refine ⟨b, _, rfl, ?_⟩
  walk_at "my_wp"
  refine lcW_pure (fun z => PyData.str z) (fun _ => true) (fun r => .bool (decide (r ∈ R))) _ _ _ (fun x hx => ⟨_, rfl, fun K hK => hK, fun _ K hK => ?_⟩) ?_ ?_
  · walk_at "my_wp"
    exact ⟨R, ws, x, hH, rfl, hK⟩
  · simp; omega
  · rw [List.nil_append, List.filter_eq_self.mpr (fun _ _ => rfl)]
    refine oAll_map _ _ _ ?_
    rw [List.all_eq_true.mpr fun x hx => decide_eq_true (hm x hx)]
    walk_at "my_wp"
    exact ⟨b, l, hu, hz, rfl, hk⟩
theorem k_touch : Keeps N_touch ["hall", "is_own", "room"] sp_touch (b_touch SP) := by
  rintro ds n k hl ⟨R, ws, own, r, hH, hr, rfl, hk⟩
  unfold b_touch
  walk_at "my_wp"
  cases own with
  | true =>
    rw [if_pos rfl]
    simp only [fld_around, oIx_rooms _ hr]
    have z := sz
    refine ⟨by omega, R, adj ws r, fun s => decide (s = r), hH.up, by have := hH.len; omega, ?_, ?_⟩
    · have : R.filter (fun s => decide (s = r)) = [r] := filter_one hH.up.nodup hr
      rw [show lotD R (fun s => decide (s = r)) = dL [r] from congrArg dL this]
      rfl
    · have : (fun s => adj ws r s ^^ decide (s = r)) = tch true ws r := by
        funext s; unfold tch; rw [Bool.true_and, Bool.xor_comm]
      rw [this]; exact hk
  | false =>
    rw [if_neg (by simp)]
    simp only [fld_around, oIx_rooms _ hr]
    walk_at "my_wp"
    have : adj ws r = tch false ws r := by funext s; unfold tch; simp
    rw [this]; exact hk
end
end W
namespace W
open PySem PySem.Spec PySem.W PyProof.Rows L2 DL GF
theorem signs_in (c : Nat) (g : Bool → Bool) (z : Str) (k : PyData → Prop) : oInB g (.str ⟨#[c]⟩) (.str z) k = k (.bool (g (decide (c ∈ z.cps.toList)))) := rfl
theorem k_is_name : Keeps N_is_name ["thing"] sp_is_name (b_is_name SP) := by
  rintro ds n k hl ⟨z, hz, rfl, hk⟩
  unfold b_is_name
  have zz := sz
  have h1 := hz.pos
  have h2 := hz.len
  walk_at "my_wp"
  have e1 : decide ((0 : Int) < (z.length : Nat)) = true := decide_eq_true (by omega)
  have e2 : decide (((z.length : Nat) : Int) < 9) = true := decide_eq_true (by omega)
  refine ⟨by omega, ?_⟩
  walk_at "my_wp"
  rw [e1]
  walk_at "my_wp"
  rw [e2]
  walk_at "my_wp"
  refine ⟨_, rfl, ?_⟩
  refine lcW_pure (fun c : Nat => .str ⟨#[c]⟩) (fun _ => true) (fun c => .bool (decide (c ∈ letters.cps.toList))) _ _ _ (fun x hx => ⟨_, rfl, fun K hK => hK, fun _ K hK => ?_⟩) ?_ ?_
  · walk_at "my_wp"
    exact hK
  · have : z.cps.toList.length = z.length := by rw [Array.length_toList]; rfl
    simp; rw [Array.length_toList] at this; omega
  · rw [List.nil_append, List.filter_eq_self.mpr (fun _ _ => rfl)]
    refine oAll_map _ _ _ ?_
    rw [List.all_eq_true.mpr fun x hx => decide_eq_true (hz.abc x hx)]
    exact hk
theorem putP_new (f : Str → PyData) (r : Str) (acc : List Str) (h : r ∉ acc) (d : PyData) (hd : d = f r) : putP (acc.map fun x => (PyData.str x, f x)) (PyData.str r) d = (acc ++ [r]).map fun x => (PyData.str x, f x) := by
  subst hd
  unfold putP
  rw [if_neg]
  · simp
  · rw [List.any_map]
    intro e
    obtain ⟨y, hy, e⟩ := List.any_eq_true.mp e
    have e : PyData.eqv (PyData.str y) (PyData.str r) = true := e
    rw [eqv_str] at e
    exact h (of_decide_eq_true e ▸ hy)
theorem oIn_texts (f : Str → PyData) (a : Str) (acc : List Str) (g : Bool → Bool) (k : PyData → Prop) (hk : k (.bool (g (decide (a ∈ acc))))) : oInB g (PyData.str a) (.dict (acc.map fun r => (PyData.str r, f r))) k := by
  cases acc with
  | nil => exact ⟨rfl, by simpa using hk⟩
  | cons b R =>
    refine ⟨noNone_rooms (b :: R) f, rfl, ?_⟩
    have : inB (PyData.str a) (.dict ((b :: R).map fun r => (PyData.str r, f r))) = decide (a ∈ b :: R) := by
      show (lookP ((b :: R).map fun r => (PyData.str r, f r)) (PyData.str a)).isSome = _
      rw [lookP_rooms]
      by_cases h : a ∈ b :: R
      · rw [if_pos h]; simp [h]
      · rw [if_neg h]; simp [h]
    rw [← this] at hk
    exact hk
theorem k_first_bad_room : Keeps N_first_bad_room ["rooms"] sp_first_bad_room (b_first_bad_room SP) := by
  rintro ds n k hl ⟨b, l, hu, hne, hz, hn, rfl, hk⟩
  unfold b_first_bad_room
  have z := sz
  walk_at "my_wp"
  refine ⟨b, _, rfl, ?_⟩
  have e : decide (((l.map PyData.str).length : Int) = 0) = false := decide_eq_false (by rw [List.length_map]; intro e; exact hne (List.eq_nil_of_length_eq_zero (by omega)))
  walk_at "my_wp"
  rw [e]
  walk_at "my_wp"
  rw [zipIdx_map, List.map_map]
  refine forW_it (fun p : Str × Nat => .tuple [.int (p.2 : Nat), PyData.str p.1]) (fun done γ n' => n' = n ∧ ∃ s2 s3, γ = [.val (sq b (l.map PyData.str)), .own false (.dict ((done.map (·.1)).map fun x => (PyData.str x, .bool true))), s2, s3]) l.zipIdx ⟨rfl, _, _, rfl⟩ ?_ ?_
  · rintro done ⟨x, i⟩ rest γ n' e ⟨rfl, s2, s3, rfl⟩
    refine ⟨_, rfl, fun K hK => ?_⟩
    have hmem : ∀ p ∈ l.zipIdx, p.1 ∈ l := fun p hp => by
      have := List.mem_zipIdx hp
      simp at this
      rw [this.2]; simp
    have hx : x ∈ l := hmem (x, i) (by rw [e]; simp)
    have hnd : x ∉ done.map (·.1) := fun h => by
      have hh := hu
      rw [← List.zipIdx_map_fst 0 l, e, List.map_append, List.nodup_append] at hh
      exact hh.2.2 x h x (by simp) rfl
    walk_at "my_wp"
    refine ⟨x, hn x hx, rfl, ?_⟩
    walk_at "my_wp"
    refine oIn_texts _ _ _ _ _ ?_
    simp only [hnd, decide_false]
    walk_at "my_wp"
    refine ⟨false, _, rfl, ?_, rfl, ?_⟩
    · have := congrArg List.length e
      simp at this ⊢
      omega
    · rw [putP_new _ _ _ hnd _ rfl]
      exact hK _ _ ⟨rfl, .val (.int (i : Nat)), .val (PyData.str x), by simp⟩
  · rintro γ n' ⟨rfl, _, _, rfl⟩
    exact hk
theorem oEq_kd (own : Bool) (k : PyData → Prop) : oEq (kd own) (PyData.str "own") k = k (.bool own) := by
  unfold kd
  rw [oEq_str]
  cases own <;> rfl
theorem k_touches_of : Keeps N_touches_of ["hall", "kind"] sp_touches_of (b_touches_of SP) := by
  rintro ds n k hl ⟨R, ws, own, hH, rfl, hk⟩
  unfold b_touches_of
  have z := sz
  have hz := hH.len
  walk_at "my_wp"
  simp only [fld_rooms]
  refine ⟨_, rfl, ?_⟩
  refine dcW_texts (fun r => lotD R (tch own ws r)) R [] _ (fun x hx => ⟨_, rfl, fun K hK => ?_, fun K hK => ?_⟩) hH.up.nodup (by simp; omega) ?_
  · walk_at "my_wp"; exact hK
  · walk_at "my_wp"
    rw [oEq_kd]
    exact ⟨R, ws, own, x, hH, hx, rfl, hK⟩
  · rw [List.nil_append]
    rw [dkP_texts]
    exact hk
theorem ltS_irrefl {a : Str} (h : ltS a a) : False := absurd (h.symm.trans (dataLt_irrefl (PyData.str a))) (by simp)
theorem ltS_asymm {a b : Str} (h : ltS a b) (h' : ltS b a) : False := ltS_irrefl (dataLt_trans h h')
theorem adj_symm (ws : List Wire) (a b : Str) : adj ws a b = adj ws b a := Bool.or_comm ..
theorem adj_self {R : List Str} {ws : List Wire} (h : HOk R ws) (a : Str) : adj ws a a = false := by
  cases e : adj ws a a with
  | false => rfl
  | true =>
    have : (a, a) ∈ ws := by unfold adj at e; simpa using e
    exact (ltS_irrefl (h.mem _ this).2.2).elim
theorem adj_mem {R : List Str} {ws : List Wire} (h : HOk R ws) {a b : Str} (e : adj ws a b = true) : a ∈ R ∧ b ∈ R := by
  unfold adj at e
  rw [Bool.or_eq_true] at e
  rcases e with e | e
  · have := h.mem _ (of_decide_eq_true e); exact ⟨this.1, this.2.1⟩
  · have := h.mem _ (of_decide_eq_true e); exact ⟨this.2.1, this.1⟩
theorem tch_sym (own : Bool) (ws : List Wire) (R : List Str) : Sym (tch own ws) R := fun a _ b _ => by
  unfold tch
  rw [adj_symm]
  have : decide (b = a) = decide (a = b) := by by_cases h : a = b; subst h; rfl; simp [h, Ne.symm h]
  rw [this]
def oth (r : Str) (w : Wire) : Str := if w.1 = r then w.2 else w.1
theorem around_perm {R : List Str} {ws : List Wire} (h : HOk R ws) (r : Str) : (R.filter (adj ws r)).Perm ((ws.filter fun w => decide (w.1 = r) || decide (w.2 = r)).map (oth r)) := by
  refine perm_of (h.up.filter _).nodup ?_ fun x => ?_
  · refine nodup_map ?_ (h.upw.filter _).nodup
    intro v hv w hw e
    rw [List.mem_filter] at hv hw
    have hv1 := h.mem v hv.1
    have hw1 := h.mem w hw.1
    obtain ⟨v1, v2⟩ := v
    obtain ⟨w1, w2⟩ := w
    simp only [oth] at e
    have a := hv.2
    have b := hw.2
    simp only [Bool.or_eq_true, decide_eq_true_eq] at a b
    by_cases h1 : v1 = r
    · subst h1
      rw [if_pos rfl] at e
      by_cases h2 : w1 = v1
      · subst h2
        rw [if_pos rfl] at e
        rw [e]
      · rw [if_neg h2] at e
        have h3 : w2 = v1 := by rcases b with b | b; exact absurd b h2; exact b
        subst h3
        subst e
        exact (ltS_asymm hv1.2.2 hw1.2.2).elim
    · rw [if_neg h1] at e
      have h4 : v2 = r := by rcases a with a | a; exact absurd a h1; exact a
      subst h4
      by_cases h2 : w1 = v2
      · subst h2
        rw [if_pos rfl] at e
        subst e
        exact (ltS_asymm hv1.2.2 hw1.2.2).elim
      · rw [if_neg h2] at e
        have h3 : w2 = v2 := by rcases b with b | b; exact absurd b h2; exact b
        rw [e, h3]
  · rw [List.mem_filter, List.mem_map]
    constructor
    · rintro ⟨_, hx⟩
      unfold adj at hx
      rw [Bool.or_eq_true] at hx
      rcases hx with hx | hx
      · have := of_decide_eq_true hx
        exact ⟨(r, x), List.mem_filter.mpr ⟨this, by simp⟩, by simp [oth]⟩
      · have hm := of_decide_eq_true hx
        refine ⟨(x, r), List.mem_filter.mpr ⟨hm, by simp⟩, ?_⟩
        unfold oth
        have : x ≠ r := fun e => ltS_irrefl (show ltS r r from by have := (h.mem _ hm).2.2; rw [e] at this; exact this)
        simp [this]
    · rintro ⟨w, hw, rfl⟩
      rw [List.mem_filter] at hw
      have hm := h.mem w hw.1
      obtain ⟨w1, w2⟩ := w
      have b := hw.2
      simp only [Bool.or_eq_true, decide_eq_true_eq] at b
      unfold oth adj
      by_cases h2 : w1 = r
      · subst h2
        simp [hm.2.1, hw.1]
      · have h3 : w2 = r := by rcases b with b | b; exact absurd b h2; exact b
        subst h3
        simp [h2, hm.1, hw.1]
theorem k_law_around : Keeps N_law_around ["hall", "room"] sp_law_around (b_law_around SP) := by
  rintro ds n k hl ⟨R, ws, r, hH, hr, rfl, hk⟩
  unfold b_law_around
  have z := sz
  have hz := hH.wl
  walk_at "my_wp"
  refine lcW_pure dW (fun w => decide (w.1 = r) || decide (w.2 = r)) (fun w => PyData.str (oth r w)) _ _ _ (fun x hx => ⟨_, rfl, fun K hK => ?_, fun _ K hK => ?_⟩) ?_ ?_
  · walk_at "my_wp"; exact hK
  · walk_at "my_wp"
    unfold oth at hK
    by_cases h : x.1 = r
    · rw [if_pos h] at hK
      rw [decide_eq_true h]
      walk_at "my_wp"; exact hK
    · rw [if_neg h] at hK
      rw [decide_eq_false h]
      walk_at "my_wp"; exact hK
  · simp; omega
  · walk_at "my_wp"
    rw [show (fun w => PyData.str (oth r w)) = (fun z => PyData.str z) ∘ oth r from rfl, ← List.map_map]
    exact sorted_texts (hH.up.filter _) (around_perm hH r) hk
theorem k_law_touch : Keeps N_law_touch ["hall", "kind", "room"] sp_law_touch (b_law_touch SP) := by
  rintro ds n k hl ⟨R, ws, own, r, hH, hr, rfl, hk⟩
  unfold b_law_touch
  have z := sz
  have hz := hH.len
  have hz2 := filter_len (adj ws r) R
  walk_at "my_wp"
  refine ⟨R, ws, r, hH, hr, rfl, ?_⟩
  walk_at "my_wp"
  rw [oEq_kd]
  cases own with
  | true =>
    walk_at "my_wp"
    refine ⟨by omega, ?_⟩
    refine ⟨by simp; omega, ?_⟩
    show oSorted (.list ((R.filter (adj ws r)).map (fun z => PyData.str z) ++ [r].map fun z => PyData.str z)) _
    rw [← List.map_append]
    refine sorted_texts (hH.up.filter (tch true ws r)) (perm_of (hH.up.filter _).nodup ?_ fun x => ?_) hk
    · rw [List.nodup_append]
      refine ⟨(hH.up.filter _).nodup, by simp, fun a ha b hb e => ?_⟩
      rw [List.mem_singleton] at hb
      subst hb; subst e
      rw [List.mem_filter, adj_self hH] at ha
      cases ha.2
    · simp only [List.mem_filter, List.mem_append, List.mem_singleton, tch, Bool.true_and]
      by_cases h : x = r
      · subst h; simp [adj_self hH, hr]
      · simp [h]
  | false =>
    walk_at "my_wp"
    refine ⟨by omega, ?_⟩
    refine ⟨by simp; omega, ?_⟩
    rw [List.append_nil]
    refine sorted_texts (hH.up.filter (tch false ws r)) ?_ hk
    have : adj ws r = tch false ws r := by funext s; unfold tch; simp
    rw [this]
theorem k_law_sum : Keeps N_law_sum ["one", "other"] sp_summed (b_law_sum SP) := k_summed
theorem k_law_without : Keeps N_law_without ["hall", "lot"] sp_law_without (b_law_without SP) := by
  rintro ds n k hl ⟨R, ws, l, hH, rfl, hk⟩
  unfold b_law_without
  have z := sz
  have hz := hH.len
  have hw := hH.wl
  walk_at "my_wp"
  refine lcW_pure (fun z => PyData.str z) (fun r => !decide (r ∈ l)) (fun z => PyData.str z) _ _ _ (fun x hx => ⟨_, rfl, fun K hK => ?_, fun _ K hK => ?_⟩) ?_ ?_
  · walk_at "my_wp"; exact hK
  · walk_at "my_wp"; exact hK
  · simp; omega
  refine lcW_pure dW (fun w => !decide (w.1 ∈ l) && !decide (w.2 ∈ l)) dW _ _ _ (fun x hx => ⟨_, rfl, fun K hK => ?_, fun _ K hK => ?_⟩) ?_ ?_
  · walk_at "my_wp"
    cases h1 : decide (x.1 ∈ l) <;> rw [h1] at hK
    · walk_at "my_wp"; simpa using hK
    · walk_at "my_wp"; simpa using hK
  · walk_at "my_wp"; exact hK
  · simp; omega
  · walk_at "my_wp"
    refine ⟨by omega, ?_⟩
    exact hk
end W
namespace W
open PySem PySem.Spec PySem.W PyProof.Rows L2 DL GF
theorem lotD_none (R : List Str) : lotD R (fun _ => false) = .list [] := by
  show dL _ = _
  rw [List.filter_eq_nil_iff.mpr (fun _ _ => by simp)]; rfl
theorem lotD_congr {R : List Str} {f g : Str → Bool} (h : ∀ s ∈ R, f s = g s) : lotD R f = lotD R g := congrArg dL (List.filter_congr h)
theorem par_snoc {α : Type} [DecidableEq α] (f : α → Bool) (r : α) : ∀ l : List α, par (l ++ [r]) f = (par l f ^^ f r)
  | [] => by simp [par]
  | a :: l => by
    show (f a ^^ par (l ++ [r]) f) = ((f a ^^ par l f) ^^ f r)
    rw [par_snoc f r l, Bool.xor_assoc]
theorem k_law_behind : Keeps N_law_behind ["hall", "kind", "lighting", "lot"] sp_law_behind (b_law_behind SP) := by
  rintro ds n k hl ⟨R, ws, own, f, x, hH, rfl, hk⟩
  unfold b_law_behind
  have z := sz
  have hz := hH.len
  walk_at "my_wp"
  refine forW_it (fun z => PyData.str z) (fun done γ n' => n' = n ∧ ∃ s5, γ = [.val (lawD R ws), .val (kd own), .val (lotD R f), .val (lotD R x), .val (lotD R fun s => f s ^^ par done fun r => tch own ws r s), s5]) (R.filter x) ⟨rfl, .no, ?_⟩ ?_ ?_
  · simp [par]
  · rintro done r rest γ n' e ⟨rfl, s5, rfl⟩
    refine ⟨_, rfl, fun K hK => ?_⟩
    have hr : r ∈ R := (List.mem_filter.mp (e ▸ (by simp : r ∈ done ++ r :: rest))).1
    walk_at "my_wp"
    refine ⟨R, ws, own, r, hH, hr, rfl, ?_⟩
    refine ⟨R, _, _, hH.up, by have := hH.len; omega, rfl, ?_⟩
    refine hK _ _ ⟨rfl, .val (PyData.str r), ?_⟩
    have : (fun s => (f s ^^ par done fun r => tch own ws r s) ^^ tch own ws r s) = fun s => f s ^^ par (done ++ [r]) fun r => tch own ws r s := by
      funext s
      rw [par_snoc, Bool.xor_assoc]
    rw [← this]
  · rintro γ n' ⟨rfl, s5, rfl⟩
    walk_at "my_wp"
    have : (fun s => f s ^^ par (R.filter x) fun r => tch own ws r s) = fun s => f s ^^ tv (tch own ws) R x s := by
      funext s; rw [par_filter]; rfl
    rw [this]; exact hk
theorem lots_map (R : List Str) (l : List (Str → Bool)) : (l.map fun f => R.filter f).map dL = l.map (lotD R) := by rw [List.map_map]; rfl
theorem k_sums_of : Keeps N_sums_of ["lots"] sp_sums_of (b_sums_of SP) := by
  rintro ds n k hl ⟨R, qs, hu, hz, hq, rfl, hk⟩
  unfold b_sums_of
  have z := sz
  walk_at "my_wp"
  refine ⟨by omega, by omega, ?_⟩
  refine forW_it (lotD R) (fun done γ n' => n' = n ∧ ∃ s2 s3, γ = [.val (.list (qs.map (lotD R))), .val (.list ((sm done).map (lotD R))), s2, s3]) qs ⟨rfl, .no, .no, ?_⟩ ?_ ?_
  · show _ = [_, Sl.val (.list [lotD R fun _ => false]), _, _]
    rw [lotD_none]
  · rintro done q rest γ n' e ⟨rfl, s2, s3, rfl⟩
    refine ⟨_, rfl, fun K hK => ?_⟩
    have hd : (sm done).length ≤ 2 ^ 13 := by
      unfold sm
      rw [sm_length]
      have := congrArg List.length e
      simp at this
      simp
      exact Nat.pow_le_pow_right (n := 2) (by omega) (show done.length ≤ 13 by omega)
    walk_at "my_wp"
    refine lcW_pure (lotD R) (fun _ => true) (fun f => lotD R fun r => f r ^^ q r) _ _ _ (fun x hx => ⟨_, rfl, fun K hK => hK, fun _ K hK => ?_⟩) ?_ ?_
    · walk_at "my_wp"
      exact ⟨R, x, q, hu, by omega, rfl, hK⟩
    · simp; omega
    · walk_at "my_wp"
      rw [List.filter_eq_self.mpr (fun _ _ => rfl)]
      refine ⟨by simp; omega, ?_⟩
      refine hK _ _ ⟨rfl, .val (lotD R q), s3, ?_⟩
      rw [sm_snoc]
      unfold sm1
      rw [List.map_append, List.map_map]
      rfl
  · rintro γ n' ⟨rfl, s2, s3, rfl⟩
    walk_at "my_wp"
    rw [← lots_map] at hk ⊢
    exact sorted_lots hk
theorem fld_quiet (R : List Str) (rows : List Rw) (qs : List (Str → Bool)) (P : PyData → Prop) : (∃ es' d', (solvedD R rows qs = insP "Solved" es' ∨ solvedD R rows qs = parP "Solved" es') ∧ es'.lookup ("own_quiet" : Str) = some d' ∧ P d') = P (.list (qs.map (lotD R))) := ex_fld rfl P
theorem fld_rows (R : List Str) (rows : List Rw) (qs : List (Str → Bool)) (P : PyData → Prop) : (∃ es' d', (solvedD R rows qs = insP "Solved" es' ∨ solvedD R rows qs = parP "Solved" es') ∧ es'.lookup ("own_rows" : Str) = some d' ∧ P d') = P (rowsD R rows) := ex_fld rfl P
def lotsL (done : List Str) : List (List Str) := done.foldl (fun found r => found ++ found.map fun l => l ++ [r]) [[]]
theorem lotsL_snoc (done : List Str) (r : Str) : lotsL (done ++ [r]) = lotsL done ++ (lotsL done).map fun l => l ++ [r] := by
  unfold lotsL; rw [List.foldl_append]; rfl
theorem lotsL_ok (n : Nat) : ∀ done : List Str, done.length = n → done.Nodup → (lotsL done).length = 2 ^ n ∧ AllL done (lotsL done) := by
  induction n with
  | zero =>
    intro done h _
    have : done = [] := List.eq_nil_of_length_eq_zero h
    subst this
    refine ⟨rfl, by simp [lotsL], fun l => ?_⟩
    simp [lotsL]
  | succ n ih =>
    intro done h nd
    have hne : done ≠ [] := fun e => by rw [e] at h; cases h
    rw [← List.dropLast_concat_getLast hne] at nd ⊢
    generalize done.getLast hne = r at *
    have hl : done.dropLast.length = n := by rw [List.length_dropLast, h]; rfl
    generalize done.dropLast = d at *
    rw [List.nodup_append] at nd
    have hr : r ∉ d := fun hm => nd.2.2 r hm r (by simp) rfl
    obtain ⟨h1, h2, h3⟩ := ih d hl nd.1
    rw [lotsL_snoc]
    refine ⟨by simp [h1, Nat.pow_succ]; omega, ?_, fun l => ?_⟩
    · rw [List.nodup_append]
      refine ⟨h2, nodup_map (fun a _ b _ e => List.append_cancel_right e) h2, fun a ha b hb e => ?_⟩
      obtain ⟨c, _, rfl⟩ := List.mem_map.mp hb
      obtain ⟨f, hf⟩ := (h3 a).mp ha
      have : r ∈ a := by rw [e]; simp
      rw [hf] at this
      exact hr (List.mem_filter.mp this).1
    · rw [List.mem_append, List.mem_map]
      constructor
      · rintro (h | ⟨c, hc, rfl⟩)
        · obtain ⟨f, hf⟩ := (h3 l).mp h
          refine ⟨fun a => f a && !decide (a = r), ?_⟩
          rw [List.filter_append, hf, List.filter_cons_of_neg (by simp), List.filter_nil, List.append_nil]
          refine List.filter_congr fun a ha => ?_
          have : a ≠ r := fun e => hr (e ▸ ha)
          simp [this]
        · obtain ⟨f, hf⟩ := (h3 c).mp hc
          refine ⟨fun a => f a || decide (a = r), ?_⟩
          rw [List.filter_append, hf, List.filter_cons_of_pos (by simp), List.filter_nil]
          congr 1
          refine List.filter_congr fun a ha => ?_
          have : a ≠ r := fun e => hr (e ▸ ha)
          simp [this]
      · rintro ⟨f, hf⟩
        rw [List.filter_append] at hf
        cases e : f r with
        | false =>
          rw [List.filter_cons_of_neg (by simp [e]), List.filter_nil, List.append_nil] at hf
          exact .inl ((h3 l).mpr ⟨f, hf⟩)
        | true =>
          rw [List.filter_cons_of_pos e, List.filter_nil] at hf
          exact .inr ⟨_, (h3 _).mpr ⟨f, rfl⟩, hf.symm⟩
theorem sort_as {β : Type} (enc : β → PyData) (l : List β) : ∃ m : List β, m.Perm l ∧ sortP (l.map enc) = m.map enc :=
  ⟨l.mergeSort fun a b => dataLe false id (enc a) (enc b), List.mergeSort_perm .., (sort_maps enc (fun _ _ _ _ => rfl)).symm⟩
theorem AllL.perm {R : List Str} {A B : List (List Str)} (h : AllL R A) (p : B.Perm A) : AllL R B := ⟨p.nodup_iff.mpr h.1, fun l => p.mem_iff.trans (h.2 l)⟩
theorem k_law_lots : Keeps N_law_lots ["rooms"] sp_law_lots (b_law_lots SP) := by
  rintro ds n k hl ⟨R, hu, hz, rfl, hk⟩
  unfold b_law_lots
  have z := sz
  walk_at "my_wp"
  refine ⟨by omega, by omega, ?_⟩
  refine forW_it (fun z => PyData.str z) (fun done γ n' => n' = n ∧ ∃ s2 s3, γ = [.val (dL R), .val (.list ((lotsL done).map dL)), s2, s3]) R ⟨rfl, .no, .no, rfl⟩ ?_ ?_
  · rintro done r rest γ n' e ⟨rfl, s2, s3, rfl⟩
    refine ⟨_, rfl, fun K hK => ?_⟩
    have hnd : done.Nodup := by
      have := hu.nodup
      rw [e, List.nodup_append] at this
      exact this.1
    have hle : done.length ≤ 13 := by
      have := congrArg List.length e
      simp at this; omega
    have hd : (lotsL done).length ≤ 2 ^ 13 := by
      rw [(lotsL_ok _ done rfl hnd).1]
      exact Nat.pow_le_pow_right (n := 2) (by omega) hle
    walk_at "my_wp"
    refine lcW_pure dL (fun _ => true) (fun l => dL (l ++ [r])) _ _ _ (fun x hx => ⟨_, rfl, fun K hK => hK, fun _ K hK => ?_⟩) ?_ ?_
    · walk_at "my_wp"
      refine ⟨by omega, ?_⟩
      obtain ⟨f, hf⟩ := ((lotsL_ok _ done rfl hnd).2.2 x).mp hx
      have hxl : x.length ≤ done.length := by rw [hf]; exact filter_len f done
      show _ ≤ _ ∧ _
      refine ⟨by simp; omega, ?_⟩
      rw [show (x.map (fun z => PyData.str z) ++ [PyData.str r]) = (x ++ [r]).map (fun z => PyData.str z) by simp]
      exact hK
    · simp; omega
    · walk_at "my_wp"
      rw [List.filter_eq_self.mpr (fun _ _ => rfl)]
      refine ⟨by simp; omega, ?_⟩
      refine hK _ _ ⟨rfl, .val (PyData.str r), s3, ?_⟩
      rw [lotsL_snoc, List.map_append, List.map_map]
      rfl
  · rintro γ n' ⟨rfl, s2, s3, rfl⟩
    walk_at "my_wp"
    refine sorted_lots ?_
    obtain ⟨m, hp, e⟩ := sort_as dL (lotsL R)
    rw [e]
    exact hk m ((lotsL_ok _ R rfl hu.nodup).2.perm hp)
theorem AllQ.of_lots {T : Str → Str → Bool} {R : List Str} {A : List (List Str)} (h : AllL R A) (p : List Str → Bool) (hp : ∀ x : Str → Bool, p (R.filter x) = true ↔ ∀ s ∈ R, tv T R x s = false) :
    AllQ T R ((A.filter p).map fun l a => decide (a ∈ l)) := by
  refine ⟨nodup_map ?_ (nodup_filter h.1), fun x => ?_⟩
  · intro a ha b hb e
    obtain ⟨f, hf⟩ := (h.2 a).mp (List.mem_filter.mp ha).1
    obtain ⟨g, hg⟩ := (h.2 b).mp (List.mem_filter.mp hb).1
    rw [hf, hg]
    refine List.filter_congr fun s hs => ?_
    have := congrFun e s
    rw [hf, hg] at this
    simpa [List.mem_filter, hs] using this
  · rw [List.mem_map]
    constructor
    · rintro ⟨l, hl, rfl⟩
      obtain ⟨hm, hq⟩ := List.mem_filter.mp hl
      obtain ⟨f, hf⟩ := (h.2 l).mp hm
      refine ⟨fun a ha => ?_, fun s hs => ?_⟩
      · have := of_decide_eq_true ha
        rw [hf] at this
        exact (List.mem_filter.mp this).1
      · rw [hf] at hq
        rw [tv_congr (y := f) fun a ha => by rw [hf]; simp [List.mem_filter, ha]]
        exact (hp f).mp hq s hs
    · rintro ⟨h1, h2⟩
      refine ⟨R.filter x, List.mem_filter.mpr ⟨(h.2 _).mpr ⟨x, rfl⟩, (hp x).mpr h2⟩, ?_⟩
      funext a
      cases e : x a with
      | false => simp [List.mem_filter, e]
      | true => simp [List.mem_filter, e, h1 a e]
theorem k_law_quiets : Keeps N_law_quiets ["hall", "kind"] sp_law_quiets (b_law_quiets SP) := by
  rintro ds n k hl ⟨R, ws, own, hH, rfl, hk⟩
  unfold b_law_quiets
  have z := sz
  have hz := hH.len
  walk_at "my_wp"
  refine ⟨R, hH.up, hz, rfl, fun A hA => ?_⟩
  walk_at "my_wp"
  have hAl : A.length ≤ 2 ^ 13 := by
    rw [length_same hA.1 (lotsL_ok _ R rfl hH.up.nodup).2.1 (fun l => (hA.2 l).trans ((lotsL_ok _ R rfl hH.up.nodup).2.2 l).symm), (lotsL_ok _ R rfl hH.up.nodup).1]
    exact Nat.pow_le_pow_right (n := 2) (by omega) hz
  refine lcW_pure dL (fun l => decide (R.filter (fun s => tv (tch own ws) R (fun a => decide (a ∈ l)) s) = [])) dL _ _ _ (fun x hx => ⟨_, rfl, fun K hK => ?_, fun _ K hK => ?_⟩) ?_ ?_
  · walk_at "my_wp"
    obtain ⟨f, hf⟩ := (hA.2 x).mp hx
    have e1 : dL x = lotD R fun a => decide (a ∈ x) := by
      refine congrArg dL ?_
      rw [hf]
      exact List.filter_congr fun a ha => by simp [List.mem_filter, ha]
    refine ⟨by omega, R, ws, own, fun _ => false, fun a => decide (a ∈ x), hH, ?_, ?_⟩
    · rw [lotD_none, ← e1]
    · refine ⟨by omega, ?_⟩
      show oEq _ (dL []) _
      rw [oEq_lot]
      simp only [Bool.false_xor]
      exact hK
  · walk_at "my_wp"; exact hK
  · simp; omega
  · walk_at "my_wp"
    have := hk _ (AllQ.of_lots (T := tch own ws) hA (fun l => decide (R.filter (fun s => tv (tch own ws) R (fun a => decide (a ∈ l)) s) = [])) fun x => ?_)
    · rw [List.map_map] at this
      refine (congrArg (fun l => k (.list l) n) (List.map_congr_left fun l hl => ?_)).mp this
      obtain ⟨f, hf⟩ := (hA.2 l).mp (List.mem_filter.mp hl).1
      refine congrArg dL ?_
      rw [hf]
      exact List.filter_congr fun a ha => by simp [List.mem_filter, ha]
    · rw [decide_eq_true_eq, List.filter_eq_nil_iff]
      constructor
      · intro h s hs
        have := h s hs
        rw [tv_congr (y := x) fun a ha => by simp [List.mem_filter, ha]] at this
        simpa using this
      · intro h s hs
        rw [tv_congr (y := x) fun a ha => by simp [List.mem_filter, ha], h s hs]
        simp
theorem k_quiets : Keeps N_quiets ["hall", "kind"] sp_quiets (b_quiets SP) := by
  rintro ds n k hl ⟨R, ws, own, hH, rfl, hk⟩
  unfold b_quiets
  walk_at "my_wp"
  refine ⟨R, ws, own, rfl, ?_⟩
  refine ⟨R, ws, own, hH, rfl, ?_⟩
  refine ⟨tch own ws, R, hH.up, hH.ne, hH.len, rfl, fun rows qs I hq => ?_⟩
  have := hH.len
  simp only [fld_quiet]
  refine ⟨R, qs, hH.up, by omega, by omega, rfl, ?_⟩
  exact hk _ ⟨I.nod, I.qt⟩
end W
namespace W
open PySem PySem.Spec PySem.W PyProof.Rows L2 DL GF
theorem k_presses_or_watch : Keeps N_presses_or_watch ["hall", "kind", "lighting", "other"] sp_presses_or_watch (b_presses_or_watch SP) := by
  rintro ds n k hl ⟨R, ws, own, f, g, hH, rfl, hk⟩
  unfold b_presses_or_watch
  walk_at "my_wp"
  refine ⟨R, ws, own, f, g, hH, rfl, ?_⟩
  refine ⟨R, f, g, hH.up, by have := hH.len; omega, rfl, ?_⟩
  exact ⟨R, ws, own, _, hH, rfl, hk⟩
theorem lookP_rows (R : List Str) (a : Str) : ∀ rows : List Rw, (lookP (rows.map (rwD R)) (PyData.str a)) = (rows.find? fun w => decide (w.1 = a)).map fun w => (.tuple [lotD R w.2.1, lotD R w.2.2])
  | [] => rfl
  | w :: rows => by
    unfold lookP
    rw [List.map_cons, List.find?_cons, List.find?_cons]
    have e : PyData.eqv (rwD R w).1 (PyData.str a) = decide (w.1 = a) := eqv_str w.1 a
    rw [e]
    have ih := lookP_rows R a rows
    unfold lookP at ih
    cases decide (w.1 = a)
    · exact ih
    · rfl
theorem noNone_rows (R : List Str) (rows : List Rw) : noNone (rows.map (rwD R)) = true := by
  unfold noNone; rw [List.all_map]; exact List.all_eq_true.mpr fun _ _ => rfl
theorem oIn_rows (R : List Str) (rows : List Rw) (a : Str) (g : Bool → Bool) (k : PyData → Prop) (hk : k (.bool (g (decide (∃ w ∈ rows, w.1 = a))))) : oInB g (PyData.str a) (rowsD R rows) k := by
  cases rows with
  | nil => exact ⟨rfl, by simpa using hk⟩
  | cons b l =>
    refine ⟨noNone_rows R (b :: l), rfl, ?_⟩
    have : inB (PyData.str a) (rowsD R (b :: l)) = decide (∃ w ∈ b :: l, w.1 = a) := by
      show (lookP ((b :: l).map (rwD R)) (PyData.str a)).isSome = _
      rw [lookP_rows, Option.isSome_map, Bool.eq_iff_iff, List.find?_isSome, decide_eq_true_eq]
      simp only [decide_eq_true_eq]
    rw [this]; exact hk
theorem oIx_rows (R : List Str) (rows : List Rw) (nd : ∀ v ∈ rows, ∀ w ∈ rows, v.1 = w.1 → v = w) {w : Rw} (hw : w ∈ rows) (k : PyData → Prop) (hk : k (.tuple [lotD R w.2.1, lotD R w.2.2])) : oIx (rowsD R rows) (PyData.str w.1) k := by
  refine ⟨noNone_rows R rows, ?_, _, ?_, hk⟩
  · cases rows with
    | nil => cases hw
    | cons b l => rfl
  · rw [lookP_rows]
    have : (rows.find? fun v => decide (v.1 = w.1)).isSome := List.find?_isSome.mpr ⟨w, hw, by simp⟩
    obtain ⟨v, hv⟩ := Option.isSome_iff_exists.mp this
    rw [hv]
    have h1 := List.find?_some hv
    have h2 := List.mem_of_find?_eq_some hv
    rw [nd v h2 w hw (of_decide_eq_true h1)]
    rfl
theorem RowsOk.uniq {T : Str → Str → Bool} {R P : List Str} {rows : List Rw} (h : RowsOk T R P rows) : ∀ v ∈ rows, ∀ w ∈ rows, v.1 = w.1 → v = w := by
  have ht := h.tri
  have hk := h.key
  clear h
  induction rows with
  | nil => intro v hv; cases hv
  | cons a l ih =>
    rw [List.pairwise_cons] at ht
    have ih := ih ht.2 fun w hw => hk w (List.mem_cons_of_mem _ hw)
    intro v hv w hw e
    rcases List.mem_cons.mp hv with e1 | hv
    · rcases List.mem_cons.mp hw with e2 | hw
      · rw [e1, e2]
      · have := ht.1 w hw
        rw [← e1, e, hk w (List.mem_cons_of_mem _ hw)] at this; cases this
    · rcases List.mem_cons.mp hw with e2 | hw
      · have := ht.1 v hv
        rw [← e2, ← e, hk v (List.mem_cons_of_mem _ hv)] at this; cases this
      · exact ih v hv w hw e
theorem k_Solved_reduced : Keeps N_Solved_reduced ["self", "lot"] sp_Solved_reduced (b_Solved_reduced SP) := by
  rintro ds n k hl ⟨T, R, P, rows, d, t, I, hd, rfl, hk⟩
  unfold b_Solved_reduced
  have z := sz
  have hz := I.len
  have fld : ∀ Q : PyData → Prop, Q (rowsD R rows) → ∃ es' d', (d = insP "Solved" es' ∨ d = parP "Solved" es') ∧ es'.lookup ("own_rows" : Str) = some d' ∧ Q d' := fun Q q => by
    rcases hd with rfl | ⟨qs, rfl⟩
    · exact ⟨_, _, .inr rfl, rfl, q⟩
    · exact ⟨_, _, .inl rfl, rfl, q⟩
  have led : ∀ (rest : Str → Bool) (a1 a2 a3 a4 a5 a6 : Option PyData) (K : List PyData → Nat → Prop),
      K (((R.filter rest).filter fun a => decide (∃ w ∈ rows, w.1 = a)).map fun z => PyData.str z) n →
      lcW (tgN 5) (mB (mOp oIn (mVar 5) (mFld "Solved" "own_rows" (mVar 0)))) (mVar 5) [some d, a1, a2, a3, a4, a5, a6] ((R.filter rest).map fun z => PyData.str z) [] n K := by
    intro rest a1 a2 a3 a4 a5 a6 K hK
    have hf := filter_len rest R
    refine lcW_pure (fun z => PyData.str z) (fun a => decide (∃ w ∈ rows, w.1 = a)) (fun z => PyData.str z) _ _ _ (fun x hx => ⟨_, rfl, fun K hK => ?_, fun _ K hK => ?_⟩) ?_ ?_
    · walk_at "my_wp"
      exact fld _ (oIn_rows R rows x _ _ hK)
    · walk_at "my_wp"; exact hK
    · simp; omega
    · exact hK
  have turn : ∀ (m : Nat) (rest l : Str → Bool), (∀ s, rest s = true → s ∈ R) → (∀ a, l a = true → a ∈ P) → (∀ s ∈ R, rest s = (t s ^^ tv T R l s)) → ∀ (s5 s6 : Sl) (K : Ks), (∀ rest l : Str → Bool, (∀ s, rest s = true → s ∈ R) → (∀ a, l a = true → a ∈ P) → (∀ s ∈ R, rest s = (t s ^^ tv T R l s)) → (∀ w ∈ rows, rest w.1 = false) → ∀ x y z, K.nx [.val d, .val (lotD R t), .val (lotD R rest), .val (lotD R l), x, y, z] n) →
      (∀ w ∈ rows, rest w.1 = true → ∀ s5 s6, whW (mB (mOp oNe (mVar 4) (mLst mNil))) (mSeq (mSet 6 (mOp oIx (mFld "Solved" "own_rows" (mVar 0)) (mOp oIx (mVar 4) (mC (.int 0)))))
    (mSeq (mPar 2 3 none none (mCall 2 SP.summed (mCons (mVar 2) (mCons (mOp oIx (mVar 6) (mC (.int 0))) mNil))) (mCall 2 SP.summed (mCons (mVar 3) (mCons (mOp oIx (mVar 6) (mC (.int 1))) mNil))))
    (mSet 4 (mLc (mItems (mVar 2)) (tgN 5) (mB (mOp oIn (mVar 5) (mFld "Solved" "own_rows" (mVar 0)))) (mVar 5) [5])))) m
        [.val d, .val (lotD R t), .val (lotD R fun a => rest a ^^ w.2.1 a), .val (lotD R fun a => l a ^^ w.2.2 a), .val (dL ((R.filter fun a => rest a ^^ w.2.1 a).filter fun a => decide (∃ w ∈ rows, w.1 = a))), s5, s6] n K) →
      whW (mB (mOp oNe (mVar 4) (mLst mNil))) (mSeq (mSet 6 (mOp oIx (mFld "Solved" "own_rows" (mVar 0)) (mOp oIx (mVar 4) (mC (.int 0)))))
    (mSeq (mPar 2 3 none none (mCall 2 SP.summed (mCons (mVar 2) (mCons (mOp oIx (mVar 6) (mC (.int 0))) mNil))) (mCall 2 SP.summed (mCons (mVar 3) (mCons (mOp oIx (mVar 6) (mC (.int 1))) mNil))))
    (mSet 4 (mLc (mItems (mVar 2)) (tgN 5) (mB (mOp oIn (mVar 5) (mFld "Solved" "own_rows" (mVar 0)))) (mVar 5) [5])))) (m + 1)
        [.val d, .val (lotD R t), .val (lotD R rest), .val (lotD R l), .val (dL ((R.filter rest).filter fun a => decide (∃ w ∈ rows, w.1 = a))), s5, s6] n K := by
    intro m rest l h1 h2 h3 s5 s6 K hK hgo
    unfold whW
    walk_at "my_wp"
    refine ⟨by omega, ?_⟩
    show oNe _ (dL []) _
    rw [oNe_lot]
    cases e : (R.filter rest).filter fun a => decide (∃ w ∈ rows, w.1 = a) with
    | nil =>
      walk_at "my_wp"
      refine hK rest l h1 h2 h3 (fun w hw => ?_) _ _ _
      cases er : rest w.1 with
      | false => rfl
      | true =>
        have := List.filter_eq_nil_iff.mp e w.1 (List.mem_filter.mpr ⟨h1 _ er, er⟩)
        exact absurd (decide_eq_true ⟨w, hw, rfl⟩) this
    | cons a led' =>
      have ha : a ∈ (R.filter rest).filter fun a => decide (∃ w ∈ rows, w.1 = a) := by rw [e]; simp
      obtain ⟨ha1, ha2⟩ := List.mem_filter.mp ha
      obtain ⟨w, hw, rfl⟩ := of_decide_eq_true ha2
      have hx := (List.mem_filter.mp ha1).2
      have : decide (w.1 :: led' = []) = false := decide_eq_false (by simp)
      rw [this]
      walk_at "my_wp"
      refine fld _ (oIx_rows R rows I.uniq hw _ ?_)
      walk_at "my_wp"
      refine ⟨R, rest, w.2.1, I.up, by omega, rfl, ?_⟩
      refine ⟨R, l, w.2.2, I.up, by omega, rfl, ?_⟩
      refine ⟨_, rfl, led (fun a => rest a ^^ w.2.1 a) _ _ _ _ _ _ _ ?_⟩
      exact hgo w hw hx _ _
  have loop : ∀ (m : Nat) (rest l : Str → Bool), meas rows rest ≤ m → (∀ s, rest s = true → s ∈ R) → (∀ a, l a = true → a ∈ P) → (∀ s ∈ R, rest s = (t s ^^ tv T R l s)) → ∀ (s5 s6 : Sl) (K : Ks), (∀ rest l : Str → Bool, (∀ s, rest s = true → s ∈ R) → (∀ a, l a = true → a ∈ P) → (∀ s ∈ R, rest s = (t s ^^ tv T R l s)) → (∀ w ∈ rows, rest w.1 = false) → ∀ x y z, K.nx [.val d, .val (lotD R t), .val (lotD R rest), .val (lotD R l), x, y, z] n) →
      whW (mB (mOp oNe (mVar 4) (mLst mNil))) (mSeq (mSet 6 (mOp oIx (mFld "Solved" "own_rows" (mVar 0)) (mOp oIx (mVar 4) (mC (.int 0)))))
    (mSeq (mPar 2 3 none none (mCall 2 SP.summed (mCons (mVar 2) (mCons (mOp oIx (mVar 6) (mC (.int 0))) mNil))) (mCall 2 SP.summed (mCons (mVar 3) (mCons (mOp oIx (mVar 6) (mC (.int 1))) mNil))))
    (mSet 4 (mLc (mItems (mVar 2)) (tgN 5) (mB (mOp oIn (mVar 5) (mFld "Solved" "own_rows" (mVar 0)))) (mVar 5) [5])))) (m + 1)
        [.val d, .val (lotD R t), .val (lotD R rest), .val (lotD R l), .val (dL ((R.filter rest).filter fun a => decide (∃ w ∈ rows, w.1 = a))), s5, s6] n K := by
    intro m
    induction m with
    | zero =>
      intro rest l hm h1 h2 h3 s5 s6 K hK
      refine turn 0 rest l h1 h2 h3 s5 s6 K hK ?_
      intro w hw hx _
      have := meas_down I.key I.tri w hw hx
      omega
    | succ m ih =>
      intro rest l hm h1 h2 h3 s5 s6 K hK
      refine turn (m + 1) rest l h1 h2 h3 s5 s6 K hK ?_
      intro w hw hx s5 s6
      have hd := meas_down I.key I.tri w hw hx
      refine ih _ _ (by omega) ?_ ?_ ?_ s5 s6 K hK
      · intro s hs
        cases e : rest s with
        | true => exact h1 s e
        | false => exact I.rest w hw s (by simpa [e] using hs)
      · intro a ha
        cases e : l a with
        | true => exact h2 a e
        | false => exact I.sub w hw a (by simpa [e] using ha)
      · intro s hs
        rw [tv_xor, h3 s hs, I.lead w hw s hs, Bool.xor_assoc]
  walk_at "my_wp"
  refine ⟨by omega, led t _ _ _ _ _ _ _ ?_⟩
  have z2 := filter_len t R
  refine ⟨meas rows (fun a => t a && decide (a ∈ R)) + 1, ?_⟩
  have e0 : lotD R t = lotD R fun a => t a && decide (a ∈ R) := lotD_congr fun s hs => by simp [hs]
  have e1 : R.filter t = R.filter fun a => t a && decide (a ∈ R) := List.filter_congr fun s hs => by simp [hs]
  have e2 : (PyData.list [] : PyData) = lotD R fun _ => false := (lotD_none R).symm
  have fin := loop _ (fun a => t a && decide (a ∈ R)) (fun _ => false) (Nat.le_refl _) (fun s hs => by simp at hs; exact hs.2) (fun a ha => by cases ha) (fun s hs => by rw [tv_zero fun _ _ => rfl]; simp [hs]) .no .no
  rw [← e0, ← e1, ← e2] at fin
  refine fin _ ?_
  intro rest l h1 h2 h3 h4 x y z
  walk_at "my_wp"
  exact ⟨by omega, hk rest l h1 h2 h3 h4⟩
theorem rowsOk_of {T : Str → Str → Bool} {R P : List Str} {rows : List Rw} {qs : List (Str → Bool)} (I : GF.Inv T R P rows qs) (hu : Up R) (hl : R.length ≤ 13) (hP : ∀ a ∈ P, a ∈ R) : RowsOk T R P rows :=
  ⟨hu, hl, hP, I.sub, I.rest, I.lead, I.key, I.tri⟩
theorem filter_nil_iff {R : List Str} {f : Str → Bool} : R.filter f = [] ↔ ∀ s ∈ R, f s = false := by
  rw [List.filter_eq_nil_iff]
  exact ⟨fun h s hs => by simpa using h s hs, fun h s hs => by simp [h s hs]⟩
theorem meth_reduced (R : List Str) (rows : List Rw) (qs : List (Str → Bool)) (P : Prop) : (∃ es', solvedD R rows qs = insP "Solved" es' ∧ es'.lookup ("reduced" : Str) = none ∧ P) = P := ex_meth rfl P
theorem k_told_of : Keeps N_told_of ["hall", "kind", "lot"] sp_told_of (b_told_of SP) := by
  rintro ds n k hl ⟨R, ws, own, t, hH, rfl, hk⟩
  unfold b_told_of
  have z := sz
  have hz := hH.len
  walk_at "my_wp"
  refine ⟨R, ws, own, hH, rfl, ?_⟩
  refine ⟨tch own ws, R, hH.up, hH.ne, hH.len, rfl, fun rows qs I hq => ?_⟩
  walk_at "my_wp"
  simp only [meth_reduced]
  refine ⟨tch own ws, R, R, rows, _, t, rowsOk_of I hH.up hH.len (fun _ h => h), .inr ⟨qs, rfl⟩, rfl, fun rest l h1 h2 h3 h4 => ?_⟩
  unfold redD
  refine ⟨_, rfl, ?_⟩
  walk_at "my_wp"
  refine ⟨by omega, ?_⟩
  show oEq _ (dL []) _
  rw [oEq_lot]
  rcases told I hH.up.nodup (tch_sym own ws R) h3 h4 with h0 | ⟨⟨s, hs, hr⟩, q, hqm, hdot⟩
  · rw [decide_eq_true (filter_nil_iff.mpr h0)]
    walk_at "my_wp"
    refine ⟨by omega, hk.1 l h2 fun s hs => ?_⟩
    have := h3 s hs
    rw [h0 s hs] at this
    cases h5 : t s <;> cases h6 : tv (tch own ws) R l s <;> rw [h5, h6] at this <;> first | rfl | cases this
  · rw [decide_eq_false fun e => by rw [filter_nil_iff.mp e s hs] at hr; cases hr]
    walk_at "my_wp"
    simp only [fld_quiet]
    refine ⟨_, rfl, ?_⟩
    have hqt : ∀ q ∈ qs, Qt (tch own ws) R q := I.qs_qt
    refine lcW_pure (lotD R) (fun q => dot R q t) (lotD R) _ _ _ (fun x hx => ⟨_, rfl, fun K hK => ?_, fun _ K hK => ?_⟩) ?_ ?_
    · walk_at "my_wp"
      refine ⟨R, x, t, by omega, rfl, ?_⟩
      simpa using hK
    · walk_at "my_wp"; exact hK
    · simp; omega
    · cases e : qs.filter fun q => dot R q t with
      | nil =>
        have := List.filter_eq_nil_iff.mp e q hqm
        rw [dot_comm, hdot] at this
        exact absurd rfl this
      | cons p l' =>
        have hp : p ∈ qs.filter fun q => dot R q t := by rw [e]; simp
        obtain ⟨hp1, hp2⟩ := List.mem_filter.mp hp
        walk_at "my_wp"
        exact ⟨by omega, hk.2 p (hqt p hp1) (by rw [dot_comm]; exact hp2)⟩
end W
namespace W
open PySem PySem.Spec PySem.W PyProof.Rows L2 DL GF
theorem HOk.sub {R : List Str} {ws : List Wire} (h : HOk R ws) (p : Str → Bool) (hne : R.filter p ≠ []) : HOk (R.filter p) (wIn p ws) where
  up := h.up.filter p
  ne := hne
  len := Nat.le_trans (filter_len p R) h.len
  nam := fun r hr => h.nam r (List.mem_filter.mp hr).1
  upw := h.upw.filter _
  mem := fun w hw => by
    obtain ⟨h1, h2⟩ := List.mem_filter.mp hw
    rw [Bool.and_eq_true] at h2
    have := h.mem w h1
    exact ⟨List.mem_filter.mpr ⟨this.1, h2.1⟩, List.mem_filter.mpr ⟨this.2.1, h2.2⟩, this.2.2⟩
  wl := Nat.le_trans (filter_len _ ws) h.wl
theorem al_wires : ∀ ws : List Wire, Al PairOf ws (ws.map dW)
  | [] => .nil
  | w :: ws => .cons ⟨true, .inl rfl⟩ (al_wires ws)
theorem k_within : Keeps N_within ["hall", "rooms"] sp_within (b_within SP) := by
  rintro ds n k hl ⟨R, ws, p, hH, hne, rfl, hk⟩
  unfold b_within
  have z := sz
  have hw := hH.wl
  walk_at "my_wp"
  simp only [fld_wires]
  walk_at "my_wp"
  refine lcW_pure dW (fun w => p w.1 && p w.2) dW _ _ _ (fun x hx => ⟨_, rfl, fun K hK => ?_, fun _ K hK => ?_⟩) ?_ ?_
  · walk_at "my_wp"
    have hm := hH.mem x hx
    have e1 : decide (x.1 ∈ R.filter p) = p x.1 := by rw [Bool.eq_iff_iff]; simp [List.mem_filter, hm.1]
    have e2 : decide (x.2 ∈ R.filter p) = p x.2 := by rw [Bool.eq_iff_iff]; simp [List.mem_filter, hm.2.1]
    rw [e1, e2]
    cases h1 : p x.1 <;> rw [h1] at hK
    · walk_at "my_wp"; simpa using hK
    · walk_at "my_wp"; simpa using hK
  · walk_at "my_wp"; exact hK
  · simp; omega
  · exact ⟨R.filter p, wIn p ws, false, R.filter p, false, wIn p ws, _, hH.sub p hne, .refl _, .refl _, al_wires _, rfl, hk⟩
theorem k_without_rooms : Keeps N_without_rooms ["hall", "lot"] sp_without_rooms (b_without_rooms SP) := by
  rintro ds n k hl ⟨R, ws, b, l, hH, hu, hm, hlt, rfl, hk⟩
  unfold b_without_rooms
  have z := sz
  have hz := hH.len
  walk_at "my_wp"
  refine ⟨R, ws, rfl, ?_⟩
  refine ⟨R, ws, b, l, hH, hu, hm, by omega, rfl, ?_⟩
  walk_at "my_wp"
  simp only [fld_rooms]
  walk_at "my_wp"
  have e : decide (((l.map fun z => PyData.str z).length : Int) = (R.length : Nat)) = false := decide_eq_false (by rw [List.length_map]; omega)
  rw [e]
  walk_at "my_wp"
  refine lcW_pure (fun z => PyData.str z) (fun r => !decide (r ∈ l)) (fun z => PyData.str z) _ _ _ (fun x hx => ⟨_, rfl, fun K hK => ?_, fun _ K hK => ?_⟩) ?_ ?_
  · walk_at "my_wp"; exact hK
  · walk_at "my_wp"; exact hK
  · simp; omega
  · refine ⟨R, ws, fun r => !decide (r ∈ l), hH, fun e => ?_, rfl, hk⟩
    have hall : ∀ r ∈ R, r ∈ l := fun r hr => by
      have := List.filter_eq_nil_iff.mp e r hr
      simpa using this
    have := (perm_of hH.up.nodup hu.nodup fun x => ⟨hall x, hm x⟩).length_eq
    omega
theorem enumP_lot (l : List Str) : enumP (dL l) = some (l.zipIdx.map fun p => .tuple [.int (p.2 : Nat), PyData.str p.1]) := by
  show some ((l.map fun z => PyData.str z).zipIdx.map _) = _
  rw [zipIdx_map, List.map_map]; rfl
theorem zipIdx_split {α : Type} {l : List α} {done rest : List (α × Nat)} {x : α} {i : Nat} (e : l.zipIdx = done ++ (x, i) :: rest) : l = done.map (·.1) ++ x :: rest.map (·.1) ∧ l.drop (i + 1) = rest.map (·.1) ∧ i = done.length := by
  have h1 : l = done.map (·.1) ++ x :: rest.map (·.1) := by
    have := List.zipIdx_map_fst 0 l
    rw [e] at this
    simpa using this.symm
  have h2 : i = done.length := by
    have h3 : l.zipIdx[done.length]? = some (x, i) := by rw [e]; simp
    rw [List.getElem?_zipIdx] at h3
    cases h4 : l[done.length]? with
    | none => rw [h4] at h3; cases h3
    | some y => rw [h4] at h3; simp at h3; exact h3.2.symm
  refine ⟨h1, ?_, h2⟩
  rw [h2, h1]
  have : (done.map (·.1)).length = done.length := by simp
  rw [← this, ← List.drop_drop]
  simp
theorem nat_succ_cast (i : Nat) : ((i : Int) + 1) = ((i + 1 : Nat) : Int) := by omega
theorem twinsL_len (T : Str → Str → Bool) (R l : List Str) : (twinsL T R l).length ≤ l.length * l.length := by
  induction l with
  | nil => simp [twinsL]
  | cons a l ih =>
    simp only [twinsL, List.length_append, List.length_map, List.length_cons]
    have := filter_len (fun b => decide (R.filter (T a) = R.filter (T b))) l
    have : (l.length + 1) * (l.length + 1) = l.length * l.length + l.length + l.length + 1 := by
      rw [Nat.add_mul, Nat.mul_add]; omega
    omega
theorem k_twins : KeepsN N_twins ["hall", "kind"] sp_twins (b_twins SP) := by
  rintro ds n k hl ⟨R, ws, own, hH, rfl, hk⟩
  unfold b_twins mSeqN mRetOwn
  have z := sz
  have hz := hH.len
  walk_at "my_wp"
  refine ⟨R, ws, own, rfl, by omega, ?_⟩
  refine ⟨R, ws, own, hH, rfl, ?_⟩
  simp only [fld_rooms, enumP_lot]
  walk_at "my_wp"
  refine forW_it (fun p : Str × Nat => .tuple [.int (p.2 : Nat), PyData.str p.1]) (fun done γ n' => n' = n ∧ ∃ F s4 s5 s6, γ = [.val (hallD R ws), .val (kd own), .own false (wiresD F), .val (roomsD R (tch own ws)), s4, s5, s6] ∧ F ++ twinsL (tch own ws) R (R.drop done.length) = twinsL (tch own ws) R R) R.zipIdx ⟨rfl, [], _, _, _, rfl, rfl⟩ ?_ ?_
  · rintro done ⟨x, i⟩ rest γ n' e ⟨rfl, F, s4, s5, s6, rfl, hF⟩
    refine ⟨_, rfl, fun K hK => ?_⟩
    obtain ⟨h1, h2, h3⟩ := zipIdx_split e
    have hx : x ∈ R := by rw [h1]; simp
    have hd : R.drop done.length = x :: R.drop (i + 1) := by
      rw [h2, h1]
      have : (done.map (·.1)).length = done.length := by simp
      rw [← this]; simp
    walk_at "my_wp"
    simp only [fld_rooms]
    walk_at "my_wp"
    rw [nat_succ_cast, cutP_from]
    refine ⟨_, rfl, ?_⟩
    have hdl : (R.drop (i + 1)).length ≤ R.length := by simp
    refine lcW_pure (fun z => PyData.str z) (fun b => decide (R.filter (tch own ws x) = R.filter (tch own ws b))) (fun b => dW (x, b)) _ _ _ (fun y hy => ⟨_, rfl, fun K hK => ?_, fun _ K hK => ?_⟩) ?_ ?_
    · walk_at "my_wp"
      rw [oIx_rooms _ hx, oIx_rooms _ (List.mem_of_mem_drop hy)]
      walk_at "my_wp"; exact hK
    · walk_at "my_wp"; exact ⟨by omega, hK⟩
    · simp; omega
    · have hlen := congrArg List.length hF
      rw [hd] at hlen hF
      simp only [twinsL, List.length_append, List.length_map] at hlen
      have htl := twinsL_len (tch own ws) R R
      have : R.length * R.length ≤ 13 * 13 := Nat.mul_le_mul hz hz
      refine ⟨_, rfl, by simp; omega, ?_⟩
      refine hK _ _ ⟨rfl, F ++ ((R.drop (i + 1)).filter fun b => decide (R.filter (tch own ws x) = R.filter (tch own ws b))).map (fun b => (x, b)), .val (.int (i : Nat)), .val (PyData.str x), s6, ?_, ?_⟩
      · rw [wiresD, List.map_append, List.map_map]; rfl
      · rw [List.length_append, List.append_assoc, ← h3]
        exact hF
  · rintro γ n' ⟨rfl, F, s4, s5, s6, rfl, hF⟩
    rw [List.length_zipIdx, List.drop_length] at hF
    simp only [twinsL, List.append_nil] at hF
    refine ⟨_, rfl, ?_⟩
    rw [hF]; exact hk
theorem k_is_wire : Keeps N_Hall_is_wire ["self", "thing"] sp_is_wire (b_Hall_is_wire SP) := by
  rintro ds n k hl ⟨R, b, x, y, hz, hx, hy, hxy, rfl, hk⟩
  unfold b_Hall_is_wire
  have z := sz
  walk_at "my_wp"
  refine ⟨b, _, rfl, rfl, ?_⟩
  walk_at "my_wp"
  refine lcW_pure (fun z => PyData.str z) (fun _ => true) (fun r => .bool (decide (r ∈ R))) [x, y] _ _ (fun x hx => ⟨_, rfl, fun K hK => hK, fun _ K hK => ?_⟩) ?_ ?_
  · walk_at "my_wp"
    refine ⟨_, _, .inl rfl, rfl, ?_⟩
    walk_at "my_wp"; exact hK
  · simp; omega
  · rw [List.nil_append, List.filter_eq_self.mpr (fun _ _ => rfl)]
    refine oAll_map _ _ _ ?_
    rw [List.all_eq_true.mpr fun r hr => decide_eq_true (by rcases List.mem_cons.mp hr with rfl | hr; exact hx; rw [List.mem_singleton.mp hr]; exact hy)]
    walk_at "my_wp"
    have : oNe (PyData.str x) (PyData.str y) (fun d => k d n) := by
      rw [oNe_str, decide_eq_false hxy]; exact hk
    cases b
    · exact (oIx_l0 _ _ _).mpr ((by refine ⟨_, atI_one _ _ _, this⟩))
    · exact (oIx_t0 _ _ _).mpr ((oIx_t1 _ _ _ _).mpr this)
end W
namespace W
open PySem PySem.Spec PySem.W PyProof.Rows L2 DL GF
theorem atI_nat {α : Type} (l : List α) (i : Nat) (h : i < l.length) : atI l (i : Nat) = some l[i] := by
  unfold atI ixN
  have h1 : ¬ ((i : Int) < 0) := by omega
  have h2 : (i : Int) < (l.length : Int) := by omega
  simp [h1, h2, h]
theorem k_law_pick : Keeps N_law_pick ["stream", "things"] sp_law_pick (b_law_pick SP) := by
  rintro ds n k hl ⟨d, n0, rfl, hne, hlen, rfl, hk⟩
  unfold b_law_pick
  have z := sz
  walk_at "my_wp"
  have pos : 0 < (pickable d).length := List.length_pos_iff.mpr hne
  cases d with
  | list l =>
    walk_at "my_wp"
    refine ⟨l.length, n0, rfl, pos, hlen, rfl, fun i hi => ?_⟩
    exact ⟨_, atI_nat l i hi, hk _ (List.getElem_mem hi)⟩
  | tuple l =>
    walk_at "my_wp"
    refine ⟨l.length, n0, rfl, pos, hlen, rfl, fun i hi => ?_⟩
    exact ⟨_, atI_nat l i hi, hk _ (List.getElem_mem hi)⟩
  | str s =>
    have e : (pickable (.str s)).length = s.length := by
      show (strItems s).length = _
      unfold strItems; rw [List.length_map, Array.length_toList]; rfl
    rw [e] at pos hlen
    show _ ≤ _ ∧ _
    refine ⟨by omega, ?_⟩
    walk_at "my_wp"
    refine ⟨s.length, n0, rfl, pos, hlen, rfl, fun i hi => ?_⟩
    have hi' : i < s.cps.toList.length := by rw [Array.length_toList]; exact hi
    refine ⟨by omega, _, atI_nat s.cps.toList i hi', hk _ ?_⟩
    exact List.mem_map.mpr ⟨_, List.getElem_mem hi', rfl⟩
  | _ => exact absurd rfl hne
theorem erase_perm {α : Type} (l : List α) (i : Nat) (h : i < l.length) : (l[i] :: l.eraseIdx i).Perm l := by
  rw [List.eraseIdx_eq_take_drop_succ]
  have : l = l.take i ++ l[i] :: l.drop (i + 1) := by rw [← List.drop_eq_getElem_cons h, List.take_append_drop]
  exact List.perm_middle.symm.trans (by rw [← this])
theorem k_law_mixed : Keeps N_law_mixed ["stream", "things"] sp_law_mixed (b_law_mixed SP) := by
  rintro ds n k hl ⟨b, l, n0, rfl, hlen, rfl, hk⟩
  unfold b_law_mixed
  have z := sz
  walk_at "my_wp"
  refine ⟨by omega, ?_⟩
  unfold mForR
  walk_at "my_wp"
  refine ⟨by omega, by omega, ?_⟩
  rw [Int.toNat_natCast]
  refine forW_it (fun i : Nat => .int (i : Nat)) (fun done γ n' => ∃ left found s4, γ = [.val strmP, .val (sq b l), .own false (.list left), .own false (.list found), s4] ∧ (found ++ left).Perm l ∧ found.length = done.length ∧ n' = n0 + left.length) (List.range l.length) ⟨l, [], .no, rfl, .refl _, rfl, rfl⟩ ?_ ?_
  · rintro done x rest γ n' e ⟨left, found, s4, rfl, hp, hfl, rfl⟩
    refine ⟨_, rfl, fun K hK => ?_⟩
    have hd : done.length < l.length := by
      have := congrArg List.length e
      simp at this; omega
    have hpl := hp.length_eq
    rw [List.length_append] at hpl
    unfold mAppPop
    walk_at "my_wp"
    refine ⟨found, left, rfl, rfl, by decide, by omega, ?_⟩
    refine ⟨left.length, n0 + (left.length - 1), rfl, by omega, by omega, by omega, fun i hi => ?_⟩
    refine ⟨i, left[i], rfl, by omega, by omega, i, ?_, by rw [List.getElem?_eq_getElem hi], ?_⟩
    · have h1 : ¬ ((i : Int) < 0) := by omega
      have h2 : (i : Int) < (left.length : Int) := by omega
      simp [seqIndex?, h1, h2, hi]
    · refine hK _ _ ⟨left.eraseIdx i, found ++ [left[i]], .val (.int (x : Nat)), rfl, ?_, by simp [hfl], ?_⟩
      · rw [List.append_assoc]
        exact ((erase_perm left i hi).append_left found).trans hp
      · rw [List.length_eraseIdx_of_lt hi]
  · rintro γ n' ⟨left, found, s4, rfl, hp, hfl, rfl⟩
    walk_at "my_wp"
    have : left = [] := by
      have := hp.length_eq
      rw [List.length_append, hfl, List.length_range] at this
      exact List.eq_nil_of_length_eq_zero (by omega)
    subst this
    rw [List.append_nil] at hp
    exact hk found hp
theorem perm_map_inv {α β : Type} (f : α → β) {m : List β} {l : List α} (h : m.Perm (l.map f)) : ∃ m' : List α, List.Perm m' l ∧ m = m'.map f := by
  generalize e : l.map f = x at h
  induction h generalizing l with
  | nil =>
    have : l = [] := by simpa using e
    subst this
    exact ⟨[], .refl _, rfl⟩
  | cons a h ih =>
    cases l with
    | nil => cases e
    | cons b l =>
      injection e with e1 e2
      obtain ⟨m', h1, h2⟩ := ih e2
      exact ⟨b :: m', h1.cons b, by rw [List.map_cons, e1, h2]⟩
  | swap a b t =>
    match l, e with
    | [], e => cases e
    | [_], e => injection e with _ e; cases e
    | c :: d :: l, e =>
      injection e with e1 e
      injection e with e2 e3
      exact ⟨d :: c :: l, .swap .., by rw [List.map_cons, List.map_cons, e1, e2, e3]⟩
  | trans h1 h2 ih1 ih2 =>
    obtain ⟨m', p, rfl⟩ := ih2 e
    obtain ⟨m2, p2, rfl⟩ := ih1 rfl
    exact ⟨m2, p2.trans p, rfl⟩
theorem k_law_lot : Keeps N_law_lot ["stream", "hall"] sp_law_lot (b_law_lot SP) := by
  rintro ds n k hl ⟨R, ws, hH, rfl, hn, hk⟩
  unfold b_law_lot
  have z := sz
  have hz := hH.len
  walk_at "my_wp"
  refine ⟨false, R.map (fun z => PyData.str z), n - R.length, rfl, by simp; omega, by simp; omega, fun m hm => ?_⟩
  obtain ⟨m', hp, rfl⟩ := perm_map_inv _ hm
  walk_at "my_wp"
  refine ⟨R.length + 1, n - R.length - 1, ?_, by omega, by omega, by omega, fun i hi => ?_⟩
  · simp
  · walk_at "my_wp"
    rw [cutP_to, ← List.map_take]
    have hnd : (m'.take i).Nodup := (List.take_sublist i m').nodup (hp.nodup_iff.mpr hH.up.nodup)
    have hs : ∀ x ∈ m'.take i, x ∈ R := fun x hx => hp.mem_iff.mp (List.mem_of_mem_take hx)
    refine sorted_texts (hH.up.filter fun a => decide (a ∈ m'.take i)) (perm_of (hH.up.filter _).nodup hnd fun x => ?_) (hk _ _ (by omega))
    simp only [List.mem_filter, decide_eq_true_eq]
    exact ⟨fun h => h.2, fun h => ⟨hs x h, h⟩⟩
end W
namespace W
open PySem PySem.Spec PySem.W PyProof.Rows L2 DL GF
abbrev cp (z : Str) : List Nat := z.cps.toList
theorem cp_len (z : Str) : (cp z).length = z.length := by rw [Array.length_toList]; rfl
theorem cp_inj {a b : Str} (h : cp a = cp b) : a = b := str_of_cps h
theorem letters_eq : cp letters = (List.range 26).map (97 + ·) := by decide +kernel
theorem letter_iff {c : Nat} : c ∈ cp letters ↔ 97 ≤ c ∧ c < 123 := by
  rw [letters_eq, List.mem_map]
  constructor
  · rintro ⟨a, ha, rfl⟩; rw [List.mem_range] at ha; omega
  · rintro ⟨h1, h2⟩; exact ⟨c - 97, List.mem_range.mpr (by omega), by omega⟩
theorem letters_len : letters.length = 26 := by rw [← cp_len, letters_eq]; simp
theorem letters_at (i : Nat) (h : i < 26) : atI (cp letters) (i : Nat) = some (97 + i) := by
  rw [letters_eq, atI_nat _ i (by simpa using h)]; simp
theorem strOk_letters {z : Str} (h : ∀ c ∈ cp z, c ∈ cp letters) : PyData.strOk z = true := by
  unfold PyData.strOk
  rw [← Array.all_toList, List.all_eq_true]
  intro c hc
  have := letter_iff.mp (h c hc)
  simp; omega
theorem cp_append (a b : Str) : cp (a ++ b) = cp a ++ cp b := by
  show (a.cps ++ b.cps).toList = _
  rw [Array.toList_append]
theorem cp_cut (z : Str) (i : Nat) : cp (cutS z none (some (i : Int))) = (cp z).take i := by
  show (((cp z).drop (HT.sIx z.length 0 none)).take (HT.sIx z.length z.length (some (i : Int)) - HT.sIx z.length 0 none)).toArray.toList = _
  have := cutP_to (cp z) i
  unfold cutP at this
  rw [cp_len] at this
  simpa using this
theorem cp_join (cs : List Nat) : cp (Txt.join "" (cs.map fun c => ⟨#[c]⟩)) = cs := by
  rw [TL.join_eq]
  show TL.tl (Str.join "" _) = _
  rw [TL.tl_join]
  have e : TL.tl ("" : Str) = [] := by decide +kernel
  rw [e, List.map_map]
  induction cs with
  | nil => rfl
  | cons a cs ih =>
    cases cs with
    | nil => rfl
    | cons b cs =>
      show [a] ++ ([] ++ TL.joinL [] (List.map (TL.tl ∘ fun c => { cps := #[c] }) (b :: cs))) = _
      rw [ih]; rfl
theorem nodup_le {α : Type} [DecidableEq α] : ∀ {a b : List α}, a.Nodup → (∀ x ∈ a, x ∈ b) → a.length ≤ b.length
  | [], _, _, _ => Nat.zero_le _
  | x :: a, b, n, h => by
    rw [List.nodup_cons] at n
    have hx := h x (List.mem_cons_self ..)
    have := nodup_le (b := b.erase x) n.2 fun y hy => (List.mem_erase_of_ne fun (e : y = x) => n.1 (e ▸ hy)).mpr (h y (List.mem_cons_of_mem _ hy))
    rw [List.length_erase_of_mem hx] at this
    have : 0 < b.length := List.length_pos_of_mem hx
    rw [List.length_cons]; omega
structure Nm (z : Str) : Prop where
  pos : 0 < (cp z).length
  len : (cp z).length ≤ 5
  abc : ∀ c ∈ cp z, c ∈ cp letters
structure Try (l : List Str) (o : Str) (t : Nat) (z : Str) (tried : List Str) : Prop where
  len : tried.length = t
  nod : tried.Nodup
  sub : ∀ x ∈ tried, x ∈ l
  old : ∀ x ∈ tried, x = o ∨ ∃ a, a + 1 < t ∧ (cp x).getLast? = some (97 + a)
  now : (t = 0 ∧ z = o) ∨ ((cp o).length < (cp z).length ∧ ∃ a, a + 1 = t ∧ (cp z).getLast? = some (97 + a))
  new : z ∉ tried
theorem Try.step {l : List Str} {o : Str} {t : Nat} {z : Str} {tried : List Str} (h : Try l o t z tried) (ho : (cp o).length ≤ 3) (hz : z ∈ l) {z' : Str} (e : cp z' = (cp z).take 3 ++ [97, 97 + t]) : Try l o (t + 1) z' (tried ++ [z]) := by
  have hlast : (cp z').getLast? = some (97 + t) := by rw [e]; simp
  have hlen : (cp o).length < (cp z').length := by
    rw [e]
    simp only [List.length_append, List.length_take, List.length_cons, List.length_nil]
    rcases h.now with ⟨_, rfl⟩ | ⟨h1, _⟩
    · omega
    · omega
  refine ⟨by simp [h.len], ?_, ?_, ?_, .inr ⟨hlen, t, rfl, hlast⟩, ?_⟩
  · rw [List.nodup_append]
    refine ⟨h.nod, by simp, fun a ha b hb e2 => ?_⟩
    rw [List.mem_singleton] at hb
    rw [e2, hb] at ha
    exact h.new ha
  · intro x hx
    rcases List.mem_append.mp hx with hx | hx
    · exact h.sub x hx
    · rw [List.mem_singleton.mp hx]; exact hz
  · intro x hx
    rcases List.mem_append.mp hx with hx | hx
    · rcases h.old x hx with h1 | ⟨a, h1, h2⟩
      · exact .inl h1
      · exact .inr ⟨a, by omega, h2⟩
    · rw [List.mem_singleton.mp hx]
      rcases h.now with ⟨_, h1⟩ | ⟨_, a, h1, h2⟩
      · exact .inl h1
      · exact .inr ⟨a, by omega, h2⟩
  · intro hx
    rcases List.mem_append.mp hx with hx | hx
    · rcases h.old z' hx with h1 | ⟨a, h1, h2⟩
      · rw [h1] at hlen; omega
      · rw [hlast] at h2
        injection h2 with h2
        omega
    · have hx := List.mem_singleton.mp hx
      rcases h.now with ⟨_, h1⟩ | ⟨_, a, h1, h2⟩
      · rw [hx, h1] at hlen; omega
      · rw [← hx, hlast] at h2
        injection h2 with h2
        omega
theorem Nm.step {z z' : Str} {t : Nat} (h : Nm z) (ht : t < 26) (e : cp z' = (cp z).take 3 ++ [97, 97 + t]) : Nm z' where
  pos := by rw [e]; simp
  len := by rw [e]; simp; omega
  abc := fun c hc => by
    rw [e] at hc
    rcases List.mem_append.mp hc with hc | hc
    · exact h.abc c (List.mem_of_mem_take hc)
    · simp at hc
      exact letter_iff.mpr (by omega)
theorem Try.fin {l : List Str} {o z : Str} {tried : List Str} (h : Try l o (l.length + 1) z tried) : False := by
  have := nodup_le h.nod h.sub
  have := h.len
  omega
theorem al_picks : ∀ {xs : List Nat} {ds : List PyData}, Al (fun _ d => ∃ c ∈ cp letters, d = .str ⟨#[c]⟩) xs ds → ∃ cs : List Nat, ds = cs.map (fun c => .str ⟨#[c]⟩) ∧ cs.length = xs.length ∧ ∀ c ∈ cs, c ∈ cp letters
  | _, _, .nil => ⟨[], rfl, rfl, fun _ h => by cases h⟩
  | _, _, .cons ⟨c, hc, e⟩ t => by
    obtain ⟨cs, h1, h2, h3⟩ := al_picks t
    refine ⟨c :: cs, by rw [e, h1]; rfl, by simp [h2], fun x hx => ?_⟩
    rcases List.mem_cons.mp hx with rfl | hx
    · exact hc
    · exact h3 x hx
theorem strsP_map (l : List Str) : strsP (l.map fun z => PyData.str z) = some l := by
  induction l with
  | nil => rfl
  | cons a l ih => show (strsP (l.map fun z => PyData.str z)).map (a :: ·) = _; rw [ih]; rfl
theorem sum_ones (cs : List Nat) : ((cs.map fun c => (⟨#[c]⟩ : Str)).map (·.length)).sum = cs.length := by
  induction cs with
  | nil => rfl
  | cons a l ih => rw [List.map_cons, List.map_cons, List.sum_cons, ih, List.length_cons]; show 1 + _ = _; omega
theorem mem_letters_items {d : PyData} (h : d ∈ pickable (PyData.str letters)) : ∃ c ∈ cp letters, d = .str ⟨#[c]⟩ := by
  obtain ⟨c, hc, rfl⟩ := List.mem_map.mp h
  exact ⟨c, hc, rfl⟩
theorem k_law_names : Keeps N_law_names ["stream", "many"] sp_law_names (b_law_names SP) := by
  rintro ds n k hl ⟨many, rfl, hm, hn, hk⟩
  unfold b_law_names
  have z := sz
  have hpl : (pickable (PyData.str letters)).length = 26 := by
    show (strItems letters).length = 26
    unfold strItems
    rw [List.length_map, cp_len, letters_len]
  walk_at "my_wp"
  refine ⟨by omega, by omega, by omega, ?_⟩
  rw [Int.toNat_natCast]
  refine forW_it (fun i : Nat => .int (i : Nat)) (fun done γ n' => ∃ l s4 s5 s6 s7, γ = [.val strmP, .val (.int (many : Nat)), .own false (dL l), .val (PyData.str letters), s4, s5, s6, s7] ∧ l.length = done.length ∧ l.Nodup ∧ (∀ x ∈ l, Nm x) ∧ n ≤ n' + done.length * 5) (List.range many) ⟨[], .no, .no, .no, .no, rfl, rfl, .nil, (fun _ h => by cases h), by simp⟩ ?_ ?_
  · rintro done x rest γ n1 e ⟨l, s4, s5, s6, s7, rfl, h1, h2, h3, h4⟩
    refine ⟨_, rfl, fun K hK => ?_⟩
    have hdl : done.length + 1 ≤ many := by
      have := congrArg List.length e
      simp at this; omega
    unfold mJoin
    walk_at "my_wp"
    refine ⟨_, rfl, ?_⟩
    refine ⟨by omega, ?_⟩
    refine ⟨_, n1 - 1, rfl, by simp [pickable], by simp [pickable], by omega, fun d hd => ?_⟩
    have hd' : ∃ m : Nat, d = .int m ∧ 0 < m ∧ m ≤ 3 := by
      simp [pickable] at hd
      rcases hd with h | h
      · exact ⟨1, h, by omega, by omega⟩
      · exact ⟨3, h, by omega, by omega⟩
    obtain ⟨m, rfl, hm1, hm2⟩ := hd'
    refine ⟨m, n1 - 2, rfl, by omega, by omega, by omega, fun i hi => ?_⟩
    walk_at "my_wp"
    refine ⟨by omega, by omega, ?_⟩
    rw [show ((1 : Int) + (i : Nat)).toNat = i + 1 by omega]
    refine lcW_rel (fun i : Nat => .int (i : Nat)) (fun _ d => ∃ c ∈ cp letters, d = .str ⟨#[c]⟩) 1 _ _ _ _ (fun y hy => ⟨_, rfl, fun n2 K hn2 hK2 => ?_⟩) (by simp; omega) (by simp; omega) ?_
    · walk_at "my_wp"
      refine ⟨_, n2 - 1, rfl, (by intro e; rw [e] at hpl; cases hpl), by omega, by omega, fun d hd => ?_⟩
      obtain ⟨c, hc, rfl⟩ := mem_letters_items hd
      exact hK2 _ _ ⟨c, hc, rfl⟩ (by omega)
    intro ds n2 ha hn2
    obtain ⟨cs, rfl, hcs, hcl⟩ := al_picks ha
    rw [List.length_range] at hcs hn2
    rw [List.nil_append]
    have hmap : (cs.map fun c => PyData.str ⟨#[c]⟩) = (cs.map fun c => (⟨#[c]⟩ : Str)).map fun z => PyData.str z := by rw [List.map_map]; rfl
    refine ⟨_, _, rfl, by rw [hmap]; exact strsP_map _, ?_, ?_, ?_⟩
    · rw [sum_ones]
      have : (Str.ofString "").length = 0 := by decide +kernel
      rw [this]; omega
    · exact strOk_letters (by rw [cp_join]; exact hcl)
    have ho := cp_join cs
    generalize Txt.join (Str.ofString "") (cs.map fun c => (⟨#[c]⟩ : Str)) = o at ho
    have ho3 : (cp o).length ≤ 3 := by rw [ho]; omega
    have hno : Nm o := ⟨by rw [ho]; omega, by omega, by rw [ho]; exact hcl⟩
    unfold mForR
    walk_at "my_wp"
    refine ⟨by simp; omega, by simp; omega, ?_⟩
    rw [show ((l.length : Int) + 1).toNat = l.length + 1 by omega]
    refine forW_it (fun i : Nat => .int (i : Nat)) (fun done γ n' => n' = n2 ∧ ∃ z s6 s7, γ = [.val strmP, .val (.int (many : Nat)), .own false (dL l), .val (PyData.str letters), .val (.int (x : Nat)), .val (PyData.str z), s6, s7] ∧ Nm z ∧ (z ∉ l ∨ ∃ tried, Try l o done.length z tried)) (List.range (l.length + 1)) ⟨rfl, o, s6, s7, rfl, hno, .inr ⟨[], rfl, .nil, fun _ h => by (cases h), fun _ h => by (cases h), .inl ⟨rfl, rfl⟩, fun h => by (cases h)⟩⟩ ?_ ?_
    · rintro done2 t rest2 γ n3 e2 ⟨rfl, w, s6, s7, rfl, hw, htr⟩
      refine ⟨_, rfl, fun K2 hK2 => ?_⟩
      have ht : t = done2.length ∧ t < 26 := by
        have h5 := congrArg List.length e2
        have h6 : (List.range (l.length + 1))[done2.length]? = some t := by rw [e2]; simp
        rw [List.getElem?_range (by simp at h5; omega)] at h6
        injection h6 with h6
        simp at h5
        omega
      walk_at "my_wp"
      by_cases hwl : w ∈ l
      · rw [decide_eq_true hwl]
        obtain ⟨tried, htry⟩ := htr.resolve_left (fun h => h hwl)
        walk_at "my_wp"
        have hwlen := hw.len
        rw [cp_len] at hwlen
        have hcut : cp (cutS w none (some 3)) = (cp w).take 3 := cp_cut w 3
        have hdiv : ((t : Nat) : Int) / 26 = ((0 : Nat) : Int) := by omega
        have hmod : ((t : Nat) : Int) % 26 = ((t : Nat) : Int) := by omega
        have hc3 : (cutS w none (some 3)).length ≤ 3 := by rw [← cp_len, hcut]; simp; omega
        refine ⟨by omega, strOk_letters (by rw [hcut]; intro c hc; exact hw.abc c (List.mem_of_mem_take hc)), ?_⟩
        refine ⟨⟨by decide, by decide⟩, ?_⟩
        rw [hdiv, hmod]
        refine ⟨by rw [letters_len]; omega, _, letters_at 0 (by omega), ?_⟩
        have hl1 : ∀ c : Nat, (⟨#[c]⟩ : Str).length = 1 := fun _ => rfl
        refine ⟨by rw [hl1]; omega, by decide, by rw [letters_len]; omega, _, letters_at t ht.2, ?_⟩
        have hl2 : (cutS w none (some 3) ++ (⟨#[97 + 0]⟩ : Str)).length ≤ 4 := by rw [← cp_len, cp_append, List.length_append, cp_len, cp_len, hl1]; omega
        refine ⟨by rw [hl1]; omega, ?_⟩
        have hcp : cp (cutS w none (some 3) ++ (⟨#[97 + 0]⟩ : Str) ++ (⟨#[97 + t]⟩ : Str)) = (cp w).take 3 ++ [97, 97 + t] := by
          rw [cp_append, cp_append, hcut, List.append_assoc]; rfl
        refine hK2 _ _ ⟨rfl, _, s6, .val (.int (t : Nat)), rfl, hw.step ht.2 hcp, .inr ⟨tried ++ [w], ?_⟩⟩
        have := htry.step ho3 hwl (z' := cutS w none (some 3) ++ (⟨#[97 + 0]⟩ : Str) ++ (⟨#[97 + t]⟩ : Str)) (by rw [hcp, ht.1])
        rw [List.length_append]
        exact this
      · rw [decide_eq_false hwl]
        walk_at "my_wp"
        exact hK2 _ _ ⟨rfl, w, s6, .val (.int (t : Nat)), rfl, hw, .inl hwl⟩
    · rintro γ n3 ⟨rfl, w, s6, s7, rfl, hw, htr⟩
      rw [List.length_range] at htr
      have hwl : w ∉ l := htr.resolve_right fun ⟨_, h⟩ => h.fin
      walk_at "my_wp"
      refine ⟨_, rfl, by simp; omega, ?_⟩
      refine hK _ _ ⟨l ++ [w], .val (.int (x : Nat)), .val (PyData.str w), s6, s7, ?_, by simp [h1], ?_, ?_, by simp; omega⟩
      · simp [dL]
      · rw [List.nodup_append]
        exact ⟨h2, by simp, fun a ha b hb e => hwl (by rw [← List.mem_singleton.mp hb, ← e]; exact ha)⟩
      · intro y hy
        rcases List.mem_append.mp hy with hy | hy
        · exact h3 y hy
        · rw [List.mem_singleton.mp hy]; exact hw
  · rintro γ n' ⟨l, s4, s5, s6, s7, rfl, h1, h2, h3, h4⟩
    rw [List.length_range] at h1 h4
    walk_at "my_wp"
    refine hk l n' h1 h2 (fun x hx => ?_) h4
    have := h3 x hx
    have h5 := this.pos
    have h6 := this.len
    rw [cp_len] at h5 h6
    exact ⟨⟨h5, by omega, this.abc⟩, h6⟩
end W
namespace W
open PySem PySem.Spec PyProof.Rows L2
def top (i : Nat) : Stmt := PySem.Challenge.pw_oddlights_k79_whole_main_twins_and_ends.main.body.getD i (.Pass ⟨0, 0, 0, 0⟩)
def inCls (i j : Nat) : Stmt := (C8.clsBody (top i)).getD j (.Pass ⟨0, 0, 0, 0⟩)
abbrev s_is_list : Stmt := top 2
abbrev s_is_row : Stmt := top 3
abbrev s_is_name : Stmt := top 4
abbrev s_is_rising : Stmt := top 5
abbrev s_first_bad_room : Stmt := top 16
abbrev s_check_hall : Stmt := top 18
abbrev s_is_room : Stmt := top 19
abbrev s_check_room : Stmt := top 20
abbrev s_is_lot_of : Stmt := top 21
abbrev s_check_lot : Stmt := top 22
abbrev s_check_kind : Stmt := top 23
abbrev s_summed : Stmt := top 24
abbrev s_touch : Stmt := top 25
abbrev s_touches_of : Stmt := top 28
abbrev s_is_even_with : Stmt := top 29
abbrev s_check_two : Stmt := top 30
abbrev s_told_of : Stmt := top 31
abbrev s_presses_or_watch : Stmt := top 32
abbrev s_sums_of : Stmt := top 33
abbrev s_quiets : Stmt := top 34
abbrev s_within : Stmt := top 36
abbrev s_twins : Stmt := top 37
abbrev s_without_rooms : Stmt := top 38
abbrev s_ends : Stmt := top 39
abbrev s_law_stream : Stmt := top 41
abbrev s_law_draw : Stmt := top 42
abbrev s_law_pick : Stmt := top 43
abbrev s_law_mixed : Stmt := top 44
abbrev s_law_same : Stmt := top 45
abbrev s_law_loose : Stmt := top 46
abbrev s_law_spoilt : Stmt := top 47
abbrev s_law_names : Stmt := top 48
abbrev s_law_around : Stmt := top 49
abbrev s_law_touch : Stmt := top 50
abbrev s_law_sum : Stmt := top 51
abbrev s_law_behind : Stmt := top 52
abbrev s_law_lots : Stmt := top 53
abbrev s_law_quiets : Stmt := top 54
abbrev s_law_hall : Stmt := top 55
abbrev s_law_lot : Stmt := top 56
abbrev s_law_made : Stmt := top 57
abbrev s_law_with : Stmt := top 58
abbrev s_law_without : Stmt := top 59
abbrev s_law_lots_right : Stmt := top 60
abbrev s_law_twins_right : Stmt := top 61
abbrev s_law_ends_right : Stmt := top 62
abbrev s_law : Stmt := top 63
abbrev s_BadWires_init : Stmt := inCls 9 0
abbrev s_BadHall_init : Stmt := inCls 10 0
abbrev s_BadRoom_init : Stmt := inCls 11 0
abbrev s_BadLot_init : Stmt := inCls 12 0
abbrev s_BadKind_init : Stmt := inCls 13 0
abbrev s_Hall_init : Stmt := inCls 17 0
abbrev s_Hall_is_wire : Stmt := inCls 17 1
abbrev s_Hall_rooms : Stmt := inCls 17 2
abbrev s_Hall_wires : Stmt := inCls 17 3
abbrev s_Hall_around : Stmt := inCls 17 4
abbrev s_Solved_init : Stmt := inCls 27 0
abbrev s_Solved_reduced : Stmt := inCls 27 1
end W
namespace W
open PySem PySem.Spec PyProof.Rows L2 DL
structure Bt (mg : Str → Option Value) : Prop where
  abs : mg "abs" = none
  all : mg "all" = none
  any : mg "any" = none
  bool : mg "bool" = none
  dict : mg "dict" = none
  enumerate : mg "enumerate" = none
  int : mg "int" = none
  isinstance : mg "isinstance" = none
  len : mg "len" = none
  list : mg "list" = none
  max : mg "max" = none
  min : mg "min" = none
  range : mg "range" = none
  repr : mg "repr" = none
  sorted : mg "sorted" = none
  str : mg "str" = none
  tuple : mg "tuple" = none
  zip : mg "zip" = none
theorem bv_abs : bootBuiltins "abs" = some (.builtin "abs") := by decide +kernel
theorem bv_all : bootBuiltins "all" = some (.builtin "all") := by decide +kernel
theorem bv_any : bootBuiltins "any" = some (.builtin "any") := by decide +kernel
theorem bv_bool : bootBuiltins "bool" = some (.type "bool") := by decide +kernel
theorem bv_dict : bootBuiltins "dict" = some (.type "dict") := by decide +kernel
theorem bv_enumerate : bootBuiltins "enumerate" = some (.type "enumerate") := by decide +kernel
theorem bv_int : bootBuiltins "int" = some (.type "int") := by decide +kernel
theorem bv_isinstance : bootBuiltins "isinstance" = some (.builtin "isinstance") := by decide +kernel
theorem bv_len : bootBuiltins "len" = some (.builtin "len") := by decide +kernel
theorem bv_list : bootBuiltins "list" = some (.type "list") := by decide +kernel
theorem bv_max : bootBuiltins "max" = some (.builtin "max") := by decide +kernel
theorem bv_min : bootBuiltins "min" = some (.builtin "min") := by decide +kernel
theorem bv_range : bootBuiltins "range" = some (.type "range") := by decide +kernel
theorem bv_repr : bootBuiltins "repr" = some (.builtin "repr") := by decide +kernel
theorem bv_sorted : bootBuiltins "sorted" = some (.builtin "sorted") := by decide +kernel
theorem bv_str : bootBuiltins "str" = some (.type "str") := by decide +kernel
theorem bv_tuple : bootBuiltins "tuple" = some (.type "tuple") := by decide +kernel
theorem bv_zip : bootBuiltins "zip" = some (.type "zip") := by decide +kernel
structure Gt (K : PySem.W.Frag) (mg : Str → Option Value) : Prop where
  k_LETTERS : ∃ u, mg "LETTERS" = some u ∧ RelV (.str "abcdefghijklmnopqrstuvwxyz") u
  k_KINDS : ∃ A, mg "KINDS" = some (.ref A) ∧ ∀ H, SqL K H A ((["own", "around"] : List Str).map V.str)
  cls_Hall : Cls K (He.ga K "Hall")
  cld_Hall : ClsD K (He.ga K "Hall")
  cgm_Hall : mg "Hall" = some (.ref (He.ga K "Hall"))
  cls_Solved : Cls K (He.ga K "Solved")
  cld_Solved : ClsD K (He.ga K "Solved")
  cgm_Solved : mg "Solved" = some (.ref (He.ga K "Solved"))
  na_Hall_own_rooms : NoAttr K (He.ga K "Hall") "own_rooms"
  na_Hall_own_wires : NoAttr K (He.ga K "Hall") "own_wires"
  na_Hall_own_around : NoAttr K (He.ga K "Hall") "own_around"
  na_Solved_own_rows : NoAttr K (He.ga K "Solved") "own_rows"
  na_Solved_own_quiet : NoAttr K (He.ga K "Solved") "own_quiet"
section
variable {K : PySem.W.Frag} {mg : Str → Option Value}
theorem Gt.LETTERS {X : Cx} (G : Gt X.K X.mg) {pos : Pos} (hg : Gl X "LETTERS") : DE X (.Name "LETTERS" pos) (mC (.str "abcdefghijklmnopqrstuvwxyz")) := let ⟨_, h, r⟩ := G.k_LETTERS; de_gl hg h r fun _ _ _ => .str _ (by decide +kernel)
theorem Gt.KINDS {X : Cx} (G : Gt X.K X.mg) {e : Expr} {m : M} {pp pos : Pos} {op : CmpOp} (neg : Bool) (hop : op = if neg then .NotIn else .In) (he : DE X e m) (hg : Gl X "KINDS") (hmk : behindInMarks op (.Name "KINDS" pp) = false := by rfl) : DE X (.Compare e [op] [.Name "KINDS" pp] pos) (mInK neg ["own", "around"] m) := let ⟨_, h, r⟩ := G.k_KINDS; de_inK neg hop he hg h r (by decide) hmk
theorem Gt.tKINDS {X : Cx} (G : Gt X.K X.mg) {e : Expr} {m : M} {pp pos : Pos} {op : CmpOp} (neg : Bool) (hop : op = if neg then .NotIn else .In) (he : DE X e m) (hg : Gl X "KINDS") (hmk : behindInMarks op (.Name "KINDS" pp) = false := by rfl) : DT X (.Compare e [op] [.Name "KINDS" pp] pos) (mB (mInK neg ["own", "around"] m)) := let ⟨_, h, r⟩ := G.k_KINDS; dt_inK neg hop he hg h r (by decide) hmk
theorem Gt.cg_Hall {X : Cx} (G : Gt X.K X.mg) {pos : Pos} (hg : Gl X "Hall") : PE X (.Name "Hall" pos) (tC (.ref (He.ga X.K "Hall"))) := pe_glob hg G.cgm_Hall rfl
theorem Gt.cg_Solved {X : Cx} (G : Gt X.K X.mg) {pos : Pos} (hg : Gl X "Solved") : PE X (.Name "Solved" pos) (tC (.ref (He.ga X.K "Solved"))) := pe_glob hg G.cgm_Solved rfl
end
theorem nd_is_list : N_is_list.Nodup := by decide +kernel
theorem sc_is_list : FnScope N_is_list ["thing"] (defScope s_is_list) := C8.fnScope_by (by decide +kernel)
theorem nd_is_row : N_is_row.Nodup := by decide +kernel
theorem sc_is_row : FnScope N_is_row ["thing", "many"] (defScope s_is_row) := C8.fnScope_by (by decide +kernel)
theorem nd_is_name : N_is_name.Nodup := by decide +kernel
theorem sc_is_name : FnScope N_is_name ["thing"] (defScope s_is_name) := C8.fnScope_by (by decide +kernel)
theorem nd_is_rising : N_is_rising.Nodup := by decide +kernel
theorem sc_is_rising : FnScope N_is_rising ["things"] (defScope s_is_rising) := C8.fnScope_by (by decide +kernel)
theorem nd_first_bad_room : N_first_bad_room.Nodup := by decide +kernel
theorem sc_first_bad_room : FnScope N_first_bad_room ["rooms"] (defScope s_first_bad_room) := C8.fnScope_by (by decide +kernel)
theorem nd_check_hall : N_check_hall.Nodup := by decide +kernel
theorem sc_check_hall : FnScope N_check_hall ["hall"] (defScope s_check_hall) := C8.fnScope_by (by decide +kernel)
theorem nd_is_room : N_is_room.Nodup := by decide +kernel
theorem sc_is_room : FnScope N_is_room ["hall", "thing"] (defScope s_is_room) := C8.fnScope_by (by decide +kernel)
theorem nd_check_room : N_check_room.Nodup := by decide +kernel
theorem sc_check_room : FnScope N_check_room ["hall", "room"] (defScope s_check_room) := C8.fnScope_by (by decide +kernel)
theorem nd_is_lot_of : N_is_lot_of.Nodup := by decide +kernel
theorem sc_is_lot_of : FnScope N_is_lot_of ["hall", "thing"] (defScope s_is_lot_of) := C8.fnScope_by (by decide +kernel)
theorem nd_check_lot : N_check_lot.Nodup := by decide +kernel
theorem sc_check_lot : FnScope N_check_lot ["hall", "lot"] (defScope s_check_lot) := C8.fnScope_by (by decide +kernel)
theorem nd_check_kind : N_check_kind.Nodup := by decide +kernel
theorem sc_check_kind : FnScope N_check_kind ["hall", "kind"] (defScope s_check_kind) := C8.fnScope_by (by decide +kernel)
theorem nd_summed : N_summed.Nodup := by decide +kernel
theorem sc_summed : FnScope N_summed ["one", "other"] (defScope s_summed) := C8.fnScope_by (by decide +kernel)
theorem nd_touch : N_touch.Nodup := by decide +kernel
theorem sc_touch : FnScope N_touch ["hall", "is_own", "room"] (defScope s_touch) := C8.fnScope_by (by decide +kernel)
theorem nd_touches_of : N_touches_of.Nodup := by decide +kernel
theorem sc_touches_of : FnScope N_touches_of ["hall", "kind"] (defScope s_touches_of) := C8.fnScope_by (by decide +kernel)
theorem nd_is_even_with : N_is_even_with.Nodup := by decide +kernel
theorem sc_is_even_with : FnScope N_is_even_with ["lot", "other"] (defScope s_is_even_with) := C8.fnScope_by (by decide +kernel)
theorem nd_check_two : N_check_two.Nodup := by decide +kernel
theorem sc_check_two : FnScope N_check_two ["hall", "kind", "lighting", "other"] (defScope s_check_two) := C8.fnScope_by (by decide +kernel)
theorem nd_told_of : N_told_of.Nodup := by decide +kernel
theorem sc_told_of : FnScope N_told_of ["hall", "kind", "lot"] (defScope s_told_of) := C8.fnScope_by (by decide +kernel)
theorem nd_presses_or_watch : N_presses_or_watch.Nodup := by decide +kernel
theorem sc_presses_or_watch : FnScope N_presses_or_watch ["hall", "kind", "lighting", "other"] (defScope s_presses_or_watch) := C8.fnScope_by (by decide +kernel)
theorem nd_sums_of : N_sums_of.Nodup := by decide +kernel
theorem sc_sums_of : FnScope N_sums_of ["lots"] (defScope s_sums_of) := C8.fnScope_by (by decide +kernel)
theorem nd_quiets : N_quiets.Nodup := by decide +kernel
theorem sc_quiets : FnScope N_quiets ["hall", "kind"] (defScope s_quiets) := C8.fnScope_by (by decide +kernel)
theorem nd_within : N_within.Nodup := by decide +kernel
theorem sc_within : FnScope N_within ["hall", "rooms"] (defScope s_within) := C8.fnScope_by (by decide +kernel)
theorem nd_twins : N_twins.Nodup := by decide +kernel
theorem sc_twins : FnScope N_twins ["hall", "kind"] (defScope s_twins) := C8.fnScope_by (by decide +kernel)
theorem nd_without_rooms : N_without_rooms.Nodup := by decide +kernel
theorem sc_without_rooms : FnScope N_without_rooms ["hall", "lot"] (defScope s_without_rooms) := C8.fnScope_by (by decide +kernel)
theorem nd_ends : N_ends.Nodup := by decide +kernel
theorem sc_ends : FnScope N_ends ["hall"] (defScope s_ends) := C8.fnScope_by (by decide +kernel)
theorem nd_law_stream : N_law_stream.Nodup := by decide +kernel
theorem sc_law_stream : FnScope N_law_stream ["script"] (defScope s_law_stream) := C8.fnScope_by (by decide +kernel)
theorem nd_law_draw : N_law_draw.Nodup := by decide +kernel
theorem sc_law_draw : FnScope N_law_draw ["stream", "many"] (defScope s_law_draw) := C8.fnScope_by (by decide +kernel)
theorem nd_law_pick : N_law_pick.Nodup := by decide +kernel
theorem sc_law_pick : FnScope N_law_pick ["stream", "things"] (defScope s_law_pick) := C8.fnScope_by (by decide +kernel)
theorem nd_law_mixed : N_law_mixed.Nodup := by decide +kernel
theorem sc_law_mixed : FnScope N_law_mixed ["stream", "things"] (defScope s_law_mixed) := C8.fnScope_by (by decide +kernel)
theorem nd_law_same : N_law_same.Nodup := by decide +kernel
theorem sc_law_same : FnScope N_law_same ["found", "due"] (defScope s_law_same) := C8.fnScope_by (by decide +kernel)
theorem nd_law_loose : N_law_loose.Nodup := by decide +kernel
theorem sc_law_loose : FnScope N_law_loose ["stream", "thing"] (defScope s_law_loose) := C8.fnScope_by (by decide +kernel)
theorem nd_law_spoilt : N_law_spoilt.Nodup := by decide +kernel
theorem sc_law_spoilt : FnScope N_law_spoilt ["thing"] (defScope s_law_spoilt) := C8.fnScope_by (by decide +kernel)
theorem nd_law_names : N_law_names.Nodup := by decide +kernel
theorem sc_law_names : FnScope N_law_names ["stream", "many"] (defScope s_law_names) := C8.fnScope_by (by decide +kernel)
theorem nd_law_around : N_law_around.Nodup := by decide +kernel
theorem sc_law_around : FnScope N_law_around ["hall", "room"] (defScope s_law_around) := C8.fnScope_by (by decide +kernel)
theorem nd_law_touch : N_law_touch.Nodup := by decide +kernel
theorem sc_law_touch : FnScope N_law_touch ["hall", "kind", "room"] (defScope s_law_touch) := C8.fnScope_by (by decide +kernel)
theorem nd_law_sum : N_law_sum.Nodup := by decide +kernel
theorem sc_law_sum : FnScope N_law_sum ["one", "other"] (defScope s_law_sum) := C8.fnScope_by (by decide +kernel)
theorem nd_law_behind : N_law_behind.Nodup := by decide +kernel
theorem sc_law_behind : FnScope N_law_behind ["hall", "kind", "lighting", "lot"] (defScope s_law_behind) := C8.fnScope_by (by decide +kernel)
theorem nd_law_lots : N_law_lots.Nodup := by decide +kernel
theorem sc_law_lots : FnScope N_law_lots ["rooms"] (defScope s_law_lots) := C8.fnScope_by (by decide +kernel)
theorem nd_law_quiets : N_law_quiets.Nodup := by decide +kernel
theorem sc_law_quiets : FnScope N_law_quiets ["hall", "kind"] (defScope s_law_quiets) := C8.fnScope_by (by decide +kernel)
theorem nd_law_hall : N_law_hall.Nodup := by decide +kernel
theorem sc_law_hall : FnScope N_law_hall ["stream", "rooms", "wires"] (defScope s_law_hall) := C8.fnScope_by (by decide +kernel)
theorem nd_law_lot : N_law_lot.Nodup := by decide +kernel
theorem sc_law_lot : FnScope N_law_lot ["stream", "hall"] (defScope s_law_lot) := C8.fnScope_by (by decide +kernel)
theorem nd_law_made : N_law_made.Nodup := by decide +kernel
theorem sc_law_made : FnScope N_law_made ["stream", "hall"] (defScope s_law_made) := C8.fnScope_by (by decide +kernel)
theorem nd_law_with : N_law_with.Nodup := by decide +kernel
theorem sc_law_with : FnScope N_law_with ["stream", "hall", "kind"] (defScope s_law_with) := C8.fnScope_by (by decide +kernel)
theorem nd_law_without : N_law_without.Nodup := by decide +kernel
theorem sc_law_without : FnScope N_law_without ["hall", "lot"] (defScope s_law_without) := C8.fnScope_by (by decide +kernel)
theorem nd_law_lots_right : N_law_lots_right.Nodup := by decide +kernel
theorem sc_law_lots_right : FnScope N_law_lots_right ["stream", "hall", "made"] (defScope s_law_lots_right) := C8.fnScope_by (by decide +kernel)
theorem nd_law_twins_right : N_law_twins_right.Nodup := by decide +kernel
theorem sc_law_twins_right : FnScope N_law_twins_right ["stream", "hall", "made", "kind"] (defScope s_law_twins_right) := C8.fnScope_by (by decide +kernel)
theorem nd_law_ends_right : N_law_ends_right.Nodup := by decide +kernel
theorem sc_law_ends_right : FnScope N_law_ends_right ["hall", "made"] (defScope s_law_ends_right) := C8.fnScope_by (by decide +kernel)
theorem nd_law : N_law.Nodup := by decide +kernel
theorem sc_law : FnScope N_law ["script"] (defScope s_law) := C8.fnScope_by (by decide +kernel)
theorem nd_BadWires_init : N_BadWires_init.Nodup := by decide +kernel
theorem sc_BadWires_init : FnScope N_BadWires_init ["self", "index"] (defScope s_BadWires_init) := C8.fnScope_by (by decide +kernel)
theorem nd_BadHall_init : N_BadHall_init.Nodup := by decide +kernel
theorem sc_BadHall_init : FnScope N_BadHall_init ["self", "hall"] (defScope s_BadHall_init) := C8.fnScope_by (by decide +kernel)
theorem nd_BadRoom_init : N_BadRoom_init.Nodup := by decide +kernel
theorem sc_BadRoom_init : FnScope N_BadRoom_init ["self", "room"] (defScope s_BadRoom_init) := C8.fnScope_by (by decide +kernel)
theorem nd_BadLot_init : N_BadLot_init.Nodup := by decide +kernel
theorem sc_BadLot_init : FnScope N_BadLot_init ["self", "lot"] (defScope s_BadLot_init) := C8.fnScope_by (by decide +kernel)
theorem nd_BadKind_init : N_BadKind_init.Nodup := by decide +kernel
theorem sc_BadKind_init : FnScope N_BadKind_init ["self", "kind"] (defScope s_BadKind_init) := C8.fnScope_by (by decide +kernel)
theorem nd_Hall_init : N_Hall_init.Nodup := by decide +kernel
theorem sc_Hall_init : FnScope N_Hall_init ["self", "rooms", "wires"] (defScope s_Hall_init) := C8.fnScope_by (by decide +kernel)
theorem nd_Hall_is_wire : N_Hall_is_wire.Nodup := by decide +kernel
theorem sc_Hall_is_wire : FnScope N_Hall_is_wire ["self", "thing"] (defScope s_Hall_is_wire) := C8.fnScope_by (by decide +kernel)
theorem nd_Hall_rooms : N_Hall_rooms.Nodup := by decide +kernel
theorem sc_Hall_rooms : FnScope N_Hall_rooms ["self"] (defScope s_Hall_rooms) := C8.fnScope_by (by decide +kernel)
theorem nd_Hall_wires : N_Hall_wires.Nodup := by decide +kernel
theorem sc_Hall_wires : FnScope N_Hall_wires ["self"] (defScope s_Hall_wires) := C8.fnScope_by (by decide +kernel)
theorem nd_Hall_around : N_Hall_around.Nodup := by decide +kernel
theorem sc_Hall_around : FnScope N_Hall_around ["self", "room"] (defScope s_Hall_around) := C8.fnScope_by (by decide +kernel)
theorem nd_Solved_init : N_Solved_init.Nodup := by decide +kernel
theorem sc_Solved_init : FnScope N_Solved_init ["self", "touches"] (defScope s_Solved_init) := C8.fnScope_by (by decide +kernel)
theorem nd_Solved_reduced : N_Solved_reduced.Nodup := by decide +kernel
theorem sc_Solved_reduced : FnScope N_Solved_reduced ["self", "lot"] (defScope s_Solved_reduced) := C8.fnScope_by (by decide +kernel)
section
variable {P : Program} {w : World} {K : PySem.W.Frag} {mg : Str → Option Value} {base : Heap}
theorem w_is_list (s : Sps) (B : Bt mg) (G : Gt K mg)  {f : Addr} {cdv : Value} {A : Around} {outer : List PySem.Env} {s0 : Shared} {H : Hp} {E : XK} (hr : Room 0 (A.deeper (envOfC "is_list" (defScope s_is_list) s0.heap.objs.size f cdv))) :
    DSs (cxOf CX0 P w K mg base N_is_list "is_list" (defScope s_is_list) f cdv A outer s0 H E).nox (defBody s_is_list) (b_is_list s) := by
  have hu : (A.deeper (envOfC "is_list" (defScope s_is_list) s0.heap.objs.size f cdv)).units + 65 < cLine := by have := hr.un; omega
  have hu64 : (A.deeper (envOfC "is_list" (defScope s_is_list) s0.heap.objs.size f cdv)).units + 64 < cLine := by omega
  have hu1 : (A.deeper (envOfC "is_list" (defScope s_is_list) s0.heap.objs.size f cdv)).units + 1 < cLine := by omega
  have hu2 : (A.deeper (envOfC "is_list" (defScope s_is_list) s0.heap.objs.size f cdv)).units + 2 < cLine := by omega
  exact (dss_one (ds_ret (de_isiT (Ts := ["list", "tuple"]) rfl B.isinstance (dv 0) (pe_bty2 rfl B.list bv_list rfl B.tuple bv_tuple) (by decide))))
theorem w_is_name (s : Sps) (B : Bt mg) (G : Gt K mg)  {f : Addr} {cdv : Value} {A : Around} {outer : List PySem.Env} {s0 : Shared} {H : Hp} {E : XK} (hr : Room 0 (A.deeper (envOfC "is_name" (defScope s_is_name) s0.heap.objs.size f cdv))) :
    DSs (cxOf CX0 P w K mg base N_is_name "is_name" (defScope s_is_name) f cdv A outer s0 H E).nox (defBody s_is_name) (b_is_name s) := by
  have hu : (A.deeper (envOfC "is_name" (defScope s_is_name) s0.heap.objs.size f cdv)).units + 65 < cLine := by have := hr.un; omega
  have hu64 : (A.deeper (envOfC "is_name" (defScope s_is_name) s0.heap.objs.size f cdv)).units + 64 < cLine := by omega
  have hu1 : (A.deeper (envOfC "is_name" (defScope s_is_name) s0.heap.objs.size f cdv)).units + 1 < cLine := by omega
  have hu2 : (A.deeper (envOfC "is_name" (defScope s_is_name) s0.heap.objs.size f cdv)).units + 2 < cLine := by omega
  exact (dss_one (ds_ret (de_and (de_isi1 rfl B.isinstance (dv 0) (pe_bty rfl B.str bv_str) (by decide)) (de_and (de_chain op_ltD op_ltD de_int (de_callB call_lenD1 rfl B.len bv_len (da_cons (dv 0) da_nil)) de_int) (de_one (de_callB (call_allD1 rfl) rfl B.all bv_all (da_cons (dn_de (dn_lc (own := [("sign", 1)]) rfl nd_is_name (di_any (dv 0)) (blkOk_by rfl) (tgN_in (by decide)) (fun _ _ _ _ _ => (dg 1 nd_is_name)) (fun _ _ _ _ _ => dts_nil) (fun _ _ _ _ _ => (de_cmp (op_inDD hu) (dv 1) (G.LETTERS (X := _) rfl) (by rfl))))) da_nil)))))))
theorem w_is_rising (s : Sps) (B : Bt mg) (G : Gt K mg)  {f : Addr} {cdv : Value} {A : Around} {outer : List PySem.Env} {s0 : Shared} {H : Hp} {E : XK} (hr : Room 0 (A.deeper (envOfC "is_rising" (defScope s_is_rising) s0.heap.objs.size f cdv))) :
    DSs (cxOf CX0 P w K mg base N_is_rising "is_rising" (defScope s_is_rising) f cdv A outer s0 H E).nox (defBody s_is_rising) (b_is_rising s) := by
  have hu : (A.deeper (envOfC "is_rising" (defScope s_is_rising) s0.heap.objs.size f cdv)).units + 65 < cLine := by have := hr.un; omega
  have hu64 : (A.deeper (envOfC "is_rising" (defScope s_is_rising) s0.heap.objs.size f cdv)).units + 64 < cLine := by omega
  have hu1 : (A.deeper (envOfC "is_rising" (defScope s_is_rising) s0.heap.objs.size f cdv)).units + 1 < cLine := by omega
  have hu2 : (A.deeper (envOfC "is_rising" (defScope s_is_rising) s0.heap.objs.size f cdv)).units + 2 < cLine := by omega
  exact (dss_one (ds_ret (de_callB (call_allD1 rfl) rfl B.all bv_all (da_cons (dn_de (dn_lc (own := [("one", 1), ("other", 2)]) rfl nd_is_rising (di_zip rfl B.zip (da_cons (dv 0) (da_cons (de_slice (dv 0) (do_some de_int) do_none) da_nil))) (blkOk_by rfl) (tgT_in (tgCons_in (tgN_in (by decide)) (tgCons_in (tgN_in (by decide)) tgNil_in))) (fun _ _ _ _ _ => (dg_tup rfl (dgs_cons (dg 1 nd_is_rising) (dgs_cons (dg 2 nd_is_rising) dgs_nil)) (tgCons_len (tgCons_len tgNil_len)))) (fun _ _ _ _ _ => dts_nil) (fun _ _ _ _ _ => (de_cmp op_ltD (dv 1) (dv 2) (nomark _))))) da_nil))))
theorem w_is_room (s : Sps) (B : Bt mg) (G : Gt K mg)  {f : Addr} {cdv : Value} {A : Around} {outer : List PySem.Env} {s0 : Shared} {H : Hp} {E : XK} (hr : Room 0 (A.deeper (envOfC "is_room" (defScope s_is_room) s0.heap.objs.size f cdv))) :
    DSs (cxOf CX0 P w K mg base N_is_room "is_room" (defScope s_is_room) f cdv A outer s0 H E).nox (defBody s_is_room) (b_is_room s) := by
  have hu : (A.deeper (envOfC "is_room" (defScope s_is_room) s0.heap.objs.size f cdv)).units + 65 < cLine := by have := hr.un; omega
  have hu64 : (A.deeper (envOfC "is_room" (defScope s_is_room) s0.heap.objs.size f cdv)).units + 64 < cLine := by omega
  have hu1 : (A.deeper (envOfC "is_room" (defScope s_is_room) s0.heap.objs.size f cdv)).units + 1 < cLine := by omega
  have hu2 : (A.deeper (envOfC "is_room" (defScope s_is_room) s0.heap.objs.size f cdv)).units + 2 < cLine := by omega
  exact (dss_one (ds_ret (de_and (de_isi1 rfl B.isinstance (dv 1) (pe_bty rfl B.str bv_str) (by decide)) (de_one (de_cmp (op_inDD hu) (dv 1) (de_fld G.cls_Hall G.na_Hall_own_around (dv 0)) (by rfl))))))
theorem w_summed (s : Sps) (B : Bt mg) (G : Gt K mg)  {f : Addr} {cdv : Value} {A : Around} {outer : List PySem.Env} {s0 : Shared} {H : Hp} {E : XK} (hr : Room 0 (A.deeper (envOfC "summed" (defScope s_summed) s0.heap.objs.size f cdv))) :
    DSs (cxOf CX0 P w K mg base N_summed "summed" (defScope s_summed) f cdv A outer s0 H E).nox (defBody s_summed) (b_summed s) := by
  have hu : (A.deeper (envOfC "summed" (defScope s_summed) s0.heap.objs.size f cdv)).units + 65 < cLine := by have := hr.un; omega
  have hu64 : (A.deeper (envOfC "summed" (defScope s_summed) s0.heap.objs.size f cdv)).units + 64 < cLine := by omega
  have hu1 : (A.deeper (envOfC "summed" (defScope s_summed) s0.heap.objs.size f cdv)).units + 1 < cLine := by omega
  have hu2 : (A.deeper (envOfC "summed" (defScope s_summed) s0.heap.objs.size f cdv)).units + 2 < cLine := by omega
  exact (dss_one (ds_ret (de_callB (call_sortedD1 rfl hu) rfl B.sorted bv_sorted (da_cons (de_op op_addD (dn_de (dn_lc (own := [("thing", 2)]) rfl nd_summed (di_any (dv 0)) (blkOk_by rfl) (tgN_in (by decide)) (fun _ _ _ _ _ => (dg 2 nd_summed)) (fun _ _ _ _ _ => (dts_one (dt_cmp (op_notInDD hu) (dv 2) (dv 1) (by rfl)))) (fun _ _ _ _ _ => (dv 2)))) (dn_de (dn_lc (own := [("thing", 2)]) rfl nd_summed (di_any (dv 1)) (blkOk_by rfl) (tgN_in (by decide)) (fun _ _ _ _ _ => (dg 2 nd_summed)) (fun _ _ _ _ _ => (dts_one (dt_cmp (op_notInDD hu) (dv 2) (dv 0) (by rfl)))) (fun _ _ _ _ _ => (dv 2))))) da_nil))))
theorem w_is_even_with (s : Sps) (B : Bt mg) (G : Gt K mg)  {f : Addr} {cdv : Value} {A : Around} {outer : List PySem.Env} {s0 : Shared} {H : Hp} {E : XK} (hr : Room 0 (A.deeper (envOfC "is_even_with" (defScope s_is_even_with) s0.heap.objs.size f cdv))) :
    DSs (cxOf CX0 P w K mg base N_is_even_with "is_even_with" (defScope s_is_even_with) f cdv A outer s0 H E).nox (defBody s_is_even_with) (b_is_even_with s) := by
  have hu : (A.deeper (envOfC "is_even_with" (defScope s_is_even_with) s0.heap.objs.size f cdv)).units + 65 < cLine := by have := hr.un; omega
  have hu64 : (A.deeper (envOfC "is_even_with" (defScope s_is_even_with) s0.heap.objs.size f cdv)).units + 64 < cLine := by omega
  have hu1 : (A.deeper (envOfC "is_even_with" (defScope s_is_even_with) s0.heap.objs.size f cdv)).units + 1 < cLine := by omega
  have hu2 : (A.deeper (envOfC "is_even_with" (defScope s_is_even_with) s0.heap.objs.size f cdv)).units + 2 < cLine := by omega
  exact (dss_one (ds_ret (de_cmp (op_eqDD hu64) (de_op op_modD (de_callB call_lenD1 rfl B.len bv_len (da_cons (dn_de (dn_lc (own := [("room", 2)]) rfl nd_is_even_with (di_any (dv 0)) (blkOk_by rfl) (tgN_in (by decide)) (fun _ _ _ _ _ => (dg 2 nd_is_even_with)) (fun _ _ _ _ _ => (dts_one (dt_cmp (op_inDD hu) (dv 2) (dv 1) (by rfl)))) (fun _ _ _ _ _ => (dv 2)))) da_nil)) de_int) de_int (nomark _))))
theorem w_law_around (s : Sps) (B : Bt mg) (G : Gt K mg)  {f : Addr} {cdv : Value} {A : Around} {outer : List PySem.Env} {s0 : Shared} {H : Hp} {E : XK} (hr : Room 0 (A.deeper (envOfC "_law_around" (defScope s_law_around) s0.heap.objs.size f cdv))) :
    DSs (cxOf CX0 P w K mg base N_law_around "_law_around" (defScope s_law_around) f cdv A outer s0 H E).nox (defBody s_law_around) (b_law_around s) := by
  have hu : (A.deeper (envOfC "_law_around" (defScope s_law_around) s0.heap.objs.size f cdv)).units + 65 < cLine := by have := hr.un; omega
  have hu64 : (A.deeper (envOfC "_law_around" (defScope s_law_around) s0.heap.objs.size f cdv)).units + 64 < cLine := by omega
  have hu1 : (A.deeper (envOfC "_law_around" (defScope s_law_around) s0.heap.objs.size f cdv)).units + 1 < cLine := by omega
  have hu2 : (A.deeper (envOfC "_law_around" (defScope s_law_around) s0.heap.objs.size f cdv)).units + 2 < cLine := by omega
  exact (dss_cons (ds_setLc (i := 2) (own := [("wire", 3)]) rfl nd_law_around rfl rfl rfl (di_any (de_ix hu1 (dv 0) de_int (fun _ _ => rfl))) (blkOk_by rfl) (tgN_in (by decide)) (fun _ _ _ _ _ => (dg 3 nd_law_around)) (fun _ _ _ _ _ => (dts_one (dt_cmp (op_inDD hu) (dv 1) (dv 3) (by rfl)))) (fun _ _ _ _ _ => (de_ifExp (dt_cmp (op_eqDD hu64) (de_ix hu1 (dv 3) de_int (fun _ _ => rfl)) (dv 1) (nomark _)) (de_ix hu1 (dv 3) de_int (fun _ _ => rfl)) (de_ix hu1 (dv 3) de_int (fun _ _ => rfl)))))
    (dss_one (ds_ret (de_callB (call_sortedD1 rfl hu) rfl B.sorted bv_sorted (da_cons (dv 2) da_nil)))))
theorem w_law_sum (s : Sps) (B : Bt mg) (G : Gt K mg)  {f : Addr} {cdv : Value} {A : Around} {outer : List PySem.Env} {s0 : Shared} {H : Hp} {E : XK} (hr : Room 0 (A.deeper (envOfC "_law_sum" (defScope s_law_sum) s0.heap.objs.size f cdv))) :
    DSs (cxOf CX0 P w K mg base N_law_sum "_law_sum" (defScope s_law_sum) f cdv A outer s0 H E).nox (defBody s_law_sum) (b_law_sum s) := by
  have hu : (A.deeper (envOfC "_law_sum" (defScope s_law_sum) s0.heap.objs.size f cdv)).units + 65 < cLine := by have := hr.un; omega
  have hu64 : (A.deeper (envOfC "_law_sum" (defScope s_law_sum) s0.heap.objs.size f cdv)).units + 64 < cLine := by omega
  have hu1 : (A.deeper (envOfC "_law_sum" (defScope s_law_sum) s0.heap.objs.size f cdv)).units + 1 < cLine := by omega
  have hu2 : (A.deeper (envOfC "_law_sum" (defScope s_law_sum) s0.heap.objs.size f cdv)).units + 2 < cLine := by omega
  exact (dss_one (ds_ret (de_callB (call_sortedD1 rfl hu) rfl B.sorted bv_sorted (da_cons (de_op op_addD (dn_de (dn_lc (own := [("room", 2)]) rfl nd_law_sum (di_any (dv 0)) (blkOk_by rfl) (tgN_in (by decide)) (fun _ _ _ _ _ => (dg 2 nd_law_sum)) (fun _ _ _ _ _ => (dts_one (dt_cmp (op_notInDD hu) (dv 2) (dv 1) (by rfl)))) (fun _ _ _ _ _ => (dv 2)))) (dn_de (dn_lc (own := [("room", 2)]) rfl nd_law_sum (di_any (dv 1)) (blkOk_by rfl) (tgN_in (by decide)) (fun _ _ _ _ _ => (dg 2 nd_law_sum)) (fun _ _ _ _ _ => (dts_one (dt_cmp (op_notInDD hu) (dv 2) (dv 0) (by rfl)))) (fun _ _ _ _ _ => (dv 2))))) da_nil))))
theorem w_law_lots (s : Sps) (B : Bt mg) (G : Gt K mg)  {f : Addr} {cdv : Value} {A : Around} {outer : List PySem.Env} {s0 : Shared} {H : Hp} {E : XK} (hr : Room 0 (A.deeper (envOfC "_law_lots" (defScope s_law_lots) s0.heap.objs.size f cdv))) :
    DSs (cxOf CX0 P w K mg base N_law_lots "_law_lots" (defScope s_law_lots) f cdv A outer s0 H E).nox (defBody s_law_lots) (b_law_lots s) := by
  have hu : (A.deeper (envOfC "_law_lots" (defScope s_law_lots) s0.heap.objs.size f cdv)).units + 65 < cLine := by have := hr.un; omega
  have hu64 : (A.deeper (envOfC "_law_lots" (defScope s_law_lots) s0.heap.objs.size f cdv)).units + 64 < cLine := by omega
  have hu1 : (A.deeper (envOfC "_law_lots" (defScope s_law_lots) s0.heap.objs.size f cdv)).units + 1 < cLine := by omega
  have hu2 : (A.deeper (envOfC "_law_lots" (defScope s_law_lots) s0.heap.objs.size f cdv)).units + 2 < cLine := by omega
  exact (dss_cons (ds_set (i := 1) nd_law_lots rfl (by first | exact Or.inl rfl | exact Or.inr rfl) (de_lst (da_cons (de_lst da_nil) da_nil)))
    (dss_cons (ds_for PassesOwn.never rfl (di_any (dv 0)) (dg 2 nd_law_lots) (dss_one (ds_set (i := 1) nd_law_lots rfl (by first | exact Or.inl rfl | exact Or.inr rfl) (de_op op_addD (dv 1) (dn_de (dn_lc (own := [("lot", 3)]) rfl nd_law_lots (di_any (dv 1)) (blkOk_by rfl) (tgN_in (by decide)) (fun _ _ _ _ _ => (dg 3 nd_law_lots)) (fun _ _ _ _ _ => dts_nil) (fun _ _ _ _ _ => (de_op op_addD (dv 3) (de_lst (da_cons (dv 2) da_nil))))))))))
    (dss_one (ds_ret (de_callB (call_sortedD1 rfl hu) rfl B.sorted bv_sorted (da_cons (dv 1) da_nil))))))
theorem w_law_without (s : Sps) (B : Bt mg) (G : Gt K mg)  {f : Addr} {cdv : Value} {A : Around} {outer : List PySem.Env} {s0 : Shared} {H : Hp} {E : XK} (hr : Room 0 (A.deeper (envOfC "_law_without" (defScope s_law_without) s0.heap.objs.size f cdv))) :
    DSs (cxOf CX0 P w K mg base N_law_without "_law_without" (defScope s_law_without) f cdv A outer s0 H E).nox (defBody s_law_without) (b_law_without s) := by
  have hu : (A.deeper (envOfC "_law_without" (defScope s_law_without) s0.heap.objs.size f cdv)).units + 65 < cLine := by have := hr.un; omega
  have hu64 : (A.deeper (envOfC "_law_without" (defScope s_law_without) s0.heap.objs.size f cdv)).units + 64 < cLine := by omega
  have hu1 : (A.deeper (envOfC "_law_without" (defScope s_law_without) s0.heap.objs.size f cdv)).units + 1 < cLine := by omega
  have hu2 : (A.deeper (envOfC "_law_without" (defScope s_law_without) s0.heap.objs.size f cdv)).units + 2 < cLine := by omega
  exact (dss_one (ds_ret (de_tup (da_cons (dn_de (dn_lc (own := [("room", 2)]) rfl nd_law_without (di_any (de_ix hu1 (dv 0) de_int (fun _ _ => rfl))) (blkOk_by rfl) (tgN_in (by decide)) (fun _ _ _ _ _ => (dg 2 nd_law_without)) (fun _ _ _ _ _ => (dts_one (dt_cmp (op_notInDD hu) (dv 2) (dv 1) (by rfl)))) (fun _ _ _ _ _ => (dv 2)))) (da_cons (dn_de (dn_lc (own := [("wire", 3)]) rfl nd_law_without (di_any (de_ix hu1 (dv 0) de_int (fun _ _ => rfl))) (blkOk_by rfl) (tgN_in (by decide)) (fun _ _ _ _ _ => (dg 3 nd_law_without)) (fun _ _ _ _ _ => (dts_one (dt_w (dw_and (dt_cmp (op_notInDD hu) (de_ix hu1 (dv 3) de_int (fun _ _ => rfl)) (dv 1) (by rfl)) (dw_and1 (dt_cmp (op_notInDD hu) (de_ix hu1 (dv 3) de_int (fun _ _ => rfl)) (dv 1) (by rfl))))))) (fun _ _ _ _ _ => (dv 3)))) da_nil)))))
theorem w_Hall_rooms (s : Sps) (B : Bt mg) (G : Gt K mg)  {f : Addr} {cdv : Value} {A : Around} {outer : List PySem.Env} {s0 : Shared} {H : Hp} {E : XK} (hr : Room 0 (A.deeper (envOfC "Hall.rooms" (defScope s_Hall_rooms) s0.heap.objs.size f cdv))) :
    DSs (cxOf CX0 P w K mg base N_Hall_rooms "Hall.rooms" (defScope s_Hall_rooms) f cdv A outer s0 H E).nox (defBody s_Hall_rooms) (b_Hall_rooms s) := by
  have hu : (A.deeper (envOfC "Hall.rooms" (defScope s_Hall_rooms) s0.heap.objs.size f cdv)).units + 65 < cLine := by have := hr.un; omega
  have hu64 : (A.deeper (envOfC "Hall.rooms" (defScope s_Hall_rooms) s0.heap.objs.size f cdv)).units + 64 < cLine := by omega
  have hu1 : (A.deeper (envOfC "Hall.rooms" (defScope s_Hall_rooms) s0.heap.objs.size f cdv)).units + 1 < cLine := by omega
  have hu2 : (A.deeper (envOfC "Hall.rooms" (defScope s_Hall_rooms) s0.heap.objs.size f cdv)).units + 2 < cLine := by omega
  exact (dss_one (ds_ret (de_callTy call_listD1 rfl B.list bv_list (da_cons (de_fld G.cls_Hall G.na_Hall_own_rooms (dv 0)) da_nil))))
theorem w_Hall_wires (s : Sps) (B : Bt mg) (G : Gt K mg)  {f : Addr} {cdv : Value} {A : Around} {outer : List PySem.Env} {s0 : Shared} {H : Hp} {E : XK} (hr : Room 0 (A.deeper (envOfC "Hall.wires" (defScope s_Hall_wires) s0.heap.objs.size f cdv))) :
    DSs (cxOf CX0 P w K mg base N_Hall_wires "Hall.wires" (defScope s_Hall_wires) f cdv A outer s0 H E).nox (defBody s_Hall_wires) (b_Hall_wires s) := by
  have hu : (A.deeper (envOfC "Hall.wires" (defScope s_Hall_wires) s0.heap.objs.size f cdv)).units + 65 < cLine := by have := hr.un; omega
  have hu64 : (A.deeper (envOfC "Hall.wires" (defScope s_Hall_wires) s0.heap.objs.size f cdv)).units + 64 < cLine := by omega
  have hu1 : (A.deeper (envOfC "Hall.wires" (defScope s_Hall_wires) s0.heap.objs.size f cdv)).units + 1 < cLine := by omega
  have hu2 : (A.deeper (envOfC "Hall.wires" (defScope s_Hall_wires) s0.heap.objs.size f cdv)).units + 2 < cLine := by omega
  exact (dss_one (ds_ret (de_callTy call_listD1 rfl B.list bv_list (da_cons (de_fld G.cls_Hall G.na_Hall_own_wires (dv 0)) da_nil))))
theorem w_is_row (s : Sps) (B : Bt mg) (G : Gt K mg) (c_is_list : CalD P w K mg base 1 1 "is_list" s.is_list) {f : Addr} {cdv : Value} {A : Around} {outer : List PySem.Env} {s0 : Shared} {H : Hp} {E : XK} (hr : Room 1 (A.deeper (envOfC "is_row" (defScope s_is_row) s0.heap.objs.size f cdv))) :
    DSs (cxOf CX0 P w K mg base N_is_row "is_row" (defScope s_is_row) f cdv A outer s0 H E).nox (defBody s_is_row) (b_is_row s) := by
  have hu : (A.deeper (envOfC "is_row" (defScope s_is_row) s0.heap.objs.size f cdv)).units + 65 < cLine := by have := hr.un; omega
  have hu64 : (A.deeper (envOfC "is_row" (defScope s_is_row) s0.heap.objs.size f cdv)).units + 64 < cLine := by omega
  have hu1 : (A.deeper (envOfC "is_row" (defScope s_is_row) s0.heap.objs.size f cdv)).units + 1 < cLine := by omega
  have hu2 : (A.deeper (envOfC "is_row" (defScope s_is_row) s0.heap.objs.size f cdv)).units + 2 < cLine := by omega
  exact (dss_one (ds_ret (de_and (de_call c_is_list hr (by decide) rfl (da_cons (dv 0) da_nil)) (de_one (de_cmp (op_eqDD hu64) (de_callB call_lenD1 rfl B.len bv_len (da_cons (dv 0) da_nil)) (dv 1) (nomark _))))))
theorem w_first_bad_room (s : Sps) (B : Bt mg) (G : Gt K mg) (c_is_list : CalD P w K mg base 1 1 "is_list" s.is_list) (c_is_name : CalD P w K mg base 1 1 "is_name" s.is_name) {f : Addr} {cdv : Value} {A : Around} {outer : List PySem.Env} {s0 : Shared} {H : Hp} {E : XK} (hr : Room 1 (A.deeper (envOfC "first_bad_room" (defScope s_first_bad_room) s0.heap.objs.size f cdv))) :
    DSs (cxOf CX0 P w K mg base N_first_bad_room "first_bad_room" (defScope s_first_bad_room) f cdv A outer s0 H E).nox (defBody s_first_bad_room) (b_first_bad_room s) := by
  have hu : (A.deeper (envOfC "first_bad_room" (defScope s_first_bad_room) s0.heap.objs.size f cdv)).units + 65 < cLine := by have := hr.un; omega
  have hu64 : (A.deeper (envOfC "first_bad_room" (defScope s_first_bad_room) s0.heap.objs.size f cdv)).units + 64 < cLine := by omega
  have hu1 : (A.deeper (envOfC "first_bad_room" (defScope s_first_bad_room) s0.heap.objs.size f cdv)).units + 1 < cLine := by omega
  have hu2 : (A.deeper (envOfC "first_bad_room" (defScope s_first_bad_room) s0.heap.objs.size f cdv)).units + 2 < cLine := by omega
  exact (dss_cons (ds_own (i := 1) nd_first_bad_room rfl (by first | exact Or.inl rfl | exact Or.inr rfl) dn_dict0K)
    (dss_cons (ds_if (dt_w (dw_or (dt_not (dt_val (de_call c_is_list hr (by decide) rfl (da_cons (dv 0) da_nil)))) (dw_or1 (dt_cmp (op_eqDD hu64) (de_callB call_lenD1 rfl B.len bv_len (da_cons (dv 0) da_nil)) de_int (nomark _))))) (dss_one (ds_ret de_int)) dss_nil)
    (dss_cons (ds_for PassesOwn.never rfl (di_enumA rfl B.enumerate (da_cons (dv 0) da_nil)) (dg_tup rfl (dgs_cons (dg 2 nd_first_bad_room) (dgs_cons (dg 3 nd_first_bad_room) dgs_nil)) (tgCons_len (tgCons_len tgNil_len))) (dss_cons (ds_if (dt_w (dw_or (dt_not (dt_val (de_call c_is_name hr (by decide) rfl (da_cons (dv 3) da_nil)))) (dw_or1 (dt_cmp (op_inDD hu) (dv 3) (dv 1) (by rfl))))) (dss_one (ds_ret (dv 2))) dss_nil)
    (dss_one (ds_put (i := 1) hu1 rfl (by first | exact Or.inl rfl | exact Or.inr (Or.inl rfl)) (dv 3) de_bl))))
    (dss_one (ds_ret de_non)))))
theorem w_is_lot_of (s : Sps) (B : Bt mg) (G : Gt K mg) (c_is_list : CalD P w K mg base 1 1 "is_list" s.is_list) (c_is_rising : CalD P w K mg base 1 1 "is_rising" s.is_rising) (c_is_room : CalD P w K mg base 1 2 "is_room" s.is_room) {f : Addr} {cdv : Value} {A : Around} {outer : List PySem.Env} {s0 : Shared} {H : Hp} {E : XK} (hr : Room 1 (A.deeper (envOfC "is_lot_of" (defScope s_is_lot_of) s0.heap.objs.size f cdv))) :
    DSs (cxOf CX0 P w K mg base N_is_lot_of "is_lot_of" (defScope s_is_lot_of) f cdv A outer s0 H E).nox (defBody s_is_lot_of) (b_is_lot_of s) := by
  have hu : (A.deeper (envOfC "is_lot_of" (defScope s_is_lot_of) s0.heap.objs.size f cdv)).units + 65 < cLine := by have := hr.un; omega
  have hu64 : (A.deeper (envOfC "is_lot_of" (defScope s_is_lot_of) s0.heap.objs.size f cdv)).units + 64 < cLine := by omega
  have hu1 : (A.deeper (envOfC "is_lot_of" (defScope s_is_lot_of) s0.heap.objs.size f cdv)).units + 1 < cLine := by omega
  have hu2 : (A.deeper (envOfC "is_lot_of" (defScope s_is_lot_of) s0.heap.objs.size f cdv)).units + 2 < cLine := by omega
  exact (dss_one (ds_ret (de_and (de_call c_is_list hr (by decide) rfl (da_cons (dv 1) da_nil)) (de_and (de_callB (call_allD1 rfl) rfl B.all bv_all (da_cons (dn_de (dn_lc (own := [("room", 2)]) rfl nd_is_lot_of (di_any (dv 1)) (blkOk_by rfl) (tgN_in (by decide)) (fun _ _ _ _ _ => (dg 2 nd_is_lot_of)) (fun _ _ _ _ _ => dts_nil) (fun _ _ _ _ _ => (de_call c_is_room hr (by decide) rfl (da_cons (dv 0) (da_cons (dv 2) da_nil)))))) da_nil)) (de_one (de_call c_is_rising hr (by decide) rfl (da_cons (dv 1) da_nil)))))))
theorem w_touch (s : Sps) (B : Bt mg) (G : Gt K mg) (c_summed : CalD P w K mg base 1 2 "summed" s.summed) {f : Addr} {cdv : Value} {A : Around} {outer : List PySem.Env} {s0 : Shared} {H : Hp} {E : XK} (hr : Room 1 (A.deeper (envOfC "touch" (defScope s_touch) s0.heap.objs.size f cdv))) :
    DSs (cxOf CX0 P w K mg base N_touch "touch" (defScope s_touch) f cdv A outer s0 H E).nox (defBody s_touch) (b_touch s) := by
  have hu : (A.deeper (envOfC "touch" (defScope s_touch) s0.heap.objs.size f cdv)).units + 65 < cLine := by have := hr.un; omega
  have hu64 : (A.deeper (envOfC "touch" (defScope s_touch) s0.heap.objs.size f cdv)).units + 64 < cLine := by omega
  have hu1 : (A.deeper (envOfC "touch" (defScope s_touch) s0.heap.objs.size f cdv)).units + 1 < cLine := by omega
  have hu2 : (A.deeper (envOfC "touch" (defScope s_touch) s0.heap.objs.size f cdv)).units + 2 < cLine := by omega
  exact (dss_one (ds_ret (de_ifExp (dt_val (dv 1)) (de_call c_summed hr (by decide) rfl (da_cons (de_ix hu1 (de_fld G.cls_Hall G.na_Hall_own_around (dv 0)) (dv 2) (fun _ _ => rfl)) (da_cons (de_lst (da_cons (dv 2) da_nil)) da_nil))) (de_callTy call_listD1 rfl B.list bv_list (da_cons (de_ix hu1 (de_fld G.cls_Hall G.na_Hall_own_around (dv 0)) (dv 2) (fun _ _ => rfl)) da_nil)))))
theorem w_sums_of (s : Sps) (B : Bt mg) (G : Gt K mg) (c_summed : CalD P w K mg base 1 2 "summed" s.summed) {f : Addr} {cdv : Value} {A : Around} {outer : List PySem.Env} {s0 : Shared} {H : Hp} {E : XK} (hr : Room 1 (A.deeper (envOfC "sums_of" (defScope s_sums_of) s0.heap.objs.size f cdv))) :
    DSs (cxOf CX0 P w K mg base N_sums_of "sums_of" (defScope s_sums_of) f cdv A outer s0 H E).nox (defBody s_sums_of) (b_sums_of s) := by
  have hu : (A.deeper (envOfC "sums_of" (defScope s_sums_of) s0.heap.objs.size f cdv)).units + 65 < cLine := by have := hr.un; omega
  have hu64 : (A.deeper (envOfC "sums_of" (defScope s_sums_of) s0.heap.objs.size f cdv)).units + 64 < cLine := by omega
  have hu1 : (A.deeper (envOfC "sums_of" (defScope s_sums_of) s0.heap.objs.size f cdv)).units + 1 < cLine := by omega
  have hu2 : (A.deeper (envOfC "sums_of" (defScope s_sums_of) s0.heap.objs.size f cdv)).units + 2 < cLine := by omega
  exact (dss_cons (ds_set (i := 1) nd_sums_of rfl (by first | exact Or.inl rfl | exact Or.inr rfl) (de_lst (da_cons (de_lst da_nil) da_nil)))
    (dss_cons (ds_for PassesOwn.never rfl (di_any (dv 0)) (dg 2 nd_sums_of) (dss_one (ds_set (i := 1) nd_sums_of rfl (by first | exact Or.inl rfl | exact Or.inr rfl) (de_op op_addD (dv 1) (dn_de (dn_lc (own := [("one", 3)]) rfl nd_sums_of (di_any (dv 1)) (blkOk_by rfl) (tgN_in (by decide)) (fun _ _ _ _ _ => (dg 3 nd_sums_of)) (fun _ _ _ _ _ => dts_nil) (fun _ _ _ _ _ => (de_call c_summed hr (by decide) rfl (da_cons (dv 3) (da_cons (dv 2) da_nil))))))))))
    (dss_one (ds_ret (de_callB (call_sortedD1 rfl hu) rfl B.sorted bv_sorted (da_cons (dv 1) da_nil))))))
theorem w_law_pick (s : Sps) (B : Bt mg) (G : Gt K mg) (c_law_draw : CalD P w K mg base 1 2 "_law_draw" s.law_draw) {f : Addr} {cdv : Value} {A : Around} {outer : List PySem.Env} {s0 : Shared} {H : Hp} {E : XK} (hr : Room 1 (A.deeper (envOfC "_law_pick" (defScope s_law_pick) s0.heap.objs.size f cdv))) :
    DSs (cxOf CX0 P w K mg base N_law_pick "_law_pick" (defScope s_law_pick) f cdv A outer s0 H E).nox (defBody s_law_pick) (b_law_pick s) := by
  have hu : (A.deeper (envOfC "_law_pick" (defScope s_law_pick) s0.heap.objs.size f cdv)).units + 65 < cLine := by have := hr.un; omega
  have hu64 : (A.deeper (envOfC "_law_pick" (defScope s_law_pick) s0.heap.objs.size f cdv)).units + 64 < cLine := by omega
  have hu1 : (A.deeper (envOfC "_law_pick" (defScope s_law_pick) s0.heap.objs.size f cdv)).units + 1 < cLine := by omega
  have hu2 : (A.deeper (envOfC "_law_pick" (defScope s_law_pick) s0.heap.objs.size f cdv)).units + 2 < cLine := by omega
  exact (dss_one (ds_ret (de_ix hu1 (dv 1) (de_call c_law_draw hr (by decide) rfl (da_cons (dv 0) (da_cons (de_callB call_lenD1 rfl B.len bv_len (da_cons (dv 1) da_nil)) da_nil))) (fun _ _ => rfl))))
theorem w_law_mixed (s : Sps) (B : Bt mg) (G : Gt K mg) (c_law_draw : CalD P w K mg base 1 2 "_law_draw" s.law_draw) {f : Addr} {cdv : Value} {A : Around} {outer : List PySem.Env} {s0 : Shared} {H : Hp} {E : XK} (hr : Room 1 (A.deeper (envOfC "_law_mixed" (defScope s_law_mixed) s0.heap.objs.size f cdv))) :
    DSs (cxOf CX0 P w K mg base N_law_mixed "_law_mixed" (defScope s_law_mixed) f cdv A outer s0 H E).nox (defBody s_law_mixed) (b_law_mixed s) := by
  have hu : (A.deeper (envOfC "_law_mixed" (defScope s_law_mixed) s0.heap.objs.size f cdv)).units + 65 < cLine := by have := hr.un; omega
  have hu64 : (A.deeper (envOfC "_law_mixed" (defScope s_law_mixed) s0.heap.objs.size f cdv)).units + 64 < cLine := by omega
  have hu1 : (A.deeper (envOfC "_law_mixed" (defScope s_law_mixed) s0.heap.objs.size f cdv)).units + 1 < cLine := by omega
  have hu2 : (A.deeper (envOfC "_law_mixed" (defScope s_law_mixed) s0.heap.objs.size f cdv)).units + 2 < cLine := by omega
  exact (dss_cons (ds_par (i := 2) (j := 3) (w := (some false)) (w2 := (some false)) rfl nd_law_mixed rfl rfl (by decide) rfl rfl (dn_listB rfl B.list bv_list (da_cons (dv 1) da_nil)) (dn_lst da_nil))
    (dss_cons (ds_forR PassesOwn.never rfl rfl B.range (de_callB call_lenD1 rfl B.len bv_len (da_cons (dv 2) da_nil)) (dg 4 nd_law_mixed) (dss_one (ds_appPop (i := 3) (j := 2) rfl (by first | exact Or.inl rfl | exact Or.inr (Or.inl rfl)) rfl (by first | exact Or.inl rfl | exact Or.inr (Or.inl rfl)) (de_call c_law_draw hr (by decide) rfl (da_cons (dv 0) (da_cons (de_callB call_lenD1 rfl B.len bv_len (da_cons (dv 2) da_nil)) da_nil))))))
    (dss_one (ds_frz (i := 3) (ds_ret (dv 3))))))
theorem w_law_touch (s : Sps) (B : Bt mg) (G : Gt K mg) (c_law_around : CalD P w K mg base 1 2 "_law_around" s.law_around) {f : Addr} {cdv : Value} {A : Around} {outer : List PySem.Env} {s0 : Shared} {H : Hp} {E : XK} (hr : Room 1 (A.deeper (envOfC "_law_touch" (defScope s_law_touch) s0.heap.objs.size f cdv))) :
    DSs (cxOf CX0 P w K mg base N_law_touch "_law_touch" (defScope s_law_touch) f cdv A outer s0 H E).nox (defBody s_law_touch) (b_law_touch s) := by
  have hu : (A.deeper (envOfC "_law_touch" (defScope s_law_touch) s0.heap.objs.size f cdv)).units + 65 < cLine := by have := hr.un; omega
  have hu64 : (A.deeper (envOfC "_law_touch" (defScope s_law_touch) s0.heap.objs.size f cdv)).units + 64 < cLine := by omega
  have hu1 : (A.deeper (envOfC "_law_touch" (defScope s_law_touch) s0.heap.objs.size f cdv)).units + 1 < cLine := by omega
  have hu2 : (A.deeper (envOfC "_law_touch" (defScope s_law_touch) s0.heap.objs.size f cdv)).units + 2 < cLine := by omega
  exact (dss_one (ds_ret (de_callB (call_sortedD1 rfl hu) rfl B.sorted bv_sorted (da_cons (de_op op_addD (de_call c_law_around hr (by decide) rfl (da_cons (dv 0) (da_cons (dv 2) da_nil))) (de_ifExp (dt_cmp (op_eqDD hu64) (dv 1) de_str (nomark _)) (de_lst (da_cons (dv 2) da_nil)) (de_lst da_nil))) da_nil))))
theorem w_Solved_reduced (s : Sps) (B : Bt mg) (G : Gt K mg) (c_summed : CalD P w K mg base 1 2 "summed" s.summed) {f : Addr} {cdv : Value} {A : Around} {outer : List PySem.Env} {s0 : Shared} {H : Hp} {E : XK} (hr : Room 1 (A.deeper (envOfC "Solved.reduced" (defScope s_Solved_reduced) s0.heap.objs.size f cdv))) :
    DSs (cxOf CX0 P w K mg base N_Solved_reduced "Solved.reduced" (defScope s_Solved_reduced) f cdv A outer s0 H E).nox (defBody s_Solved_reduced) (b_Solved_reduced s) := by
  have hu : (A.deeper (envOfC "Solved.reduced" (defScope s_Solved_reduced) s0.heap.objs.size f cdv)).units + 65 < cLine := by have := hr.un; omega
  have hu64 : (A.deeper (envOfC "Solved.reduced" (defScope s_Solved_reduced) s0.heap.objs.size f cdv)).units + 64 < cLine := by omega
  have hu1 : (A.deeper (envOfC "Solved.reduced" (defScope s_Solved_reduced) s0.heap.objs.size f cdv)).units + 1 < cLine := by omega
  have hu2 : (A.deeper (envOfC "Solved.reduced" (defScope s_Solved_reduced) s0.heap.objs.size f cdv)).units + 2 < cLine := by omega
  exact (dss_cons (ds_par (i := 2) (j := 3) (w := none) (w2 := none) rfl nd_Solved_reduced rfl rfl (by decide) rfl rfl (de_callTy call_listD1 rfl B.list bv_list (da_cons (dv 1) da_nil)) (de_lst da_nil))
    (dss_cons (ds_setLc (i := 4) (own := [("room", 5)]) rfl nd_Solved_reduced rfl rfl rfl (di_any (dv 2)) (blkOk_by rfl) (tgN_in (by decide)) (fun _ _ _ _ _ => (dg 5 nd_Solved_reduced)) (fun _ _ _ _ _ => (dts_one (dt_cmp (op_inDD hu) (dv 5) (de_fld G.cls_Solved G.na_Solved_own_rows (dv 0)) (by rfl)))) (fun _ _ _ _ _ => (dv 5)))
    (dss_cons (ds_while PassesOwn.never (dt_cmp (op_neDD hu64) (dv 4) (de_lst da_nil) (nomark _)) (dss_cons (ds_set (i := 6) nd_Solved_reduced rfl (by first | exact Or.inl rfl | exact Or.inr rfl) (de_ix hu1 (de_fld G.cls_Solved G.na_Solved_own_rows (dv 0)) (de_ix hu1 (dv 4) de_int (fun _ _ => rfl)) (fun _ _ => rfl)))
    (dss_cons (ds_par (i := 2) (j := 3) (w := none) (w2 := none) rfl nd_Solved_reduced rfl rfl (by decide) rfl rfl (de_call c_summed hr (by decide) rfl (da_cons (dv 2) (da_cons (de_ix hu1 (dv 6) de_int (fun _ _ => rfl)) da_nil))) (de_call c_summed hr (by decide) rfl (da_cons (dv 3) (da_cons (de_ix hu1 (dv 6) de_int (fun _ _ => rfl)) da_nil))))
    (dss_one (ds_setLc (i := 4) (own := [("room", 5)]) rfl nd_Solved_reduced rfl rfl rfl (di_any (dv 2)) (blkOk_by rfl) (tgN_in (by decide)) (fun _ _ _ _ _ => (dg 5 nd_Solved_reduced)) (fun _ _ _ _ _ => (dts_one (dt_cmp (op_inDD hu) (dv 5) (de_fld G.cls_Solved G.na_Solved_own_rows (dv 0)) (by rfl)))) (fun _ _ _ _ _ => (dv 5)))))))
    (dss_one (ds_ret (de_tup (da_cons (dv 2) (da_cons (dv 3) da_nil))))))))
theorem w_check_hall (s : Sps) (B : Bt mg) (G : Gt K mg)  {f : Addr} {cdv : Value} {A : Around} {outer : List PySem.Env} {s0 : Shared} {H : Hp} {E : XK} (hr : Room 2 (A.deeper (envOfC "check_hall" (defScope s_check_hall) s0.heap.objs.size f cdv))) :
    DSs (cxOf CX0 P w K mg base N_check_hall "check_hall" (defScope s_check_hall) f cdv A outer s0 H E).nox (defBody s_check_hall) (b_check_hall s) := by
  have hu : (A.deeper (envOfC "check_hall" (defScope s_check_hall) s0.heap.objs.size f cdv)).units + 65 < cLine := by have := hr.un; omega
  have hu64 : (A.deeper (envOfC "check_hall" (defScope s_check_hall) s0.heap.objs.size f cdv)).units + 64 < cLine := by omega
  have hu1 : (A.deeper (envOfC "check_hall" (defScope s_check_hall) s0.heap.objs.size f cdv)).units + 1 < cLine := by omega
  have hu2 : (A.deeper (envOfC "check_hall" (defScope s_check_hall) s0.heap.objs.size f cdv)).units + 2 < cLine := by omega
  exact (dss_one (ds_if (dt_not (dt_val (de_isC G.cld_Hall rfl B.isinstance (dv 0) (G.cg_Hall (X := _) rfl)))) (dss_one ds_no) dss_nil))
theorem w_check_room (s : Sps) (B : Bt mg) (G : Gt K mg) (c_is_room : CalD P w K mg base 1 2 "is_room" s.is_room) {f : Addr} {cdv : Value} {A : Around} {outer : List PySem.Env} {s0 : Shared} {H : Hp} {E : XK} (hr : Room 2 (A.deeper (envOfC "check_room" (defScope s_check_room) s0.heap.objs.size f cdv))) :
    DSs (cxOf CX0 P w K mg base N_check_room "check_room" (defScope s_check_room) f cdv A outer s0 H E).nox (defBody s_check_room) (b_check_room s) := by
  have hu : (A.deeper (envOfC "check_room" (defScope s_check_room) s0.heap.objs.size f cdv)).units + 65 < cLine := by have := hr.un; omega
  have hu64 : (A.deeper (envOfC "check_room" (defScope s_check_room) s0.heap.objs.size f cdv)).units + 64 < cLine := by omega
  have hu1 : (A.deeper (envOfC "check_room" (defScope s_check_room) s0.heap.objs.size f cdv)).units + 1 < cLine := by omega
  have hu2 : (A.deeper (envOfC "check_room" (defScope s_check_room) s0.heap.objs.size f cdv)).units + 2 < cLine := by omega
  exact (dss_one (ds_if (dt_not (dt_val (de_call c_is_room hr (by decide) rfl (da_cons (dv 0) (da_cons (dv 1) da_nil))))) (dss_one ds_no) dss_nil))
theorem w_check_lot (s : Sps) (B : Bt mg) (G : Gt K mg) (c_is_lot_of : CalD P w K mg base 2 2 "is_lot_of" s.is_lot_of) {f : Addr} {cdv : Value} {A : Around} {outer : List PySem.Env} {s0 : Shared} {H : Hp} {E : XK} (hr : Room 2 (A.deeper (envOfC "check_lot" (defScope s_check_lot) s0.heap.objs.size f cdv))) :
    DSs (cxOf CX0 P w K mg base N_check_lot "check_lot" (defScope s_check_lot) f cdv A outer s0 H E).nox (defBody s_check_lot) (b_check_lot s) := by
  have hu : (A.deeper (envOfC "check_lot" (defScope s_check_lot) s0.heap.objs.size f cdv)).units + 65 < cLine := by have := hr.un; omega
  have hu64 : (A.deeper (envOfC "check_lot" (defScope s_check_lot) s0.heap.objs.size f cdv)).units + 64 < cLine := by omega
  have hu1 : (A.deeper (envOfC "check_lot" (defScope s_check_lot) s0.heap.objs.size f cdv)).units + 1 < cLine := by omega
  have hu2 : (A.deeper (envOfC "check_lot" (defScope s_check_lot) s0.heap.objs.size f cdv)).units + 2 < cLine := by omega
  exact (dss_one (ds_if (dt_not (dt_val (de_call c_is_lot_of hr (by decide) rfl (da_cons (dv 0) (da_cons (dv 1) da_nil))))) (dss_one ds_no) dss_nil))
theorem w_touches_of (s : Sps) (B : Bt mg) (G : Gt K mg) (c_touch : CalD P w K mg base 2 3 "touch" s.touch) {f : Addr} {cdv : Value} {A : Around} {outer : List PySem.Env} {s0 : Shared} {H : Hp} {E : XK} (hr : Room 2 (A.deeper (envOfC "touches_of" (defScope s_touches_of) s0.heap.objs.size f cdv))) :
    DSs (cxOf CX0 P w K mg base N_touches_of "touches_of" (defScope s_touches_of) f cdv A outer s0 H E).nox (defBody s_touches_of) (b_touches_of s) := by
  have hu : (A.deeper (envOfC "touches_of" (defScope s_touches_of) s0.heap.objs.size f cdv)).units + 65 < cLine := by have := hr.un; omega
  have hu64 : (A.deeper (envOfC "touches_of" (defScope s_touches_of) s0.heap.objs.size f cdv)).units + 64 < cLine := by omega
  have hu1 : (A.deeper (envOfC "touches_of" (defScope s_touches_of) s0.heap.objs.size f cdv)).units + 1 < cLine := by omega
  have hu2 : (A.deeper (envOfC "touches_of" (defScope s_touches_of) s0.heap.objs.size f cdv)).units + 2 < cLine := by omega
  exact (dss_one (ds_ret (dn_de (dn_dc (own := [("room", 2)]) rfl nd_touches_of (di_any (de_fld G.cls_Hall G.na_Hall_own_rooms (dv 0))) (blkOk_by rfl) (tgN_in (by decide)) (fun _ _ _ _ _ => (dg 2 nd_touches_of)) (fun _ _ _ _ _ => dts_nil) (fun _ _ _ _ _ => (dv 2)) (fun _ _ _ _ _ => (de_call c_touch hr (by decide) rfl (da_cons (dv 0) (da_cons (de_cmp (op_eqDD hu64) (dv 1) de_str (nomark _)) (da_cons (dv 2) da_nil)))))))))
theorem w_law_names (s : Sps) (B : Bt mg) (G : Gt K mg) (c_law_draw : CalD P w K mg base 1 2 "_law_draw" s.law_draw) (c_law_pick : CalD P w K mg base 2 2 "_law_pick" s.law_pick) {f : Addr} {cdv : Value} {A : Around} {outer : List PySem.Env} {s0 : Shared} {H : Hp} {E : XK} (hr : Room 2 (A.deeper (envOfC "_law_names" (defScope s_law_names) s0.heap.objs.size f cdv))) :
    DSs (cxOf CX0 P w K mg base N_law_names "_law_names" (defScope s_law_names) f cdv A outer s0 H E).nox (defBody s_law_names) (b_law_names s) := by
  have hu : (A.deeper (envOfC "_law_names" (defScope s_law_names) s0.heap.objs.size f cdv)).units + 65 < cLine := by have := hr.un; omega
  have hu64 : (A.deeper (envOfC "_law_names" (defScope s_law_names) s0.heap.objs.size f cdv)).units + 64 < cLine := by omega
  have hu1 : (A.deeper (envOfC "_law_names" (defScope s_law_names) s0.heap.objs.size f cdv)).units + 1 < cLine := by omega
  have hu2 : (A.deeper (envOfC "_law_names" (defScope s_law_names) s0.heap.objs.size f cdv)).units + 2 < cLine := by omega
  exact (dss_cons (ds_parC (i := 2) (j := 3) (w := (some false)) (w2 := none) rfl nd_law_names rfl rfl (by first | exact Or.inl rfl | exact Or.inr rfl) (by first | exact Or.inl rfl | exact Or.inr rfl) (dn_lst da_nil) de_str)
    (dss_cons (ds_for PassesOwn.never rfl (di_range1 rfl B.range (da_cons (dv 1) da_nil)) (dg 4 nd_law_names) (dss_cons (ds_set (i := 5) nd_law_names rfl (by first | exact Or.inl rfl | exact Or.inr rfl) (de_join de_str (dn_de (dn_lc (own := [("one", 6)]) rfl nd_law_names (di_range1 rfl B.range (da_cons (de_op op_addD de_int (de_call c_law_draw hr (by decide) rfl (da_cons (dv 0) (da_cons (de_call c_law_pick hr (by decide) rfl (da_cons (dv 0) (da_cons (de_lst (da_cons de_int (da_cons de_int (da_cons de_int da_nil)))) da_nil))) da_nil)))) da_nil)) (blkOk_by rfl) (tgN_in (by decide)) (fun _ _ _ _ _ => (dg 6 nd_law_names)) (fun _ _ _ _ _ => dts_nil) (fun _ _ _ _ _ => (de_call c_law_pick hr (by decide) rfl (da_cons (dv 0) (da_cons (dv 3) da_nil))))))))
    (dss_cons (ds_forR PassesOwn.never rfl rfl B.range (de_op op_addD (de_callB call_lenD1 rfl B.len bv_len (da_cons (dv 2) da_nil)) de_int) (dg 7 nd_law_names) (dss_one (ds_if (dt_cmp (op_inDD hu) (dv 5) (dv 2) (by rfl)) (dss_one (ds_set (i := 5) nd_law_names rfl (by first | exact Or.inl rfl | exact Or.inr rfl) (de_op op_addD (de_op op_addD (de_slice (dv 5) do_none (do_some de_int)) (de_ix hu1 (dv 3) (de_op op_divD (dv 7) de_int) (fun _ _ => rfl))) (de_ix hu1 (dv 3) (de_op op_modD (dv 7) de_int) (fun _ _ => rfl))))) dss_nil)))
    (dss_one (ds_app (i := 2) rfl (by first | exact Or.inl rfl | exact Or.inr (Or.inl rfl)) (dv 5))))))
    (dss_one (ds_frz (i := 2) (ds_ret (dv 2))))))
theorem w_law_behind (s : Sps) (B : Bt mg) (G : Gt K mg) (c_law_sum : CalD P w K mg base 1 2 "_law_sum" s.law_sum) (c_law_touch : CalD P w K mg base 2 3 "_law_touch" s.law_touch) {f : Addr} {cdv : Value} {A : Around} {outer : List PySem.Env} {s0 : Shared} {H : Hp} {E : XK} (hr : Room 2 (A.deeper (envOfC "_law_behind" (defScope s_law_behind) s0.heap.objs.size f cdv))) :
    DSs (cxOf CX0 P w K mg base N_law_behind "_law_behind" (defScope s_law_behind) f cdv A outer s0 H E).nox (defBody s_law_behind) (b_law_behind s) := by
  have hu : (A.deeper (envOfC "_law_behind" (defScope s_law_behind) s0.heap.objs.size f cdv)).units + 65 < cLine := by have := hr.un; omega
  have hu64 : (A.deeper (envOfC "_law_behind" (defScope s_law_behind) s0.heap.objs.size f cdv)).units + 64 < cLine := by omega
  have hu1 : (A.deeper (envOfC "_law_behind" (defScope s_law_behind) s0.heap.objs.size f cdv)).units + 1 < cLine := by omega
  have hu2 : (A.deeper (envOfC "_law_behind" (defScope s_law_behind) s0.heap.objs.size f cdv)).units + 2 < cLine := by omega
  exact (dss_cons (ds_set (i := 4) nd_law_behind rfl (by first | exact Or.inl rfl | exact Or.inr rfl) (de_callTy call_listD1 rfl B.list bv_list (da_cons (dv 2) da_nil)))
    (dss_cons (ds_for PassesOwn.never rfl (di_any (dv 3)) (dg 5 nd_law_behind) (dss_one (ds_set (i := 4) nd_law_behind rfl (by first | exact Or.inl rfl | exact Or.inr rfl) (de_call c_law_sum hr (by decide) rfl (da_cons (dv 4) (da_cons (de_call c_law_touch hr (by decide) rfl (da_cons (dv 0) (da_cons (dv 1) (da_cons (dv 5) da_nil)))) da_nil))))))
    (dss_one (ds_ret (dv 4)))))
theorem w_law_lot (s : Sps) (B : Bt mg) (G : Gt K mg) (c_law_draw : CalD P w K mg base 1 2 "_law_draw" s.law_draw) (c_law_mixed : CalD P w K mg base 2 2 "_law_mixed" s.law_mixed) {f : Addr} {cdv : Value} {A : Around} {outer : List PySem.Env} {s0 : Shared} {H : Hp} {E : XK} (hr : Room 2 (A.deeper (envOfC "_law_lot" (defScope s_law_lot) s0.heap.objs.size f cdv))) :
    DSs (cxOf CX0 P w K mg base N_law_lot "_law_lot" (defScope s_law_lot) f cdv A outer s0 H E).nox (defBody s_law_lot) (b_law_lot s) := by
  have hu : (A.deeper (envOfC "_law_lot" (defScope s_law_lot) s0.heap.objs.size f cdv)).units + 65 < cLine := by have := hr.un; omega
  have hu64 : (A.deeper (envOfC "_law_lot" (defScope s_law_lot) s0.heap.objs.size f cdv)).units + 64 < cLine := by omega
  have hu1 : (A.deeper (envOfC "_law_lot" (defScope s_law_lot) s0.heap.objs.size f cdv)).units + 1 < cLine := by omega
  have hu2 : (A.deeper (envOfC "_law_lot" (defScope s_law_lot) s0.heap.objs.size f cdv)).units + 2 < cLine := by omega
  exact (dss_one (ds_ret (de_callB (call_sortedD1 rfl hu) rfl B.sorted bv_sorted (da_cons (de_slice (de_call c_law_mixed hr (by decide) rfl (da_cons (dv 0) (da_cons (de_ix hu1 (dv 1) de_int (fun _ _ => rfl)) da_nil))) do_none (do_some (de_call c_law_draw hr (by decide) rfl (da_cons (dv 0) (da_cons (de_op op_addD (de_callB call_lenD1 rfl B.len bv_len (da_cons (de_ix hu1 (dv 1) de_int (fun _ _ => rfl)) da_nil)) de_int) da_nil))))) da_nil))))
theorem w_law_with (s : Sps) (B : Bt mg) (G : Gt K mg) (c_law_around : CalD P w K mg base 1 2 "_law_around" s.law_around) (c_law_draw : CalD P w K mg base 1 2 "_law_draw" s.law_draw) (c_law_pick : CalD P w K mg base 2 2 "_law_pick" s.law_pick) {f : Addr} {cdv : Value} {A : Around} {outer : List PySem.Env} {s0 : Shared} {H : Hp} {E : XK} (hr : Room 2 (A.deeper (envOfC "_law_with" (defScope s_law_with) s0.heap.objs.size f cdv))) :
    DSs (cxOf CX0 P w K mg base N_law_with "_law_with" (defScope s_law_with) f cdv A outer s0 H E).nox (defBody s_law_with) (b_law_with s) := by
  have hu : (A.deeper (envOfC "_law_with" (defScope s_law_with) s0.heap.objs.size f cdv)).units + 65 < cLine := by have := hr.un; omega
  have hu64 : (A.deeper (envOfC "_law_with" (defScope s_law_with) s0.heap.objs.size f cdv)).units + 64 < cLine := by omega
  have hu1 : (A.deeper (envOfC "_law_with" (defScope s_law_with) s0.heap.objs.size f cdv)).units + 1 < cLine := by omega
  have hu2 : (A.deeper (envOfC "_law_with" (defScope s_law_with) s0.heap.objs.size f cdv)).units + 2 < cLine := by omega
  exact (dss_cons (ds_par (i := 3) (j := 4) (w := none) (w2 := none) rfl nd_law_with rfl rfl (by decide) rfl rfl (de_call c_law_draw hr (by decide) rfl (da_cons (dv 0) (da_cons de_int da_nil))) (de_call c_law_pick hr (by decide) rfl (da_cons (dv 0) (da_cons (de_ix hu1 (dv 1) de_int (fun _ _ => rfl)) da_nil))))
    (dss_cons (ds_if (dt_cmp (op_eqDD hu64) (dv 3) de_int (nomark _)) (dss_one (ds_ret (dv 1))) dss_nil)
    (dss_cons (ds_set (i := 5) nd_law_with rfl (by first | exact Or.inl rfl | exact Or.inr rfl) (de_ifExp (dt_cmp op_ltD (dv 3) de_int (nomark _)) (de_op op_addD (de_call c_law_around hr (by decide) rfl (da_cons (dv 1) (da_cons (dv 4) da_nil))) (de_ifExp (dt_cmp (op_eqDD hu64) (dv 2) de_str (nomark _)) (de_lst (da_cons (dv 4) da_nil)) (de_lst da_nil))) (de_lst (da_cons (dv 4) da_nil))))
    (dss_cons (ds_set (i := 6) nd_law_with rfl (by first | exact Or.inl rfl | exact Or.inr rfl) (de_callB (call_sortedD1 rfl hu) rfl B.sorted bv_sorted (da_cons (de_op op_addD (de_ix hu1 (dv 1) de_int (fun _ _ => rfl)) (dn_de (dn_lc (own := [("other", 7)]) rfl nd_law_with (di_any (dv 5)) (blkOk_by rfl) (tgN_in (by decide)) (fun _ _ _ _ _ => (dg 7 nd_law_with)) (fun _ _ _ _ _ => dts_nil) (fun _ _ _ _ _ => (de_tup (da_cons (dv 7) (da_cons de_str da_nil))))))) da_nil)))
    (dss_one (ds_ret (de_tup (da_cons (de_callB (call_sortedD1 rfl hu) rfl B.sorted bv_sorted (da_cons (de_op op_addD (de_ix hu1 (dv 1) de_int (fun _ _ => rfl)) (de_lst (da_cons de_str da_nil))) da_nil)) (da_cons (dv 6) da_nil)))))))))
theorem w_Hall_is_wire (s : Sps) (B : Bt mg) (G : Gt K mg) (c_is_row : CalD P w K mg base 2 2 "is_row" s.is_row) {f : Addr} {cdv : Value} {A : Around} {outer : List PySem.Env} {s0 : Shared} {H : Hp} {E : XK} (hr : Room 2 (A.deeper (envOfC "Hall.is_wire" (defScope s_Hall_is_wire) s0.heap.objs.size f cdv))) :
    DSs (cxOf CX0 P w K mg base N_Hall_is_wire "Hall.is_wire" (defScope s_Hall_is_wire) f cdv A outer s0 H E).nox (defBody s_Hall_is_wire) (b_Hall_is_wire s) := by
  have hu : (A.deeper (envOfC "Hall.is_wire" (defScope s_Hall_is_wire) s0.heap.objs.size f cdv)).units + 65 < cLine := by have := hr.un; omega
  have hu64 : (A.deeper (envOfC "Hall.is_wire" (defScope s_Hall_is_wire) s0.heap.objs.size f cdv)).units + 64 < cLine := by omega
  have hu1 : (A.deeper (envOfC "Hall.is_wire" (defScope s_Hall_is_wire) s0.heap.objs.size f cdv)).units + 1 < cLine := by omega
  have hu2 : (A.deeper (envOfC "Hall.is_wire" (defScope s_Hall_is_wire) s0.heap.objs.size f cdv)).units + 2 < cLine := by omega
  exact (dss_cons (ds_if (dt_w (dw_or (dt_not (dt_val (de_call c_is_row hr (by decide) rfl (da_cons (dv 1) (da_cons de_int da_nil))))) (dw_or1 (dt_not (dt_val (de_callB (call_allD1 rfl) rfl B.all bv_all (da_cons (dn_de (dn_lc (own := [("room", 2)]) rfl nd_Hall_is_wire (di_any (dv 1)) (blkOk_by rfl) (tgN_in (by decide)) (fun _ _ _ _ _ => (dg 2 nd_Hall_is_wire)) (fun _ _ _ _ _ => dts_nil) (fun _ _ _ _ _ => (de_and (de_isi1 rfl B.isinstance (dv 2) (pe_bty rfl B.str bv_str) (by decide)) (de_one (de_cmp (op_inDD hu) (dv 2) (de_fld G.cls_Hall G.na_Hall_own_rooms (dv 0)) (by rfl))))))) da_nil))))))) (dss_one (ds_ret de_bl)) dss_nil)
    (dss_one (ds_ret (de_cmp (op_neDD hu64) (de_ix hu1 (dv 1) de_int (fun _ _ => rfl)) (de_ix hu1 (dv 1) de_int (fun _ _ => rfl)) (nomark _)))))
theorem w_check_kind (s : Sps) (B : Bt mg) (G : Gt K mg) (c_check_hall : CalD P w K mg base 3 1 "check_hall" s.check_hall) {f : Addr} {cdv : Value} {A : Around} {outer : List PySem.Env} {s0 : Shared} {H : Hp} {E : XK} (hr : Room 3 (A.deeper (envOfC "check_kind" (defScope s_check_kind) s0.heap.objs.size f cdv))) :
    DSs (cxOf CX0 P w K mg base N_check_kind "check_kind" (defScope s_check_kind) f cdv A outer s0 H E).nox (defBody s_check_kind) (b_check_kind s) := by
  have hu : (A.deeper (envOfC "check_kind" (defScope s_check_kind) s0.heap.objs.size f cdv)).units + 65 < cLine := by have := hr.un; omega
  have hu64 : (A.deeper (envOfC "check_kind" (defScope s_check_kind) s0.heap.objs.size f cdv)).units + 64 < cLine := by omega
  have hu1 : (A.deeper (envOfC "check_kind" (defScope s_check_kind) s0.heap.objs.size f cdv)).units + 1 < cLine := by omega
  have hu2 : (A.deeper (envOfC "check_kind" (defScope s_check_kind) s0.heap.objs.size f cdv)).units + 2 < cLine := by omega
  exact (dss_cons (ds_expr (de_call c_check_hall hr (by decide) rfl (da_cons (dv 0) da_nil)))
    (dss_one (ds_if (dt_w (dw_or (dt_not (dt_val (de_isi1 rfl B.isinstance (dv 1) (pe_bty rfl B.str bv_str) (by decide)))) (dw_or1 (G.tKINDS (X := _) true rfl (dv 1) rfl)))) (dss_one ds_no) dss_nil)))
theorem w_ends (s : Sps) (B : Bt mg) (G : Gt K mg) (c_check_hall : CalD P w K mg base 3 1 "check_hall" s.check_hall) {f : Addr} {cdv : Value} {A : Around} {outer : List PySem.Env} {s0 : Shared} {H : Hp} {E : XK} (hr : Room 3 (A.deeper (envOfC "ends" (defScope s_ends) s0.heap.objs.size f cdv))) :
    PSs (cxOf CX0 P w K mg base N_ends "ends" (defScope s_ends) f cdv A outer s0 H E).nox (defBody s_ends) (tSN K (b_ends s)) := by
  have hu : (A.deeper (envOfC "ends" (defScope s_ends) s0.heap.objs.size f cdv)).units + 65 < cLine := by have := hr.un; omega
  have hu64 : (A.deeper (envOfC "ends" (defScope s_ends) s0.heap.objs.size f cdv)).units + 64 < cLine := by omega
  have hu1 : (A.deeper (envOfC "ends" (defScope s_ends) s0.heap.objs.size f cdv)).units + 1 < cLine := by omega
  have hu2 : (A.deeper (envOfC "ends" (defScope s_ends) s0.heap.objs.size f cdv)).units + 2 < cLine := by omega
  exact (dss_consN (ds_expr (de_call c_check_hall hr (by decide) rfl (da_cons (dv 0) da_nil)))
    (dss_retN (dn_lc (own := [("room", 1), ("around", 2)]) rfl nd_ends (di_any (de_sortIt rfl hu (de_fld G.cls_Hall G.na_Hall_own_around (dv 0)) rfl B.sorted bv_sorted)) (blkOk_by rfl) (tgT_in (tgCons_in (tgN_in (by decide)) (tgCons_in (tgN_in (by decide)) tgNil_in))) (fun _ _ _ _ _ => (dg_tup rfl (dgs_cons (dg 1 nd_ends) (dgs_cons (dg 2 nd_ends) dgs_nil)) (tgCons_len (tgCons_len tgNil_len)))) (fun _ _ _ _ _ => (dts_one (dt_cmp (op_eqDD hu64) (de_callB call_lenD1 rfl B.len bv_len (da_cons (dv 2) da_nil)) de_int (nomark _)))) (fun _ _ _ _ _ => (de_tup (da_cons (dv 1) (da_cons (de_ix hu1 (dv 2) de_int (fun _ _ => rfl)) da_nil)))))))
theorem w_law_quiets (s : Sps) (B : Bt mg) (G : Gt K mg) (c_law_behind : CalD P w K mg base 3 4 "_law_behind" s.law_behind) (c_law_lots : CalD P w K mg base 1 1 "_law_lots" s.law_lots) {f : Addr} {cdv : Value} {A : Around} {outer : List PySem.Env} {s0 : Shared} {H : Hp} {E : XK} (hr : Room 3 (A.deeper (envOfC "_law_quiets" (defScope s_law_quiets) s0.heap.objs.size f cdv))) :
    DSs (cxOf CX0 P w K mg base N_law_quiets "_law_quiets" (defScope s_law_quiets) f cdv A outer s0 H E).nox (defBody s_law_quiets) (b_law_quiets s) := by
  have hu : (A.deeper (envOfC "_law_quiets" (defScope s_law_quiets) s0.heap.objs.size f cdv)).units + 65 < cLine := by have := hr.un; omega
  have hu64 : (A.deeper (envOfC "_law_quiets" (defScope s_law_quiets) s0.heap.objs.size f cdv)).units + 64 < cLine := by omega
  have hu1 : (A.deeper (envOfC "_law_quiets" (defScope s_law_quiets) s0.heap.objs.size f cdv)).units + 1 < cLine := by omega
  have hu2 : (A.deeper (envOfC "_law_quiets" (defScope s_law_quiets) s0.heap.objs.size f cdv)).units + 2 < cLine := by omega
  exact (dss_one (ds_ret (dn_de (dn_lc (own := [("lot", 2)]) rfl nd_law_quiets (di_any (de_call c_law_lots hr (by decide) rfl (da_cons (de_ix hu1 (dv 0) de_int (fun _ _ => rfl)) da_nil))) (blkOk_by rfl) (tgN_in (by decide)) (fun _ _ _ _ _ => (dg 2 nd_law_quiets)) (fun _ _ _ _ _ => (dts_one (dt_cmp (op_eqDD hu64) (de_call c_law_behind hr (by decide) rfl (da_cons (dv 0) (da_cons (dv 1) (da_cons (de_lst da_nil) (da_cons (dv 2) da_nil))))) (de_lst da_nil) (nomark _)))) (fun _ _ _ _ _ => (dv 2))))))
theorem w_law_hall (s : Sps) (B : Bt mg) (G : Gt K mg) (c_law_draw : CalD P w K mg base 1 2 "_law_draw" s.law_draw) (c_law_mixed : CalD P w K mg base 2 2 "_law_mixed" s.law_mixed) (c_law_names : CalD P w K mg base 3 2 "_law_names" s.law_names) {f : Addr} {cdv : Value} {A : Around} {outer : List PySem.Env} {s0 : Shared} {H : Hp} {E : XK} (hr : Room 3 (A.deeper (envOfC "_law_hall" (defScope s_law_hall) s0.heap.objs.size f cdv))) :
    DSs (cxOf CX0 P w K mg base N_law_hall "_law_hall" (defScope s_law_hall) f cdv A outer s0 H E).nox (defBody s_law_hall) (b_law_hall s) := by
  have hu : (A.deeper (envOfC "_law_hall" (defScope s_law_hall) s0.heap.objs.size f cdv)).units + 65 < cLine := by have := hr.un; omega
  have hu64 : (A.deeper (envOfC "_law_hall" (defScope s_law_hall) s0.heap.objs.size f cdv)).units + 64 < cLine := by omega
  have hu1 : (A.deeper (envOfC "_law_hall" (defScope s_law_hall) s0.heap.objs.size f cdv)).units + 1 < cLine := by omega
  have hu2 : (A.deeper (envOfC "_law_hall" (defScope s_law_hall) s0.heap.objs.size f cdv)).units + 2 < cLine := by omega
  exact (dss_cons (ds_par (i := 3) (j := 4) (w := none) (w2 := none) rfl nd_law_hall rfl rfl (by decide) rfl rfl (de_callB (call_sortedD1 rfl hu) rfl B.sorted bv_sorted (da_cons (de_call c_law_names hr (by decide) rfl (da_cons (dv 0) (da_cons (de_op op_addD de_int (de_call c_law_draw hr (by decide) rfl (da_cons (dv 0) (da_cons (dv 1) da_nil)))) da_nil))) da_nil)) (de_call c_law_draw hr (by decide) rfl (da_cons (dv 0) (da_cons de_int da_nil))))
    (dss_cons (ds_par (i := 5) (j := 6) (w := none) (w2 := (some false)) rfl nd_law_hall rfl rfl (by decide) rfl rfl (de_call c_law_mixed hr (by decide) rfl (da_cons (dv 0) (da_cons (dv 3) da_nil))) (dn_lst da_nil))
    (dss_cons (ds_for PassesOwn.never rfl (di_range2 rfl B.range (da_cons de_int (da_cons (de_ifExp (dt_cmp op_ltD (dv 4) de_int (nomark _)) (de_callB call_lenD1 rfl B.len bv_len (da_cons (dv 5) da_nil)) de_int) da_nil))) (dg 7 nd_law_hall) (dss_one (ds_app (i := 6) rfl (by first | exact Or.inl rfl | exact Or.inr (Or.inl rfl)) (de_tup (da_cons (de_ix hu1 (dv 5) (dv 7) (fun _ _ => rfl)) (da_cons (de_ix hu1 (dv 5) (de_ifExp (dt_cmp (op_eqDD hu64) (dv 4) de_int (nomark _)) de_int (de_op op_subD (dv 7) de_int)) (fun _ _ => rfl)) da_nil))))))
    (dss_cons (ds_if (dt_w (dw_and (dt_cmp (op_eqDD hu64) (dv 4) de_int (nomark _)) (dw_and1 (dt_cmp op_gtD (de_callB call_lenD1 rfl B.len bv_len (da_cons (dv 5) da_nil)) de_int (nomark _))))) (dss_one (ds_app (i := 6) rfl (by first | exact Or.inl rfl | exact Or.inr (Or.inl rfl)) (de_tup (da_cons (de_ix hu1 (dv 5) de_int (fun _ _ => rfl)) (da_cons (de_ix hu1 (dv 5) (de_neg de_int) (fun _ _ => rfl)) da_nil))))) dss_nil)
    (dss_cons (ds_for PassesOwn.never rfl (di_range1 rfl B.range (da_cons (de_ifExp (dt_cmp op_gtD (de_callB call_lenD1 rfl B.len bv_len (da_cons (dv 3) da_nil)) de_int (nomark _)) (de_call c_law_draw hr (by decide) rfl (da_cons (dv 0) (da_cons (de_op op_addD (dv 2) de_int) da_nil))) de_int) da_nil)) (dg 8 nd_law_hall) (dss_one (ds_app (i := 6) rfl (by first | exact Or.inl rfl | exact Or.inr (Or.inl rfl)) (de_callTy call_tupleD1 rfl B.tuple bv_tuple (da_cons (de_slice (de_call c_law_mixed hr (by decide) rfl (da_cons (dv 0) (da_cons (dv 3) da_nil))) do_none (do_some de_int)) da_nil)))))
    (dss_cons (ds_frz (i := 6) (ds_set (i := 9) nd_law_hall rfl (by first | exact Or.inl rfl | exact Or.inr rfl) (de_callB (call_sortedD1 rfl hu) rfl B.sorted bv_sorted (da_cons (de_callTy (call_dictTD1 rfl hu2) rfl B.dict bv_dict (da_cons (dn_de (dn_lc (own := [("wire", 10)]) rfl nd_law_hall (di_any (dv 6)) (blkOk_by rfl) (tgN_in (by decide)) (fun _ _ _ _ _ => (dg 10 nd_law_hall)) (fun _ _ _ _ _ => dts_nil) (fun _ _ _ _ _ => (de_tup (da_cons (de_tup (da_cons (de_callB (call_minD1 rfl hu) rfl B.min bv_min (da_cons (dv 10) da_nil)) (da_cons (de_callB (call_maxD1 rfl hu) rfl B.max bv_max (da_cons (dv 10) da_nil)) da_nil))) (da_cons de_int da_nil)))))) da_nil)) da_nil))))
    (dss_one (ds_ret (de_tup (da_cons (dv 3) (da_cons (de_callB (call_sortedD1 rfl hu) rfl B.sorted bv_sorted (da_cons (de_slice (de_call c_law_mixed hr (by decide) rfl (da_cons (dv 0) (da_cons (dv 9) da_nil))) do_none (do_some (dv 2))) da_nil)) da_nil)))))))))))
theorem w_Hall_around (s : Sps) (B : Bt mg) (G : Gt K mg) (c_check_room : CalD P w K mg base 3 2 "check_room" s.check_room) {f : Addr} {cdv : Value} {A : Around} {outer : List PySem.Env} {s0 : Shared} {H : Hp} {E : XK} (hr : Room 3 (A.deeper (envOfC "Hall.around" (defScope s_Hall_around) s0.heap.objs.size f cdv))) :
    DSs (cxOf CX0 P w K mg base N_Hall_around "Hall.around" (defScope s_Hall_around) f cdv A outer s0 H E).nox (defBody s_Hall_around) (b_Hall_around s) := by
  have hu : (A.deeper (envOfC "Hall.around" (defScope s_Hall_around) s0.heap.objs.size f cdv)).units + 65 < cLine := by have := hr.un; omega
  have hu64 : (A.deeper (envOfC "Hall.around" (defScope s_Hall_around) s0.heap.objs.size f cdv)).units + 64 < cLine := by omega
  have hu1 : (A.deeper (envOfC "Hall.around" (defScope s_Hall_around) s0.heap.objs.size f cdv)).units + 1 < cLine := by omega
  have hu2 : (A.deeper (envOfC "Hall.around" (defScope s_Hall_around) s0.heap.objs.size f cdv)).units + 2 < cLine := by omega
  exact (dss_cons (ds_expr (de_call c_check_room hr (by decide) rfl (da_cons (dv 0) (da_cons (dv 1) da_nil))))
    (dss_one (ds_ret (de_callTy call_listD1 rfl B.list bv_list (da_cons (de_ix hu1 (de_fld G.cls_Hall G.na_Hall_own_around (dv 0)) (dv 1) (fun _ _ => rfl)) da_nil)))))
theorem w_check_two (s : Sps) (B : Bt mg) (G : Gt K mg) (c_check_kind : CalD P w K mg base 4 2 "check_kind" s.check_kind) (c_check_lot : CalD P w K mg base 3 2 "check_lot" s.check_lot) {f : Addr} {cdv : Value} {A : Around} {outer : List PySem.Env} {s0 : Shared} {H : Hp} {E : XK} (hr : Room 4 (A.deeper (envOfC "check_two" (defScope s_check_two) s0.heap.objs.size f cdv))) :
    DSs (cxOf CX0 P w K mg base N_check_two "check_two" (defScope s_check_two) f cdv A outer s0 H E).nox (defBody s_check_two) (b_check_two s) := by
  have hu : (A.deeper (envOfC "check_two" (defScope s_check_two) s0.heap.objs.size f cdv)).units + 65 < cLine := by have := hr.un; omega
  have hu64 : (A.deeper (envOfC "check_two" (defScope s_check_two) s0.heap.objs.size f cdv)).units + 64 < cLine := by omega
  have hu1 : (A.deeper (envOfC "check_two" (defScope s_check_two) s0.heap.objs.size f cdv)).units + 1 < cLine := by omega
  have hu2 : (A.deeper (envOfC "check_two" (defScope s_check_two) s0.heap.objs.size f cdv)).units + 2 < cLine := by omega
  exact (dss_cons (ds_expr (de_call c_check_kind hr (by decide) rfl (da_cons (dv 0) (da_cons (dv 1) da_nil))))
    (dss_cons (ds_expr (de_call c_check_lot hr (by decide) rfl (da_cons (dv 0) (da_cons (dv 2) da_nil))))
    (dss_one (ds_expr (de_call c_check_lot hr (by decide) rfl (da_cons (dv 0) (da_cons (dv 3) da_nil)))))))
theorem w_told_of (s : Sps) (B : Bt mg) (G : Gt K mg) (c_Solved : MakD P w K mg base 3 1 "Solved" s.Solved) (c_is_even_with : CalD P w K mg base 1 2 "is_even_with" s.is_even_with) (c_touches_of : CalD P w K mg base 3 2 "touches_of" s.touches_of) (c_Solved_reduced : MetD P w K mg base 2 2 "Solved" "reduced" s.Solved_reduced) {f : Addr} {cdv : Value} {A : Around} {outer : List PySem.Env} {s0 : Shared} {H : Hp} {E : XK} (hr : Room 4 (A.deeper (envOfC "told_of" (defScope s_told_of) s0.heap.objs.size f cdv))) :
    DSs (cxOf CX0 P w K mg base N_told_of "told_of" (defScope s_told_of) f cdv A outer s0 H E).nox (defBody s_told_of) (b_told_of s) := by
  have hu : (A.deeper (envOfC "told_of" (defScope s_told_of) s0.heap.objs.size f cdv)).units + 65 < cLine := by have := hr.un; omega
  have hu64 : (A.deeper (envOfC "told_of" (defScope s_told_of) s0.heap.objs.size f cdv)).units + 64 < cLine := by omega
  have hu1 : (A.deeper (envOfC "told_of" (defScope s_told_of) s0.heap.objs.size f cdv)).units + 1 < cLine := by omega
  have hu2 : (A.deeper (envOfC "told_of" (defScope s_told_of) s0.heap.objs.size f cdv)).units + 2 < cLine := by omega
  exact (dss_cons (ds_set (i := 3) nd_told_of rfl (by first | exact Or.inl rfl | exact Or.inr rfl) (de_make c_Solved hr (by decide) rfl (da_cons (de_call c_touches_of hr (by decide) rfl (da_cons (dv 0) (da_cons (dv 1) da_nil))) da_nil)))
    (dss_cons (ds_asg (de_meth c_Solved_reduced hr (by decide) (dv 3) (da_cons (dv 2) da_nil)) (dg_tup rfl (dgs_cons (dg 4 nd_told_of) (dgs_cons (dg 5 nd_told_of) dgs_nil)) (tgCons_len (tgCons_len tgNil_len))))
    (dss_cons (ds_if (dt_cmp (op_eqDD hu64) (dv 4) (de_lst da_nil) (nomark _)) (dss_one (ds_ret (de_tup (da_cons de_str (da_cons (dv 5) da_nil))))) dss_nil)
    (dss_one (ds_ret (de_tup (da_cons de_str (da_cons (de_ix hu1 (dn_de (dn_lc (own := [("quiet", 6)]) rfl nd_told_of (di_any (de_fld G.cls_Solved G.na_Solved_own_quiet (dv 3))) (blkOk_by rfl) (tgN_in (by decide)) (fun _ _ _ _ _ => (dg 6 nd_told_of)) (fun _ _ _ _ _ => (dts_one (dt_not (dt_val (de_call c_is_even_with hr (by decide) rfl (da_cons (dv 6) (da_cons (dv 2) da_nil))))))) (fun _ _ _ _ _ => (dv 6)))) de_int (fun _ _ => rfl)) da_nil))))))))
theorem w_quiets (s : Sps) (B : Bt mg) (G : Gt K mg) (c_Solved : MakD P w K mg base 3 1 "Solved" s.Solved) (c_check_kind : CalD P w K mg base 4 2 "check_kind" s.check_kind) (c_sums_of : CalD P w K mg base 2 1 "sums_of" s.sums_of) (c_touches_of : CalD P w K mg base 3 2 "touches_of" s.touches_of) {f : Addr} {cdv : Value} {A : Around} {outer : List PySem.Env} {s0 : Shared} {H : Hp} {E : XK} (hr : Room 4 (A.deeper (envOfC "quiets" (defScope s_quiets) s0.heap.objs.size f cdv))) :
    DSs (cxOf CX0 P w K mg base N_quiets "quiets" (defScope s_quiets) f cdv A outer s0 H E).nox (defBody s_quiets) (b_quiets s) := by
  have hu : (A.deeper (envOfC "quiets" (defScope s_quiets) s0.heap.objs.size f cdv)).units + 65 < cLine := by have := hr.un; omega
  have hu64 : (A.deeper (envOfC "quiets" (defScope s_quiets) s0.heap.objs.size f cdv)).units + 64 < cLine := by omega
  have hu1 : (A.deeper (envOfC "quiets" (defScope s_quiets) s0.heap.objs.size f cdv)).units + 1 < cLine := by omega
  have hu2 : (A.deeper (envOfC "quiets" (defScope s_quiets) s0.heap.objs.size f cdv)).units + 2 < cLine := by omega
  exact (dss_cons (ds_expr (de_call c_check_kind hr (by decide) rfl (da_cons (dv 0) (da_cons (dv 1) da_nil))))
    (dss_one (ds_ret (de_call c_sums_of hr (by decide) rfl (da_cons (de_fld G.cls_Solved G.na_Solved_own_quiet (de_make c_Solved hr (by decide) rfl (da_cons (de_call c_touches_of hr (by decide) rfl (da_cons (dv 0) (da_cons (dv 1) da_nil))) da_nil))) da_nil)))))
theorem w_twins (s : Sps) (B : Bt mg) (G : Gt K mg) (c_check_kind : CalD P w K mg base 4 2 "check_kind" s.check_kind) (c_touches_of : CalD P w K mg base 3 2 "touches_of" s.touches_of) {f : Addr} {cdv : Value} {A : Around} {outer : List PySem.Env} {s0 : Shared} {H : Hp} {E : XK} (hr : Room 4 (A.deeper (envOfC "twins" (defScope s_twins) s0.heap.objs.size f cdv))) :
    PSs (cxOf CX0 P w K mg base N_twins "twins" (defScope s_twins) f cdv A outer s0 H E).nox (defBody s_twins) (tSN K (b_twins s)) := by
  have hu : (A.deeper (envOfC "twins" (defScope s_twins) s0.heap.objs.size f cdv)).units + 65 < cLine := by have := hr.un; omega
  have hu64 : (A.deeper (envOfC "twins" (defScope s_twins) s0.heap.objs.size f cdv)).units + 64 < cLine := by omega
  have hu1 : (A.deeper (envOfC "twins" (defScope s_twins) s0.heap.objs.size f cdv)).units + 1 < cLine := by omega
  have hu2 : (A.deeper (envOfC "twins" (defScope s_twins) s0.heap.objs.size f cdv)).units + 2 < cLine := by omega
  exact (dss_consN (ds_expr (de_call c_check_kind hr (by decide) rfl (da_cons (dv 0) (da_cons (dv 1) da_nil))))
    (dss_consN (ds_parC (i := 2) (j := 3) (w := (some false)) (w2 := none) rfl nd_twins rfl rfl (by first | exact Or.inl rfl | exact Or.inr rfl) (by first | exact Or.inl rfl | exact Or.inr rfl) (dn_lst da_nil) (de_call c_touches_of hr (by decide) rfl (da_cons (dv 0) (da_cons (dv 1) da_nil))))
    (dss_consN (ds_for PassesOwn.never rfl (di_enumA rfl B.enumerate (da_cons (de_fld G.cls_Hall G.na_Hall_own_rooms (dv 0)) da_nil)) (dg_tup rfl (dgs_cons (dg 4 nd_twins) (dgs_cons (dg 5 nd_twins) dgs_nil)) (tgCons_len (tgCons_len tgNil_len))) (dss_one (ds_ext (i := 2) rfl (by first | exact Or.inl rfl | exact Or.inr (Or.inl rfl)) (dn_de (dn_lc (own := [("other", 6)]) rfl nd_twins (di_any (de_slice (de_fld G.cls_Hall G.na_Hall_own_rooms (dv 0)) (do_some (de_op op_addD (dv 4) de_int)) do_none)) (blkOk_by rfl) (tgN_in (by decide)) (fun _ _ _ _ _ => (dg 6 nd_twins)) (fun _ _ _ _ _ => (dts_one (dt_cmp (op_eqDD hu64) (de_ix hu1 (dv 3) (dv 5) (fun _ _ => rfl)) (de_ix hu1 (dv 3) (dv 6) (fun _ _ => rfl)) (nomark _)))) (fun _ _ _ _ _ => (de_tup (da_cons (dv 5) (da_cons (dv 6) da_nil)))))))))
    (dss_retOwn (i := 2) rfl (by first | exact Or.inl rfl | exact Or.inr (Or.inl rfl))))))
theorem w_presses_or_watch (s : Sps) (B : Bt mg) (G : Gt K mg) (c_check_two : CalD P w K mg base 5 4 "check_two" s.check_two) (c_summed : CalD P w K mg base 1 2 "summed" s.summed) (c_told_of : CalD P w K mg base 5 3 "told_of" s.told_of) {f : Addr} {cdv : Value} {A : Around} {outer : List PySem.Env} {s0 : Shared} {H : Hp} {E : XK} (hr : Room 5 (A.deeper (envOfC "presses_or_watch" (defScope s_presses_or_watch) s0.heap.objs.size f cdv))) :
    DSs (cxOf CX0 P w K mg base N_presses_or_watch "presses_or_watch" (defScope s_presses_or_watch) f cdv A outer s0 H E).nox (defBody s_presses_or_watch) (b_presses_or_watch s) := by
  have hu : (A.deeper (envOfC "presses_or_watch" (defScope s_presses_or_watch) s0.heap.objs.size f cdv)).units + 65 < cLine := by have := hr.un; omega
  have hu64 : (A.deeper (envOfC "presses_or_watch" (defScope s_presses_or_watch) s0.heap.objs.size f cdv)).units + 64 < cLine := by omega
  have hu1 : (A.deeper (envOfC "presses_or_watch" (defScope s_presses_or_watch) s0.heap.objs.size f cdv)).units + 1 < cLine := by omega
  have hu2 : (A.deeper (envOfC "presses_or_watch" (defScope s_presses_or_watch) s0.heap.objs.size f cdv)).units + 2 < cLine := by omega
  exact (dss_cons (ds_expr (de_call c_check_two hr (by decide) rfl (da_cons (dv 0) (da_cons (dv 1) (da_cons (dv 2) (da_cons (dv 3) da_nil))))))
    (dss_one (ds_ret (de_call c_told_of hr (by decide) rfl (da_cons (dv 0) (da_cons (dv 1) (da_cons (de_call c_summed hr (by decide) rfl (da_cons (dv 2) (da_cons (dv 3) da_nil))) da_nil)))))))
theorem w_within (s : Sps) (B : Bt mg) (G : Gt K mg) (c_Hall : MakD P w K mg base 4 2 "Hall" s.Hall) {f : Addr} {cdv : Value} {A : Around} {outer : List PySem.Env} {s0 : Shared} {H : Hp} {E : XK} (hr : Room 5 (A.deeper (envOfC "within" (defScope s_within) s0.heap.objs.size f cdv))) :
    DSs (cxOf CX0 P w K mg base N_within "within" (defScope s_within) f cdv A outer s0 H E).nox (defBody s_within) (b_within s) := by
  have hu : (A.deeper (envOfC "within" (defScope s_within) s0.heap.objs.size f cdv)).units + 65 < cLine := by have := hr.un; omega
  have hu64 : (A.deeper (envOfC "within" (defScope s_within) s0.heap.objs.size f cdv)).units + 64 < cLine := by omega
  have hu1 : (A.deeper (envOfC "within" (defScope s_within) s0.heap.objs.size f cdv)).units + 1 < cLine := by omega
  have hu2 : (A.deeper (envOfC "within" (defScope s_within) s0.heap.objs.size f cdv)).units + 2 < cLine := by omega
  exact (dss_one (ds_ret (de_make c_Hall hr (by decide) rfl (da_cons (dv 1) (da_cons (dn_de (dn_lc (own := [("wire", 2)]) rfl nd_within (di_any (de_fld G.cls_Hall G.na_Hall_own_wires (dv 0))) (blkOk_by rfl) (tgN_in (by decide)) (fun _ _ _ _ _ => (dg 2 nd_within)) (fun _ _ _ _ _ => (dts_one (dt_w (dw_and (dt_cmp (op_inDD hu) (de_ix hu1 (dv 2) de_int (fun _ _ => rfl)) (dv 1) (by rfl)) (dw_and1 (dt_cmp (op_inDD hu) (de_ix hu1 (dv 2) de_int (fun _ _ => rfl)) (dv 1) (by rfl))))))) (fun _ _ _ _ _ => (dv 2)))) da_nil)))))
theorem w_without_rooms (s : Sps) (B : Bt mg) (G : Gt K mg) (c_check_hall : CalD P w K mg base 3 1 "check_hall" s.check_hall) (c_is_lot_of : CalD P w K mg base 2 2 "is_lot_of" s.is_lot_of) (c_within : CalD P w K mg base 6 2 "within" s.within) {f : Addr} {cdv : Value} {A : Around} {outer : List PySem.Env} {s0 : Shared} {H : Hp} {E : XK} (hr : Room 6 (A.deeper (envOfC "without_rooms" (defScope s_without_rooms) s0.heap.objs.size f cdv))) :
    DSs (cxOf CX0 P w K mg base N_without_rooms "without_rooms" (defScope s_without_rooms) f cdv A outer s0 H E).nox (defBody s_without_rooms) (b_without_rooms s) := by
  have hu : (A.deeper (envOfC "without_rooms" (defScope s_without_rooms) s0.heap.objs.size f cdv)).units + 65 < cLine := by have := hr.un; omega
  have hu64 : (A.deeper (envOfC "without_rooms" (defScope s_without_rooms) s0.heap.objs.size f cdv)).units + 64 < cLine := by omega
  have hu1 : (A.deeper (envOfC "without_rooms" (defScope s_without_rooms) s0.heap.objs.size f cdv)).units + 1 < cLine := by omega
  have hu2 : (A.deeper (envOfC "without_rooms" (defScope s_without_rooms) s0.heap.objs.size f cdv)).units + 2 < cLine := by omega
  exact (dss_cons (ds_expr (de_call c_check_hall hr (by decide) rfl (da_cons (dv 0) da_nil)))
    (dss_cons (ds_if (dt_w (dw_or (dt_not (dt_val (de_call c_is_lot_of hr (by decide) rfl (da_cons (dv 0) (da_cons (dv 1) da_nil))))) (dw_or1 (dt_cmp (op_eqDD hu64) (de_callB call_lenD1 rfl B.len bv_len (da_cons (dv 1) da_nil)) (de_callB call_lenD1 rfl B.len bv_len (da_cons (de_fld G.cls_Hall G.na_Hall_own_rooms (dv 0)) da_nil)) (nomark _))))) (dss_one ds_no) dss_nil)
    (dss_one (ds_ret (de_call c_within hr (by decide) rfl (da_cons (dv 0) (da_cons (dn_de (dn_lc (own := [("room", 2)]) rfl nd_without_rooms (di_any (de_fld G.cls_Hall G.na_Hall_own_rooms (dv 0))) (blkOk_by rfl) (tgN_in (by decide)) (fun _ _ _ _ _ => (dg 2 nd_without_rooms)) (fun _ _ _ _ _ => (dts_one (dt_cmp (op_notInDD hu) (dv 2) (dv 1) (by rfl)))) (fun _ _ _ _ _ => (dv 2)))) da_nil)))))))
theorem w_law_loose (s : Sps) (B : Bt mg) (G : Gt K mg) (c_law_draw : CalD P w K mg base 1 2 "_law_draw" s.law_draw) {j : Nat} (c_law_loose : CalD P w K mg base j 2 "_law_loose" s.law_loose) {f : Addr} {cdv : Value} {A : Around} {outer : List PySem.Env} {s0 : Shared} {H : Hp} {E : XK} (hr : Room (j + 1) (A.deeper (envOfC "_law_loose" (defScope s_law_loose) s0.heap.objs.size f cdv))) :
    DSs (cxOf CX0 P w K mg base N_law_loose "_law_loose" (defScope s_law_loose) f cdv A outer s0 H E).nox (defBody s_law_loose) (b_law_loose s) := by
  have hu : (A.deeper (envOfC "_law_loose" (defScope s_law_loose) s0.heap.objs.size f cdv)).units + 65 < cLine := by have := hr.un; omega
  have hu64 : (A.deeper (envOfC "_law_loose" (defScope s_law_loose) s0.heap.objs.size f cdv)).units + 64 < cLine := by omega
  have hu1 : (A.deeper (envOfC "_law_loose" (defScope s_law_loose) s0.heap.objs.size f cdv)).units + 1 < cLine := by omega
  have hu2 : (A.deeper (envOfC "_law_loose" (defScope s_law_loose) s0.heap.objs.size f cdv)).units + 2 < cLine := by omega
  exact (dss_cons (ds_if (dt_val (de_isiT (Ts := ["list", "tuple"]) rfl B.isinstance (dv 1) (pe_bty2 rfl B.list bv_list rfl B.tuple bv_tuple) (by decide))) (dss_cons (ds_setLc (i := 2) (own := [("one", 3)]) rfl nd_law_loose rfl rfl rfl (di_any (dv 1)) (blkOk_by rfl) (tgN_in (by decide)) (fun _ _ _ _ _ => (dg 3 nd_law_loose)) (fun _ _ _ _ _ => dts_nil) (fun _ _ _ _ _ => (de_call c_law_loose hr (by omega) rfl (da_cons (dv 0) (da_cons (dv 3) da_nil)))))
    (dss_one (ds_ret (de_ifExp (dt_cmp (op_eqDD hu64) (de_call c_law_draw hr (by omega) rfl (da_cons (dv 0) (da_cons de_int da_nil))) de_int (nomark _)) (dv 2) (de_callTy call_tupleD1 rfl B.tuple bv_tuple (da_cons (dv 2) da_nil)))))) dss_nil)
    (dss_one (ds_ret (dv 1))))
theorem w_law_same (s : Sps) (B : Bt mg) (G : Gt K mg) {j : Nat} (c_law_same : CalD P w K mg base j 2 "_law_same" s.law_same) {f : Addr} {cdv : Value} {A : Around} {outer : List PySem.Env} {s0 : Shared} {H : Hp} {E : XK} (hr : Room (j + 0) (A.deeper (envOfC "_law_same" (defScope s_law_same) s0.heap.objs.size f cdv))) :
    DSs (cxOf CX0 P w K mg base N_law_same "_law_same" (defScope s_law_same) f cdv A outer s0 H E).nox (defBody s_law_same) (b_law_same s) := by
  have hu : (A.deeper (envOfC "_law_same" (defScope s_law_same) s0.heap.objs.size f cdv)).units + 65 < cLine := by have := hr.un; omega
  have hu64 : (A.deeper (envOfC "_law_same" (defScope s_law_same) s0.heap.objs.size f cdv)).units + 64 < cLine := by omega
  have hu1 : (A.deeper (envOfC "_law_same" (defScope s_law_same) s0.heap.objs.size f cdv)).units + 1 < cLine := by omega
  have hu2 : (A.deeper (envOfC "_law_same" (defScope s_law_same) s0.heap.objs.size f cdv)).units + 2 < cLine := by omega
  exact (dss_cons (ds_if (dt_val (de_isiT (Ts := ["list", "tuple"]) rfl B.isinstance (dv 1) (pe_bty2 rfl B.list bv_list rfl B.tuple bv_tuple) (by decide))) (dss_cons (ds_if (dt_w (dw_or (dt_cmp (op_neDD hu64) (de_isi1 rfl B.isinstance (dv 0) (pe_bty rfl B.list bv_list) (by decide)) (de_isi1 rfl B.isinstance (dv 1) (pe_bty rfl B.list bv_list) (by decide)) (nomark _)) (dw_or1 (dt_cmp (op_neDD hu64) (de_isi1 rfl B.isinstance (dv 0) (pe_bty rfl B.tuple bv_tuple) (by decide)) (de_isi1 rfl B.isinstance (dv 1) (pe_bty rfl B.tuple bv_tuple) (by decide)) (nomark _))))) (dss_one (ds_ret de_bl)) dss_nil)
    (dss_one (ds_ret (de_and (de_cmp (op_eqDD hu64) (de_callB call_lenD1 rfl B.len bv_len (da_cons (dv 0) da_nil)) (de_callB call_lenD1 rfl B.len bv_len (da_cons (dv 1) da_nil)) (nomark _)) (de_one (de_callB (call_allD1 rfl) rfl B.all bv_all (da_cons (dn_de (dn_lc (own := [("mine", 2), ("theirs", 3)]) rfl nd_law_same (di_zip rfl B.zip (da_cons (dv 0) (da_cons (dv 1) da_nil))) (blkOk_by rfl) (tgT_in (tgCons_in (tgN_in (by decide)) (tgCons_in (tgN_in (by decide)) tgNil_in))) (fun _ _ _ _ _ => (dg_tup rfl (dgs_cons (dg 2 nd_law_same) (dgs_cons (dg 3 nd_law_same) dgs_nil)) (tgCons_len (tgCons_len tgNil_len)))) (fun _ _ _ _ _ => dts_nil) (fun _ _ _ _ _ => (de_call c_law_same hr (by omega) rfl (da_cons (dv 2) (da_cons (dv 3) da_nil)))))) da_nil))))))) dss_nil)
    (dss_cons (ds_if (dt_val (de_isi1 rfl B.isinstance (dv 1) (pe_bty rfl B.dict bv_dict) (by decide))) (dss_one ds_no) dss_nil)
    (dss_cons (ds_if (dt_w (dw_or (dt_val (de_isi1 rfl B.isinstance (dv 1) (pe_bty rfl B.bool bv_bool) (by decide))) (dw_or1 (dt_val (de_isi1 rfl B.isinstance (dv 0) (pe_bty rfl B.bool bv_bool) (by decide)))))) (dss_one (ds_ret (de_and (de_isi1 rfl B.isinstance (dv 1) (pe_bty rfl B.bool bv_bool) (by decide)) (de_and (de_isi1 rfl B.isinstance (dv 0) (pe_bty rfl B.bool bv_bool) (by decide)) (de_one (de_cmp (op_eqDD hu64) (dv 0) (dv 1) (nomark _))))))) dss_nil)
    (dss_cons (ds_if (dt_w (dw_or (dt_cmp op_isND (dv 1) de_non (nomark _)) (dw_or1 (dt_cmp op_isND (dv 0) de_non (nomark _))))) (dss_one (ds_ret (de_and (de_cmp op_isND (dv 1) de_non (nomark _)) (de_one (de_cmp op_isND (dv 0) de_non (nomark _)))))) dss_nil)
    (dss_cons (ds_if (dt_w (dw_or (dt_cmp (op_neDD hu64) (de_isi1 rfl B.isinstance (dv 1) (pe_bty rfl B.int bv_int) (by decide)) (de_isi1 rfl B.isinstance (dv 0) (pe_bty rfl B.int bv_int) (by decide)) (nomark _)) (dw_or1 (dt_cmp (op_neDD hu64) (de_isi1 rfl B.isinstance (dv 1) (pe_bty rfl B.str bv_str) (by decide)) (de_isi1 rfl B.isinstance (dv 0) (pe_bty rfl B.str bv_str) (by decide)) (nomark _))))) (dss_one (ds_ret de_bl)) dss_nil)
    (dss_one (ds_ret (de_and (de_not (de_isiT (Ts := ["list", "tuple", "dict"]) rfl B.isinstance (dv 0) (pe_bty3 rfl B.list bv_list rfl B.tuple bv_tuple rfl B.dict bv_dict) (by decide))) (de_one (de_cmp (op_eqDD hu64) (dv 0) (dv 1) (nomark _)))))))))))
theorem w_law_made (s : Sps) (B : Bt mg) (G : Gt K mg) (c_Hall : MakD P w K mg base 4 2 "Hall" s.Hall) (c_law_loose : CalD P w K mg base 9 2 "_law_loose" s.law_loose) (c_law_mixed : CalD P w K mg base 2 2 "_law_mixed" s.law_mixed) {f : Addr} {cdv : Value} {A : Around} {outer : List PySem.Env} {s0 : Shared} {H : Hp} {E : XK} (hr : Room 9 (A.deeper (envOfC "_law_made" (defScope s_law_made) s0.heap.objs.size f cdv))) :
    DSs (cxOf CX0 P w K mg base N_law_made "_law_made" (defScope s_law_made) f cdv A outer s0 H E).nox (defBody s_law_made) (b_law_made s) := by
  have hu : (A.deeper (envOfC "_law_made" (defScope s_law_made) s0.heap.objs.size f cdv)).units + 65 < cLine := by have := hr.un; omega
  have hu64 : (A.deeper (envOfC "_law_made" (defScope s_law_made) s0.heap.objs.size f cdv)).units + 64 < cLine := by omega
  have hu1 : (A.deeper (envOfC "_law_made" (defScope s_law_made) s0.heap.objs.size f cdv)).units + 1 < cLine := by omega
  have hu2 : (A.deeper (envOfC "_law_made" (defScope s_law_made) s0.heap.objs.size f cdv)).units + 2 < cLine := by omega
  exact (dss_cons (ds_setLc (i := 2) (own := [("wire", 3)]) rfl nd_law_made rfl rfl rfl (di_any (de_ix hu1 (dv 1) de_int (fun _ _ => rfl))) (blkOk_by rfl) (tgN_in (by decide)) (fun _ _ _ _ _ => (dg 3 nd_law_made)) (fun _ _ _ _ _ => dts_nil) (fun _ _ _ _ _ => (de_call c_law_loose hr (by decide) rfl (da_cons (dv 0) (da_cons (de_callTy call_tupleD1 rfl B.tuple bv_tuple (da_cons (de_call c_law_mixed hr (by decide) rfl (da_cons (dv 0) (da_cons (de_callTy call_listD1 rfl B.list bv_list (da_cons (dv 3) da_nil)) da_nil))) da_nil)) da_nil)))))
    (dss_one (ds_ret (de_make c_Hall hr (by decide) rfl (da_cons (de_call c_law_loose hr (by decide) rfl (da_cons (dv 0) (da_cons (de_call c_law_mixed hr (by decide) rfl (da_cons (dv 0) (da_cons (de_ix hu1 (dv 1) de_int (fun _ _ => rfl)) da_nil))) da_nil))) (da_cons (de_call c_law_loose hr (by decide) rfl (da_cons (dv 0) (da_cons (de_call c_law_mixed hr (by decide) rfl (da_cons (dv 0) (da_cons (dv 2) da_nil))) da_nil))) da_nil))))))
theorem w_law_lots_right (s : Sps) (B : Bt mg) (G : Gt K mg) (c_law_loose : CalD P w K mg base 9 2 "_law_loose" s.law_loose) (c_law_lot : CalD P w K mg base 3 2 "_law_lot" s.law_lot) (c_law_same : CalD P w K mg base 10 2 "_law_same" s.law_same) (c_law_without : CalD P w K mg base 1 2 "_law_without" s.law_without) (c_without_rooms : CalD P w K mg base 7 2 "without_rooms" s.without_rooms) (c_without_rooms_K10 : CalK P w K mg base 7 2 "without_rooms" ["lot", "hall"] [1, 0] s.without_rooms) (c_Hall_rooms : MetD P w K mg base 1 1 "Hall" "rooms" s.Hall_rooms) (c_Hall_wires : MetD P w K mg base 1 1 "Hall" "wires" s.Hall_wires) {f : Addr} {cdv : Value} {A : Around} {outer : List PySem.Env} {s0 : Shared} {H : Hp} {E : XK} (hgd : A.guards = some []) (hr : Room 10 (A.deeper (envOfC "_law_lots_right" (defScope s_law_lots_right) s0.heap.objs.size f cdv))) :
    DSs (cxOf CX0 P w K mg base N_law_lots_right "_law_lots_right" (defScope s_law_lots_right) f cdv A outer s0 H E).nox (defBody s_law_lots_right) (b_law_lots_right s) := by
  have hu : (A.deeper (envOfC "_law_lots_right" (defScope s_law_lots_right) s0.heap.objs.size f cdv)).units + 65 < cLine := by have := hr.un; omega
  have hu64 : (A.deeper (envOfC "_law_lots_right" (defScope s_law_lots_right) s0.heap.objs.size f cdv)).units + 64 < cLine := by omega
  have hu1 : (A.deeper (envOfC "_law_lots_right" (defScope s_law_lots_right) s0.heap.objs.size f cdv)).units + 1 < cLine := by omega
  have hu2 : (A.deeper (envOfC "_law_lots_right" (defScope s_law_lots_right) s0.heap.objs.size f cdv)).units + 2 < cLine := by omega
  have hgd : (cxOf CX0 P w K mg base N_law_lots_right "_law_lots_right" (defScope s_law_lots_right) f cdv A outer s0 H E).nox.A.guards = some [] := (deeper_guards A _).trans hgd
  exact (dss_cons (ds_setLc (i := 3) (own := [("room", 4)]) rfl nd_law_lots_right rfl rfl rfl (di_any (de_call c_law_lot hr (by decide) rfl (da_cons (dv 0) (da_cons (dv 1) da_nil)))) (blkOk_by rfl) (tgN_in (by decide)) (fun _ _ _ _ _ => (dg 4 nd_law_lots_right)) (fun _ _ _ _ _ => (dts_one (dt_cmp (op_neDD hu64) (dv 4) (de_ix hu1 (de_ix hu1 (dv 1) de_int (fun _ _ => rfl)) (de_neg de_int) (fun _ _ => rfl)) (nomark _)))) (fun _ _ _ _ _ => (dv 4)))
    (dss_cons (ds_par (i := 5) (j := 6) (w := none) (w2 := none) rfl nd_law_lots_right rfl rfl (by decide) rfl rfl (de_call c_law_without hr (by decide) rfl (da_cons (dv 1) (da_cons (dv 3) da_nil))) (de_call c_law_loose hr (by decide) rfl (da_cons (dv 0) (da_cons (dv 3) da_nil))))
    (dss_cons (ds_par (i := 7) (j := 8) (w := none) (w2 := none) rfl nd_law_lots_right rfl rfl (by decide) rfl rfl (de_callB (call_reprD1 hgd hu) rfl B.repr bv_repr (da_cons (dv 6) da_nil)) (de_lst (da_cons (de_call c_without_rooms hr (by decide) rfl (da_cons (dv 2) (da_cons (dv 6) da_nil))) (da_cons (de_callK c_without_rooms_K10 hr (by decide) rfl (dk_cons (de_callTy call_listD1 rfl B.list bv_list (da_cons (dv 3) da_nil)) (dk_cons (dv 2) dk_nil))) da_nil))))
    (dss_one (ds_ret (de_and (de_call c_law_same hr (by decide) rfl (da_cons (dn_de (dn_lc (own := [("one", 9)]) rfl nd_law_lots_right (di_any (dv 8)) (blkOk_by rfl) (tgN_in (by decide)) (fun _ _ _ _ _ => (dg 9 nd_law_lots_right)) (fun _ _ _ _ _ => dts_nil) (fun _ _ _ _ _ => (de_lst (da_cons (de_meth0 c_Hall_rooms hr (by decide) (dv 9)) (da_cons (de_meth0 c_Hall_wires hr (by decide) (dv 9)) da_nil)))))) (da_cons (de_op op_mulD (de_lst (da_cons (de_lst (da_cons (de_ix hu1 (dv 5) de_int (fun _ _ => rfl)) (da_cons (de_ix hu1 (dv 5) de_int (fun _ _ => rfl)) da_nil))) da_nil)) de_int) da_nil))) (de_one (de_cmp (op_eqDD hu64) (de_callB (call_reprD1 hgd hu) rfl B.repr bv_repr (da_cons (dv 6) da_nil)) (dv 7) (nomark _)))))))))
theorem w_law_twins_right (s : Sps) (B : Bt mg) (G : Gt K mg) (c_law_behind : CalD P w K mg base 3 4 "_law_behind" s.law_behind) (c_law_draw : CalD P w K mg base 1 2 "_law_draw" s.law_draw) (c_law_lot : CalD P w K mg base 3 2 "_law_lot" s.law_lot) (c_law_mixed : CalD P w K mg base 2 2 "_law_mixed" s.law_mixed) (c_law_quiets : CalD P w K mg base 4 2 "_law_quiets" s.law_quiets) (c_law_same : CalD P w K mg base 10 2 "_law_same" s.law_same) (c_law_touch : CalD P w K mg base 2 3 "_law_touch" s.law_touch) (c_law_without : CalD P w K mg base 1 2 "_law_without" s.law_without) (c_presses_or_watch : CalD P w K mg base 6 4 "presses_or_watch" s.presses_or_watch) (c_quiets : CalD P w K mg base 5 2 "quiets" s.quiets) (c_twins : CalN P w K mg base 5 2 false "twins" s.twins) (c_without_rooms : CalD P w K mg base 7 2 "without_rooms" s.without_rooms) (c_twins_K10 : CalKN P w K mg base 5 2 false "twins" ["kind", "hall"] [1, 0] s.twins) (c_law_spoilt : CalR P w K mg base 4 "_law_spoilt" (spSpo 3)) {f : Addr} {cdv : Value} {A : Around} {outer : List PySem.Env} {s0 : Shared} {H : Hp} {E : XK} (hr : Room 10 (A.deeper (envOfC "_law_twins_right" (defScope s_law_twins_right) s0.heap.objs.size f cdv))) :
    DSs (cxOf CX0 P w K mg base N_law_twins_right "_law_twins_right" (defScope s_law_twins_right) f cdv A outer s0 H E).nox (defBody s_law_twins_right) (b_law_twins_right s) := by
  have hu : (A.deeper (envOfC "_law_twins_right" (defScope s_law_twins_right) s0.heap.objs.size f cdv)).units + 65 < cLine := by have := hr.un; omega
  have hu64 : (A.deeper (envOfC "_law_twins_right" (defScope s_law_twins_right) s0.heap.objs.size f cdv)).units + 64 < cLine := by omega
  have hu1 : (A.deeper (envOfC "_law_twins_right" (defScope s_law_twins_right) s0.heap.objs.size f cdv)).units + 1 < cLine := by omega
  have hu2 : (A.deeper (envOfC "_law_twins_right" (defScope s_law_twins_right) s0.heap.objs.size f cdv)).units + 2 < cLine := by omega
  exact (dss_cons (ds_own (i := 4) nd_law_twins_right rfl (by first | exact Or.inl rfl | exact Or.inr rfl) (dn_lst da_nil))
    (dss_cons (ds_for PassesOwn.never rfl (di_enumA rfl B.enumerate (da_cons (de_ix hu1 (dv 1) de_int (fun _ _ => rfl)) da_nil)) (dg_tup rfl (dgs_cons (dg 5 nd_law_twins_right) (dgs_cons (dg 6 nd_law_twins_right) dgs_nil)) (tgCons_len (tgCons_len tgNil_len))) (dss_one (ds_ext (i := 4) rfl (by first | exact Or.inl rfl | exact Or.inr (Or.inl rfl)) (dn_de (dn_lc (own := [("other", 7)]) rfl nd_law_twins_right (di_any (de_slice (de_ix hu1 (dv 1) de_int (fun _ _ => rfl)) (do_some (de_op op_addD (dv 5) de_int)) do_none)) (blkOk_by rfl) (tgN_in (by decide)) (fun _ _ _ _ _ => (dg 7 nd_law_twins_right)) (fun _ _ _ _ _ => (dts_one (dt_cmp (op_eqDD hu64) (de_call c_law_touch hr (by decide) rfl (da_cons (dv 1) (da_cons (dv 3) (da_cons (dv 6) da_nil)))) (de_call c_law_touch hr (by decide) rfl (da_cons (dv 1) (da_cons (dv 3) (da_cons (dv 7) da_nil)))) (nomark _)))) (fun _ _ _ _ _ => (de_tup (da_cons (dv 6) (da_cons (dv 7) da_nil)))))))))
    (dss_spoil (i := 8) nd_law_twins_right rfl (by first | exact Or.inl rfl | exact Or.inr rfl) (by first | exact Or.inl rfl | exact Or.inr (Or.inl rfl)) (by first | exact .inl rfl | exact .inr rfl) (dn_call c_twins hr (by decide) rfl (da_cons (dv 2) (da_cons (dv 3) da_nil))) (dn_callK c_twins_K10 hr (by decide) rfl (dk_cons (dv 3) (dk_cons (dv 2) dk_nil))) (dt_not (dt_val (de_call c_law_same hr (by decide) rfl (da_cons (dv 8) (da_cons (de_lst (da_cons (dv 4) (da_cons (dv 4) da_nil))) da_nil))))) c_law_spoilt hr (by decide) rfl
    (dss_cons (ds_frz (i := 4) (ds_for PassesOwn.never rfl (di_any (de_slice (de_call c_law_mixed hr (by decide) rfl (da_cons (dv 0) (da_cons (dv 4) da_nil))) do_none (do_some de_int))) (dg_tup rfl (dgs_cons (dg 6 nd_law_twins_right) (dgs_cons (dg 7 nd_law_twins_right) dgs_nil)) (tgCons_len (tgCons_len tgNil_len))) (dss_cons (ds_asg (de_ifExp (dt_cmp (op_eqDD hu64) (de_call c_law_draw hr (by decide) rfl (da_cons (dv 0) (da_cons de_int da_nil))) de_int (nomark _)) (de_tup (da_cons (dv 6) (da_cons (dv 7) da_nil))) (de_tup (da_cons (dv 7) (da_cons (dv 6) da_nil)))) (dg_tup rfl (dgs_cons (dg 9 nd_law_twins_right) (dgs_cons (dg 10 nd_law_twins_right) dgs_nil)) (tgCons_len (tgCons_len tgNil_len))))
    (dss_cons (ds_set (i := 11) nd_law_twins_right rfl (by first | exact Or.inl rfl | exact Or.inr rfl) (de_call c_law_without hr (by decide) rfl (da_cons (dv 1) (da_cons (de_lst (da_cons (dv 9) da_nil)) da_nil))))
    (dss_cons (ds_set (i := 12) nd_law_twins_right rfl (by first | exact Or.inl rfl | exact Or.inr rfl) (de_call c_without_rooms hr (by decide) rfl (da_cons (dv 2) (da_cons (de_lst (da_cons (dv 9) da_nil)) da_nil))))
    (dss_cons (ds_if (dt_w (dw_or (dt_cmp (op_neDD hu64) (de_op op_mulD de_int (de_callB call_lenD1 rfl B.len bv_len (da_cons (de_call c_quiets hr (by decide) rfl (da_cons (dv 12) (da_cons (dv 3) da_nil))) da_nil))) (de_callB call_lenD1 rfl B.len bv_len (da_cons (de_call c_quiets hr (by decide) rfl (da_cons (dv 2) (da_cons (dv 3) da_nil))) da_nil)) (nomark _)) (dw_or1 (dt_cmp (op_neDD hu64) (de_callB call_lenD1 rfl B.len bv_len (da_cons (de_call c_quiets hr (by decide) rfl (da_cons (dv 12) (da_cons (dv 3) da_nil))) da_nil)) (de_callB call_lenD1 rfl B.len bv_len (da_cons (de_call c_law_quiets hr (by decide) rfl (da_cons (dv 11) (da_cons (dv 3) da_nil))) da_nil)) (nomark _))))) (dss_one (ds_ret de_bl)) dss_nil)
    (dss_one (ds_for PassesOwn.never rfl (di_range1 rfl B.range (da_cons de_int da_nil)) (dg 13 nd_law_twins_right) (dss_cons (ds_set (i := 14) nd_law_twins_right rfl (by first | exact Or.inl rfl | exact Or.inr rfl) (de_ifExp (dt_cmp op_gtD (dv 13) de_int (nomark _)) (de_call c_law_lot hr (by decide) rfl (da_cons (dv 0) (da_cons (dv 1) da_nil))) (de_call c_law_behind hr (by decide) rfl (da_cons (dv 1) (da_cons (dv 3) (da_cons (de_lst da_nil) (da_cons (de_call c_law_lot hr (by decide) rfl (da_cons (dv 0) (da_cons (dv 1) da_nil))) da_nil)))))))
    (dss_cons (ds_set (i := 15) nd_law_twins_right rfl (by first | exact Or.inl rfl | exact Or.inr rfl) (de_ix hu1 (de_call c_presses_or_watch hr (by decide) rfl (da_cons (dv 2) (da_cons (dv 3) (da_cons (de_lst da_nil) (da_cons (de_callTy call_listD1 rfl B.list bv_list (da_cons (dv 14) da_nil)) da_nil))))) de_int (fun _ _ => rfl)))
    (dss_cons (ds_set (i := 16) nd_law_twins_right rfl (by first | exact Or.inl rfl | exact Or.inr rfl) (de_ix hu1 (de_call c_presses_or_watch hr (by decide) rfl (da_cons (dv 12) (da_cons (dv 3) (da_cons (de_lst da_nil) (da_cons (dn_de (dn_lc (own := [("room", 17)]) rfl nd_law_twins_right (di_any (dv 14)) (blkOk_by rfl) (tgN_in (by decide)) (fun _ _ _ _ _ => (dg 17 nd_law_twins_right)) (fun _ _ _ _ _ => (dts_one (dt_cmp (op_neDD hu64) (dv 17) (dv 9) (nomark _)))) (fun _ _ _ _ _ => (dv 17)))) da_nil))))) de_int (fun _ _ => rfl)))
    (dss_cons (ds_set (i := 18) nd_law_twins_right rfl (by first | exact Or.inl rfl | exact Or.inr rfl) (de_and (de_cmp (op_eqDD hu64) (de_cmp (op_inDD hu) (dv 9) (dv 14) (by rfl)) (de_cmp (op_inDD hu) (dv 10) (dv 14) (by rfl)) (nomark _)) (de_one (de_cmp (op_eqDD hu64) (dv 16) de_str (nomark _)))))
    (dss_one (ds_if (dt_not (dt_val (de_call c_law_same hr (by decide) rfl (da_cons (dv 15) (da_cons (de_ifExp (dt_val (dv 18)) de_str de_str) da_nil))))) (dss_one (ds_ret de_bl)) dss_nil))))))))))))))
    (dss_one (ds_ret de_bl))))))
theorem w_law_ends_right (s : Sps) (B : Bt mg) (G : Gt K mg) (c_law_around : CalD P w K mg base 1 2 "_law_around" s.law_around) (c_law_quiets : CalD P w K mg base 4 2 "_law_quiets" s.law_quiets) (c_law_same : CalD P w K mg base 10 2 "_law_same" s.law_same) (c_law_without : CalD P w K mg base 1 2 "_law_without" s.law_without) (c_ends : CalN P w K mg base 4 1 false "ends" s.ends) (c_quiets : CalD P w K mg base 5 2 "quiets" s.quiets) (c_without_rooms : CalD P w K mg base 7 2 "without_rooms" s.without_rooms) (c_ends_K0 : CalKN P w K mg base 4 1 false "ends" ["hall"] [0] s.ends) (c_law_spoilt : CalR P w K mg base 4 "_law_spoilt" (spSpo 3)) {f : Addr} {cdv : Value} {A : Around} {outer : List PySem.Env} {s0 : Shared} {H : Hp} {E : XK} (hr : Room 10 (A.deeper (envOfC "_law_ends_right" (defScope s_law_ends_right) s0.heap.objs.size f cdv))) :
    DSs (cxOf CX0 P w K mg base N_law_ends_right "_law_ends_right" (defScope s_law_ends_right) f cdv A outer s0 H E).nox (defBody s_law_ends_right) (b_law_ends_right s) := by
  have hu : (A.deeper (envOfC "_law_ends_right" (defScope s_law_ends_right) s0.heap.objs.size f cdv)).units + 65 < cLine := by have := hr.un; omega
  have hu64 : (A.deeper (envOfC "_law_ends_right" (defScope s_law_ends_right) s0.heap.objs.size f cdv)).units + 64 < cLine := by omega
  have hu1 : (A.deeper (envOfC "_law_ends_right" (defScope s_law_ends_right) s0.heap.objs.size f cdv)).units + 1 < cLine := by omega
  have hu2 : (A.deeper (envOfC "_law_ends_right" (defScope s_law_ends_right) s0.heap.objs.size f cdv)).units + 2 < cLine := by omega
  exact (dss_cons (ds_setLc (i := 2) (own := [("room", 3)]) rfl nd_law_ends_right rfl rfl rfl (di_any (de_ix hu1 (dv 0) de_int (fun _ _ => rfl))) (blkOk_by rfl) (tgN_in (by decide)) (fun _ _ _ _ _ => (dg 3 nd_law_ends_right)) (fun _ _ _ _ _ => dts_nil) (fun _ _ _ _ _ => (de_tup (da_cons (dv 3) (da_cons (de_call c_law_around hr (by decide) rfl (da_cons (dv 0) (da_cons (dv 3) da_nil))) da_nil)))))
    (dss_cons (ds_setLc (i := 4) (own := [("room", 3), ("around", 5)]) rfl nd_law_ends_right rfl rfl rfl (di_any (dv 2)) (blkOk_by rfl) (tgT_in (tgCons_in (tgN_in (by decide)) (tgCons_in (tgN_in (by decide)) tgNil_in))) (fun _ _ _ _ _ => (dg_tup rfl (dgs_cons (dg 3 nd_law_ends_right) (dgs_cons (dg 5 nd_law_ends_right) dgs_nil)) (tgCons_len (tgCons_len tgNil_len)))) (fun _ _ _ _ _ => (dts_one (dt_cmp (op_eqDD hu64) (de_callB call_lenD1 rfl B.len bv_len (da_cons (dv 5) da_nil)) de_int (nomark _)))) (fun _ _ _ _ _ => (de_tup (da_cons (dv 3) (da_cons (de_ix hu1 (dv 5) de_int (fun _ _ => rfl)) da_nil)))))
    (dss_spoil (i := 6) nd_law_ends_right rfl (by first | exact Or.inl rfl | exact Or.inr rfl) (by first | exact Or.inl rfl | exact Or.inr (Or.inl rfl)) (by first | exact .inl rfl | exact .inr rfl) (dn_call c_ends hr (by decide) rfl (da_cons (dv 1) da_nil)) (dn_callK c_ends_K0 hr (by decide) rfl (dk_cons (dv 1) dk_nil)) (dt_not (dt_val (de_call c_law_same hr (by decide) rfl (da_cons (dv 6) (da_cons (de_lst (da_cons (dv 4) (da_cons (dv 4) da_nil))) da_nil))))) c_law_spoilt hr (by decide) rfl
    (dss_cons (ds_set (i := 7) nd_law_ends_right rfl (by first | exact Or.inl rfl | exact Or.inr rfl) (de_call c_quiets hr (by decide) rfl (da_cons (dv 1) (da_cons de_str da_nil))))
    (dss_cons (ds_for PassesOwn.never rfl (di_any (de_slice (dv 4) do_none (do_some de_int))) (dg_tup rfl (dgs_cons (dg 8 nd_law_ends_right) (dgs_cons (dg 9 nd_law_ends_right) dgs_nil)) (tgCons_len (tgCons_len tgNil_len))) (dss_cons (ds_if (dt_val (de_callB (call_anyD1 rfl) rfl B.any bv_any (da_cons (dn_de (dn_lc (own := [("lot", 10)]) rfl nd_law_ends_right (di_any (dv 7)) (blkOk_by rfl) (tgN_in (by decide)) (fun _ _ _ _ _ => (dg 10 nd_law_ends_right)) (fun _ _ _ _ _ => dts_nil) (fun _ _ _ _ _ => (de_cmp (op_inDD hu) (dv 9) (dv 10) (by rfl))))) da_nil))) (dss_one (ds_ret de_bl)) dss_nil)
    (dss_one (ds_if (dt_cmp op_gtD (de_callB call_lenD1 rfl B.len bv_len (da_cons (de_ix hu1 (dv 0) de_int (fun _ _ => rfl)) da_nil)) de_int (nomark _)) (dss_cons (ds_set (i := 11) nd_law_ends_right rfl (by first | exact Or.inl rfl | exact Or.inr rfl) (de_call c_law_without hr (by decide) rfl (da_cons (dv 0) (da_cons (de_lst (da_cons (dv 8) (da_cons (dv 9) da_nil))) da_nil))))
    (dss_cons (ds_set (i := 12) nd_law_ends_right rfl (by first | exact Or.inl rfl | exact Or.inr rfl) (de_call c_without_rooms hr (by decide) rfl (da_cons (dv 1) (da_cons (de_callB (call_sortedD1 rfl hu) rfl B.sorted bv_sorted (da_cons (de_lst (da_cons (dv 8) (da_cons (dv 9) da_nil))) da_nil)) da_nil))))
    (dss_one (ds_if (dt_w (dw_or (dt_cmp (op_neDD hu64) (de_callB call_lenD1 rfl B.len bv_len (da_cons (de_call c_quiets hr (by decide) rfl (da_cons (dv 12) (da_cons de_str da_nil))) da_nil)) (de_callB call_lenD1 rfl B.len bv_len (da_cons (dv 7) da_nil)) (nomark _)) (dw_or1 (dt_cmp (op_neDD hu64) (de_callB call_lenD1 rfl B.len bv_len (da_cons (de_call c_law_quiets hr (by decide) rfl (da_cons (dv 11) (da_cons de_str da_nil))) da_nil)) (de_callB call_lenD1 rfl B.len bv_len (da_cons (dv 7) da_nil)) (nomark _))))) (dss_one (ds_ret de_bl)) dss_nil)))) dss_nil))))
    (dss_one (ds_ret (de_call c_law_same hr (by decide) rfl (da_cons (dn_de (dn_call c_ends hr (by decide) rfl (da_cons (dv 1) da_nil))) (da_cons (dv 4) da_nil))))))))))
theorem w_law (s : Sps) (B : Bt mg) (G : Gt K mg) (c_Hall : MakD P w K mg base 4 2 "Hall" s.Hall) (c_law_ends_right : CalD P w K mg base 11 2 "_law_ends_right" s.law_ends_right) (c_law_hall : CalD P w K mg base 4 3 "_law_hall" s.law_hall) (c_law_lots_right : CalG P w K mg base 11 3 "_law_lots_right" s.law_lots_right) (c_law_made : CalD P w K mg base 10 2 "_law_made" s.law_made) (c_law_pick : CalD P w K mg base 2 2 "_law_pick" s.law_pick) (c_law_same : CalD P w K mg base 10 2 "_law_same" s.law_same) (c_law_twins_right : CalD P w K mg base 11 4 "_law_twins_right" s.law_twins_right) (c_law_with : CalD P w K mg base 3 3 "_law_with" s.law_with) (c_ends : CalN P w K mg base 4 1 false "ends" s.ends) (c_twins : CalN P w K mg base 5 2 false "twins" s.twins) (c_without_rooms : CalD P w K mg base 7 2 "without_rooms" s.without_rooms) (c_Hall_wires : MetD P w K mg base 1 1 "Hall" "wires" s.Hall_wires) {f : Addr} {cdv : Value} {A : Around} {outer : List PySem.Env} {s0 : Shared} {H : Hp} {E : XK} (hgd : A.guards = some []) (hr : Room 11 (A.deeper (envOfC "law" (defScope s_law) s0.heap.objs.size f cdv))) :
    DSs (cxOf CX0 P w K mg base N_law "law" (defScope s_law) f cdv A outer s0 H E).nox (defBody s_law).tail (b_law s) := by
  have hu : (A.deeper (envOfC "law" (defScope s_law) s0.heap.objs.size f cdv)).units + 65 < cLine := by have := hr.un; omega
  have hu64 : (A.deeper (envOfC "law" (defScope s_law) s0.heap.objs.size f cdv)).units + 64 < cLine := by omega
  have hu1 : (A.deeper (envOfC "law" (defScope s_law) s0.heap.objs.size f cdv)).units + 1 < cLine := by omega
  have hu2 : (A.deeper (envOfC "law" (defScope s_law) s0.heap.objs.size f cdv)).units + 2 < cLine := by omega
  have hgd : (cxOf CX0 P w K mg base N_law "law" (defScope s_law) f cdv A outer s0 H E).nox.A.guards = some [] := (deeper_guards A _).trans hgd
  exact (dss_cons (ds_for PassesOwn.never rfl (di_range1 rfl B.range (da_cons de_int da_nil)) (dg 2 nd_law) (dss_cons (ds_set (i := 3) nd_law rfl (by first | exact Or.inl rfl | exact Or.inr rfl) (de_call c_law_pick hr (by decide) rfl (da_cons (dv 1) (da_cons (de_lst (da_cons de_str (da_cons de_str da_nil))) da_nil))))
    (dss_cons (ds_set (i := 4) nd_law rfl (by first | exact Or.inl rfl | exact Or.inr rfl) (de_call c_law_with hr (by decide) rfl (da_cons (dv 1) (da_cons (de_call c_law_hall hr (by decide) rfl (da_cons (dv 1) (da_cons de_int (da_cons de_int da_nil)))) (da_cons (dv 3) da_nil)))))
    (dss_cons (ds_par (i := 5) (j := 6) (w := none) (w2 := none) rfl nd_law rfl rfl (by decide) rfl rfl (de_call c_law_made hr (by decide) rfl (da_cons (dv 1) (da_cons (dv 4) da_nil))) (de_callB (call_reprD1 hgd hu) rfl B.repr bv_repr (da_cons (dv 4) da_nil)))
    (dss_cons (ds_if (dt_w (dw_or (dt_not (dt_val (de_callG c_law_lots_right hgd hr (by decide) rfl (da_cons (dv 1) (da_cons (dv 4) (da_cons (dv 5) da_nil)))))) (dw_or1 (dt_not (dt_val (de_call c_law_twins_right hr (by decide) rfl (da_cons (dv 1) (da_cons (dv 4) (da_cons (dv 5) (da_cons (dv 3) da_nil)))))))))) (dss_one (ds_ret de_bl)) dss_nil)
    (dss_one (ds_if (dt_w (dw_or (dt_not (dt_val (de_call c_law_ends_right hr (by decide) rfl (da_cons (dv 4) (da_cons (dv 5) da_nil))))) (dw_or1 (dt_cmp (op_neDD hu64) (de_callB (call_reprD1 hgd hu) rfl B.repr bv_repr (da_cons (dv 4) da_nil)) (dv 6) (nomark _))))) (dss_one (ds_ret de_bl)) dss_nil)))))))
    (dss_cons (ds_set (i := 4) nd_law rfl (by first | exact Or.inl rfl | exact Or.inr rfl) (de_call c_law_hall hr (by decide) rfl (da_cons (dv 1) (da_cons de_int (da_cons de_int da_nil)))))
    (dss_cons (ds_if (dt_not (dt_val (de_callG c_law_lots_right hgd hr (by decide) rfl (da_cons (dv 1) (da_cons (dv 4) (da_cons (de_call c_law_made hr (by decide) rfl (da_cons (dv 1) (da_cons (dv 4) da_nil))) da_nil)))))) (dss_one (ds_ret de_bl)) dss_nil)
    (dss_cons (ds_set (i := 5) nd_law rfl (by first | exact Or.inl rfl | exact Or.inr rfl) (de_make c_Hall hr (by decide) rfl (da_cons (de_lst (da_cons de_str (da_cons de_str (da_cons de_str (da_cons de_str da_nil))))) (da_cons (de_lst (da_cons (de_tup (da_cons de_str (da_cons de_str da_nil))) (da_cons (de_tup (da_cons de_str (da_cons de_str da_nil))) (da_cons (de_tup (da_cons de_str (da_cons de_str da_nil))) (da_cons (de_tup (da_cons de_str (da_cons de_str da_nil))) (da_cons (de_tup (da_cons de_str (da_cons de_str da_nil))) da_nil)))))) da_nil))))
    (dss_cons (ds_set (i := 7) nd_law rfl (by first | exact Or.inl rfl | exact Or.inr rfl) (de_lst (da_cons (dn_de (dn_call c_twins hr (by decide) rfl (da_cons (dv 5) (da_cons de_str da_nil)))) (da_cons (dn_de (dn_call c_twins hr (by decide) rfl (da_cons (dv 5) (da_cons de_str da_nil)))) (da_cons (de_meth0 c_Hall_wires hr (by decide) (de_call c_without_rooms hr (by decide) rfl (da_cons (dv 5) (da_cons (de_lst (da_cons de_str (da_cons de_str da_nil))) da_nil)))) (da_cons (dn_de (dn_call c_ends hr (by decide) rfl (da_cons (de_make c_Hall hr (by decide) rfl (da_cons (de_lst (da_cons de_str (da_cons de_str (da_cons de_str da_nil)))) (da_cons (de_lst (da_cons (de_tup (da_cons de_str (da_cons de_str da_nil))) da_nil)) da_nil))) da_nil))) da_nil))))))
    (dss_one (ds_ret (de_call c_law_same hr (by decide) rfl (da_cons (dv 7) (da_cons (de_lst (da_cons (de_lst (da_cons (de_tup (da_cons de_str (da_cons de_str da_nil))) da_nil)) (da_cons (de_lst (da_cons (de_tup (da_cons de_str (da_cons de_str da_nil))) da_nil)) (da_cons (de_lst da_nil) (da_cons (de_lst (da_cons (de_tup (da_cons de_str (da_cons de_str da_nil))) (da_cons (de_tup (da_cons de_str (da_cons de_str da_nil))) da_nil))) da_nil))))) da_nil))))))))))
end
end W
namespace W
open PySem PySem.Spec PySem.W PyProof.Rows L2 DL GF
theorem grow_old {F H H' : Hp} {b : Addr} {o : HO} (h1 : F b = none) (h2 : H b = some o) : grow F H H' b = none := by
  unfold grow; rw [h1, h2]
section
variable {P : Program} {w : World} {K : PySem.W.Frag} {mg : Str → Option Value} {base : Heap}
theorem t23_in {n : Nat} (h : 4 ≤ n) {d : PyData} {ps : List (Nat × PyData)} (e : tgT (tgCons (tgN 2) (tgCons (tgN 3) tgNil)) d = some ps) : ∀ p ∈ ps, p.1 < n := by
  intro p hp
  have := tgT_in (vs := [2, 3]) (tgCons_in (tgN_in (by decide)) (tgCons_in (tgN_in (by decide)) tgNil_in)) d ps e p hp
  simp at this; omega
abbrev soF (D q : Addr) : List (Str × V) := [("own_rows", .ref D), ("own_quiet", .ref q)]
structure SoSt (K : PySem.W.Frag) (x dx D q : Addr) (T : Str → Str → Bool) (R : List Str) (H0 F0 : Hp) (S : Strm) (n : Nat) (F : Hp) (i : Nat) (σ : L2.St) (H : Hp) (γ : G) (rows : List Rw) (qs : List (Str → Bool)) : Prop where
  ls : σ.length = 6
  lg : γ.length = 6
  s0 : σ[0]? = some (some (.ref x))
  inv : GF.Inv T R (R.take i) rows qs
  lq : qs.length ≤ i
  lr : rows.length ≤ i
  ag : AgS K H0 F0 F S n H (γ ++ [.own false (rowsD R rows), .own false (.list (qs.map (lotD R)))]) (σ ++ [some (.ref D), some (.ref q)])
  hx : H x = some (.ins (He.ga K "Solved") dx (soF D q))
  Fx : F x = none
theorem solved_ok (B : Bt mg) (GT : Gt K mg) (c_reduced : MetD P w K mg base 2 2 "Solved" "reduced" SP.Solved_reduced) (c_summed : CalD P w K mg base 1 2 "summed" SP.summed) {f : Addr} {fd : FuncData} {x : Str} {params : Arguments}
    (FD : FunD K x "Solved.__init__" params (defBody s_Solved_init) (defScope s_Solved_init) [] [] f fd) :
    FnOk P w K mg base CX0 3 f fd ["self", "touches"] (spI K "Solved" 1 sp_Solved) := by
  refine FD.ok sc_Solved_init (fun vs H Q E h => by obtain ⟨x, dx, vs', H0, rfl, hl, _⟩ := h; simp [hl]) fun cdv A outer s0 H vs Q E hr h => ?_
  have hu : (A.deeper (envOfC "Solved.__init__" (defScope s_Solved_init) s0.heap.objs.size f cdv)).units + 65 < cLine := by have := hr.un; omega
  have hu64 : (A.deeper (envOfC "Solved.__init__" (defScope s_Solved_init) s0.heap.objs.size f cdv)).units + 64 < cLine := by omega
  have hu1 : (A.deeper (envOfC "Solved.__init__" (defScope s_Solved_init) s0.heap.objs.size f cdv)).units + 1 < cLine := by omega
  have nd_Solved_init : N_Solved_init.Nodup := by decide +kernel
  obtain ⟨f_r, fd_r, ps_r, hcl, hme, F_r, b_r⟩ := c_reduced.ex
  refine ⟨_, (pss_lockEnd (X := (cxOf CX0 P w K mg base N_Solved_init "Solved.__init__" (defScope s_Solved_init) f cdv A outer s0 H E).nox) (pss_cons (ps_asg (pe_tup (pa_cons pe_dnewK (pa_cons (pe_lst pa_nil) pa_nil))) (pg_tup rfl (pgs_cons (pg_fld (pe_var (i := 0) rfl (Or.inl rfl))) (pgs_cons (pg_fld (pe_var (i := 0) rfl (Or.inl rfl))) pgs_nil))))
    (pss_one (ps_for PassesOwn.never rfl (di_items (dv 1)) (dg_tup rfl (dgs_cons (dg 2 nd_Solved_init) (dgs_cons (dg 3 nd_Solved_init) dgs_nil)) (tgCons_len (tgCons_len tgNil_len)))
      (pss_cons (ps_lock (ps_asg (pe_meth (pl := _) (pe_var (i := 0) rfl (Or.inl rfl)) hcl hme F_r (hr.mono (by decide)) b_r .nil pass0 (da_cons (dv 3) da_nil)) (dg_tup rfl (dgs_cons (dg 4 nd_Solved_init) (dgs_cons (dg 5 nd_Solved_init) dgs_nil)) (tgCons_len (tgCons_len tgNil_len)))))
      (pss_cons (ps_set (i := 5) nd_Solved_init rfl (Or.inl rfl) (de_call c_summed hr (by decide) rfl (da_cons (dv 5) (da_cons (de_lst (da_cons (dv 2) da_nil)) da_nil))))
      (pss_one (ps_if (dt_cmp (op_eqDD hu64) (dv 4) (de_lst da_nil) (nomark _))
        (pss_one (ps_expr (pe_bm PySem.F.plainAttrs_list PySem.F.slot_list_append PySem.F.type_list_append mt_append (pe_fld (pe_var (i := 0) rfl (Or.inl rfl)) rfl) (pa_cons (dv 5) pa_nil))))
        (pss_one (ps_dput hu1 (pe_fld (pe_var (i := 0) rfl (Or.inl rfl)) rfl) (de_ix hu1 (dv 4) de_int (fun _ _ => rfl)) (de_tup (da_cons (dv 4) (da_cons (dv 5) da_nil))) rfl)))))))))).nox, ?_⟩
  obtain ⟨x, dx, vs', H0, rfl, hl, hx0, hdx0, hne, rfl, F0, S, n, ds, fr, hd, k, ⟨T, R, hu0, hRne, hz, rfl, hk⟩, hQ⟩ := h
  obtain ⟨v, rfl, hv⟩ := hd.one
  intro D hD
  show (0 : Nat) ≤ sizeLine ∧ _
  refine ⟨Nat.zero_le _, fun q hq => ?_⟩
  show (2 : Nat) ≤ sizeLine ∧ _
  refine ⟨by decide, fun tu htu => ?_⟩
  have z := sz
  have hxx : upd (upd H0 dx (.own x)) x (.ins (He.ga K "Solved") dx []) x = some (.ins (He.ga K "Solved") dx []) := upd_same
  have hDx : D ≠ x := fun e => by rw [e, hxx] at hD; cases hD
  have hqx : q ≠ x := fun e => by
    rw [e, upd_ne (Ne.symm hDx), hxx] at hq; cases hq
  have htx : tu ≠ x := fun e => by
    rw [e, upd_ne (Ne.symm hqx), upd_ne (Ne.symm hDx), hxx] at htu; cases htu
  have hqD : q ≠ D := fun e => by rw [e, upd_same] at hq; cases hq
  have htD : tu ≠ D := fun e => by rw [e, upd_ne (Ne.symm hqD), upd_same] at htu; cases htu
  have htq : tu ≠ q := fun e => by rw [e, upd_same] at htu; cases htu
  have old : ∀ b, b ≠ x → upd (upd H0 dx (.own x)) x (.ins (He.ga K "Solved") dx []) b = none → H0 b = none := fun b hb e => by
    rw [upd_ne hb] at e
    by_cases h : b = dx
    · rw [h]; exact hdx0
    · rw [upd_ne h] at e; exact e
  have hD0 := old D hDx hD
  have hq0 : H0 q = none := old q hqx (by rw [upd_ne hqD] at hq; exact hq)
  have ht0 : H0 tu = none := old tu htx (by rw [upd_ne htq, upd_ne htD] at htu; exact htu)
  refine ⟨tu, [.ref D, .ref q], rfl, SqT.of upd_same, rfl, .ref D, [.ref q], rfl, ?_⟩
  refine ⟨.ref x, rfl, x, _, dx, [], rfl, by rw [upd_ne (Ne.symm htx), upd_ne (Ne.symm hqx), upd_ne (Ne.symm hDx)]; exact hxx, hcl, GT.na_Solved_own_rows, (show (0 : Nat) < 1000 by decide), ?_⟩
  refine ⟨.ref q, [], rfl, .ref x, rfl, x, _, dx, [("own_rows", .ref D)], rfl, upd_same, hcl, GT.na_Solved_own_quiet, (show (1 : Nat) < 1000 by decide), rfl, ?_⟩
  have ext6 : Ext S n H0 (upd (upd (upd (upd (upd (upd (upd H0 dx (.own x)) x (.ins (He.ga K "Solved") dx [])) D (.dK [])) q (.lst [])) tu (.tup [.ref D, .ref q])) x (.ins (He.ga K "Solved") dx [("own_rows", .ref D)])) x (.ins (He.ga K "Solved") dx (soF D q))) :=
    Ext.over fr (Ext.over fr (Ext.over fr (Ext.over fr (Ext.over fr (Ext.over fr (Ext.over fr fr.ext hdx0) hx0) hD0) hq0) ht0) hx0) hx0
  generalize hH6 : upd (upd (upd (upd (upd (upd (upd H0 dx (.own x)) x (.ins (He.ga K "Solved") dx [])) D (.dK [])) q (.lst [])) tu (.tup [.ref D, .ref q])) x (.ins (He.ga K "Solved") dx [("own_rows", .ref D)])) x (.ins (He.ga K "Solved") dx (soF D q)) = H6 at ext6
  have e6x : H6 x = some (.ins (He.ga K "Solved") dx (soF D q)) := by rw [← hH6]; exact upd_same
  have e6D : H6 D = some (.dK []) := by rw [← hH6, upd_ne hDx, upd_ne hDx, upd_ne (Ne.symm htD), upd_ne (Ne.symm hqD)]; exact upd_same
  have e6q : H6 q = some (.lst []) := by rw [← hH6, upd_ne hqx, upd_ne hqx, upd_ne (Ne.symm htq)]; exact upd_same
  have goal6 : upd (upd (upd (upd (upd (upd (upd H0 dx (.own x)) x (.ins (He.ga K "Solved") dx [])) D (.dK [])) q (.lst [])) tu (.tup [.ref D, .ref q])) x (.ins (He.ga K "Solved") dx (putF "own_rows" (.ref D) []))) x (.ins (He.ga K "Solved") dx (putF "own_quiet" (.ref q) [("own_rows", .ref D)])) = H6 := hH6
  with_reducible change tFor _ _ _ _ _ _
  rw [goal6]
  clear goal6 hH6 hq htu hD hxx
  have ag6 : AgS K H0 F0 (exs [x, D, q] (grow F0 H0 H6)) S n H6 ([.no, .val (roomsD R T), .no, .no, .no, .no] ++ [.own false (rowsD R []), .own false (.list [])]) ([some (.ref x), some v, none, none, none, none] ++ [some (.ref D), some (.ref q)]) := by
    refine AgS.begin fr ext6 [x, D, q] ?_ ?_ ?_ ?_ ?_ rfl
    · intro a ha
      simp at ha
      rcases ha with rfl | rfl | rfl <;> assumption
    · intro a ha xs e
      simp at ha
      rcases ha with rfl | rfl | rfl
      · rw [e6x] at e; cases e
      · rw [e6D] at e; cases e
      · rw [e6q] at e; cases e
    · intro i d e
      match i, e with
      | 1, e => cases e; exact ⟨v, rfl, hv⟩
      | 0, e => cases e
      | 2, e => cases e
      | 3, e => cases e
      | 4, e => cases e
      | 5, e => cases e
      | 6, e => cases e
      | 7, e => cases e
      | i + 8, e => cases e
    · intro i U d e
      match i, e with
      | 6, e => cases e; exact ⟨D, rfl, by simp, .dK (kvs := []) (es := []) e6D rfl .nil rfl⟩
      | 7, e => cases e; exact ⟨q, rfl, by simp, .lst e6q .nil⟩
      | 0, e => cases e
      | 1, e => cases e
      | 2, e => cases e
      | 3, e => cases e
      | 4, e => cases e
      | 5, e => cases e
      | i + 8, e => cases e
    · intro i j U U2 d e a h1 h2 hij h3 h4
      match i, j, h1, h2 with
      | 6, 7, _, _ => cases h3; cases h4; exact hqD rfl
      | 7, 6, _, _ => cases h3; cases h4; exact hqD rfl
      | 6, 6, _, _ => exact hij rfl
      | 7, 7, _, _ => exact hij rfl
      | 0, _, e, _ => cases e
      | 1, _, e, _ => cases e
      | 2, _, e, _ => cases e
      | 3, _, e, _ => cases e
      | 4, _, e, _ => cases e
      | 5, _, e, _ => cases e
      | i + 8, _, e, _ => cases e
      | _, 0, _, e => cases e
      | _, 1, _, e => cases e
      | _, 2, _, e => cases e
      | _, 3, _, e => cases e
      | _, 4, _, e => cases e
      | _, 5, _, e => cases e
      | _, j + 8, _, e => cases e
  have hxS : ¬ inS S x := fr.notS hx0
  have hDS : ¬ inS S D := fr.notS hD0
  have hitems : mItemsD (mVar 1) (pl ([.no, .val (roomsD R T), .no, .no, .no, .no] : G)) n (fun ds n' => n' = n ∧ ds = R.map fun r => .tuple [PyData.str r, lotD R (T r)]) := by
    refine ⟨_, rfl, ?_, rfl, by rw [List.map_map]; rfl⟩
    unfold keyed
    rw [Bool.and_eq_true]
    refine ⟨noNone_rooms R fun r => lotD R (T r), ?_⟩
    cases R with
    | nil => exact absurd rfl hRne
    | cons a l => rfl
  refine ⟨_, S, n, _, ag6.plain.pre rfl, _, hitems, fun ds n7 hk7 J H7 e7 wk => ?_⟩
  obtain ⟨rfl, rfl⟩ := hk7
  have ag7 := ag6.next e7
  have F6x : exs [x, D, q] (grow F0 H0 H6) x = none := exs_none (by simp)
  generalize hF7 : grow (exs [x, D, q] (grow F0 H0 H6)) H6 H7 = F7 at ag7 wk
  have F7x : F7 x = none := by rw [← hF7]; exact grow_old F6x e6x
  have e7x : H7 x = some (.ins (He.ga K "Solved") dx (soF D q)) := e7.kp x _ e6x hxS
  refine for_it (n := (R.map fun r => PyData.tuple [PyData.str r, lotD R (T r)]).length) (J := J) (G := fun H' => Sub F7 H') wk
    (fun i σ H => ∃ F s1 s2 s3 s4 s5 rows qs, SoSt K x dx D q T R H0 F0 S n7 F i σ H [.no, s1, s2, s3, s4, s5] rows qs ∧ Sub F7 F)
    ⟨F7, _, _, _, _, _, [], [], ⟨rfl, rfl, rfl, Inv.start T R, Nat.le_refl _, Nat.le_refl _, ag7, e7x, F7x⟩, Sub.refl _⟩ (fun i σ' H' _ ⟨F, _, _, _, _, _, _, _, a, s⟩ => s.trans a.ag.fr.sub) ?_ ?_
  · rintro i y σ H H' hi ⟨F, s1, s2, s3, s4, s5, rows, qs, st, sF⟩ hy
    obtain ⟨d, ed, px⟩ := hy n7 F sF st.ag.fr
    rw [List.length_map] at hi
    have hri : R[i] ∈ R := List.getElem_mem hi
    rw [List.getElem?_map, List.getElem?_eq_getElem hi] at ed
    cases ed
    generalize hr : R[i] = r at *
    have ag2 := st.ag.next px.ext
    refine ⟨_, S, n7, _, _, ag2.fr, px.den, rfl, fun σ1 as => ?_⟩
    have as' := as.app (τ := [some (V.ref D), some (.ref q)]) (fun p hp => by
      have := t23_in (n := 6) (by decide) (d := .tuple [PyData.str r, lotD R (T r)]) rfl p hp
      rw [st.ls]; exact this)
    have ag3 : AgS K H0 F0 (grow F H H') S n7 H' (([.no, s1, .val (PyData.str r), .val (lotD R (T r)), s4, s5] : DL.G) ++ [.own false (rowsD R rows), .own false (.list (qs.map (lotD R)))]) (σ1 ++ [some (V.ref D), some (.ref q)]) := ag2.ass as'
    have hσ1 : σ1.length = 6 := as.length.trans st.ls
    have hσ10 : σ1[0]? = some (some (.ref x)) := by
      cases as with
      | cons _ t => cases t with
        | cons _ t => cases t; simp [List.getElem?_set, st.s0]
    have hx' : H' x = some (.ins (He.ga K "Solved") dx (soF D q)) := px.ext.kp x _ st.hx hxS
    generalize hF3 : grow F H H' = F3 at ag2 ag3
    have F3x : F3 x = none := by rw [← hF3]; exact grow_old st.Fx st.hx
    have sF3 : Sub F7 F3 := by rw [← hF3]; exact sF.trans sub_grow
    have hrP : r ∉ R.take i := fun hm => by
      have hnd := hu0.nodup
      rw [← List.take_append_drop i R, List.nodup_append] at hnd
      refine hnd.2.2 r hm r ?_ rfl
      rw [List.drop_eq_getElem_cons hi, hr]; simp
    have htk : R.take (i + 1) = R.take i ++ [r] := by rw [List.take_add_one, List.getElem?_eq_getElem hi, hr]; rfl
    obtain ⟨D', q1, hD0', F3D, _, hown⟩ := ag3.own 6 false (rowsD R rows) rfl
    have : D' = D := by
      have h6 : (σ1 ++ [some (V.ref D), some (V.ref q)])[6]? = some (some (V.ref D)) := by
        rw [List.getElem?_append_right (by omega), hσ1]; rfl
      rw [h6] at q1; cases q1; rfl
    subst this
    obtain ⟨kvs, es, hDk, hkeys, hvals, hok, ees⟩ : ∃ kvs es, H' D' = some (.dK kvs) ∧ kvs.map (·.1) = es.map (·.1) ∧ DenL K F3 S (kvs.map (·.2)) (es.map (·.2)) ∧ (es.all fun e => kOk e.1) = true ∧ dkP es = rowsD R rows := by
      generalize ed : rowsD R rows = dd at hown
      cases hown with
      | lst h1 h2 => cases ed
      | dK h1 h2 h3 h4 => exact ⟨_, _, h1, h2, h3, h4, rfl⟩
    refine ⟨D', _, hDk, trivial, fun od => ?_⟩
    have hDx' : D' ≠ x := hDx
    generalize hH2 : upd H' D' (.frz od (.dK kvs)) = H2
    have e2D : H2 D' = some (.frz od (.dK kvs)) := by rw [← hH2]; exact upd_same
    have e2n : ∀ b, b ≠ D' → H2 b = H' b := fun b hb => by rw [← hH2]; exact upd_ne hb
    have fr3 := ag3.fr
    generalize hF2 : (fun b => if b = D' then some (HO.frz od (.dK kvs)) else if b = x then some (HO.ins (He.ga K "Solved") dx (soF D' q)) else F3 b : Hp) = F2
    have F2D : F2 D' = some (.frz od (.dK kvs)) := by rw [← hF2]; exact if_pos rfl
    have F2x : F2 x = some (.ins (He.ga K "Solved") dx (soF D' q)) := by rw [← hF2]; show (if x = D' then _ else _) = _; rw [if_neg (Ne.symm hDx')]; exact if_pos rfl
    have F2n : ∀ b, b ≠ D' → b ≠ x → F2 b = F3 b := fun b h1 h2 => by rw [← hF2]; show (if b = D' then _ else _) = _; rw [if_neg h1, if_neg h2]
    have sF32 : Sub F3 F2 := fun b o h => by
      rw [F2n b (fun e => by rw [e, F3D] at h; cases h) (fun e => by rw [e, F3x] at h; cases h)]; exact h
    have fr2 : DL.Fr F2 S n7 H2 := by
      refine ⟨fun b o h => ?_, fun b hs => ?_, ?_, fun b xs h => ?_⟩
      · by_cases h1 : b = D'
        · subst h1; rw [F2D] at h; rw [e2D]; exact h
        · rw [e2n b h1]
          by_cases h2 : b = x
          · subst h2; rw [F2x] at h; rw [hx']; exact h
          · rw [F2n b h1 h2] at h; exact fr3.sub b o h
      · rw [F2n b (fun e => hDS (e ▸ hs)) (fun e => hxS (e ▸ hs))]; exact fr3.nos b hs
      · rw [← hH2]; exact str_over fr3.str hDS
      · have h1 : b ≠ D' := fun e => by rw [e, e2D] at h; cases h
        rw [e2n b h1] at h
        exact sF32 b _ (fr3.tp b xs h)
    have ae3 := ag3.plain.pre (γ := [.no, s1, .val (PyData.str r), .val (lotD R (T r)), s4, s5]) (by rw [hσ1]; rfl)
    have ae2 : AgE K F2 S n7 H2 (pl ([.no, s1, .val (PyData.str r), .val (lotD R (T r)), s4, s5] : DL.G)) σ1 := ⟨fr2, fun j e h => let ⟨v, a1, a2⟩ := ae3.slot j e h; ⟨v, a1, a2.mono sF32⟩, ae3.len⟩
    refine ⟨.ref x, hσ10, x, dx, soF D' q, rfl, by rw [e2n x (Ne.symm hDx')]; exact hx', rfl, ?_⟩
    refine ⟨F2, S, n7, _, ae2, fun ds n' => n' = n7 ∧ ds = [lotD R (T r)], ⟨rfl, rfl⟩, fun ds n8 hk8 vs H8 p8 => ?_⟩
    obtain ⟨rfl, rfl⟩ := hk8
    refine ⟨by have := p8.den.length; simpa using this, _, S, n8, parP "Solved" [("own_rows", rowsD R rows)] :: [lotD R (T r)], fr2.next p8.ext, ?_, fun d n' => n' = n8 ∧ ∃ rest l : Str → Bool, d = redD R rest l ∧ (∀ s, rest s = true → s ∈ R) ∧ (∀ a, l a = true → a ∈ R.take i) ∧ (∀ s ∈ R, rest s = (T r s ^^ tv T R l s)) ∧ ∀ w ∈ rows, rest w.1 = false, ?_, ?_⟩
    · rw [List.append_nil]
      refine .cons ?_ p8.den
      refine Den.mono sub_grow (.par (gs := [("own_rows", .ref D')]) F2x ?_ rfl (.cons ?_ .nil))
      · intro p hp
        rw [List.mem_singleton] at hp
        subst hp; rfl
      · rw [← ees]
        exact .dK F2D hkeys (hvals.mono sF32) hok
    · exact ⟨T, R, R.take i, rows, _, T r, rowsOk_of st.inv hu0 hz (fun a ha => List.mem_of_mem_take ha), .inl rfl, rfl, fun rest l a1 a2 a3 a4 => ⟨rfl, rest, l, rfl, a1, a2, a3, a4⟩⟩
    · rintro d n9 ⟨rfl, rest, l, rfl, hr1, hr2, hr3, hr4⟩ v9 H9 p9
      have e89 : Ext S n9 H2 H9 := p8.ext.trans p9.ext
      have gg : grow (grow F2 H2 H8) H8 H9 = grow F2 H2 H9 := grow_grow fr2 p8.ext p9.ext
      have d9 : Den K (grow F2 H2 H9) S v9 (redD R rest l) := by rw [← gg]; exact p9.den
      refine ⟨_, S, n9, redD R rest l, _, fr2.next e89, d9, rfl, fun σ2 as2 => ⟨e89.kp D' _ e2D hDS, ?_⟩⟩
      generalize hH5 : upd H9 D' (.dK kvs) = H5
      have e5n : ∀ b, b ≠ D' → H5 b = H9 b := fun b hb => by rw [← hH5]; exact upd_ne hb
      have ext5 : Ext S n9 H' H5 := by
        refine ⟨fun b o h hs => ?_, by rw [← hH5]; exact str_over e89.str hDS⟩
        by_cases hb : b = D'
        · subst hb; rw [hDk] at h; rw [← hH5]; exact upd_same.trans h
        · rw [e5n b hb]; exact e89.kp b o (by rw [e2n b hb]; exact h) hs
      have ag4 := ag3.next ext5
      have hx5 : H5 x = some (.ins (He.ga K "Solved") dx (soF D' q)) := ext5.kp x _ hx' hxS
      have F5x : grow F3 H' H5 x = none := grow_old F3x hx'
      have sF35 : Sub F3 (grow F3 H' H5) := sub_grow
      generalize hF5 : grow F3 H' H5 = F5 at ag4 F5x sF35
      have dead : ∀ {v : V} {d : PyData}, Den K (grow F2 H2 H9) S v d → nd d = true → Den K F5 S v d := fun dd hn => by
        refine Den.only (fun a o ha ho => ?_) dd hn
        have hob : a ≠ D' ∧ a ≠ x := by
          constructor
          · rintro rfl
            rcases grow_cases ha with h | ⟨h, _, _⟩
            · rw [F2D] at h; rcases ho with ⟨_, rfl⟩ | ⟨_, rfl⟩ <;> cases h
            · rw [F2D] at h; cases h
          · rintro rfl
            rcases grow_cases ha with h | ⟨h, _, _⟩
            · rw [F2x] at h; rcases ho with ⟨_, rfl⟩ | ⟨_, rfl⟩ <;> cases h
            · rw [F2x] at h; cases h
        rw [← hF5]
        rcases grow_cases ha with h | ⟨h1, h2, h3⟩
        · rw [F2n a hob.1 hob.2] at h; exact sub_grow a o h
        · rw [F2n a hob.1 hob.2] at h1
          rw [e2n a hob.1] at h2
          exact grow_new h1 h2 (by rw [e5n a hob.1]; exact h3)
      have as3 : AssD K F5 S [(4, lotD R rest), (5, lotD R l)] σ1 σ2 := by
        cases as2 with
        | cons h1 t => cases t with
          | cons h2 t => cases t; exact .cons (dead h1 (ndL_texts _)) (.cons (dead h2 (ndL_texts _)) .nil)
      have hσ2 : σ2.length = 6 := as3.length.trans hσ1
      have hσ20 : σ2[0]? = some (some (.ref x)) := by
        cases as3 with
        | cons _ t => cases t with
          | cons _ t => cases t; simp [List.getElem?_set, hσ10]
      have ag5 : AgS K H0 F0 F5 S n9 H5 (([.no, s1, .val (PyData.str r), .val (lotD R (T r)), .val (lotD R rest), .val (lotD R l)] : DL.G) ++ [.own false (rowsD R rows), .own false (.list (qs.map (lotD R)))]) (σ2 ++ [some (V.ref D'), some (.ref q)]) := ag4.ass (as3.app (τ := [some (V.ref D'), some (.ref q)]) (fun p hp => by
        simp at hp
        rcases hp with rfl | rfl <;> (show _ < σ1.length; omega)))
      have sF75 : Sub F7 F5 := sF3.trans sF35
      clear ag4 ag3 ae2 ae3 dead as2 as3 d9 gg p9 p8 ag2
      refine ⟨F5, S, n9, _, ag5.plain.pre (by rw [hσ2]; rfl), fun d n' => n' = n9 ∧ d = lotD R fun a => l a ^^ decide (a = r), ?_, ?_⟩
      · walk_at "my_wp"
        refine ⟨by omega, R, l, fun a => decide (a = r), hu0, by omega, ?_, rfl, rfl⟩
        rw [show lotD R (fun a => decide (a = r)) = dL [r] from congrArg dL (filter_one hu0.nodup hri)]
        rfl
      rintro d n10 ⟨rfl, rfl⟩ v10 H10 p10
      have ag6 := (ag5.next p10.ext).sets (by rw [hσ2]; rfl) (i := 5) (by omega) p10.den
      have hx10 : H10 x = some (.ins (He.ga K "Solved") dx (soF D' q)) := p10.ext.kp x _ hx5 hxS
      have F10x : grow F5 H5 H10 x = none := grow_old F5x hx5
      have sF710 : Sub F7 (grow F5 H5 H10) := sF75.trans sub_grow
      generalize grow F5 H5 H10 = F10 at ag6 F10x sF710
      have hσ3 : (σ2.set 5 (some v10)).length = 6 := by rw [List.length_set]; exact hσ2
      have hσ30 : (σ2.set 5 (some v10))[0]? = some (some (.ref x)) := by rw [List.getElem?_set_ne (by decide)]; exact hσ20
      unfold gName
      with_reducible change tIfS _ _ _ _ _ _
      generalize σ2.set 5 (some v10) = σ3 at ag6 hσ3 hσ30
      refine ⟨F10, S, n10, _, ag6.plain.pre (by rw [hσ3]; rfl), fun b n' => n' = n10 ∧ b = decide (R.filter rest = []), ?_, ?_⟩
      · walk_at "my_wp"
        refine ⟨by omega, ?_⟩
        show oEq (dL _) (dL []) _
        rw [oEq_lot]
      rintro b n11 ⟨rfl, rfl⟩ H11 e11
      have ag7 := ag6.next e11
      have hx11 : H11 x = some (.ins (He.ga K "Solved") dx (soF D' q)) := e11.kp x _ hx10 hxS
      have F11x : grow F10 H10 H11 x = none := grow_old F10x hx10
      have sF711 : Sub F7 (grow F10 H10 H11) := sF710.trans sub_grow
      generalize grow F10 H10 H11 = F11 at ag7 F11x sF711
      by_cases hemp : R.filter rest = []
      · rw [if_pos (decide_eq_true hemp)]
        have qaddr : ∀ {F' : Hp} {H' : Hp} {g : DL.G} {rows : List Rw} {n' : Nat}, g.length = 6 → AgS K H0 F0 F' S n' H' (g ++ [.own false (rowsD R rows), .own false (.list (qs.map (lotD R)))]) (σ3 ++ [some (V.ref D'), some (.ref q)]) → ∃ xs, H' q = some (.lst xs) ∧ xs.length = qs.length := fun {F' H' g rows n'} hg a => by
          obtain ⟨b, q1, _, _, _, q5⟩ := a.own 7 false (.list (qs.map (lotD R))) (by rw [List.getElem?_append_right (by omega), hg]; rfl)
          have h6 : (σ3 ++ [some (V.ref D'), some (.ref q)])[7]? = some (some (V.ref q)) := by
            rw [List.getElem?_append_right (by omega), hσ3]; rfl
          rw [h6] at q1; cases q1
          obtain ⟨xs, h1, h2⟩ := q5.list_inv
          exact ⟨xs, h1, by rw [h2.length, List.length_map]⟩
        obtain ⟨xs11, hq11, _⟩ := qaddr (by simp) ag7
        refine ⟨.ref x, hσ30, x, _, dx, soF D' q, .ref q, rfl, hx11, hcl, GT.na_Solved_own_quiet, rfl, .inl ⟨rfl, xs11, SqL.of hq11⟩, ?_⟩
        refine ⟨F11, S, n11, _, ag7.plain.pre (by rw [hσ3]; rfl), fun d n' => n' = n11 ∧ d = lotD R fun a => l a ^^ decide (a = r), ?_, ?_⟩
        · walk_at "my_wp"
        rintro d n12 ⟨rfl, rfl⟩ v12 H12 p12
        have ag8 := ag7.next p12.ext
        have hx12 : H12 x = some (.ins (He.ga K "Solved") dx (soF D' q)) := p12.ext.kp x _ hx11 hxS
        have F12x : grow F11 H11 H12 x = none := grow_old F11x hx11
        have sF712 : Sub F7 (grow F11 H11 H12) := sF711.trans sub_grow
        obtain ⟨xs12, hq12, hl12⟩ := qaddr (by simp) ag8
        obtain ⟨b, xs, w1, w2, w3, ag9⟩ := ag8.app (i := 7) (ds := qs.map (lotD R)) rfl p12.den
        have h6 : (σ3 ++ [some (V.ref D'), some (.ref q)])[7]? = some (some (V.ref q)) := by
          rw [List.getElem?_append_right (by omega), hσ3]; rfl
        rw [h6] at w1; cases w1
        refine ⟨q, xs, v12, rfl, rfl, w2, by rw [w3, List.length_map]; have := st.lq; omega, ?_⟩
        have hl0 : ∀ s ∈ R, rest s = false := filter_nil_iff.mp hemp
        refine ⟨_, s1, .val (PyData.str r), .val (lotD R (T r)), .val (lotD R rest), .val (lotD R fun a => l a ^^ decide (a = r)), rows, qs ++ [fun a => l a ^^ decide (a = r)], ⟨hσ3, rfl, hσ30, ?_, by rw [List.length_append]; have := st.lq; simp; omega, by have := st.lr; omega, ?_, ?_, F12x⟩, sF712⟩
        · rw [htk]
          exact st.inv.quiet hrP hr2 hu0.nodup hri fun s hs => by rw [← hr3 s hs, hl0 s hs]
        · rw [List.map_append]
          exact ag9
        · rw [upd_ne (Ne.symm hqx)]; exact hx12
      · rw [if_neg (by simp [hemp])]
        obtain ⟨c, led, hcl0⟩ : ∃ c led, R.filter rest = c :: led := by
          cases e : R.filter rest with
          | nil => exact absurd e hemp
          | cons c led => exact ⟨c, led, rfl⟩
        have hcm : c ∈ R.filter rest := by rw [hcl0]; simp
        have hcr := (List.mem_filter.mp hcm).2
        refine ⟨F11, S, n11, _, ag7.plain.pre (by rw [hσ3]; rfl), fun d n' => n' = n11 ∧ d = redD R rest fun a => l a ^^ decide (a = r), ?_, ?_⟩
        · walk_at "my_wp"
          exact ⟨by omega, rfl⟩
        rintro d n12 ⟨rfl, rfl⟩ v12 H12 p12
        have ag8 := ag7.next p12.ext
        have dv12 := p12.den
        have hx12 : H12 x = some (.ins (He.ga K "Solved") dx (soF D' q)) := p12.ext.kp x _ hx11 hxS
        have F12x : grow F11 H11 H12 x = none := grow_old F11x hx11
        have sF712 : Sub F7 (grow F11 H11 H12) := sF711.trans sub_grow
        generalize grow F11 H11 H12 = F12 at ag8 dv12 F12x sF712
        refine ⟨.ref x, hσ30, x, _, dx, soF D' q, .ref D', rfl, hx12, hcl, GT.na_Solved_own_rows, rfl, ?_⟩
        refine ⟨F12, S, n12, _, ag8.plain.pre (by rw [hσ3]; rfl), fun d n' => n' = n12 ∧ d = PyData.str c, ?_, ?_⟩
        · walk_at "my_wp"
          show oIx (dL (R.filter rest)) _ _
          rw [hcl0, oIx_lot0]
        rintro d n13 ⟨rfl, rfl⟩ v13 H13 p13
        have ag9 := ag8.next p13.ext
        have hx13 : H13 x = some (.ins (He.ga K "Solved") dx (soF D' q)) := p13.ext.kp x _ hx12 hxS
        have F13x : grow F12 H12 H13 x = none := grow_old F12x hx12
        obtain ⟨b, H14, w1, w2, ag10⟩ := ag9.put (i := 6) (T := false) (es := rows.map (rwD R)) rfl (dv12.mono sub_grow) p13.den (by rw [List.length_map]; have := st.lr; omega) rfl
        have h6 : (σ3 ++ [some (V.ref D'), some (.ref q)])[6]? = some (some (V.ref D')) := by
          rw [List.getElem?_append_right (by omega), hσ3]; rfl
        rw [h6] at w1; cases w1
        refine ⟨D', H14, rfl, w2, ?_⟩
        have hx14 : H14 x = some (.ins (He.ga K "Solved") dx (soF D' q)) := by
          rcases w2 with ⟨_, _, _, _, _, rfl⟩ | ⟨_, _, _, _, _, _, _, rfl⟩
          · rw [upd_ne (Ne.symm hDx')]; exact hx13
          · rw [upd_ne (Ne.symm hDx')]; exact hx13
        have hput : putP (rows.map (rwD R)) (PyData.str c) (redD R rest fun a => l a ^^ decide (a = r)) = (rows ++ [(c, rest, fun a => l a ^^ decide (a = r))]).map (rwD R) := by
          unfold putP
          rw [if_neg]
          · rw [List.map_append]; rfl
          · rw [List.any_map]
            intro h
            obtain ⟨w, hw, e⟩ := List.any_eq_true.mp h
            have e : PyData.eqv (PyData.str w.1) (PyData.str c) = true := e
            rw [eqv_str] at e
            have := hr4 w hw
            rw [of_decide_eq_true e, hcr] at this; cases this
        rw [hput] at ag10
        refine ⟨_, s1, .val (PyData.str r), .val (lotD R (T r)), .val (lotD R rest), .val (lotD R fun a => l a ^^ decide (a = r)), rows ++ [(c, rest, fun a => l a ^^ decide (a = r))], qs, ⟨hσ3, rfl, hσ30, ?_, by have := st.lq; omega, by rw [List.length_append]; have := st.lr; simp; omega, ag10, hx14, F13x⟩, sF712.trans sub_grow⟩
        rw [htk]
        exact st.inv.row hrP hr2 hu0.nodup hri hr3 hr1 hr4 hcr
  · rintro σ H ⟨F, s1, s2, s3, s4, s5, rows, qs, st, sF⟩
    rw [List.length_map] at st
    have hInv := st.inv
    rw [List.take_length] at hInv
    obtain ⟨D', q1, hD0', F3D, _, hown⟩ := st.ag.own 6 false (rowsD R rows) rfl
    have h6 : (σ ++ [some (V.ref D), some (.ref q)])[6]? = some (some (V.ref D)) := by
      rw [List.getElem?_append_right (by have := st.ls; omega), st.ls]; rfl
    rw [h6] at q1; cases q1
    obtain ⟨kvs, es, hDk, hkeys, hvals, hok, ees⟩ : ∃ kvs es, H D = some (.dK kvs) ∧ kvs.map (·.1) = es.map (·.1) ∧ DenL K F S (kvs.map (·.2)) (es.map (·.2)) ∧ (es.all fun e => kOk e.1) = true ∧ dkP es = rowsD R rows := by
      generalize ed : rowsD R rows = dd at hown
      cases hown with
      | lst h1 h2 => cases ed
      | dK h1 h2 h3 h4 => exact ⟨_, _, h1, h2, h3, h4, rfl⟩
    obtain ⟨q', q1, hq0', Fq, _, hownq⟩ := st.ag.own 7 false (.list (qs.map (lotD R))) rfl
    have h7 : (σ ++ [some (V.ref D), some (.ref q)])[7]? = some (some (V.ref q)) := by
      rw [List.getElem?_append_right (by have := st.ls; omega), st.ls]; rfl
    rw [h7] at q1; cases q1
    obtain ⟨xs, hql, hqd⟩ := hownq.list_inv
    refine ⟨D, _, hDk, trivial, fun od => hQ _ _ (hk rows qs hInv st.lq) _ ?_⟩
    have ext : Ext S n7 H0 (upd H D (.frz od (.dK kvs))) := Ext.over fr ⟨st.ag.kp, st.ag.fr.str⟩ hD0
    refine ⟨ext, ?_⟩
    have sub : Sub F (grow F0 H0 (upd H D (.frz od (.dK kvs)))) := fun b o h => by
      have hb : b ≠ D := fun e => by rw [e, F3D] at h; cases h
      rcases grow_cases (st.ag.inn b o h) with a | ⟨a1, a2, a3⟩
      · exact sub_grow b o a
      · exact grow_new a1 a2 (by rw [upd_ne hb]; exact a3)
    have none0 : ∀ b, H0 b = none → F0 b = none := fun b h => by
      cases e : F0 b with
      | none => rfl
      | some u => have := fr.sub b u e; rw [h] at this; cases this
    refine .ins (dx := dx) (fs := soF D q) (grow_new (none0 x hx0) hx0 (by rw [upd_ne (Ne.symm hDx)]; exact st.hx)) rfl (.cons ?_ (.cons ?_ .nil))
    · rw [← ees]
      exact .dK (grow_new (none0 D hD0) hD0 upd_same) hkeys (hvals.mono sub) hok
    · exact .lst (grow_new (none0 q hq0) hq0 (by rw [upd_ne hqD]; exact hql)) (hqd.mono sub)
end
end W
namespace W
open PySem PySem.Spec PySem.W PyProof.Rows L2 DL GF
theorem dcW_enc {t : Tgt} {mk mv : M} {γ : DL.Env} {n : Nat} (enc : Str → PyData) (f : Str → PyData) : ∀ (xs : List Str) (acc : List Str) (k : List (L2.Key × PyData) → Nat → Prop),
    (∀ x ∈ xs, ∃ ps, t (enc x) = some ps ∧ (∀ K : PyData → Nat → Prop, K (PyData.str x) n → mk (setE γ ps) n K) ∧ (∀ K : PyData → Nat → Prop, K (f x) n → mv (setE γ ps) n K)) →
    (acc ++ xs).Nodup → acc.length + xs.length ≤ sizeLine → k ((acc ++ xs).map fun x => (.inr x, f x)) n → dcW t mYes mk mv γ (xs.map enc) (acc.map fun x => (.inr x, f x)) n k
  | [], acc, k, _, _, _, h => by
    rw [List.append_nil] at h
    exact h
  | x :: xs, acc, k, hx, nd, hl, h => by
    obtain ⟨ps, e, h1, h2⟩ := hx x (List.mem_cons_self ..)
    rw [List.length_cons] at hl
    have hd : x ∉ acc := fun hm => by
      rw [List.nodup_append] at nd
      exact nd.2.2 x hm x (List.mem_cons_self ..) rfl
    refine ⟨ps, e, ?_⟩
    simp only [mYes, if_true]
    refine h1 _ (h2 _ ⟨by rw [List.length_map]; omega, .inr x, rfl, ?_⟩)
    have : putKP (acc.map fun x => ((Sum.inr x : L2.Key), f x)) (.inr x) (f x) = (acc ++ [x]).map fun x => (.inr x, f x) := by
      unfold putKP
      rw [if_neg]
      · simp
      · rw [List.any_map]
        intro h
        obtain ⟨y, hy, e⟩ := List.any_eq_true.mp h
        have : y = x := by simpa using e
        exact hd (this ▸ hy)
    rw [this]
    refine dcW_enc enc f xs (acc ++ [x]) k (fun y hy => hx y (List.mem_cons_of_mem _ hy)) (by rw [List.append_assoc]; exact nd) (by rw [List.length_append]; simp; omega) ?_
    rw [List.append_assoc]; exact h
theorem eqv_wire (v w : Wire) : PyData.eqv (dW v) (dW w) = decide (v = w) := by
  show (PyData.eqv (PyData.str v.1) (PyData.str w.1) && (PyData.eqv (PyData.str v.2) (PyData.str w.2) && true)) = _
  rw [eqv_str, eqv_str, Bool.and_true]
  obtain ⟨v1, v2⟩ := v
  obtain ⟨w1, w2⟩ := w
  by_cases h1 : v1 = w1 <;> by_cases h2 : v2 = w2 <;> simp [h1, h2]
abbrev wkD (acc : List Wire) (d : PyData) : List (PyData × PyData) := acc.map fun w => (dW w, d)
theorem lookP_wires (d : PyData) (a : Wire) : ∀ acc : List Wire, lookP (wkD acc d) (dW a) = if a ∈ acc then some d else none
  | [] => rfl
  | b :: acc => by
    unfold lookP wkD
    rw [List.map_cons, List.find?_cons]
    have e : PyData.eqv (dW b) (dW a) = decide (b = a) := eqv_wire b a
    by_cases h : b = a
    · subst h
      simp only [e, decide_true]
      simp
    · simp only [e, h, decide_false]
      have ih := lookP_wires d a acc
      unfold lookP wkD at ih
      rw [ih]
      have : (a ∈ b :: acc) = (a ∈ acc) := by simp [Ne.symm h]
      simp only [this]
theorem noNone_wires (acc : List Wire) (d : PyData) : noNone (wkD acc d) = true := by
  unfold noNone wkD; rw [List.all_map]; exact List.all_eq_true.mpr fun _ _ => rfl
theorem oIn_wires (d : PyData) (a : Wire) (acc : List Wire) (g : Bool → Bool) (k : PyData → Prop) (hk : k (.bool (g (decide (a ∈ acc))))) : oInB g (dW a) (.dict (wkD acc d)) k := by
  cases acc with
  | nil => exact ⟨rfl, by simpa using hk⟩
  | cons b R =>
    refine ⟨noNone_wires (b :: R) d, rfl, ?_⟩
    have : inB (dW a) (.dict (wkD (b :: R) d)) = decide (a ∈ b :: R) := by
      show (lookP (wkD (b :: R) d) (dW a)).isSome = _
      rw [lookP_wires]
      by_cases h : a ∈ b :: R
      · rw [if_pos h]; simp [h]
      · rw [if_neg h]; simp [h]
    rw [← this] at hk
    exact hk
theorem putP_wire (d : PyData) (r : Wire) (acc : List Wire) (h : r ∉ acc) : putP (wkD acc d) (dW r) d = wkD (acc ++ [r]) d := by
  unfold putP
  rw [if_neg]
  · simp [wkD]
  · unfold wkD
    rw [List.any_map]
    intro e
    obtain ⟨y, hy, e⟩ := List.any_eq_true.mp e
    have e : PyData.eqv (dW y) (dW r) = true := e
    rw [eqv_wire] at e
    exact h (of_decide_eq_true e ▸ hy)
theorem min_pair {x y : Str} (b : Bool) (k : PyData → Prop) (hk : k (PyData.str (if dataLt (PyData.str y) (PyData.str x) = true then y else x))) : oMin (sq b [PyData.str x, PyData.str y]) k := by
  refine ⟨PyData.str x, [PyData.str y], by cases b <;> rfl, rfl, ?_⟩
  have : minD (PyData.str x) [PyData.str y] = PyData.str (if dataLt (PyData.str y) (PyData.str x) = true then y else x) := by
    show (if dataLt (PyData.str y) (PyData.str x) = true then PyData.str y else PyData.str x) = _
    split <;> rfl
  rw [this]; exact hk
theorem max_pair {x y : Str} (b : Bool) (k : PyData → Prop) (hk : k (PyData.str (if dataLt (PyData.str x) (PyData.str y) = true then y else x))) : oMax (sq b [PyData.str x, PyData.str y]) k := by
  refine ⟨PyData.str x, [PyData.str y], by cases b <;> rfl, rfl, ?_⟩
  have : maxD (PyData.str x) [PyData.str y] = PyData.str (if dataLt (PyData.str x) (PyData.str y) = true then y else x) := by
    show (if dataLt (PyData.str x) (PyData.str y) = true then PyData.str y else PyData.str x) = _
    split <;> rfl
  rw [this]; exact hk
theorem pair_minmax {w : Wire} {d : PyData} (h : PairOf w d) (hw : ltS w.1 w.2) : ∃ b x y, d = sq b [PyData.str x, PyData.str y] ∧ ((x = w.1 ∧ y = w.2) ∨ (x = w.2 ∧ y = w.1)) ∧ (∀ k : PyData → Prop, k (PyData.str w.1) → oMin d k) ∧ ∀ k : PyData → Prop, k (PyData.str w.2) → oMax d k := by
  obtain ⟨b, rfl | rfl⟩ := h
  · refine ⟨b, _, _, rfl, .inl ⟨rfl, rfl⟩, fun k hk => min_pair b k ?_, fun k hk => max_pair b k ?_⟩
    · rw [dataLt_asymm hw]; exact hk
    · rw [if_pos hw]; exact hk
  · refine ⟨b, _, _, rfl, .inr ⟨rfl, rfl⟩, fun k hk => min_pair b k ?_, fun k hk => max_pair b k ?_⟩
    · rw [if_pos hw]; exact hk
    · rw [dataLt_asymm hw]; exact hk
abbrev m_key : M := mTup (mCons (mON (on1 oMin) (mCons (mVar 6) mNil)) (mCons (mON (on1 oMax) (mCons (mVar 6) mNil)) mNil))
abbrev m_ktest : MT := mOrT (mNotT (mB (mMeth "Hall" "is_wire" 2 SP.Hall_is_wire (mVar 0) (mCons (mVar 6) mNil)))) (mB (mOp oIn m_key (mVar 4)))
theorem key_ok {R : List Str} {ws : List Wire} (hH : HOk R ws) {w : Wire} (hw : w ∈ ws) {d : PyData} (hp : PairOf w d) {a0 a1 a2 a3 a4 a5 a7 a8 a9 a10 : Option PyData} {n : Nat} {k : PyData → Nat → Prop} (hk : k (dW w) n) : m_key [a0, a1, a2, a3, a4, a5, some d, a7, a8, a9, a10] n k := by
  have z := sz
  obtain ⟨b, x, y, rfl, hxy, hmin, hmax⟩ := pair_minmax hp (hH.mem w hw).2.2
  unfold m_key
  walk_at "my_wp"
  refine hmin _ ?_
  refine hmax _ ?_
  exact ⟨by omega, hk⟩
theorem ktest_ok {R : List Str} {ws : List Wire} (hH : HOk R ws) {w : Wire} (hw : w ∈ ws) {d : PyData} (hp : PairOf w d) {acc : List Wire} (hacc : w ∉ acc) {a1 a2 a3 a5 a7 a8 a9 a10 : Option PyData} {n : Nat} {k : Bool → Nat → Prop} (hk : k false n) :
    m_ktest [some (insP "Hall" [("own_rooms", dL R)]), a1, a2, a3, some (.dict (wkD acc (.bool true))), a5, some d, a7, a8, a9, a10] n k := by
  have z := sz
  have hm := hH.mem w hw
  obtain ⟨b, x, y, rfl, hxy, hmin, hmax⟩ := pair_minmax hp hm.2.2
  have hR := hH.len
  have hne : w.1 ≠ w.2 := fun e => ltS_irrefl (show ltS w.1 w.1 by have := hm.2.2; rw [← e] at this; exact this)
  unfold m_ktest m_key
  walk_at "my_wp"
  refine ⟨_, rfl, rfl, ?_⟩
  refine ⟨R, b, x, y, by omega, ?_, ?_, ?_, rfl, ?_⟩
  · rcases hxy with ⟨rfl, _⟩ | ⟨rfl, _⟩
    · exact hm.1
    · exact hm.2.1
  · rcases hxy with ⟨_, rfl⟩ | ⟨_, rfl⟩
    · exact hm.2.1
    · exact hm.1
  · rcases hxy with ⟨rfl, rfl⟩ | ⟨rfl, rfl⟩
    · exact hne
    · exact Ne.symm hne
  walk_at "my_wp"
  refine hmin _ ?_
  refine hmax _ ?_
  refine ⟨by omega, ?_⟩
  show oInB id (dW w) _ _
  refine oIn_wires _ _ _ _ _ ?_
  simp only [hacc, decide_false]
  exact hk
def m_known : MS := (mFor (mEnum (mCons (mVar 2) mNil)) (tgT (tgCons (tgN 5) (tgCons (tgN 6) tgNil))) (mSeq (mIfS (mOrT (mNotT (mB (mMeth "Hall" "is_wire" 2 SP.Hall_is_wire (mVar 0) (mCons (mVar 6) mNil)))) (mB (mOp oIn (mTup (mCons (mON (on1 oMin) (mCons (mVar 6) mNil)) (mCons (mON (on1 oMax) (mCons (mVar 6) mNil)) mNil))) (mVar 4)))) mNo mSkip)
    (mPut 4 (mTup (mCons (mON (on1 oMin) (mCons (mVar 6) mNil)) (mCons (mON (on1 oMax) (mCons (mVar 6) mNil)) mNil))) (mC (.bool true)))))
theorem Al.split {α β : Type} {R : α → β → Prop} : ∀ {as : List α} {bs done rest : List β} {x : β}, Al R as bs → bs = done ++ x :: rest → ∃ d a r, as = d ++ a :: r ∧ Al R d done ∧ R a x ∧ Al R r rest
  | _, _, [], rest, x, h, e => by
    subst e
    cases h with
    | cons h1 h2 => exact ⟨[], _, _, rfl, .nil, h1, h2⟩
  | _, _, b :: done, rest, x, h, e => by
    subst e
    cases h with
    | cons h1 h2 =>
      obtain ⟨d, a, r, e1, e2, e3, e4⟩ := Al.split (done := done) h2 rfl
      exact ⟨_ :: d, a, r, by rw [e1]; rfl, .cons h1 e2, e3, e4⟩
theorem m_known_ok {R : List Str} {ws vs : List Wire} {b' : Bool} {es : List PyData} (hH : HOk R ws) (hp : vs.Perm ws) (ha : Al PairOf vs es) {rv : PyData} {s3 s5 s6 s7 s8 s9 s10 : Sl} {n : Nat} {k : Ks}
    (hk : ∀ a b, k.nx [.val (insP "Hall" [("own_rooms", dL R)]), .val rv, .val (sq b' es), s3, .own true (.dict (wkD vs (.bool true))), a, b, s7, s8, s9, s10] n) :
    m_known [.val (insP "Hall" [("own_rooms", dL R)]), .val rv, .val (sq b' es), s3, .own true (.dict []), s5, s6, s7, s8, s9, s10] n k := by
  have z := sz
  have hwl := hH.wl
  have hlen := ha.length
  have hplen := hp.length_eq
  unfold m_known
  walk_at "my_wp"
  rw [show (es.zipIdx.map fun p => PyData.tuple [.int (p.2 : Nat), p.1]) = es.zipIdx.map (fun p : PyData × Nat => .tuple [.int (p.2 : Nat), p.1]) from rfl]
  refine forW_it (fun p : PyData × Nat => .tuple [.int (p.2 : Nat), p.1]) (fun done γ n' => n' = n ∧ ∃ acc s5 s6, γ = [.val (insP "Hall" [("own_rooms", dL R)]), .val rv, .val (sq b' es), s3, .own true (.dict (wkD acc (.bool true))), s5, s6, s7, s8, s9, s10] ∧ Al PairOf acc (done.map (·.1)) ∧ ∃ r, vs = acc ++ r) es.zipIdx ⟨rfl, [], s5, s6, rfl, .nil, _, rfl⟩ ?_ ?_
  · rintro done ⟨d, i⟩ rest γ n' e ⟨rfl, acc, t5, t6, rfl, hacc, rst, hvs⟩
    refine ⟨_, rfl, fun K hK => ?_⟩
    obtain ⟨e1, _, _⟩ := zipIdx_split e
    obtain ⟨d0, w, r0, hd0, ha0, hw, _⟩ := Al.split ha e1
    have hacc_eq : d0 = acc := by
      have l1 := ha0.length
      have l2 := hacc.length
      rw [hd0] at hvs
      have := congrArg (List.take acc.length) hvs
      rw [List.take_left' rfl, List.take_left' (by omega)] at this
      exact this
    subst hacc_eq
    have hwm : w ∈ ws := hp.mem_iff.mp (by rw [hd0]; simp)
    have hwn : w ∉ d0 := fun h => by
      have := hp.nodup_iff.mpr hH.upw.nodup
      rw [hd0, List.nodup_append] at this
      exact this.2.2 w h w (by simp) rfl
    have hm := hH.mem w hwm
    obtain ⟨b, x, y, rfl, hxy, hmin, hmax⟩ := pair_minmax hw hm.2.2
    have hR := hH.len
    walk_at "my_wp"
    have hne : w.1 ≠ w.2 := fun e => ltS_irrefl (show ltS w.1 w.1 by have := hm.2.2; rw [← e] at this; exact this)
    refine ⟨_, rfl, rfl, ?_⟩
    refine ⟨R, b, x, y, by omega, ?_, ?_, ?_, rfl, ?_⟩
    · rcases hxy with ⟨rfl, _⟩ | ⟨rfl, _⟩
      · exact hm.1
      · exact hm.2.1
    · rcases hxy with ⟨_, rfl⟩ | ⟨_, rfl⟩
      · exact hm.2.1
      · exact hm.1
    · rcases hxy with ⟨rfl, rfl⟩ | ⟨rfl, rfl⟩
      · exact hne
      · exact Ne.symm hne
    walk_at "my_wp"
    refine hmin _ ?_
    refine hmax _ ?_
    refine ⟨by omega, ?_⟩
    show oInB id (dW w) _ _
    refine oIn_wires _ _ _ _ _ ?_
    simp only [hwn, decide_false]
    walk_at "my_wp"
    refine ⟨true, _, rfl, ?_⟩
    walk_at "my_wp"
    refine hmin _ ?_
    refine hmax _ ?_
    refine ⟨by omega, ?_⟩
    have hdl : d0.length < es.length := by rw [← hlen, hd0]; simp
    refine ⟨by rw [List.length_map]; omega, rfl, ?_⟩
    refine hK _ _ ⟨rfl, d0 ++ [w], .val (.int (i : Nat)), .val (sq b [PyData.str x, PyData.str y]), ?_, ?_, r0, ?_⟩
    · show [_, _, _, _, Sl.own true (.dict (putP (wkD d0 (.bool true)) (dW w) (.bool true))), _, _, _, _, _, _] = _
      rw [putP_wire _ _ _ hwn]
    · rw [List.map_append]
      exact ha0.app (.cons hw .nil)
    · rw [hd0]; simp
  · rintro γ n' ⟨rfl, acc, t5, t6, rfl, hacc, rst, hvs⟩
    have : acc = vs := by
      have l := hacc.length
      rw [List.length_map, List.length_zipIdx] at l
      have l2 := congrArg List.length hvs
      rw [List.length_append] at l2
      have : rst = [] := List.eq_nil_of_length_eq_zero (by omega)
      rw [hvs, this, List.append_nil]
    rw [this]
    exact hk _ _
end W
namespace DL
open PySem PySem.Spec PyProof.Rows L2
theorem ps_lockBegin {X : Cx} {st : Stmt} {t : TS} (h : PS X st t) : PS X st fun D σ H => ∃ d u, H d = some u ∧ Mut (some u) ∧ ∀ od, t D σ (upd H d (.frz od u)) := by
  refine ⟨fun pins s σ H D I hw => ?_⟩
  obtain ⟨d, u, hd, mu, q⟩ := hw
  obtain ⟨od, I3⟩ := I.lock hd mu
  exact h.run pins s σ _ _ I3 (q od)
end DL
namespace W
open PySem PySem.Spec PySem.W PyProof.Rows L2 DL GF
section
variable {P : Program} {w : World} {K : PySem.W.Frag} {mg : Str → Option Value} {base : Heap}
theorem hall_ok (B : Bt mg) (GT : Gt K mg) (c_first_bad_room : CalD P w K mg base 2 1 "first_bad_room" SP.first_bad_room) (c_is_list : CalD P w K mg base 1 1 "is_list" SP.is_list) (c_Hall_is_wire : MetD P w K mg base 3 2 "Hall" "is_wire" SP.Hall_is_wire) {f : Addr} {fd : FuncData} {x : Str} {params : Arguments}
    (FD : FunD K x "Hall.__init__" params (defBody s_Hall_init) (defScope s_Hall_init) [] [] f fd) :
    FnOk P w K mg base CX0 4 f fd ["self", "rooms", "wires"] (spI K "Hall" 2 sp_Hall) := by
  refine FD.ok sc_Hall_init (fun vs H Q E h => by obtain ⟨x, dx, vs', H0, rfl, hl, _⟩ := h; simp [hl]) fun cdv A outer s0 H vs Q E hr h => ?_
  have hu : (A.deeper (envOfC "Hall.__init__" (defScope s_Hall_init) s0.heap.objs.size f cdv)).units + 65 < cLine := by have := hr.un; omega
  have hu64 : (A.deeper (envOfC "Hall.__init__" (defScope s_Hall_init) s0.heap.objs.size f cdv)).units + 64 < cLine := by omega
  have hu1 : (A.deeper (envOfC "Hall.__init__" (defScope s_Hall_init) s0.heap.objs.size f cdv)).units + 1 < cLine := by omega
  have nd_Hall_init : N_Hall_init.Nodup := by decide +kernel
  refine ⟨_, (show PSs (cxOf CX0 P w K mg base N_Hall_init "Hall.__init__" (defScope s_Hall_init) f cdv A outer s0 H E).nox (defBody s_Hall_init) _ from pss_lockEnd
    (pss_cons (ps_set (i := 3) nd_Hall_init rfl (Or.inl rfl) (de_call c_first_bad_room hr (by decide) rfl (da_cons (dv 1) da_nil)))
    (pss_cons (ps_if (dt_cmp op_notND (dv 3) de_non (nomark _)) (dss_one ds_no) pss_nil)
    (pss_cons (ps_fld (pe_var (i := 0) rfl (Or.inl rfl)) (de_callB (call_sortedD1 rfl hu) rfl B.sorted bv_sorted (da_cons (dv 1) da_nil)) rfl)
    (pss_cons (ps_if (dt_not (dt_val (de_call c_is_list hr (by decide) rfl (da_cons (dv 2) da_nil)))) (dss_one ds_no) pss_nil)
    (pss_cons (ps_set (i := 4) nd_Hall_init rfl (Or.inl rfl) pe_dnewT)
    (pss_cons (ps_for PassesOwn.never rfl (di_enumA rfl B.enumerate (da_cons (dv 2) da_nil)) (dg_tup rfl (dgs_cons (dg 5 nd_Hall_init) (dgs_cons (dg 6 nd_Hall_init) dgs_nil)) (tgCons_len (tgCons_len tgNil_len))) (pss_cons (ps_if (pt_pk (dt_w (dw_or (dt_not (dt_val (de_meth c_Hall_is_wire hr (by decide) (dv 0) (da_cons (dv 6) da_nil)))) (dw_or1 (dt_cmp (op_inDD hu) (de_tup (da_cons (de_callB (call_minD1 rfl hu) rfl B.min bv_min (da_cons (dv 6) da_nil)) (da_cons (de_callB (call_maxD1 rfl hu) rfl B.max bv_max (da_cons (dv 6) da_nil)) da_nil))) (dv 4) (by rfl)))))) (dss_one ds_no) pss_nil)
      (pss_one (ps_dput hu1 (pe_var (i := 4) rfl (Or.inl rfl)) (de_tup (da_cons (de_callB (call_minD1 rfl hu) rfl B.min bv_min (da_cons (dv 6) da_nil)) (da_cons (de_callB (call_maxD1 rfl hu) rfl B.max bv_max (da_cons (dv 6) da_nil)) da_nil))) de_bl rfl))))
    (pss_cons (ps_lockBegin (ps_fld (pe_var (i := 0) rfl (Or.inl rfl)) (de_callB (call_sortedD1 rfl hu) rfl B.sorted bv_sorted (da_cons (dv 4) da_nil)) rfl))
    (pss_cons (ps_fld (pe_var (i := 0) rfl (Or.inl rfl)) (pe_dc (g := tDG K (tgN 7)) (tt := tDT K mYes) (tk := tD K (mVar 7)) (tv := tLst tNil) (own := [("room", 7)]) rfl nd_Hall_init (di_any (de_fld GT.cls_Hall GT.na_Hall_own_rooms (dv 0))) (blkOk_by rfl) (fun _ _ _ _ _ => dg 7 nd_Hall_init) (fun _ _ _ _ _ => dts_nil) (fun _ _ _ _ _ => dv 7) (fun _ _ _ _ _ => pe_lst pa_nil)) rfl)
    (pss_cons (ps_for PassesOwn.never rfl (di_any (de_fld GT.cls_Hall GT.na_Hall_own_wires (dv 0))) (dg_tup rfl (dgs_cons (dg 8 nd_Hall_init) (dgs_cons (dg 9 nd_Hall_init) dgs_nil)) (tgCons_len (tgCons_len tgNil_len)))
      (pss_cons (ps_expr (pe_bm PySem.F.plainAttrs_list PySem.F.slot_list_append PySem.F.type_list_append mt_append (pe_ix (ix_dict hu1) (pe_fld (pe_var (i := 0) rfl (Or.inl rfl)) rfl) (dv 8) (fun _ _ => rfl)) (pa_cons (dv 9) pa_nil)))
      (pss_one (ps_expr (pe_bm PySem.F.plainAttrs_list PySem.F.slot_list_append PySem.F.type_list_append mt_append (pe_ix (ix_dict hu1) (pe_fld (pe_var (i := 0) rfl (Or.inl rfl)) rfl) (dv 9) (fun _ _ => rfl)) (pa_cons (dv 8) pa_nil))))))
    (pss_one (ps_lockBegin (ps_fld (pe_var (i := 0) rfl (Or.inl rfl)) (dn_dc (own := [("room", 7), ("others", 10)]) rfl nd_Hall_init (di_items (de_fld GT.cls_Hall GT.na_Hall_own_around (dv 0))) (blkOk_by rfl) (tgT_in (tgCons_in (tgN_in (by decide)) (tgCons_in (tgN_in (by decide)) tgNil_in))) (fun _ _ _ _ _ => (dg_tup rfl (dgs_cons (dg 7 nd_Hall_init) (dgs_cons (dg 10 nd_Hall_init) dgs_nil)) (tgCons_len (tgCons_len tgNil_len)))) (fun _ _ _ _ _ => dts_nil) (fun _ _ _ _ _ => dv 7) (fun _ _ _ _ _ => (de_callB (call_sortedD1 rfl hu) rfl B.sorted bv_sorted (da_cons (dv 10) da_nil)))) rfl))))))))))))).nox, ?_⟩
  obtain ⟨x, dx, vs', H0, rfl, hl, hx0, hdx0, hne, rfl, F0, S, n, ds, fr0, hd, k, ⟨R, ws, b, rs, b', wv, es, hH, hpr, hpw, hal, rfl, hk⟩, hQ⟩ := h
  obtain ⟨v1, v2, rfl, hv1, hv2⟩ : ∃ v1 v2, vs' = [v1, v2] ∧ Den K F0 S v1 (sq b (rs.map fun z => PyData.str z)) ∧ Den K F0 S v2 (sq b' es) := by
    cases hd with
    | cons h1 t => cases t with
      | cons h2 t => cases t; exact ⟨_, _, rfl, h1, h2⟩
  have z := sz
  have hRl := hH.len
  have hxS : ¬ inS S x := fr0.notS hx0
  have hrl : rs.length = R.length := hpr.length_eq
  have exte : Ext S n H0 (upd (upd H0 dx (.own x)) x (.ins (He.ga K "Hall") dx [])) := Ext.over fr0 (Ext.over fr0 fr0.ext hdx0) hx0
  have frE : DL.Fr F0 S n (upd (upd H0 dx (.own x)) x (.ins (He.ga K "Hall") dx [])) := fr0.wide exte fun c xs h e => by
    by_cases h1 : c = x
    · subst h1; rw [upd_same] at e; cases e
    · rw [upd_ne h1] at e
      by_cases h2 : c = dx
      · subst h2; rw [upd_same] at e; cases e
      · rw [upd_ne h2, h] at e; cases e
  have hxE : (upd (upd H0 dx (.own x)) x (.ins (He.ga K "Hall") dx [])) x = some (.ins (He.ga K "Hall") dx []) := upd_same
  generalize hHE : upd (upd H0 dx (.own x)) x (.ins (He.ga K "Hall") dx []) = HE at exte frE hxE
  have F0x : F0 x = none := by
    cases e : F0 x with
    | none => rfl
    | some u => have := fr0.sub x u e; rw [hx0] at this; cases this
  have fr00 := fr0
  have ae0 : AgE K F0 S n HE (pl ([.no, .val (sq b (rs.map fun z => PyData.str z)), .val (sq b' es), .no, .no, .no, .no, .no, .no, .no, .no] : DL.G)) (L2.start N_Hall_init [V.ref x, v1, v2]) := by
    refine ⟨frE, fun i d e => ?_, rfl⟩
    match i, e with
    | 1, e => cases e; exact ⟨v1, rfl, hv1⟩
    | 2, e => cases e; exact ⟨v2, rfl, hv2⟩
    | 0, e => cases e
    | 3, e => cases e
    | 4, e => cases e
    | 5, e => cases e
    | 6, e => cases e
    | 7, e => cases e
    | 8, e => cases e
    | 9, e => cases e
    | 10, e => cases e
    | i + 11, e => cases e
  refine ⟨F0, S, n, _, ae0, fun d n' => n' = n ∧ d = .none, ?_, ?_⟩
  · walk_at "my_wp"
    exact ⟨b, rs, hpr.nodup_iff.mpr hH.up.nodup, (fun e => by
      rw [e] at hrl
      exact hH.ne (List.eq_nil_of_length_eq_zero hrl.symm)), by omega, (fun r hr => hH.nam r (hpr.mem_iff.mp hr)), rfl, rfl, rfl⟩
  rintro d n1 ⟨rfl, rfl⟩ w1 H1 p1
  have ae1 : AgE K (grow F0 HE H1) S n1 H1 (pl ([.no, .val (sq b (rs.map fun z => PyData.str z)), .val (sq b' es), .val .none, .no, .no, .no, .no, .no, .no, .no] : DL.G)) ((L2.start N_Hall_init [V.ref x, v1, v2]).set 3 (some w1)) := (ae0.next p1.ext).set (i := 3) p1.den
  have fr1 := ae1.fr
  have hx1 : H1 x = some (.ins (He.ga K "Hall") dx []) := p1.ext.kp x _ hxE hxS
  have ext1 : Ext S n1 H0 H1 := exte.trans p1.ext
  have F1x : grow F0 HE H1 x = none := grow_old F0x hxE
  have pv1 : Prov x F0 H0 (grow F0 HE H1) H1 := Prov.next (n0 := n1) (fun a o h _ => .inl h) fr0 frE exte p1.ext
  generalize grow F0 HE H1 = F1 at ae1 fr1 F1x pv1
  refine ⟨F1, S, n1, _, ae1, fun b n' => n' = n1 ∧ b = false, ?_, ?_⟩
  · walk_at "my_wp"
    first | exact ⟨rfl, rfl⟩ | rfl
  rintro c n2 ⟨rfl, rfl⟩ H2 e2
  rw [if_neg (by decide)]
  have ae2 := ae1.next e2
  have hx2 : H2 x = some (.ins (He.ga K "Hall") dx []) := e2.kp x _ hx1 hxS
  have ext2 : Ext S n2 H0 H2 := ext1.trans e2
  have F2x : grow F1 H1 H2 x = none := grow_old F1x hx1
  have pv2 := pv1.next fr0 fr1 ext1 e2
  generalize grow F1 H1 H2 = F2 at ae2 F2x pv2
  refine ⟨F2, S, n2, _, ae2, fun d n' => n' = n2 ∧ d = dL R, ?_, ?_⟩
  · walk_at "my_wp"
    have : oSorted (sq b (rs.map fun z => PyData.str z)) = oSorted (.list (rs.map fun z => PyData.str z)) := by cases b <;> rfl
    rw [this]
    exact sorted_texts hH.up hpr.symm (by first | exact ⟨rfl, rfl⟩ | rfl)
  rintro d n3 ⟨rfl, rfl⟩ vR H3 p3
  have hx3 : H3 x = some (.ins (He.ga K "Hall") dx []) := p3.ext.kp x _ hx2 hxS
  have dR : Den K (grow F2 H2 H3) S vR (dL R) := p3.den
  have ae3 := ae2.next p3.ext
  have ext3 : Ext S n3 H0 H3 := ext2.trans p3.ext
  have F3x : grow F2 H2 H3 x = none := grow_old F2x hx2
  have pv3 := pv2.next fr0 ae2.fr ext2 p3.ext
  generalize grow F2 H2 H3 = F3 at dR ae3 F3x pv3
  refine ⟨.ref x, rfl, x, _, dx, [], rfl, hx3, GT.cls_Hall, GT.na_Hall_own_rooms, (show (0 : Nat) < 1000 by decide), ?_⟩
  show tSeq _ _ _ _ (upd H3 x (.ins (He.ga K "Hall") dx [("own_rooms", vR)]))
  have fr4 : DL.Fr (upd F3 x (.ins (He.ga K "Hall") dx [("own_rooms", vR)])) S n3 (upd H3 x (.ins (He.ga K "Hall") dx [("own_rooms", vR)])) := ae3.fr.put hxS (fun _ e => by cases e)
  have pv4 : Prov x F0 H0 (upd F3 x (.ins (He.ga K "Hall") dx [("own_rooms", vR)])) (upd H3 x (.ins (He.ga K "Hall") dx [("own_rooms", vR)])) := pv3.put
  have ext4 : Ext S n3 H0 (upd H3 x (.ins (He.ga K "Hall") dx [("own_rooms", vR)])) := Ext.over fr0 ext3 hx0
  have sF34 : DL.Sub F3 (upd F3 x (.ins (He.ga K "Hall") dx [("own_rooms", vR)])) := fun a o h => by
    rw [upd_ne (fun e => by rw [e, F3x] at h; cases h)]; exact h
  have F4x : (upd F3 x (.ins (He.ga K "Hall") dx [("own_rooms", vR)])) x = some (.ins (He.ga K "Hall") dx [("own_rooms", vR)]) := upd_same
  have hx4 : (upd H3 x (.ins (He.ga K "Hall") dx [("own_rooms", vR)])) x = some (.ins (He.ga K "Hall") dx [("own_rooms", vR)]) := upd_same
  have σ4l : ((L2.start N_Hall_init [V.ref x, v1, v2]).set 3 (some w1)).length = 11 := rfl
  have σ40 : ((L2.start N_Hall_init [V.ref x, v1, v2]).set 3 (some w1))[0]? = some (some (V.ref x)) := rfl
  generalize ((L2.start N_Hall_init [V.ref x, v1, v2]).set 3 (some w1)) = σ4 at ae3 σ4l σ40
  generalize upd F3 x (.ins (He.ga K "Hall") dx [("own_rooms", vR)]) = F4 at fr4 pv4 sF34 F4x
  generalize upd H3 x (.ins (He.ga K "Hall") dx [("own_rooms", vR)]) = H4 at fr4 pv4 ext4 hx4
  have ae4 : AgE K F4 S n3 H4 (pl ([.val (insP "Hall" [("own_rooms", dL R)]), .no, .val (sq b' es), .no, .no, .no, .no, .no, .no, .no, .no] : DL.G)) σ4 := by
    refine ⟨fr4, fun i d e => ?_, by rw [σ4l]; rfl⟩
    match i, e with
    | 0, e => cases e; exact ⟨_, σ40, .ins F4x rfl (.cons (dR.mono sF34) .nil)⟩
    | 2, e =>
      cases e
      obtain ⟨v, a1, a2⟩ := ae3.slot 2 _ rfl
      exact ⟨v, a1, a2.mono sF34⟩
    | 1, e => cases e
    | 3, e => cases e
    | 4, e => cases e
    | 5, e => cases e
    | 6, e => cases e
    | 7, e => cases e
    | 8, e => cases e
    | 9, e => cases e
    | 10, e => cases e
    | i + 11, e => cases e
  refine ⟨F4, S, n3, _, ae4, fun b n' => n' = n3 ∧ b = false, ?_, ?_⟩
  · walk_at "my_wp"
    exact ⟨b', es, rfl, by first | exact ⟨rfl, rfl⟩ | rfl⟩
  rintro c n5 ⟨rfl, rfl⟩ H5 e5
  rw [if_neg (by decide)]
  have ae5 := ae4.next e5
  have hx5 : H5 x = some (.ins (He.ga K "Hall") dx [("own_rooms", vR)]) := e5.kp x _ hx4 hxS
  have ext5 : Ext S n5 H0 H5 := ext4.trans e5
  have pv5 := pv4.next fr0 fr4 ext4 e5
  have F5x : grow F4 H4 H5 x = some (.ins (He.ga K "Hall") dx [("own_rooms", vR)]) := sub_grow x _ F4x
  have dR5 : Den K (grow F4 H4 H5) S vR (dL R) := (dR.mono sF34).mono sub_grow
  generalize grow F4 H4 H5 = F5 at ae5 pv5 F5x dR5
  have fr5 := ae5.fr
  intro pk hpk
  unfold gName
  have pkS : ¬ inS S pk := fr5.notS hpk
  have hpkx : pk ≠ x := fun e => by rw [e, hx5] at hpk; cases hpk
  have ag6 : AgS K H5 F5 (exs [pk] (grow F5 H5 (upd H5 pk (.dT [])))) S n5 (upd H5 pk (.dT [])) [.val (insP "Hall" [("own_rooms", dL R)]), .no, .val (sq b' es), .no, .own true (.dict (wkD [] (.bool true))), .no, .no, .no, .no, .no, .no] (σ4.set 4 (some (.ref pk))) := by
    refine AgS.begin fr5 (Ext.new fr5 hpk) [pk] (fun a ha => by rw [List.mem_singleton.mp ha]; exact hpk) (fun a ha xs e => by rw [List.mem_singleton.mp ha, upd_same] at e; cases e) ?_ ?_ ?_ (by rw [List.length_set, σ4l]; rfl)
    · intro i d e
      match i, e with
      | 0, e =>
        cases e
        obtain ⟨v, a1, a2⟩ := ae5.slot 0 _ rfl
        exact ⟨v, by rw [List.getElem?_set_ne (by decide)]; exact a1, a2⟩
      | 2, e =>
        cases e
        obtain ⟨v, a1, a2⟩ := ae5.slot 2 _ rfl
        exact ⟨v, by rw [List.getElem?_set_ne (by decide)]; exact a1, a2⟩
      | 1, e => cases e
      | 3, e => cases e
      | 4, e => cases e
      | 5, e => cases e
      | 6, e => cases e
      | 7, e => cases e
      | 8, e => cases e
      | 9, e => cases e
      | 10, e => cases e
      | i + 11, e => cases e
    · intro i U d e
      match i, e with
      | 4, e => cases e; exact ⟨pk, by rw [List.getElem?_set_self (by rw [σ4l]; decide)], by simp, .dT (kvs := []) (es := []) upd_same rfl .nil rfl⟩
      | 0, e => cases e
      | 1, e => cases e
      | 2, e => cases e
      | 3, e => cases e
      | 5, e => cases e
      | 6, e => cases e
      | 7, e => cases e
      | 8, e => cases e
      | 9, e => cases e
      | 10, e => cases e
      | i + 11, e => cases e
    · intro i j U U2 d e a h1 h2 hij
      match i, j, h1, h2 with
      | 4, 4, _, _ => exact absurd rfl hij
      | 0, _, e, _ => cases e
      | 1, _, e, _ => cases e
      | 2, _, e, _ => cases e
      | 3, _, e, _ => cases e
      | 5, _, e, _ => cases e
      | 6, _, e, _ => cases e
      | 7, _, e, _ => cases e
      | 8, _, e, _ => cases e
      | 9, _, e, _ => cases e
      | 10, _, e, _ => cases e
      | i + 11, _, e, _ => cases e
      | _, 0, _, e => cases e
      | _, 1, _, e => cases e
      | _, 2, _, e => cases e
      | _, 3, _, e => cases e
      | _, 5, _, e => cases e
      | _, 6, _, e => cases e
      | _, 7, _, e => cases e
      | _, 8, _, e => cases e
      | _, 9, _, e => cases e
      | _, 10, _, e => cases e
      | _, j + 11, _, e => cases e
  have hx6 : (upd H5 pk (.dT [])) x = some (.ins (He.ga K "Hall") dx [("own_rooms", vR)]) := by rw [upd_ne (Ne.symm hpkx)]; exact hx5
  have σ6l : (σ4.set 4 (some (.ref pk))).length = 11 := by rw [List.length_set]; exact σ4l
  have σ60 : (σ4.set 4 (some (.ref pk)))[0]? = some (some (V.ref x)) := by rw [List.getElem?_set_ne (by decide)]; exact σ40
  have σ64 : (σ4.set 4 (some (.ref pk)))[4]? = some (some (V.ref pk)) := by rw [List.getElem?_set_self (by rw [σ4l]; decide)]
  with_reducible change tSeq _ _ _ (σ4.set 4 (some (.ref pk))) (upd H5 pk (.dT []))
  generalize σ4.set 4 (some (.ref pk)) = σ6 at ag6 σ6l σ60 σ64
  have sF56 : DL.Sub F5 (exs [pk] (grow F5 H5 (upd H5 pk (.dT [])))) := sub_exs sub_grow fun a ha => by rw [List.mem_singleton.mp ha]; exact fr5.none hpk
  generalize exs [pk] (grow F5 H5 (upd H5 pk (.dT []))) = F6 at ag6 sF56
  generalize upd H5 pk (.dT []) = H6 at ag6 hx6
  refine ⟨F6, S, n5, _, ag6.plain, fun ds n' => n' = n5 ∧ ds = es.zipIdx.map (fun p : PyData × Nat => .tuple [.int (p.2 : Nat), p.1]), ?_, ?_⟩
  · walk_at "my_wp"
  rintro ds n6 ⟨rfl, rfl⟩ J H7 e7 wk
  have ag7 := ag6.next e7
  have hx7 := e7.kp x _ hx6 hxS
  have sF57 : DL.Sub F5 (grow F6 H6 H7) := sF56.trans sub_grow
  generalize grow F6 H6 H7 = F7 at ag7 wk sF57
  refine for_it (n := (es.zipIdx.map (fun p : PyData × Nat => PyData.tuple [.int (p.2 : Nat), p.1])).length) (J := J) (G := fun H' => DL.Sub F7 H') wk
    (fun i σ H => ∃ F acc s5 s6 r, AgS K H5 F5 F S n6 H [.val (insP "Hall" [("own_rooms", dL R)]), .no, .val (sq b' es), .no, .own true (.dict (wkD acc (.bool true))), s5, s6, .no, .no, .no, .no] σ ∧ σ.length = 11 ∧ σ[0]? = some (some (V.ref x)) ∧ σ[4]? = some (some (V.ref pk)) ∧ H x = some (.ins (He.ga K "Hall") dx [("own_rooms", vR)]) ∧ DL.Sub F7 F ∧ wv = acc ++ r ∧ acc.length = i)
    ⟨F7, [], _, _, wv, ag7, σ6l, σ60, σ64, hx7, Sub.refl _, rfl, rfl⟩ (fun i σ' H' _ ⟨F, _, _, _, _, a, _, _, _, _, s, _⟩ => s.trans a.fr.sub) ?_ ?_
  · rintro i y σ H H' hi ⟨F, acc, t5, t6, r, ag, sl, s0, s4, hx, sF, hwv, hacl⟩ hy
    obtain ⟨d, ed, px⟩ := hy n6 F sF ag.fr
    rw [List.length_map, List.length_zipIdx] at hi
    have hei : es.zipIdx[i]? = some (es[i], i) := by rw [List.getElem?_zipIdx, List.getElem?_eq_getElem hi]; simp
    rw [List.getElem?_map, hei] at ed
    cases ed
    obtain ⟨w, hwi, hwp⟩ : ∃ w, wv[i]? = some w ∧ PairOf w es[i] := by
      have : ∀ {as : List Wire} {bs : List PyData}, Al PairOf as bs → ∀ (i : Nat) (h : i < bs.length), ∃ w, as[i]? = some w ∧ PairOf w bs[i] := by
        intro as bs h
        induction h with
        | nil => intro i h; cases h
        | cons h1 h2 ih =>
          intro i h
          cases i with
          | zero => exact ⟨_, rfl, h1⟩
          | succ i => simpa using ih i (by simpa using h)
      exact this hal i hi
    have hwm : w ∈ ws := hpw.mem_iff.mp (List.mem_of_getElem? hwi)
    have hwn : w ∉ acc := fun h => by
      have nd := hpw.nodup_iff.mpr hH.upw.nodup
      rw [hwv, List.nodup_append] at nd
      rw [hwv, List.getElem?_append_right (by omega)] at hwi
      exact nd.2.2 w h w (List.mem_of_getElem? hwi) rfl
    have hr : ∃ r', r = w :: r' := by
      rw [hwv, List.getElem?_append_right (by omega), hacl, Nat.sub_self] at hwi
      cases r with
      | nil => cases hwi
      | cons a r' => cases hwi; exact ⟨r', rfl⟩
    obtain ⟨r', rfl⟩ := hr
    have ag2 := ag.next px.ext
    have hx2 := px.ext.kp x _ hx hxS
    have dpx := px.den
    have sF2 : DL.Sub F7 (grow F H H') := sF.trans sub_grow
    generalize grow F H H' = F' at ag2 dpx sF2
    refine ⟨F', S, n6, _, _, ag2.fr, dpx, rfl, fun σ1 as => ?_⟩
    have ag3 : AgS K H5 F5 F' S n6 H' [.val (insP "Hall" [("own_rooms", dL R)]), .no, .val (sq b' es), .no, .own true (.dict (wkD acc (.bool true))), .val (.int (i : Nat)), .val es[i], .no, .no, .no, .no] σ1 := ag2.ass as
    have sl1 : σ1.length = 11 := as.length.trans sl
    have s01 : σ1[0]? = some (some (.ref x)) ∧ σ1[4]? = some (some (.ref pk)) := by
      cases as with
      | cons _ t => cases t with
        | cons _ t => cases t; simp [List.getElem?_set, s0, s4]
    clear ag2 as
    refine ⟨H5, F5, F', S, n6, _, ag3, fun b n' => n' = n6 ∧ b = false, ktest_ok hH hwm hwp hwn ⟨rfl, rfl⟩, ?_⟩
    rintro c n7 ⟨rfl, rfl⟩ H8 e8
    rw [if_neg (by decide)]
    have ag4 := ag3.next e8
    have hx8 := e8.kp x _ hx2 hxS
    have sF4 : DL.Sub F7 (grow F' H' H8) := sF2.trans sub_grow
    generalize grow F' H' H8 = F8 at ag4 sF4
    refine ⟨F8, S, n7, _, ag4.plain, fun d n' => n' = n7 ∧ d = .bool true, ⟨rfl, rfl⟩, ?_⟩
    rintro d n8 ⟨rfl, rfl⟩ vt H9 p9
    have ag5 := ag4.next p9.ext
    have hx9 := p9.ext.kp x _ hx8 hxS
    have dvt := p9.den
    have sF5 : DL.Sub F7 (grow F8 H8 H9) := sF4.trans sub_grow
    generalize grow F8 H8 H9 = F9 at ag5 dvt sF5
    refine ⟨.ref pk, s01.2, ?_⟩
    refine ⟨F9, S, n8, _, ag5.plain, fun d n' => n' = n8 ∧ d = dW w, key_ok hH hwm hwp ⟨rfl, rfl⟩, ?_⟩
    rintro d n9 ⟨rfl, rfl⟩ vk H10 p10
    have ag6 := ag5.next p10.ext
    have hx10 := p10.ext.kp x _ hx9 hxS
    have dvk := p10.den
    have sF6 : DL.Sub F7 (grow F9 H9 H10) := sF5.trans sub_grow
    have dvt' := dvt.mono (sub_grow (F := F9) (H := H9) (H' := H10))
    generalize grow F9 H9 H10 = F10 at ag6 dvk sF6 dvt'
    have hal2 := hal.length
    have hwl := hH.wl
    have hpl := hpw.length_eq
    obtain ⟨a, H11, q1, q2, ag7'⟩ := ag6.put (i := 4) (T := true) (es := wkD acc (.bool true)) rfl dvt' dvk (by rw [List.length_map]; omega) rfl
    rw [s01.2] at q1
    cases q1
    refine ⟨pk, H11, rfl, q2, ?_⟩
    rw [putP_wire _ _ _ hwn] at ag7'
    refine ⟨F10, acc ++ [w], .val (.int (i : Nat)), .val es[i], r', ag7', sl1, s01.1, s01.2, ?_, sF6, by rw [hwv]; simp, by rw [List.length_append, hacl]; rfl⟩
    rcases q2 with ⟨_, _, _, _, _, rfl⟩ | ⟨_, _, _, _, _, _, _, rfl⟩
    · rw [upd_ne (Ne.symm hpkx)]; exact hx10
    · rw [upd_ne (Ne.symm hpkx)]; exact hx10
  rintro σ H ⟨F, acc, t5, t6, r, ag, sl, s0, s4, hx, sF, hwv, hacl⟩
  have hacc : acc = wv := by
    rw [List.length_map, List.length_zipIdx, ← hal.length] at hacl
    have := congrArg List.length hwv
    rw [List.length_append] at this
    have : r = [] := List.eq_nil_of_length_eq_zero (by omega)
    rw [hwv, this, List.append_nil]
  subst hacc
  obtain ⟨kb, ho, hfz⟩ := ag.freeze (i := 4) rfl
  obtain ⟨kvs, hkb⟩ : ∃ kvs, H kb = some (.dT kvs) := by
    generalize ed : PyData.dict (wkD acc (.bool true)) = dd at ho
    cases ho with
    | dT h1 _ _ _ => exact ⟨_, h1⟩
  refine ⟨kb, .dT kvs, hkb, trivial, fun od => ?_⟩
  obtain ⟨F', sF', ag8⟩ := hfz _ _ hkb (.dT od kvs)
  have hkbx : kb ≠ x := fun e => by rw [e, hx] at hkb; cases hkb
  have hx8 : (upd H kb (.frz od (.dT kvs))) x = some (.ins (He.ga K "Hall") dx [("own_rooms", vR)]) := by rw [upd_ne (Ne.symm hkbx)]; exact hx
  have ag8 : AgS K H5 F5 F' S n6 (upd H kb (.frz od (.dT kvs))) [.val (insP "Hall" [("own_rooms", dL R)]), .no, .val (sq b' es), .no, .val (.dict (wkD acc (.bool true))), t5, t6, .no, .no, .no, .no] σ := ag8
  generalize upd H kb (.frz od (.dT kvs)) = H8 at ag8 hx8
  have pv8 : Prov x F0 H0 F' H8 := Prov.ofInn pv5 fr0 fr5 ext5 ag8.inn ag8.kp
  have sF5' : DL.Sub F5 F' := (sF57.trans sF).trans sF'
  have dR8 : Den K F' S vR (dL R) := dR5.mono sF5'
  have F8x : F' x = some (.ins (He.ga K "Hall") dx [("own_rooms", vR)]) := sF5' x _ F5x
  have ext8 : Ext S n6 H0 H8 := ⟨ext5.kp.trans ag8.kp, ag8.fr.str⟩
  have hwl := hH.wl
  have hpl := hpw.length_eq
  refine ⟨F', S, n6, _, ag8.plain, fun d n' => n' = n6 ∧ d = wiresD ws, ?_, ?_⟩
  · walk_at "my_wp"
    refine ⟨acc.map dW, ?_, sortOk_wires acc, ?_⟩
    · show (if noNone (wkD acc (.bool true)) = true then _ else _) = _
      rw [if_pos (noNone_wires acc _), List.map_map]; rfl
    · rw [sort_wires hH.upw hpw.symm]
  rintro d n9 ⟨rfl, rfl⟩ vW H9 p9
  have ae9 := ag8.plain.next p9.ext
  have hx9 := p9.ext.kp x _ hx8 hxS
  have dW9 := p9.den
  have dR9 := dR8.mono (sub_grow (F := F') (H := H8) (H' := H9))
  have pv9 := pv8.next fr0 ag8.fr ext8 p9.ext
  have ext9 : Ext S n9 H0 H9 := ext8.trans p9.ext
  have fr9 := ae9.fr
  have F9x : (grow F' H8 H9) x = some (.ins (He.ga K "Hall") dx [("own_rooms", vR)]) := sub_grow x _ F8x
  generalize grow F' H8 H9 = F9 at dW9 dR9 pv9 fr9 F9x
  refine ⟨.ref x, s0, x, _, dx, [("own_rooms", vR)], rfl, hx9, GT.cls_Hall, GT.na_Hall_own_wires, (show (1 : Nat) < 1000 by decide), ?_⟩
  show tSeq _ _ _ σ (upd H9 x (.ins (He.ga K "Hall") dx [("own_rooms", vR), ("own_wires", vW)]))
  have n1x : ∀ xs, F9 x ≠ some (.lst xs) := fun xs e => by rw [F9x] at e; cases e
  have n2x : ∀ xs, F9 x ≠ some (.tup xs) := fun xs e => by rw [F9x] at e; cases e
  have ndW : nd (wiresD ws) = true := by
    show ndL (ws.map dW) = true
    exact (sortOk_wires ws).nd
  have fr10 : DL.Fr (upd F9 x (.ins (He.ga K "Hall") dx [("own_rooms", vR), ("own_wires", vW)])) S n9 (upd H9 x (.ins (He.ga K "Hall") dx [("own_rooms", vR), ("own_wires", vW)])) := fr9.put hxS (fun _ e => by cases e)
  have dR10 : Den K (upd F9 x (.ins (He.ga K "Hall") dx [("own_rooms", vR), ("own_wires", vW)])) S vR (dL R) := dR9.atPut (ndL_texts _) n1x n2x
  have dW10 : Den K (upd F9 x (.ins (He.ga K "Hall") dx [("own_rooms", vR), ("own_wires", vW)])) S vW (wiresD ws) := dW9.atPut ndW n1x n2x
  have pv10 : Prov x F0 H0 (upd F9 x (.ins (He.ga K "Hall") dx [("own_rooms", vR), ("own_wires", vW)])) (upd H9 x (.ins (He.ga K "Hall") dx [("own_rooms", vR), ("own_wires", vW)])) := pv9.put
  have ext10 : Ext S n9 H0 (upd H9 x (.ins (He.ga K "Hall") dx [("own_rooms", vR), ("own_wires", vW)])) := Ext.over fr0 ext9 hx0
  have F10x : (upd F9 x (.ins (He.ga K "Hall") dx [("own_rooms", vR), ("own_wires", vW)])) x = some (.ins (He.ga K "Hall") dx [("own_rooms", vR), ("own_wires", vW)]) := upd_same
  have hx10 : (upd H9 x (.ins (He.ga K "Hall") dx [("own_rooms", vR), ("own_wires", vW)])) x = some (.ins (He.ga K "Hall") dx [("own_rooms", vR), ("own_wires", vW)]) := upd_same
  generalize upd F9 x (.ins (He.ga K "Hall") dx [("own_rooms", vR), ("own_wires", vW)]) = F10 at fr10 dR10 dW10 pv10 F10x
  generalize upd H9 x (.ins (He.ga K "Hall") dx [("own_rooms", vR), ("own_wires", vW)]) = H10 at fr10 pv10 ext10 hx10
  clear ae9 ag8 dR9 dW9 pv9 ext9 dR8 pv8 ext8 sF5' hfz ho
  have ae10 : AgE K F10 S n9 H10 (pl ([.val (insP "Hall" [("own_rooms", dL R), ("own_wires", wiresD ws)]), .no, .no, .no, .no, .no, .no, .no, .no, .no, .no] : DL.G)) σ := by
    refine ⟨fr10, fun i d e => ?_, by rw [sl]; rfl⟩
    match i, e with
    | 0, e => cases e; exact ⟨_, s0, .ins F10x rfl (.cons dR10 (.cons dW10 .nil))⟩
    | 1, e => cases e
    | 2, e => cases e
    | 3, e => cases e
    | 4, e => cases e
    | 5, e => cases e
    | 6, e => cases e
    | 7, e => cases e
    | 8, e => cases e
    | 9, e => cases e
    | 10, e => cases e
    | i + 11, e => cases e
  refine ⟨F10, S, n9, _, ae10, fun ds n' => n' = n9 ∧ ds = R.map fun z => PyData.str z, ?_, ?_⟩
  · walk_at "my_wp"
    refine ⟨_, _, .inl rfl, rfl, _, rfl, ?_⟩
    first | exact ⟨rfl, rfl⟩ | rfl
  rintro ds n11 ⟨rfl, rfl⟩ J H11 e11 wk D hD
  have fr11 := fr10.next e11
  have hx11 := e11.kp x _ hx10 hxS
  have DS : ¬ inS S D := fr11.notS hD
  have D10 : H10 D = none := e11.none0 fr10 hD
  generalize hF11 : grow F10 H10 H11 = F11 at fr11 wk
  have sF11 : DL.Sub F10 F11 := by rw [← hF11]; exact sub_grow
  refine dc_it (n := (R.map fun z => PyData.str z).length) (J := J) (G := fun H' => DL.Sub F11 H') wk (g := tDG K (tgN 7)) (tt := tDT K mYes) (tk := tD K (mVar 7)) (tv := tLst tNil) (vs := [7]) (σ := σ) (H1 := H11) (D := D) (Qd := fun H' => _)
    (fun i H => ∃ (F : Hp) (la : List (Str × Addr)), DL.Fr F S n11 H ∧ DL.Sub F11 F ∧ (∀ c o, H10 c = some o → ¬ inS S c → H c = some o) ∧ H D = some (.dK (laK la)) ∧ F D = none ∧ la.map (·.1) = R.take i ∧ (la.map (·.2)).Nodup ∧ ∀ p ∈ la, H p.2 = some (.lst []) ∧ F p.2 = none ∧ H10 p.2 = none ∧ p.2 ≠ D) ?_ ?_ ?_ ?_
  · refine ⟨F11, [], fr11.wide (Ext.new fr11 hD) (fun c xs h e => ?_), Sub.refl _, fun c o h hs => ?_, upd_same, fr11.none hD, rfl, .nil, fun p hp => absurd hp List.not_mem_nil⟩
    · by_cases hc : c = D
      · subst hc; rw [upd_same] at e; cases e
      · rw [upd_ne hc, h] at e; cases e
    · have := e11.kp c o h hs
      rw [upd_ne (fun e => by rw [e, hD] at this; cases this)]; exact this
  · rintro i H hi ⟨F, la, fr, s, _⟩
    exact s.trans fr.sub
  · rintro i y H H' hi ⟨F, la, fr, sF, kp, hDk, FD, hla, hnd, hlst⟩ hy
    obtain ⟨d, ed, px⟩ := hy n11 F sF fr
    rw [List.length_map] at hi
    rw [List.getElem?_map, List.getElem?_eq_getElem hi] at ed
    cases ed
    have hri : R[i] ∈ R := List.getElem_mem hi
    have hrn : R[i] ∉ R.take i := fun hm => by
      have nd := hH.up.nodup
      rw [← List.take_append_drop i R, List.nodup_append] at nd
      have hmd : R[i] ∈ R.drop i := by rw [List.drop_eq_getElem_cons hi]; exact List.mem_cons_self ..
      exact nd.2.2 _ hm _ hmd rfl
    have htk : R.take (i + 1) = R.take i ++ [R[i]] := by rw [List.take_add_one, List.getElem?_eq_getElem hi]; rfl
    generalize R[i] = r at *
    refine ⟨_, S, n11, _, _, fr.next px.ext, px.den, rfl, fun σ2 as => ?_⟩
    cases as with
    | @cons _ _ _ vv _ _ hv t =>
      cases t
      have hσw : ((L2.wipe σ [7]).set 7 (some vv)).length = 11 := by rw [List.length_set, wipe_length]; exact sl
      refine ⟨?_, ?_⟩
      · show ((L2.wipe σ [7]).set 7 _).set 7 none = _
        rw [List.set_set]
        show (σ.set 7 none).set 7 none = σ.set 7 none
        rw [List.set_set]
      have fr2 := fr.next px.ext
      have ae : AgE K (grow F H H') S n11 H' ([none, none, none, none, none, none, none, some (PyData.str r), none, none, none] : DL.Env) ((L2.wipe σ [7]).set 7 (some vv)) := by
        refine ⟨fr2, fun j d e => ?_, by rw [hσw]; rfl⟩
        match j, e with
        | 7, e => cases e; exact ⟨_, List.getElem?_set_self (by rw [wipe_length, sl]; decide), hv⟩
        | 0, e => cases e
        | 1, e => cases e
        | 2, e => cases e
        | 3, e => cases e
        | 4, e => cases e
        | 5, e => cases e
        | 6, e => cases e
        | 8, e => cases e
        | 9, e => cases e
        | 10, e => cases e
        | j + 11, e => cases e
      refine ⟨_, S, n11, _, ae, fun b n' => n' = n11 ∧ b = true, ⟨rfl, rfl⟩, ?_⟩
      rintro c n12 ⟨rfl, rfl⟩ H3 e3
      rw [if_pos rfl]
      refine ⟨_, S, n12, _, ae.next e3, fun d n' => n' = n12 ∧ d = PyData.str r, ⟨rfl, rfl⟩, ?_⟩
      rintro d n13 ⟨rfl, rfl⟩ vk H4 p4
      refine ⟨Nat.zero_le _, fun l hl => ?_⟩
      have ex : Ext S n13 H H4 := (px.ext.trans e3).trans p4.ext
      have frg : DL.Fr (grow F H H4) S n13 H4 := fr.next ex
      have hl0 : H l = none := ex.none0 fr hl
      have hDk4 := ex.kp D _ hDk DS
      have hlD : l ≠ D := fun e => by rw [e, hDk4] at hl; cases hl
      have hlx : ∀ c o, H4 c = some o → c ≠ l := fun c o h e => by rw [e, hl] at h; cases h
      refine ⟨laK la, Sum.inr r, p4.den.str_inv.1, by rw [upd_ne (Ne.symm hlD)]; exact hDk4, ?_, ?_⟩
      · have := congrArg List.length hla
        simp at this
        rw [List.length_map]; omega
      · have hrla : r ∉ la.map (·.1) := by rw [hla]; exact hrn
        rw [putK_la hrla]
        have FgD : grow F H H4 D = none := grow_old FD hDk
        have Fgl : grow F H (upd H4 l (.lst [])) l = some (.lst []) := grow_new (fr.none hl0) hl0 upd_same
        have fr5 : DL.Fr (grow F H H4) S n13 (upd (upd H4 l (.lst [])) D (.dK (laK (la ++ [(r, l)])))) :=
          (frg.wide (Ext.new frg hl) (fun c xs h e => by
            by_cases hc : c = l
            · subst hc; rw [upd_same] at e; cases e
            · rw [upd_ne hc, h] at e; cases e)).mine FgD DS (fun _ e => by cases e)
        refine ⟨grow F H H4, la ++ [(r, l)], fr5, sF.trans sub_grow, fun c o h hs => ?_, upd_same, FgD, by rw [List.map_append, hla, htk]; rfl, ?_, fun p hp => ?_⟩
        · have h1 := ex.kp c o (kp c o h hs) hs
          rw [upd_ne (fun e => by rw [e, D10] at h; cases h), upd_ne (hlx c o h1)]; exact h1
        · rw [List.map_append, List.nodup_append]
          refine ⟨hnd, by simp, fun a ha c hc e => ?_⟩
          simp at hc
          obtain ⟨p, hp, rfl⟩ := List.mem_map.mp ha
          have := (hlst p hp).1
          rw [e, hc, hl0] at this; cases this
        · rcases List.mem_append.mp hp with hp | hp
          · obtain ⟨h1, h2, h3, h4⟩ := hlst p hp
            have hpS : ¬ inS S p.2 := fun hs => by
              obtain ⟨xs, hz⟩ := fr10.str.some hs
              rw [h3] at hz; cases hz
            have h5 := ex.kp p.2 _ h1 hpS
            exact ⟨by rw [upd_ne h4, upd_ne (hlx _ _ h5)]; exact h5, grow_old h2 h1, h3, h4⟩
          · rw [List.mem_singleton] at hp
            subst hp
            refine ⟨by rw [upd_ne hlD]; exact upd_same, ?_, ?_, hlD⟩
            · show grow F H H4 l = none
              exact frg.none hl
            · cases q : H10 l with
              | none => rfl
              | some u =>
                by_cases hs : inS S l
                · obtain ⟨xs, hz⟩ := frg.str.some hs
                  rw [hl] at hz; cases hz
                · have := kp l u q hs
                  rw [hl0] at this; cases this
  · rintro H ⟨F, la, fr, sF, kp, hDk, FD, hla, hnd, hlst⟩
    rw [List.length_map, List.take_length] at hla
    have hxH : H x = some (.ins (He.ga K "Hall") dx [("own_rooms", vR), ("own_wires", vW)]) := kp x _ hx10 hxS
    refine ⟨.ref x, s0, x, _, dx, [("own_rooms", vR), ("own_wires", vW)], rfl, hxH, GT.cls_Hall, GT.na_Hall_own_around, (show (2 : Nat) < 1000 by decide), ?_⟩
    show tSeq _ _ _ σ (upd H x (.ins (He.ga K "Hall") dx [("own_rooms", vR), ("own_wires", vW), ("own_around", .ref D)]))
    have hDx : D ≠ x := fun e => by rw [e, hxH] at hDk; cases hDk
    have Fx : F x = some (.ins (He.ga K "Hall") dx [("own_rooms", vR), ("own_wires", vW)]) := (sF11.trans sF) x _ F10x
    have m1x : ∀ xs, F x ≠ some (.lst xs) := fun xs e => by rw [Fx] at e; cases e
    have m2x : ∀ xs, F x ≠ some (.tup xs) := fun xs e => by rw [Fx] at e; cases e
    have fr12 : DL.Fr (upd F x (.ins (He.ga K "Hall") dx [("own_rooms", vR), ("own_wires", vW), ("own_around", .ref D)])) S n11 (upd H x (.ins (He.ga K "Hall") dx [("own_rooms", vR), ("own_wires", vW), ("own_around", .ref D)])) := fr.put hxS (fun _ e => by cases e)
    have dR12 : Den K (upd F x (.ins (He.ga K "Hall") dx [("own_rooms", vR), ("own_wires", vW), ("own_around", .ref D)])) S vR (dL R) := (dR10.mono (sF11.trans sF)).atPut (ndL_texts _) m1x m2x
    have dW12 : Den K (upd F x (.ins (He.ga K "Hall") dx [("own_rooms", vR), ("own_wires", vW), ("own_around", .ref D)])) S vW (wiresD ws) := (dW10.mono (sF11.trans sF)).atPut ndW m1x m2x
    have F12x : (upd F x (.ins (He.ga K "Hall") dx [("own_rooms", vR), ("own_wires", vW), ("own_around", .ref D)])) x = some (.ins (He.ga K "Hall") dx [("own_rooms", vR), ("own_wires", vW), ("own_around", .ref D)]) := upd_same
    have hx12 : (upd H x (.ins (He.ga K "Hall") dx [("own_rooms", vR), ("own_wires", vW), ("own_around", .ref D)])) x = some (.ins (He.ga K "Hall") dx [("own_rooms", vR), ("own_wires", vW), ("own_around", .ref D)]) := upd_same
    have hD12 : (upd H x (.ins (He.ga K "Hall") dx [("own_rooms", vR), ("own_wires", vW), ("own_around", .ref D)])) D = some (.dK (laK la)) := by rw [upd_ne hDx]; exact hDk
    have FD12 : (upd F x (.ins (He.ga K "Hall") dx [("own_rooms", vR), ("own_wires", vW), ("own_around", .ref D)])) D = none := by rw [upd_ne hDx]; exact FD
    have kp12 : ∀ c o, H10 c = some o → c ≠ x → ¬ inS S c → (upd H x (.ins (He.ga K "Hall") dx [("own_rooms", vR), ("own_wires", vW), ("own_around", .ref D)])) c = some o := fun c o h hc hs => by rw [upd_ne hc]; exact kp c o h hs
    have hl12 : ∀ p ∈ la, (upd H x (.ins (He.ga K "Hall") dx [("own_rooms", vR), ("own_wires", vW), ("own_around", .ref D)])) p.2 = some (.lst []) ∧ (upd F x (.ins (He.ga K "Hall") dx [("own_rooms", vR), ("own_wires", vW), ("own_around", .ref D)])) p.2 = none ∧ H10 p.2 = none ∧ p.2 ≠ D ∧ p.2 ≠ x := fun p hp => by
      obtain ⟨h1, h2, h3, h4⟩ := hlst p hp
      have h5 : p.2 ≠ x := fun e => by rw [e, hxH] at h1; cases h1
      exact ⟨by rw [upd_ne h5]; exact h1, by rw [upd_ne h5]; exact h2, h3, h4, h5⟩
    generalize upd F x (.ins (He.ga K "Hall") dx [("own_rooms", vR), ("own_wires", vW), ("own_around", .ref D)]) = F12 at fr12 dR12 dW12 F12x FD12 hl12
    generalize upd H x (.ins (He.ga K "Hall") dx [("own_rooms", vR), ("own_wires", vW), ("own_around", .ref D)]) = H12 at fr12 hx12 hD12 kp12 hl12
    clear hlst hDk FD Fx m1x m2x
    have laS : ∀ p ∈ la, ¬ inS S p.2 := fun p hp hs => by
      obtain ⟨xs, hz⟩ := fr10.str.some hs
      rw [(hl12 p hp).2.2.1] at hz; cases hz
    have ae12 : AgE K F12 S n11 H12 (pl ([.val (parP "Hall" [("own_rooms", dL R), ("own_wires", wiresD ws)]), .no, .no, .no, .no, .no, .no, .no, .no, .no, .no] : DL.G)) σ := by
      refine ⟨fr12, fun i d e => ?_, by rw [sl]; rfl⟩
      match i, e with
      | 0, e =>
        cases e
        refine ⟨_, s0, .par (gs := [("own_rooms", vR), ("own_wires", vW)]) F12x ?_ rfl (.cons dR12 (.cons dW12 .nil))⟩
        intro p hp
        simp at hp
        rcases hp with rfl | rfl <;> rfl
      | 1, e => cases e
      | 2, e => cases e
      | 3, e => cases e
      | 4, e => cases e
      | 5, e => cases e
      | 6, e => cases e
      | 7, e => cases e
      | 8, e => cases e
      | 9, e => cases e
      | 10, e => cases e
      | i + 11, e => cases e
    refine ⟨F12, S, n11, _, ae12, fun ds n' => n' = n11 ∧ ds = ws.map dW, ?_, ?_⟩
    · walk_at "my_wp"
      refine ⟨_, _, .inr rfl, rfl, _, rfl, ?_⟩
      first | exact ⟨rfl, rfl⟩ | rfl
    rintro ds n13 ⟨rfl, rfl⟩ J H13 e13 wk13
    have fr13 := fr12.next e13
    have hx13 := e13.kp x _ hx12 hxS
    have hD13 := e13.kp D _ hD12 DS
    have FD13 : grow F12 H12 H13 D = none := grow_old FD12 hD12
    have F13x : grow F12 H12 H13 x = some _ := sub_grow x _ F12x
    have dR13 := dR12.mono (sub_grow (F := F12) (H := H12) (H' := H13))
    have dW13 := dW12.mono (sub_grow (F := F12) (H := H12) (H' := H13))
    have kp13 : ∀ c o, H10 c = some o → c ≠ x → ¬ inS S c → H13 c = some o := fun c o h hc hs => e13.kp c o (kp12 c o h hc hs) hs
    have hl13 : ∀ p ∈ la, H13 p.2 = some (.lst ((([] : List Wire).filter fun w => decide (w.1 = p.1) || decide (w.2 = p.1)).map fun w => V.str (oth p.1 w))) ∧ grow F12 H12 H13 p.2 = none := fun p hp => by
      obtain ⟨h1, h2, _⟩ := hl12 p hp
      exact ⟨e13.kp p.2 _ h1 (laS p hp), grow_old h2 h1⟩
    have la0 : ∀ p ∈ la, H10 p.2 = none ∧ p.2 ≠ D ∧ p.2 ≠ x := fun p hp => (hl12 p hp).2.2
    clear hl12 hD12 FD12 kp12 hx12 F12x dR12 dW12 fr12
    generalize grow F12 H12 H13 = F13 at fr13 FD13 F13x dR13 dW13 hl13 wk13
    refine for_it (n := (ws.map dW).length) (J := J) (G := fun H' => DL.Sub F13 H') wk13
      (fun i σ H => ∃ F, DL.Fr F S n13 H ∧ DL.Sub F13 F ∧ σ.length = 11 ∧ σ[0]? = some (some (V.ref x)) ∧ H x = some (.ins (He.ga K "Hall") dx [("own_rooms", vR), ("own_wires", vW), ("own_around", .ref D)]) ∧ H D = some (.dK (laK la)) ∧ F D = none ∧ (∀ c o, H10 c = some o → c ≠ x → ¬ inS S c → H c = some o) ∧
        ∀ p ∈ la, H p.2 = some (.lst (((ws.take i).filter fun w => decide (w.1 = p.1) || decide (w.2 = p.1)).map fun w => V.str (oth p.1 w))) ∧ F p.2 = none)
      ⟨F13, fr13, Sub.refl _, sl, s0, hx13, hD13, FD13, kp13, hl13⟩ (fun i σ' H' _ ⟨F, a, s, _⟩ => s.trans a.sub) ?_ ?_
    · rintro i y σ H H' hi ⟨F, fr, sF, sl, s0, hx, hDk, FD, kp, hlst⟩ hy
      obtain ⟨d, ed, px⟩ := hy n13 F sF fr
      rw [List.length_map] at hi
      rw [List.getElem?_map, List.getElem?_eq_getElem hi] at ed
      cases ed
      have hwm : ws[i] ∈ ws := List.getElem_mem hi
      have htk : ws.take (i + 1) = ws.take i ++ [ws[i]] := by rw [List.take_add_one, List.getElem?_eq_getElem hi]; rfl
      generalize ws[i] = w at *
      have hm := hH.mem w hwm
      refine ⟨_, S, n13, _, _, fr.next px.ext, px.den, rfl, fun σ1 as => ?_⟩
      have fr2 := fr.next px.ext
      have sl1 : σ1.length = 11 := as.length.trans sl
      obtain ⟨va, vb, s01, s81, s91, dva, dvb⟩ : ∃ va vb, σ1[0]? = some (some (V.ref x)) ∧ σ1[8]? = some (some va) ∧ σ1[9]? = some (some vb) ∧ Den K (grow F H H') S va (PyData.str w.1) ∧ Den K (grow F H H') S vb (PyData.str w.2) := by
        cases as with
        | @cons _ _ _ va _ _ h1 t => cases t with
          | @cons _ _ _ vb _ _ h2 t => cases t; exact ⟨va, vb, by simp [List.getElem?_set, s0], by simp [List.getElem?_set, sl], by simp [List.getElem?_set, sl], h1, h2⟩
      clear as
      have St : ∀ (F' H'' : Hp) (cs : Str → List V), Prop := fun F' H'' cs => True
      have app : ∀ (Fc Hc : Hp) (ia ib : Nat) (a b : Str) (cs : Str → List V) (Dn : Ends), DL.Fr Fc S n13 Hc → DL.Sub F13 Fc → (∃ va, σ1[ia]? = some (some va) ∧ Den K Fc S va (PyData.str a)) → (∃ vb, σ1[ib]? = some (some vb) ∧ Den K Fc S vb (PyData.str b)) → ia < 11 → ib < 11 →
          Hc x = some (.ins (He.ga K "Hall") dx [("own_rooms", vR), ("own_wires", vW), ("own_around", .ref D)]) → Hc D = some (.dK (laK la)) → Fc D = none → (∀ c o, H10 c = some o → c ≠ x → ¬ inS S c → Hc c = some o) → (∀ p ∈ la, Hc p.2 = some (.lst (cs p.1)) ∧ Fc p.2 = none) → a ∈ R → (cs a).length < sizeLine →
          (∀ F' H'', DL.Fr F' S n13 H'' → DL.Sub F13 F' → (∃ va, σ1[ia]? = some (some va) ∧ Den K F' S va (PyData.str a)) → (∃ vb, σ1[ib]? = some (some vb) ∧ Den K F' S vb (PyData.str b)) → H'' x = some (.ins (He.ga K "Hall") dx [("own_rooms", vR), ("own_wires", vW), ("own_around", .ref D)]) → H'' D = some (.dK (laK la)) → F' D = none → (∀ c o, H10 c = some o → c ≠ x → ¬ inS S c → H'' c = some o) → (∀ p ∈ la, H'' p.2 = some (.lst (if p.1 = a then cs p.1 ++ [.str b] else cs p.1)) ∧ F' p.2 = none) → Dn.nx σ1 H'') →
          tDrop (tBM K "list" rAppend (tOp (fun x y H Q => ∃ a v, x = .ref a ∧ DGet H a y (some v) ∧ Q v H) (tFld K (tVar 0) "own_around") (tD K (mVar ia))) (tCons (tD K (mVar ib)) tNil)) Dn σ1 Hc := by
        rintro Fc Hc ia ib a b cs Dn frc sFc ⟨va, z1, d1⟩ ⟨vb, z2, d2⟩ ha hb hxc hDc FDc kpc hlc haR hcl hgo
        have env : ∀ (j : Nat) (z : Str) (v : V) (Fe He' : Hp), j < 11 → DL.Fr Fe S n13 He' → σ1[j]? = some (some v) → Den K Fe S v (PyData.str z) → AgE K Fe S n13 He' (((List.replicate 11 none : DL.Env)).set j (some (PyData.str z))) σ1 := fun j z v Fe He' hj frE e1 dv => by
          refine ⟨frE, fun i d e => ?_, by rw [List.length_set, List.length_replicate, sl1]⟩
          by_cases hij : j = i
          · subst hij
            rw [List.getElem?_set_self (by simpa using hj)] at e
            cases e
            exact ⟨v, e1, dv⟩
          · rw [List.getElem?_set_ne hij, List.getElem?_replicate] at e
            split at e <;> cases e
        have mv : ∀ (j : Nat) (z : Str) (k : PyData → Nat → Prop), j < 11 → k (PyData.str z) n13 → mVar j (((List.replicate 11 none : DL.Env)).set j (some (PyData.str z))) n13 k := fun j z k hj hk => by
          unfold mVar
          rw [List.getElem?_set_self (by simpa using hj)]
          exact hk
        refine ⟨.ref x, s01, x, _, dx, _, .ref D, rfl, hxc, GT.cls_Hall, GT.na_Hall_own_around, rfl, ?_⟩
        refine ⟨Fc, S, n13, _, env ia a va Fc Hc ha frc z1 d1, fun d n' => n' = n13 ∧ d = PyData.str a, mv ia a _ ha ⟨rfl, rfl⟩, ?_⟩
        rintro d n' ⟨rfl, rfl⟩ vk H1 p1
        have hD1 := p1.ext.kp D _ hDc DS
        have hx1 := p1.ext.kp x _ hxc hxS
        obtain ⟨l, hlm⟩ : ∃ l, (a, l) ∈ la := by
          rw [← hla] at haR
          obtain ⟨p, hp, e⟩ := List.mem_map.mp haR
          exact ⟨p.2, by rw [← e]; exact hp⟩
        have hlc1 : ∀ p ∈ la, H1 p.2 = some (.lst (cs p.1)) := fun p hp => p1.ext.kp p.2 _ (hlc p hp).1 (laS p hp)
        have eka : vk = .str a := p1.den.str_inv.1
        subst eka
        refine ⟨D, .ref l, rfl, ?_, ?_⟩
        · have := DGet.k (k := Sum.inr a) hD1
          rw [valV_la (by rw [hla]; exact hH.up.nodup) hlm] at this
          exact this
        refine ⟨.inl ⟨rfl, _, SqL.of (hlc1 (a, l) hlm)⟩, ?_⟩
        refine ⟨_, S, n', _, env ib b vb (grow Fc Hc H1) H1 hb (frc.next p1.ext) z2 (d2.mono sub_grow), fun d n'' => n'' = n' ∧ d = PyData.str b, mv ib b _ hb ⟨rfl, rfl⟩, ?_⟩
        rintro d n'' ⟨rfl, rfl⟩ vy H2 p2
        have ey : vy = .str b := p2.den.str_inv.1
        subst ey
        have e12 : Ext S n'' Hc H2 := p1.ext.trans p2.ext
        have hl2 : ∀ p ∈ la, H2 p.2 = some (.lst (cs p.1)) := fun p hp => p2.ext.kp p.2 _ (hlc1 p hp) (laS p hp)
        have lx : l ≠ x := (la0 _ hlm).2.2
        have lD : l ≠ D := (la0 _ hlm).2.1
        have Fl : ∀ p ∈ la, grow Fc Hc H2 p.2 = none := fun p hp => grow_old (hlc p hp).2 (hlc p hp).1
        refine ⟨l, _, .str b, rfl, rfl, hl2 (a, l) hlm, hcl, ?_⟩
        refine hgo (grow Fc Hc H2) _ ((frc.next e12).mine (Fl (a, l) hlm) (laS (a, l) hlm) (fun _ e => by cases e)) (sFc.trans sub_grow) ⟨va, z1, d1.mono sub_grow⟩ ⟨vb, z2, d2.mono sub_grow⟩
          (by rw [upd_ne (Ne.symm lx)]; exact e12.kp x _ hxc hxS) (by rw [upd_ne (Ne.symm lD)]; exact e12.kp D _ hDc DS) (grow_old FDc hDc) (fun c o h hc hs => ?_) (fun p hp => ⟨?_, Fl p hp⟩)
        · rw [upd_ne (fun e => by rw [e, (la0 _ hlm).1] at h; cases h)]
          exact e12.kp c o (kpc c o h hc hs) hs
        · by_cases hp2 : p.2 = l
          · have : p.1 = a := by
              have key : ∀ {la : List (Str × Addr)}, (la.map (·.2)).Nodup → ∀ p ∈ la, ∀ q ∈ la, p.2 = q.2 → p = q := by
                intro la nd
                induction la with
                | nil => intro p hp; cases hp
                | cons c la ih =>
                  rw [List.map_cons, List.nodup_cons] at nd
                  intro p hp q hq e
                  rcases List.mem_cons.mp hp with e1 | hp
                  · rcases List.mem_cons.mp hq with e2 | hq
                    · rw [e1, e2]
                    · exact absurd (List.mem_map.mpr ⟨q, hq, by rw [← e, e1]⟩) nd.1
                  · rcases List.mem_cons.mp hq with e2 | hq
                    · exact absurd (List.mem_map.mpr ⟨p, hp, by rw [e, e2]⟩) nd.1
                    · exact ih nd.2 p hp q hq e
              have := key hnd p hp (a, l) hlm hp2
              rw [this]
            rw [hp2, if_pos this, upd_same, this]
          · have : p.1 ≠ a := fun e => by
              have key : ∀ {la : List (Str × Addr)}, (la.map (·.1)).Nodup → ∀ p ∈ la, ∀ q ∈ la, p.1 = q.1 → p = q := by
                intro la nd
                induction la with
                | nil => intro p hp; cases hp
                | cons c la ih =>
                  rw [List.map_cons, List.nodup_cons] at nd
                  intro p hp q hq e
                  rcases List.mem_cons.mp hp with e1 | hp
                  · rcases List.mem_cons.mp hq with e2 | hq
                    · rw [e1, e2]
                    · exact absurd (List.mem_map.mpr ⟨q, hq, by rw [← e, e1]⟩) nd.1
                  · rcases List.mem_cons.mp hq with e2 | hq
                    · exact absurd (List.mem_map.mpr ⟨p, hp, by rw [e, e2]⟩) nd.1
                    · exact ih nd.2 p hp q hq e
              have := key (by rw [hla]; exact hH.up.nodup) p hp (a, l) hlm e
              exact hp2 (by rw [this])
            rw [if_neg this, upd_ne hp2]; exact hl2 p hp
      have hx2 := px.ext.kp x _ hx hxS
      have hD2 := px.ext.kp D _ hDk DS
      have kp2 : ∀ c o, H10 c = some o → c ≠ x → ¬ inS S c → H' c = some o := fun c o h hc hs => px.ext.kp c o (kp c o h hc hs) hs
      have wl := hH.wl
      have bound : ∀ r : Str, (((ws.take i).filter fun w => decide (w.1 = r) || decide (w.2 = r)).map fun w => V.str (oth r w)).length ≤ 200 := fun r => by
        rw [List.length_map]
        have := filter_len (fun w : Wire => decide (w.1 = r) || decide (w.2 = r)) (ws.take i)
        rw [List.length_take] at this
        omega
      refine app (grow F H H') H' 8 9 w.1 w.2 (fun r => ((ws.take i).filter fun w => decide (w.1 = r) || decide (w.2 = r)).map fun w => V.str (oth r w)) _ fr2 (sF.trans sub_grow) ⟨va, s81, dva⟩ ⟨vb, s91, dvb⟩ (by decide) (by decide) hx2 hD2 (grow_old FD hDk) kp2 (fun p hp => ⟨px.ext.kp p.2 _ (hlst p hp).1 (laS p hp), grow_old (hlst p hp).2 (hlst p hp).1⟩) hm.1 (by have := bound w.1; omega) ?_
      intro F3 H3 fr3 sF3 da3 db3 hx3 hD3 FD3 kp3 hl3
      refine app F3 H3 9 8 w.2 w.1 (fun r => if r = w.1 then (((ws.take i).filter fun w => decide (w.1 = r) || decide (w.2 = r)).map fun w => V.str (oth r w)) ++ [.str w.2] else ((ws.take i).filter fun w => decide (w.1 = r) || decide (w.2 = r)).map fun w => V.str (oth r w)) _ fr3 sF3 db3 da3 (by decide) (by decide) hx3 hD3 FD3 kp3 hl3 hm.2.1 (by
        have h1 := bound w.2
        split
        · rw [List.length_append]; simp at h1 ⊢; omega
        · omega) ?_
      intro F4 H4 fr4 sF4 _ _ hx4 hD4 FD4 kp4 hl4
      refine ⟨F4, fr4, sF4, sl1, s01, hx4, hD4, FD4, kp4, fun p hp => ⟨?_, (hl4 p hp).2⟩⟩
      rw [(hl4 p hp).1, htk, List.filter_append, List.map_append]
      have hne : w.1 ≠ w.2 := fun e => ltS_irrefl (show ltS w.1 w.1 by have := hm.2.2; rw [← e] at this; exact this)
      by_cases h1 : p.1 = w.1
      · have h2 : p.1 ≠ w.2 := fun e => hne (h1.symm.trans e)
        rw [if_neg h2, if_pos h1, List.filter_cons_of_pos (by simp [h1])]
        simp [oth, h1]
      · by_cases h2 : p.1 = w.2
        · rw [if_pos h2, if_neg h1, List.filter_cons_of_pos (by simp [h2])]
          simp [oth, h2, hne]
        · rw [if_neg h2, if_neg h1, List.filter_cons_of_neg (by simp [Ne.symm h1, Ne.symm h2])]
          simp
    · rintro σ H ⟨F, fr, sF, sl, s0, hx, hDk, FD, kp, hlst⟩
      rw [List.length_map, List.take_length] at hlst
      refine ⟨D, _, hDk, trivial, fun od => ?_⟩
      have hDx : D ≠ x := fun e => by rw [e, hx] at hDk; cases hDk
      have exH : ∀ c o, H0 c = some o → ¬ inS S c → H c = some o := fun c o h hs => kp c o (ext10.kp c o h hs) (fun e => by rw [e, hx0] at h; cases h) hs
      have none0 : ∀ c, H10 c = none → H0 c = none := fun c h => ext10.none0 fr0 h
      have hx15 : (upd H D (.frz od (.dK (laK la)))) x = some (.ins (He.ga K "Hall") dx [("own_rooms", vR), ("own_wires", vW), ("own_around", .ref D)]) := by rw [upd_ne (Ne.symm hDx)]; exact hx
      have hD15 : (upd H D (.frz od (.dK (laK la)))) D = some (.frz od (.dK (laK la))) := upd_same
      have n15 : ∀ c, c ≠ D → (upd H D (.frz od (.dK (laK la)))) c = H c := fun c hc => upd_ne hc
      have str15 : StrOk S n13 (upd H D (.frz od (.dK (laK la)))) := str_over fr.str DS
      generalize upd H D (.frz od (.dK (laK la))) = H15 at hx15 hD15 n15 str15
      obtain ⟨F15, f15x, f15D, f15l, f15t, f15o⟩ : ∃ F15 : Hp, F15 x = H15 x ∧ F15 D = H15 D ∧ (∀ p ∈ la, F15 p.2 = H p.2) ∧ (∀ c xs, H c = some (.tup xs) → F15 c = some (.tup xs)) ∧ ∀ c o, F15 c = some o → c = x ∨ c = D ∨ (∃ p ∈ la, c = p.2 ∧ H c = some o) ∨ (∃ xs, o = .tup xs ∧ H c = some o) ∨ F0 c = some o := by
        have hlt : ∀ p ∈ la, ∀ xs, H p.2 ≠ some (.tup xs) := fun p hp xs e => by rw [(hlst p hp).1] at e; cases e
        refine ⟨fun c => open Classical in if c = x then H15 x else if c = D then H15 D else if c ∈ la.map (·.2) then H c else if ∃ xs, H c = some (.tup xs) then H c else F0 c, ?_, ?_, ?_, ?_, ?_⟩
        · show (if x = x then _ else _) = _; rw [if_pos rfl]
        · show (if D = x then _ else _) = _; rw [if_neg hDx, if_pos rfl]
        · intro p hp
          show (if p.2 = x then _ else _) = _
          rw [if_neg (la0 p hp).2.2, if_neg (la0 p hp).2.1, if_pos (List.mem_map.mpr ⟨p, hp, rfl⟩)]
        · intro c xs h
          show (if c = x then _ else _) = _
          rw [if_neg (fun e => by rw [e, hx] at h; cases h), if_neg (fun e => by rw [e, hDk] at h; cases h)]
          split
          · exact h
          · rw [if_pos ⟨xs, h⟩]; exact h
        · intro c o h
          have h : (open Classical in if c = x then H15 x else if c = D then H15 D else if c ∈ la.map (·.2) then H c else if ∃ xs, H c = some (.tup xs) then H c else F0 c) = some o := h
          split at h
          · exact .inl ‹_›
          · split at h
            · exact .inr (.inl ‹_›)
            · split at h
              · obtain ⟨p, hp, e⟩ := List.mem_map.mp ‹_›
                exact .inr (.inr (.inl ⟨p, hp, e.symm, h⟩))
              · split at h
                · obtain ⟨xs, e⟩ := ‹∃ xs, _›
                  rw [e] at h; cases h
                  exact .inr (.inr (.inr (.inl ⟨xs, rfl, e⟩)))
                · exact .inr (.inr (.inr (.inr h)))
      have fr15 : DL.Fr F15 S n13 H15 := by
        refine ⟨fun c o h => ?_, fun c hs => ?_, str15, fun c xs h => ?_⟩
        · rcases f15o c o h with rfl | rfl | ⟨p, hp, rfl, h1⟩ | ⟨xs, rfl, h1⟩ | h1
          · rw [← f15x]; exact h
          · rw [← f15D]; exact h
          · rw [n15 _ (la0 p hp).2.1]; exact h1
          · rw [n15 c (fun e => by rw [e, hDk] at h1; cases h1)]; exact h1
          · have h2 := fr0.sub c o h1
            have hs : ¬ inS S c := fun hs => by rw [fr0.nos c hs] at h1; cases h1
            rw [n15 c (fun e => by rw [e, none0 D D10] at h2; cases h2)]
            exact exH c o h2 hs
        · cases e : F15 c with
          | none => rfl
          | some o =>
            rcases f15o c o e with rfl | rfl | ⟨p, hp, rfl, h1⟩ | ⟨xs, rfl, h1⟩ | h1
            · exact absurd hs hxS
            · exact absurd hs DS
            · exact absurd hs (laS p hp)
            · obtain ⟨ys, hz⟩ := fr.str.some hs
              rw [h1] at hz; cases hz
            · rw [fr0.nos c hs] at h1; cases h1
        · have hc : c ≠ D := fun e => by rw [e, hD15] at h; cases h
          rw [n15 c hc] at h
          exact f15t c xs h
      have F15D' : F15 D = some (.frz od (.dK (laK la))) := f15D.trans hD15
      have F15x' := f15x.trans hx15
      have dD : Den K F15 S (.ref D) (.dict (R.map fun r => (PyData.str r, dL ((ws.filter fun w => decide (w.1 = r) || decide (w.2 = r)).map (oth r))))) := by
        have : (R.map fun r => (PyData.str r, dL ((ws.filter fun w => decide (w.1 = r) || decide (w.2 = r)).map (oth r)))) = (la.map fun p => ((Sum.inr p.1 : L2.Key), dL ((ws.filter fun w => decide (w.1 = p.1) || decide (w.2 = p.1)).map (oth p.1)))).map fun p => (kP p.1, p.2) := by
          rw [← hla, List.map_map, List.map_map]; rfl
        rw [this]
        refine .dK (kvs := laK la) (es := la.map fun p => ((Sum.inr p.1 : L2.Key), dL ((ws.filter fun w => decide (w.1 = p.1) || decide (w.2 = p.1)).map (oth p.1)))) F15D' (by rw [List.map_map, List.map_map]; rfl) ?_ ?_
        · have key : ∀ l : List (Str × Addr), (∀ p ∈ l, p ∈ la) → DenL K F15 S ((laK l).map (·.2)) ((l.map fun p => ((Sum.inr p.1 : L2.Key), dL ((ws.filter fun w => decide (w.1 = p.1) || decide (w.2 = p.1)).map (oth p.1)))).map (·.2)) := by
            intro l
            induction l with
            | nil => intro _; exact .nil
            | cons p l ih =>
              intro h
              have hp := h p (List.mem_cons_self ..)
              refine .cons (.lst (by rw [f15l p hp]; exact (hlst p hp).1) ?_) (ih fun q hq => h q (List.mem_cons_of_mem _ hq))
              have hall : ∀ m : List Wire, (∀ w ∈ m, w ∈ ws) → DenL K F15 S (m.map fun w => V.str (oth p.1 w)) ((m.map (oth p.1)).map fun z => PyData.str z) := by
                intro m
                induction m with
                | nil => intro _; exact .nil
                | cons w m ih =>
                  intro hm
                  refine .cons (.str _ ?_) (ih fun v hv => hm v (List.mem_cons_of_mem _ hv))
                  have hw := hH.mem w (hm w (List.mem_cons_self ..))
                  have : NameOk (oth p.1 w) := by
                    unfold oth
                    split
                    · exact hH.nam _ hw.2.1
                    · exact hH.nam _ hw.1
                  exact strOk_letters this.abc
              exact hall _ fun w hw => (List.mem_filter.mp hw).1
          exact key la fun _ h => h
        · refine List.all_eq_true.mpr fun e he => ?_
          obtain ⟨p, hp, rfl⟩ := List.mem_map.mp he
          have hpR : p.1 ∈ R := by rw [← hla]; exact List.mem_map.mpr ⟨p, hp, rfl⟩
          exact strOk_letters (hH.nam _ hpR).abc
      have ae15 : AgE K F15 S n13 H15 (pl ([.val (parP "Hall" [("own_around", .dict (R.map fun r => (PyData.str r, dL ((ws.filter fun w => decide (w.1 = r) || decide (w.2 = r)).map (oth r)))))]), .no, .no, .no, .no, .no, .no, .no, .no, .no, .no] : DL.G)) σ := by
        refine ⟨fr15, fun i d e => ?_, by rw [sl]; rfl⟩
        match i, e with
        | 0, e =>
          cases e
          refine ⟨_, s0, .par (gs := [("own_around", .ref D)]) F15x' ?_ rfl (.cons dD .nil)⟩
          intro p hp
          rw [List.mem_singleton] at hp
          subst hp; rfl
        | 1, e => cases e
        | 2, e => cases e
        | 3, e => cases e
        | 4, e => cases e
        | 5, e => cases e
        | 6, e => cases e
        | 7, e => cases e
        | 8, e => cases e
        | 9, e => cases e
        | 10, e => cases e
        | i + 11, e => cases e
      refine ⟨F15, S, n13, _, ae15, fun d n' => n' = n13 ∧ d = roomsD R (adj ws), ?_, ?_⟩
      · walk_at "my_wp"
        unfold mItemsD
        walk_at "my_wp"
        refine ⟨_, _, .inr rfl, rfl, _, rfl, ?_, ?_⟩
        · unfold keyed
          rw [Bool.and_eq_true]
          refine ⟨noNone_rooms R fun r => dL ((ws.filter fun w => decide (w.1 = r) || decide (w.2 = r)).map (oth r)), ?_⟩
          cases e : R with
          | nil => exact absurd e hH.ne
          | cons c l => rfl
        · rw [List.map_map]
          show dcW (tgT (tgCons (tgN 7) (tgCons (tgN 10) tgNil))) mYes (mVar 7) (mON (on1 oSorted) (mCons (mVar 10) mNil)) _ (R.map fun r => PyData.tuple [PyData.str r, dL ((ws.filter fun w => decide (w.1 = r) || decide (w.2 = r)).map (oth r))]) [] _ _
          refine dcW_enc (t := tgT (tgCons (tgN 7) (tgCons (tgN 10) tgNil))) (mk := mVar 7) (mv := mON (on1 oSorted) (mCons (mVar 10) mNil)) (fun r => .tuple [PyData.str r, dL ((ws.filter fun w => decide (w.1 = r) || decide (w.2 = r)).map (oth r))]) (fun r => lotD R (adj ws r)) R [] _ (fun r hr => ⟨_, rfl, fun Kk hK => ?_, fun Kk hK => ?_⟩) hH.up.nodup (by simp; omega) ?_
          · walk_at "my_wp"; exact hK
          · walk_at "my_wp"
            exact sorted_texts (hH.up.filter _) (around_perm hH r) hK
          · rw [List.nil_append]
            exact ⟨rfl, dkP_texts _ _⟩
      rintro d n16 ⟨rfl, rfl⟩ a H16 p16
      have hx16 := p16.ext.kp x _ hx15 hxS
      refine ⟨.ref x, s0, x, _, dx, _, rfl, hx16, GT.cls_Hall, GT.na_Hall_own_around, (show (3 : Nat) < 1000 by decide), ?_⟩
      obtain ⟨kvs, es', hak, hkeys, hvals, hok, ees⟩ : ∃ kvs es', H16 a = some (.dK kvs) ∧ kvs.map (·.1) = es'.map (·.1) ∧ DenL K (exc a (DL.grow F15 H15 H16)) S (kvs.map (·.2)) (es'.map (·.2)) ∧ (es'.all fun e => kOk e.1) = true ∧ dkP es' = roomsD R (adj ws) := by
        have hown := p16.own
        generalize ed : roomsD R (adj ws) = dd at hown
        cases hown with
        | lst h1 h2 => cases ed
        | dK h1 h2 h3 h4 => exact ⟨_, _, h1, h2, h3, h4, rfl⟩
      have hax : a ≠ x := fun e => by rw [e, hx16] at hak; cases hak
      refine ⟨a, _, (upd_ne hax).trans hak, trivial, fun od2 => hQ _ _ hk _ ?_⟩
      have hFin : ∀ c, c ≠ x → c ≠ a → (upd (upd H16 x (.ins (He.ga K "Hall") dx [("own_rooms", vR), ("own_wires", vW), ("own_around", .ref a)])) a (.frz od2 (.dK kvs))) c = H16 c := fun c h1 h2 => by rw [upd_ne h2, upd_ne h1]
      have a15 : H15 a = none := p16.new
      have aH : H a = none := by
        by_cases hc : a = D
        · rw [hc, hD15] at a15; cases a15
        · rw [← n15 a hc]; exact a15
      have from10 : ∀ c o, H10 c = some o → c ≠ x → ¬ inS S c → (upd (upd H16 x (.ins (He.ga K "Hall") dx [("own_rooms", vR), ("own_wires", vW), ("own_around", .ref a)])) a (.frz od2 (.dK kvs))) c = some o := fun c o h hc hs => by
        have h1 := kp c o h hc hs
        have hcD : c ≠ D := fun e => by rw [e, D10] at h; cases h
        have hca : c ≠ a := fun e => by rw [e, aH] at h1; cases h1
        rw [hFin c hc hca]
        exact p16.ext.kp c o (by rw [n15 c hcD]; exact h1) hs
      have aS : ¬ inS S a := fr15.notS a15
      have extF : Ext S n16 H0 (upd (upd H16 x (.ins (He.ga K "Hall") dx [("own_rooms", vR), ("own_wires", vW), ("own_around", .ref a)])) a (.frz od2 (.dK kvs))) :=
        ⟨fun c o h hs => from10 c o (ext10.kp c o h hs) (fun e => by rw [e, hx0] at h; cases h) hs, str_over (str_over p16.ext.str hxS) aS⟩
      have a0 : H0 a = none := none0 a (by
        cases q : H10 a with
        | none => rfl
        | some u => have := kp a u q hax aS; rw [aH] at this; cases this)
      have xF : (upd (upd H16 x (.ins (He.ga K "Hall") dx [("own_rooms", vR), ("own_wires", vW), ("own_around", .ref a)])) a (.frz od2 (.dK kvs))) x = some (.ins (He.ga K "Hall") dx [("own_rooms", vR), ("own_wires", vW), ("own_around", .ref a)]) := by rw [upd_ne (Ne.symm hax)]; exact upd_same
      have aF : (upd (upd H16 x (.ins (He.ga K "Hall") dx [("own_rooms", vR), ("own_wires", vW), ("own_around", .ref a)])) a (.frz od2 (.dK kvs))) a = some (.frz od2 (.dK kvs)) := upd_same
      refine ⟨extF, ?_⟩
      show Den K (DL.grow F0 H0 (upd (upd H16 x (.ins (He.ga K "Hall") dx [("own_rooms", vR), ("own_wires", vW), ("own_around", .ref a)])) a (.frz od2 (.dK kvs)))) S (.ref x) (hallD R ws)
      generalize upd (upd H16 x (.ins (He.ga K "Hall") dx [("own_rooms", vR), ("own_wires", vW), ("own_around", .ref a)])) a (.frz od2 (.dK kvs)) = Hf at hFin from10 extF xF aF
      have late : ∀ {v : V} {d : PyData}, Den K F10 S v d → nd d = true → Den K (DL.grow F0 H0 Hf) S v d := fun dd hn => by
        refine Den.only (fun c o hc ho => ?_) dd hn
        have hcx : c ≠ x := fun e => by
          rw [e, F10x] at hc
          rcases ho with ⟨_, rfl⟩ | ⟨_, rfl⟩ <;> cases hc
        rcases pv10 c o hc hcx with h | ⟨h1, h2⟩
        · exact sub_grow c o h
        · exact grow_new (fr0.none h1) h1 (from10 c o h2 hcx fun hs => by rw [fr10.nos c hs] at hc; cases hc)
      refine .ins (dx := dx) (fs := [("own_rooms", vR), ("own_wires", vW), ("own_around", .ref a)]) (grow_new (fr0.none hx0) hx0 xF) rfl (.cons (late dR10 (ndL_texts _)) (.cons (late dW10 ndW) (.cons ?_ .nil)))
      show Den K (DL.grow F0 H0 Hf) S (.ref a) (roomsD R (adj ws))
      rw [← ees]
      have ndv : ndL (es'.map (·.2)) = true := by
        have he : (es'.map (·.2)) = (R.map fun r => lotD R (adj ws r)) := by
          have : (es'.map fun p => (kP p.1, p.2)).map Prod.snd = (R.map fun r => (PyData.str r, lotD R (adj ws r))).map Prod.snd := by
            have e := ees
            unfold dkP roomsD at e
            injection e with e
            rw [e]
          rw [List.map_map, List.map_map] at this
          exact this
        rw [he]
        have : ∀ l : List Str, ndL (l.map fun r => lotD R (adj ws r)) = true := fun l => by
          induction l with
          | nil => rfl
          | cons c l ih => show (nd (lotD R (adj ws c)) && _) = true; rw [ih]; exact Bool.and_eq_true_iff.mpr ⟨ndL_texts _, rfl⟩
        exact this R
      refine .dK (grow_new (fr0.none a0) a0 aF) hkeys (DenL.only (fun c o hc ho => ?_) hvals ndv) hok
      have hca : c ≠ a := fun e => by
        unfold exc at hc
        rw [if_pos e] at hc; cases hc
      have hc := exc_sub c o hc
      have cx : c ≠ x := fun e => by
        have := grow_sub fr15 p16.ext c o hc
        rw [e, hx16] at this
        rcases ho with ⟨_, rfl⟩ | ⟨_, rfl⟩ <;> cases this
      have h16 : H16 c = some o := grow_sub fr15 p16.ext c o hc
      rcases grow_cases hc with h | ⟨_, h2, h3⟩
      · rcases f15o c o h with rfl | rfl | ⟨p, hp, rfl, h1⟩ | ⟨xs, rfl, h1⟩ | h1
        · exact absurd rfl cx
        · rw [F15D'] at h
          rcases ho with ⟨_, rfl⟩ | ⟨_, rfl⟩ <;> cases h
        · have := none0 _ (la0 p hp).1
          exact grow_new (fr0.none this) this (by rw [hFin _ cx hca]; exact h16)
        · cases q : H0 c with
          | none => exact grow_new (fr0.none q) q (by rw [hFin _ cx hca]; exact h16)
          | some u =>
            have hs : ¬ inS S c := fun hs => by
              obtain ⟨ys, hz⟩ := fr.str.some hs
              rw [h1] at hz; cases hz
            have := exH c u q hs
            rw [h1] at this; cases this
            exact sub_grow c _ (fr0.tp c _ q)
        · exact sub_grow c o h1
      · have hcD : c ≠ D := fun e => by rw [e, hD15] at h2; cases h2
        have hH0 : H0 c = none := none0 c (by
          cases q : H10 c with
          | none => rfl
          | some u =>
            by_cases hs : inS S c
            · obtain ⟨ys, hz⟩ := fr15.str.some hs
              rw [h2] at hz; cases hz
            · have := kp c u q cx hs
              rw [← n15 c hcD, h2] at this; cases this)
        exact grow_new (fr0.none hH0) hH0 (by rw [hFin _ cx hca]; exact h3)
end
end W
namespace DL
open PySem PySem.Spec PyProof.Rows L2
section
variable {X : Cx}
abbrev oPow : O2 := oI CPow fun a b => .int (a ^ b.toNat)
theorem op_powD : OpR X (binaryOp .Pow) (rD X.K oPow) := op_intD op_pow fun _ _ _ _ _ => .int _
end
abbrev strD (ns : List Int) (x y z : Int) : PyData := .list [.list (ns.map .int), .int x, .int y, .int z]
structure Dr (K : PySem.W.Frag) (S : Strm) (p1 p2 : Addr) (H0 Fc Hc : Hp) (ns : List Int) (x y z : Int) : Prop where
  ne : p1 ≠ p2
  fr : Fr Fc none 0 Hc
  a1 : Hc p1 = some (.lst [.ref p2, .int x, .int y, .int z])
  f1 : Fc p1 = some (.lst [.ref p2, .int x, .int y, .int z])
  a2 : Hc p2 = some (.lst (ns.map V.int))
  f2 : Fc p2 = some (.lst (ns.map V.int))
  kp : Kp S H0 Hc
section
variable {K : PySem.W.Frag} {S : Strm} {p1 p2 : Addr} {H0 Fc Hc H' : Hp} {ns ms : List Int} {x y z x' y' z' : Int}
theorem Dr.den (d : Dr K S p1 p2 H0 Fc Hc ns x y z) : Den K Fc none (.ref p1) (strD ns x y z) := by
  refine .lst d.f1 (.cons (.lst d.f2 ?_) (.cons (.int _) (.cons (.int _) (.cons (.int _) .nil))))
  have : ∀ l : List Int, DenL K Fc none (l.map V.int) (l.map .int) := fun l => by
    induction l with
    | nil => exact .nil
    | cons a l ih => exact .cons (.int _) ih
  exact this ns
theorem Dr.next {n' : Nat} (d : Dr K S p1 p2 H0 Fc Hc ns x y z) (e : Ext none n' Hc H') : Dr K S p1 p2 H0 (grow Fc Hc H') H' ns x y z := by
  have e : Ext none 0 Hc H' := ⟨e.kp, trivial⟩
  exact ⟨d.ne, d.fr.next e, e.kp _ _ d.a1 (fun h => h.elim), sub_grow _ _ d.f1, e.kp _ _ d.a2 (fun h => h.elim), sub_grow _ _ d.f2, fun b o h hs => e.kp b o (d.kp b o h hs) fun h => h.elim⟩
theorem Dr.set1 (d : Dr K S p1 p2 H0 Fc Hc ns x y z) (hs : inS S p1) : Dr K S p1 p2 H0 (upd Fc p1 (.lst [.ref p2, .int x', .int y', .int z'])) (upd Hc p1 (.lst [.ref p2, .int x', .int y', .int z'])) ns x' y' z' :=
  ⟨d.ne, d.fr.put (fun h => h.elim) (fun _ e => by cases e), upd_same, upd_same, by rw [upd_ne (Ne.symm d.ne)]; exact d.a2, by rw [upd_ne (Ne.symm d.ne)]; exact d.f2,
    fun b o h hb => by rw [upd_ne (fun (e : b = p1) => hb (by rw [e]; exact hs))]; exact d.kp b o h hb⟩
theorem Dr.set2 (d : Dr K S p1 p2 H0 Fc Hc ns x y z) (hs : inS S p2) : Dr K S p1 p2 H0 (upd Fc p2 (.lst (ms.map V.int))) (upd Hc p2 (.lst (ms.map V.int))) ms x y z :=
  ⟨d.ne, d.fr.put (fun h => h.elim) (fun _ e => by cases e), by rw [upd_ne d.ne]; exact d.a1, by rw [upd_ne d.ne]; exact d.f1, upd_same, upd_same,
    fun b o h hb => by rw [upd_ne (fun (e : b = p2) => hb (by rw [e]; exact hs))]; exact d.kp b o h hb⟩
theorem oIx_s0 (a b c d : PyData) (k : PyData → Prop) : oIx (.list [a, b, c, d]) (.int 0) k = k a := propext ⟨fun ⟨_, e, h⟩ => by cases (show some a = _ from e); exact h, fun h => ⟨a, rfl, h⟩⟩
theorem oIx_s1 (a b c d : PyData) (k : PyData → Prop) : oIx (.list [a, b, c, d]) (.int 1) k = k b := propext ⟨fun ⟨_, e, h⟩ => by cases (show some b = _ from e); exact h, fun h => ⟨b, rfl, h⟩⟩
theorem oIx_s2 (a b c d : PyData) (k : PyData → Prop) : oIx (.list [a, b, c, d]) (.int 2) k = k c := propext ⟨fun ⟨_, e, h⟩ => by cases (show some c = _ from e); exact h, fun h => ⟨c, rfl, h⟩⟩
theorem oIx_s3 (a b c d : PyData) (k : PyData → Prop) : oIx (.list [a, b, c, d]) (.int 3) k = k d := propext ⟨fun ⟨_, e, h⟩ => by cases (show some d = _ from e); exact h, fun h => ⟨d, rfl, h⟩⟩
theorem oMod_int (a b : Int) (k : PyData → Prop) : oMod (.int a) (.int b) k = (0 < b ∧ k (.int (a % b))) := rfl
theorem oGe_int (a b : Int) (k : PyData → Prop) : oGe (.int a) (.int b) k = (True ∧ k (.bool (decide (b ≤ a)))) := rfl
theorem oGt_int (a b : Int) (k : PyData → Prop) : oGt (.int a) (.int b) k = (True ∧ k (.bool (decide (b < a)))) := rfl
theorem oDiv_int (a b : Int) (k : PyData → Prop) : oDiv (.int a) (.int b) k = (CDiv a b ∧ k (.int (a / b))) := rfl
theorem oPow_int (a b : Int) (k : PyData → Prop) : oPow (.int a) (.int b) k = (CPow a b ∧ k (.int (a ^ b.toNat))) := rfl
theorem oInt_int (a : Int) (k : PyData → Prop) : oInt (.int a) k = k (.int a) := rfl
theorem nd_ints : ∀ l : List Int, ndL (l.map .int) = true
  | [] => rfl
  | _ :: l => nd_ints l
theorem depth_ints : ∀ l : List Int, PyData.depthAll (l.map .int) = 0
  | [] => by simp [PyData.depthAll]
  | _ :: l => by simp [PyData.depthAll, PyData.depth, depth_ints l]
theorem oNe_ints (l : List Int) (k : PyData → Prop) : oNe (.list (l.map .int)) (.list []) k = k (.bool (!decide (l = []))) := by
  have e : PyData.eqv (.list (l.map .int)) (.list []) = decide (l = []) := by
    cases l <;> simp [PyData.eqv, PyData.eqvAll]
  have f1 : flat (.list (l.map .int)) = true := by
    have := nd_ints l
    simp [flat, nd, PyData.depth, depth_ints, this]
  have f2 : flat (.list []) = true := by decide +kernel
  rw [← e]
  exact propext ⟨fun h => h.2.2, fun h => ⟨f1, f2, h⟩⟩
end
end DL
local macro_rules | `(tactic| walk_at "my_wps") => `(tactic| simp only [DL.oIx_s0, DL.oIx_s1, DL.oIx_s2, DL.oIx_s3, DL.oMod_int, DL.oGe_int, DL.oGt_int, DL.oDiv_int, DL.oPow_int, Option.map, DL.oInt_int, DL.oNe_ints, DL.strD])
local macro_rules | `(tactic| walk_at "my_wpx") => `(tactic| ((try walk_at "my_wp"); (try walk_at "my_wps"); (try walk_at "my_wp"); (try walk_at "my_wps"); (try walk_at "my_wp")))
namespace W
open PySem PySem.Spec PySem.W PyProof.Rows L2 DL GF
section
variable {P : Program} {w : World} {K : PySem.W.Frag} {mg : Str → Option Value} {base : Heap}
theorem draw_ok (B : Bt mg) {f : Addr} {fd : FuncData} {x : Str} {params : Arguments}
    (FD : FunD K x "_law_draw" params (defBody s_law_draw) (defScope s_law_draw) [] [] f fd) :
    FnOk P w K mg base CX0 1 f fd ["stream", "many"] (spD K 2 sp_law_draw) := by
  refine FD.ok sc_law_draw (fun vs H Q E h => h.1) fun cdv A outer s0 H vs Q E hr h => ?_
  have hu : (A.deeper (envOfC "_law_draw" (defScope s_law_draw) s0.heap.objs.size f cdv)).units + 65 < cLine := by have := hr.un; omega
  have hu64 : (A.deeper (envOfC "_law_draw" (defScope s_law_draw) s0.heap.objs.size f cdv)).units + 64 < cLine := by omega
  have hu1 : (A.deeper (envOfC "_law_draw" (defScope s_law_draw) s0.heap.objs.size f cdv)).units + 1 < cLine := by omega
  have nd_law_draw : N_law_draw.Nodup := by decide +kernel
  refine ⟨_, (show PSs (cxOf CX0 P w K mg base N_law_draw "_law_draw" (defScope s_law_draw) f cdv A outer s0 H E).nox (defBody s_law_draw) _ from
    (pss_cons (ps_asg (de_op op_addD (de_ix hu1 (dv 0) de_int (fun _ _ => rfl)) de_int) (pg_sub (pe_var (i := 0) rfl (Or.inl rfl)) de_int set_list))
    (pss_cons (ps_while PassesOwn.never (dt_w (dw_and (dt_cmp (op_eqDD hu64) (de_ix hu1 (dv 0) de_int (fun _ _ => rfl)) de_int (nomark _)) (dw_and1 (dt_cmp (op_neDD hu64) (de_ix hu1 (dv 0) de_int (fun _ _ => rfl)) (de_lst da_nil) (nomark _)))))
      (pss_cons (ps_set (i := 2) nd_law_draw rfl (Or.inl rfl) (pe_callB call_absD1 rfl B.abs bv_abs (pa_cons (pe_bm PySem.F.plainAttrs_list PySem.F.slot_list_pop PySem.F.type_list_pop mt_popAt (pe_ix ix_list (pe_var (i := 0) rfl (Or.inl rfl)) de_int (fun _ _ => rfl)) (pa_cons de_int pa_nil)) pa_nil)))
      (pss_cons (ps_asg (de_op op_modD (de_callTy call_intD1 rfl B.int bv_int (da_cons (de_op op_addD (de_op op_addD (de_op op_mulD (de_ix hu1 (dv 0) de_int (fun _ _ => rfl)) de_int) (dv 2)) de_int) da_nil)) de_int) (pg_sub (pe_var (i := 0) rfl (Or.inl rfl)) de_int set_list))
      (pss_one (ps_asg (de_ifExp (dt_cmp op_geD (dv 2) (de_op op_powD de_int de_int) (nomark _)) (dv 2) de_int) (pg_sub (pe_var (i := 0) rfl (Or.inl rfl)) de_int set_list))))))
    (pss_cons (ps_if (dt_cmp op_gtD (de_ix hu1 (dv 0) de_int (fun _ _ => rfl)) de_int (nomark _))
      (pss_cons (ps_set (i := 3) nd_law_draw rfl (Or.inl rfl) (de_op op_modD (de_callTy call_intD1 rfl B.int bv_int (da_cons (de_ix hu1 (dv 0) de_int (fun _ _ => rfl)) da_nil)) (dv 1)))
      (pss_cons (ps_asg (de_op op_divD (de_ix hu1 (dv 0) de_int (fun _ _ => rfl)) (dv 1)) (pg_sub (pe_var (i := 0) rfl (Or.inl rfl)) de_int set_list))
      (pss_one (ps_ret (dv 3))))) pss_nil)
    (pss_cons (ps_set (i := 4) nd_law_draw rfl (Or.inl rfl) (de_op op_modD (de_callTy call_intD1 rfl B.int bv_int (da_cons (de_op op_powD (de_op op_addD (de_op op_addD (de_ix hu1 (dv 0) de_int (fun _ _ => rfl)) (de_op op_mulD de_int (de_ix hu1 (dv 0) de_int (fun _ _ => rfl)))) de_int) de_int) da_nil)) de_int))
    (pss_one (ps_ret (de_op op_modD (de_op op_modD (de_callTy call_intD1 rfl B.int bv_int (da_cons (de_op op_powD (de_op op_addD (de_op op_addD (de_op op_mulD (dv 4) de_int) (de_op op_mulD de_int (de_ix hu1 (dv 0) de_int (fun _ _ => rfl)))) de_int) de_int) da_nil)) de_int) (dv 1))))))))).nox, ?_⟩
  obtain ⟨hlen, F0, S, n, ds, fr0, hd, k, ⟨many, n0, rfl, hm0, hm1, rfl, hk⟩, hQ⟩ := h
  obtain ⟨v1, v2, rfl, hv1, hv2⟩ : ∃ v1 v2, vs = [v1, v2] ∧ Den K F0 S v1 strmP ∧ Den K F0 S v2 (.int (many : Nat)) := by
    cases hd with
    | cons h1 t => cases t with
      | cons h2 t => cases t; exact ⟨_, _, rfl, h1, h2⟩
  cases hv2.int_inv
  obtain ⟨p1, p2, rfl, rfl⟩ : ∃ p1 p2, S = some (p1, p2) ∧ v1 = .ref p1 := by
    generalize e : strmP = dd at hv1
    cases hv1 with
    | strm h => rename_i p; exact ⟨p.1, p.2, h, rfl⟩
    | non => cases e
    | bl b => cases e
    | int i => cases e
    | str x h => cases e
    | lst h1 h2 => cases e
    | tup h1 h2 => cases e
    | dK h1 h2 h3 h4 => rename_i es; exact absurd e (by unfold strmP dkP; cases es with
      | nil => simp
      | cons a l => cases a with
        | mk k d => cases k <;> simp [kP])
    | dT h1 h2 h3 h4 => rename_i es; exact absurd e (by unfold strmP dtP; cases es with
      | nil => simp
      | cons a l => simp [ktP])
    | ins h1 h2 h3 => exact absurd e (by unfold strmP insP; simp)
    | par h1 h0 h2 h3 => exact absurd e (by unfold strmP parP; simp)
  obtain ⟨hne, ns, x, y, z, hp1, hp2, hx0, hy0, hyn, hz0, hz1, hxb, hnl, hnb⟩ := fr0.str
  have s1 : inS (some (p1, p2)) p1 := .inl rfl
  have s2 : inS (some (p1, p2)) p2 := .inr rfl
  have sz := sz
  have dr0 : Dr K (some (p1, p2)) p1 p2 H (upd (upd F0 p2 (.lst (ns.map V.int))) p1 (.lst [.ref p2, .int x, .int y, .int z])) H ns x y z := by
    refine ⟨hne, ⟨fun b o h => ?_, fun b h => h.elim, trivial, fun b xs h => ?_⟩, hp1, upd_same, hp2, by rw [upd_ne (Ne.symm hne)]; exact upd_same, Kp.refl _ _⟩
    · by_cases h1 : b = p1
      · subst h1; rw [upd_same] at h; cases h; exact hp1
      · rw [upd_ne h1] at h
        by_cases h2 : b = p2
        · subst h2; rw [upd_same] at h; cases h; exact hp2
        · rw [upd_ne h2] at h; exact fr0.sub b o h
    · have h1 : b ≠ p1 := fun e => by rw [e, hp1] at h; cases h
      have h2 : b ≠ p2 := fun e => by rw [e, hp2] at h; cases h
      rw [upd_ne h1, upd_ne h2]; exact fr0.tp b xs h
  have env : ∀ {Fc Hc : Hp} {ns : List Int} {x y z : Int} {σ : L2.St} (c e g : Option Int), Dr K (some (p1, p2)) p1 p2 H Fc Hc ns x y z → σ.length = 5 → σ[0]? = some (some (V.ref p1)) → σ[1]? = some (some (V.int (many : Nat))) → (∀ i, c = some i → σ[2]? = some (some (V.int i))) → (∀ i, e = some i → σ[3]? = some (some (V.int i))) → (∀ i, g = some i → σ[4]? = some (some (V.int i))) →
      AgE K Fc none 0 Hc ([some (strD ns x y z), some (.int (many : Nat)), c.map .int, e.map .int, g.map .int] : DL.Env) σ := fun {Fc Hc ns x y z σ} c e g d hl h0 h1 h2 h3 h4 => by
    refine ⟨d.fr, fun i w q => ?_, by rw [hl]; rfl⟩
    match i, q with
    | 0, q => cases q; exact ⟨_, h0, d.den⟩
    | 1, q => cases q; exact ⟨_, h1, .int _⟩
    | 2, q =>
      cases c with
      | none => cases q
      | some i => cases q; exact ⟨_, h2 i rfl, .int _⟩
    | 3, q =>
      cases e with
      | none => cases q
      | some i => cases q; exact ⟨_, h3 i rfl, .int _⟩
    | 4, q =>
      cases g with
      | none => cases q
      | some i => cases q; exact ⟨_, h4 i rfl, .int _⟩
    | i + 5, q => cases q
  have hσl : (L2.start N_law_draw [V.ref p1, V.int (many : Nat)]).length = 5 := rfl
  have hσ0 : (L2.start N_law_draw [V.ref p1, V.int (many : Nat)])[0]? = some (some (V.ref p1)) := rfl
  have hσ1 : (L2.start N_law_draw [V.ref p1, V.int (many : Nat)])[1]? = some (some (V.int (many : Nat))) := rfl
  generalize L2.start N_law_draw [V.ref p1, V.int (many : Nat)] = σ at hσl hσ0 hσ1
  have store : ∀ (m : M) (i : Int) (j : Nat) (r : Int) (Fc Hc : Hp) (ns : List Int) (x y z x' y' z' : Int) (σ : L2.St) (γ : DL.Env) (Dn : Ends), Dr K (some (p1, p2)) p1 p2 H Fc Hc ns x y z → AgE K Fc none 0 Hc γ σ → σ[0]? = some (some (V.ref p1)) → (∀ k : PyData → Nat → Prop, k (.int r) 0 → m γ 0 k) → ixN 4 i = some j → ([V.ref p2, .int x, .int y, .int z] : List V).set j (.int r) = [.ref p2, .int x', .int y', .int z'] →
      (∀ F' H', Dr K (some (p1, p2)) p1 p2 H F' H' ns x' y' z' → Dn.nx σ H') → tAsg (tD K m) (gSub (tVar 0) (tD K (mC (.int i))) rSetL) Dn σ Hc := by
    intro m i j r Fc Hc ns x y z x' y' z' σ γ Dn d ae h0 hm hj hset hgo
    refine ⟨Fc, none, 0, γ, ae, fun d n' => n' = 0 ∧ d = .int r, hm _ ⟨rfl, rfl⟩, ?_⟩
    rintro w n' ⟨rfl, rfl⟩ v H1 q1
    cases q1.den.int_inv
    have d1 := d.next q1.ext
    refine ⟨.ref p1, h0, ?_⟩
    refine ⟨_, none, 0, γ, ae.next q1.ext, fun d n' => n' = 0 ∧ d = .int i, ⟨rfl, rfl⟩, ?_⟩
    rintro w n' ⟨rfl, rfl⟩ v H2 q2
    cases q2.den.int_inv
    have d2 := d1.next q2.ext
    refine ⟨p1, _, i, j, rfl, rfl, d2.a1, hj, ?_⟩
    rw [hset]
    exact hgo _ _ (d2.set1 s1)
  refine store _ 2 2 (y + 1) _ _ ns x y z x (y + 1) z σ _ _ dr0 (env none none none dr0 hσl hσ0 hσ1 (fun _ h => by cases h) (fun _ h => by cases h) (fun _ h => by cases h)) hσ0 (fun k hk => by walk_at "my_wp"; walk_at "my_wps"; walk_at "my_wp"; exact hk) rfl rfl ?_
  intro F1 H1 d1
  clear dr0 hp1 hp2
  refine ⟨fun m σ Hc => ∃ Fc ns x z, m = ns.length ∧ Dr K (some (p1, p2)) p1 p2 H Fc Hc ns x (y + 1) z ∧ σ.length = 5 ∧ σ[0]? = some (some (V.ref p1)) ∧ σ[1]? = some (some (V.int (many : Nat))) ∧ 0 ≤ x ∧ 0 ≤ z ∧ z < 2 ^ 31 ∧ x.natAbs < 2 ^ 1100000 ∧ ns.length ≤ 70 ∧ ∀ m ∈ ns, m.natAbs < 2 ^ 1100000,
    ⟨_, F1, ns, x, z, rfl, d1, hσl, hσ0, hσ1, hx0, hz0, hz1, hxb, hnl, hnb⟩, ?_⟩
  clear d1 hσl hσ0 hσ1 hx0 hz0 hz1 hxb hnl hnb
  rintro m σ Hc ⟨Fc, ns, x, z, rfl, d, hσl, hσ0, hσ1, hx0, hz0, hz1, hxb, hnl, hnb⟩
  refine ⟨Fc, none, 0, _, env none none none d hσl hσ0 hσ1 (fun _ h => by cases h) (fun _ h => by cases h) (fun _ h => by cases h), fun b n' => n' = 0 ∧ b = (decide (x = 0) && !decide (ns = [])), ?_, ?_⟩
  · walk_at "my_wp"; walk_at "my_wps"; walk_at "my_wp"
    by_cases h : x = 0
    · simp only [h, decide_true]
      walk_at "my_wp"
      exact ⟨by omega, by first | exact ⟨rfl, rfl⟩ | simp⟩
    · simp only [h, decide_false]
      walk_at "my_wp"
      first | exact ⟨rfl, rfl⟩ | simp
  rintro b n' ⟨rfl, rfl⟩ H2 e2
  have d2 := d.next e2
  generalize grow Fc Hc H2 = F2 at d2
  clear d
  by_cases hgo : x = 0 ∧ ns ≠ []
  · obtain ⟨rfl, hns⟩ := hgo
    rw [if_pos (by simp [hns])]
    obtain ⟨a, ns, rfl⟩ : ∃ a l, ns = a :: l := by
      cases ns with
      | nil => exact absurd rfl hns
      | cons a l => exact ⟨a, l, rfl⟩
    have hnb' : ∀ m ∈ ns, m.natAbs < 2 ^ 1100000 := fun m hm => hnb m (List.mem_cons_of_mem _ hm)
    have hab := hnb a (List.mem_cons_self ..)
    refine ⟨fun σ Hc => ∃ Fc x z, Dr K (some (p1, p2)) p1 p2 H Fc Hc ns x (y + 1) z ∧ σ.length = 5 ∧ σ[0]? = some (some (V.ref p1)) ∧ σ[1]? = some (some (V.int (many : Nat))) ∧ 0 ≤ x ∧ 0 ≤ z ∧ z < 2 ^ 31 ∧ x.natAbs < 2 ^ 1100000, ?_, ?_⟩
    · rintro σ' H' ⟨Fc, x, z, q1, q2, q3, q4, q5, q6, q7, q8⟩
      exact ⟨_, by simp, Fc, ns, x, z, rfl, q1, q2, q3, q4, q5, q6, q7, q8, by simp at hnl; omega, hnb'⟩
    have ae2 := env none none none d2 hσl hσ0 hσ1 (fun _ h => by cases h) (fun _ h => by cases h) (fun _ h => by cases h)
    refine ⟨.ref p1, hσ0, F2, none, 0, _, ae2, fun d n' => n' = 0 ∧ d = .int 0, ⟨rfl, rfl⟩, ?_⟩
    rintro w n' ⟨rfl, rfl⟩ v H3 q3
    cases q3.den.int_inv
    have d3 := d2.next q3.ext
    have ae3 := ae2.next q3.ext
    generalize grow F2 H2 H3 = F3 at d3 ae3
    refine ⟨p1, _, 0, .ref p2, rfl, rfl, SqL.of d3.a1, rfl, .inl ⟨rfl, _, SqL.of d3.a2⟩, ?_⟩
    refine ⟨F3, none, 0, _, ae3, fun d n' => n' = 0 ∧ d = .int 0, ⟨rfl, rfl⟩, ?_⟩
    rintro w n' ⟨rfl, rfl⟩ v H4 q4
    cases q4.den.int_inv
    have d4 := d3.next q4.ext
    generalize grow F3 H3 H4 = F4 at d4
    refine ⟨p2, _, 0, 0, .int a, rfl, rfl, d4.a2, by decide, by decide, by simp [seqIndex?], rfl, ?_⟩
    have d5 := d4.set2 (ms := ns) s2
    rw [show ((a :: ns).map V.int).eraseIdx 0 = ns.map V.int from rfl]
    refine ⟨_, none, 0, [.int a], d5.fr, .cons (.int a) .nil, fun d => d = .int a.natAbs, ?_, ?_⟩
    · show (PyData.int (if a < 0 then -a else a)) = .int a.natAbs
      congr 1
      split <;> omega
    rintro d rfl v H6 q6
    cases q6.den.int_inv
    have d6 := d5.next q6.ext
    generalize grow (upd F4 p2 (.lst (ns.map V.int))) (upd H4 p2 (.lst (ns.map V.int))) H6 = F6 at d6
    unfold gName
    have hl3 : (σ.set 2 (some (V.int (a.natAbs : Nat)))).length = 5 := by rw [List.length_set]; exact hσl
    have h03 : (σ.set 2 (some (V.int (a.natAbs : Nat))))[0]? = some (some (V.ref p1)) := by rw [List.getElem?_set_ne (by decide)]; exact hσ0
    have h13 : (σ.set 2 (some (V.int (a.natAbs : Nat))))[1]? = some (some (V.int (many : Nat))) := by rw [List.getElem?_set_ne (by decide)]; exact hσ1
    have h23 : ∀ i, some ((a.natAbs : Nat) : Int) = some i → (σ.set 2 (some (V.int (a.natAbs : Nat))))[2]? = some (some (V.int i)) := fun i e => by cases e; rw [List.getElem?_set_self (by omega)]
    generalize σ.set 2 (some (V.int (a.natAbs : Nat))) = σ3 at hl3 h03 h13 h23
    refine store _ 3 3 ((z * 6151 + (a.natAbs : Nat) + 7) % 2147483629) _ _ ns 0 (y + 1) z 0 (y + 1) ((z * 6151 + (a.natAbs : Nat) + 7) % 2147483629) σ3 _ _ d6 (env (some ((a.natAbs : Nat) : Int)) none none d6 hl3 h03 h13 h23 (fun _ h => by cases h) (fun _ h => by cases h)) h03 (fun k hk => ?_) rfl rfl ?_
    · walk_at "my_wp"; walk_at "my_wps"; walk_at "my_wp"
      exact ⟨.inl ⟨by omega, by omega⟩, by first | exact ⟨by decide, hk⟩ | (walk_at "my_wps"; exact ⟨by decide, hk⟩)⟩
    intro F7 H7 d7
    refine store _ 1 1 (if (10 : Int) ^ 18 ≤ (a.natAbs : Nat) then ((a.natAbs : Nat) : Int) else 0) _ _ ns 0 (y + 1) ((z * 6151 + (a.natAbs : Nat) + 7) % 2147483629) (if (10 : Int) ^ 18 ≤ (a.natAbs : Nat) then ((a.natAbs : Nat) : Int) else 0) (y + 1) ((z * 6151 + (a.natAbs : Nat) + 7) % 2147483629) σ3 _ _ d7 (env (some ((a.natAbs : Nat) : Int)) none none d7 hl3 h03 h13 h23 (fun _ h => by cases h) (fun _ h => by cases h)) h03 (fun k hk => ?_) rfl rfl ?_
    · walk_at "my_wp"; walk_at "my_wps"; walk_at "my_wp"
      refine ⟨⟨by decide, by decide, by decide⟩, ?_⟩
      by_cases h : (10 : Int) ^ 18 ≤ (a.natAbs : Nat)
      · rw [if_pos h] at hk
        have h' : decide ((10 : Int) ^ (18 : Int).toNat ≤ ((a.natAbs : Nat) : Int)) = true := decide_eq_true h
        rw [h']
        walk_at "my_wp"
        exact hk
      · rw [if_neg h] at hk
        have h' : decide ((10 : Int) ^ (18 : Int).toNat ≤ ((a.natAbs : Nat) : Int)) = false := decide_eq_false h
        rw [h']
        walk_at "my_wp"
        exact hk
    intro F8 H8 d8
    refine ⟨F8, _, _, d8, hl3, h03, h13, ?_, by omega, by omega, ?_⟩
    · split <;> omega
    · split
      · rw [Int.natAbs_natCast]; exact hab
      · exact Nat.two_pow_pos _
  · have hc : (decide (x = 0) && !decide (ns = [])) = false := by
      by_cases h1 : x = 0
      · have : ns = [] := Classical.byContradiction fun h => hgo ⟨h1, h⟩
        simp [this]
      · simp [h1]
    rw [hc, if_neg (by simp)]
    have fin : ∀ (F' H' : Hp) (x' z' : Int) (r : Nat), Dr K (some (p1, p2)) p1 p2 H F' H' ns x' (y + 1) z' → 0 ≤ x' → x'.natAbs < 2 ^ 1100000 → 0 ≤ z' → z' < 2 ^ 31 → r < many → Q (.int (r : Nat)) H' := fun F' H' x' z' r d' h1 h2 h3 h4 hr => by
      refine hQ _ n0 (hk r hr) _ _ ⟨⟨d'.kp, d'.ne, ns, x', y + 1, z', d'.a1, d'.a2, h1, by omega, by push_cast at hyn; omega, h3, h4, h2, hnl, hnb⟩, .int _⟩
    by_cases hx : 0 < x
    · -- a digit of the cell
      refine ⟨F2, none, 0, _, env none none none d2 hσl hσ0 hσ1 (fun _ h => by cases h) (fun _ h => by cases h) (fun _ h => by cases h), fun b n' => n' = 0 ∧ b = true, ?_, ?_⟩
      · walk_at "my_wpx"
        all_goals first | exact ⟨rfl, decide_eq_true hx⟩ | simpa using hx
      rintro b n' ⟨rfl, rfl⟩ H3 e3
      rw [if_pos rfl]
      have d3 := d2.next e3
      generalize grow F2 H2 H3 = F3 at d3
      refine ⟨F3, none, 0, _, env none none none d3 hσl hσ0 hσ1 (fun _ h => by cases h) (fun _ h => by cases h) (fun _ h => by cases h), fun d n' => n' = 0 ∧ d = .int (x % (many : Nat)), ?_, ?_⟩
      · walk_at "my_wpx"
        exact ⟨by omega, trivial⟩
      rintro w n' ⟨rfl, rfl⟩ v H4 q4
      cases q4.den.int_inv
      have d4 := d3.next q4.ext
      generalize grow F3 H3 H4 = F4 at d4
      unfold gName
      have hl3 : (σ.set 3 (some (V.int (x % (many : Nat))))).length = 5 := by rw [List.length_set]; exact hσl
      have h03 : (σ.set 3 (some (V.int (x % (many : Nat)))))[0]? = some (some (V.ref p1)) := by rw [List.getElem?_set_ne (by decide)]; exact hσ0
      have h13 : (σ.set 3 (some (V.int (x % (many : Nat)))))[1]? = some (some (V.int (many : Nat))) := by rw [List.getElem?_set_ne (by decide)]; exact hσ1
      have h33 : ∀ i, some (x % (many : Nat)) = some i → (σ.set 3 (some (V.int (x % (many : Nat)))))[3]? = some (some (V.int i)) := fun i e => by cases e; rw [List.getElem?_set_self (by omega)]
      generalize σ.set 3 (some (V.int (x % (many : Nat)))) = σ3 at hl3 h03 h13 h33
      refine store _ 1 1 (x / (many : Nat)) _ _ ns x (y + 1) z (x / (many : Nat)) (y + 1) z σ3 _ _ d4 (env none (some (x % (many : Nat))) none d4 hl3 h03 h13 (fun _ h => by cases h) h33 (fun _ h => by cases h)) h03 (fun k hk => ?_) rfl rfl ?_
      · walk_at "my_wpx"
        exact ⟨⟨by omega, by omega⟩, hk⟩
      intro F5 H5 d5
      refine ⟨F5, none, 0, _, env none (some (x % (many : Nat))) none d5 hl3 h03 h13 (fun _ h => by cases h) h33 (fun _ h => by cases h), fun d n' => n' = 0 ∧ d = .int (x % (many : Nat)), ?_, ?_⟩
      · walk_at "my_wpx"; all_goals (first | exact ⟨rfl, rfl⟩ | rfl)
      rintro w n' ⟨rfl, rfl⟩ v H6 q6
      cases q6.den.int_inv
      have d6 := d5.next q6.ext
      have hr1 : 0 ≤ x % (many : Nat) := Int.emod_nonneg _ (by omega)
      have hr2 : x % (many : Nat) < (many : Nat) := Int.emod_lt_of_pos _ (by omega)
      have hrr : x % (many : Nat) = (((x % (many : Nat)).toNat : Nat) : Int) := by omega
      show Q (.int (x % (many : Nat))) H6
      rw [hrr]
      refine fin _ _ (x / (many : Nat)) z _ d6 (Int.ediv_nonneg hx0 (by omega)) ?_ hz0 hz1 (by omega)
      refine Nat.lt_of_le_of_lt ?_ hxb
      have h5 : x / (many : Nat) ≤ x := Int.ediv_le_self _ hx0
      have h6 : 0 ≤ x / (many : Nat) := Int.ediv_nonneg hx0 (by omega)
      omega
    · have hx00 : x = 0 := by omega
      subst hx00
      refine ⟨F2, none, 0, _, env none none none d2 hσl hσ0 hσ1 (fun _ h => by cases h) (fun _ h => by cases h) (fun _ h => by cases h), fun b n' => n' = 0 ∧ b = false, ?_, ?_⟩
      · walk_at "my_wpx"
        all_goals first | exact ⟨rfl, rfl⟩ | simp
      rintro b n' ⟨rfl, rfl⟩ H3 e3
      rw [if_neg (by simp)]
      have d3 := d2.next e3
      generalize grow F2 H2 H3 = F3 at d3
      obtain ⟨mx, hmx⟩ : ∃ mx : Int, mx = ((z + 8191 * (y + 1) + 50021) ^ (5 : Int).toNat) % 2147483587 := ⟨_, rfl⟩
      have hm0' : 0 ≤ mx := by rw [hmx]; exact Int.emod_nonneg _ (by decide)
      have hm1' : mx < 2147483587 := by rw [hmx]; exact Int.emod_lt_of_pos _ (by decide)
      push_cast at hyn
      refine ⟨F3, none, 0, _, env none none none d3 hσl hσ0 hσ1 (fun _ h => by cases h) (fun _ h => by cases h) (fun _ h => by cases h), fun d n' => n' = 0 ∧ d = .int mx, ?_, ?_⟩
      · walk_at "my_wpx"
        refine ⟨.inl ⟨by decide, by decide⟩, ⟨by decide, by decide, by omega⟩, by decide, ?_⟩
        first | (rw [← hmx]; done) | (rw [← hmx]; first | exact ⟨rfl, rfl⟩ | rfl)
      rintro w n' ⟨rfl, rfl⟩ v H4 q4
      cases q4.den.int_inv
      have d4 := d3.next q4.ext
      generalize grow F3 H3 H4 = F4 at d4
      unfold gName
      have hl3 : (σ.set 4 (some (V.int mx))).length = 5 := by rw [List.length_set]; exact hσl
      have h03 : (σ.set 4 (some (V.int mx)))[0]? = some (some (V.ref p1)) := by rw [List.getElem?_set_ne (by decide)]; exact hσ0
      have h13 : (σ.set 4 (some (V.int mx)))[1]? = some (some (V.int (many : Nat))) := by rw [List.getElem?_set_ne (by decide)]; exact hσ1
      have h43 : ∀ i, some mx = some i → (σ.set 4 (some (V.int mx)))[4]? = some (some (V.int i)) := fun i e => by cases e; rw [List.getElem?_set_self (by omega)]
      generalize σ.set 4 (some (V.int mx)) = σ3 at hl3 h03 h13 h43
      obtain ⟨rs, hrs⟩ : ∃ rs : Int, rs = ((mx * 40009 + 20011 * (y + 1) + 31) ^ (3 : Int).toNat) % 1000000009 % (many : Nat) := ⟨_, rfl⟩
      have hr1 : 0 ≤ rs := by rw [hrs]; exact Int.emod_nonneg _ (by omega)
      have hr2 : rs < (many : Nat) := by rw [hrs]; exact Int.emod_lt_of_pos _ (by omega)
      refine ⟨F4, none, 0, _, env none none (some mx) d4 hl3 h03 h13 (fun _ h => by cases h) (fun _ h => by cases h) h43, fun d n' => n' = 0 ∧ d = .int rs, ?_, ?_⟩
      · walk_at "my_wpx"
        refine ⟨.inl ⟨by omega, by omega⟩, .inl ⟨by decide, by decide⟩, ⟨by decide, by decide, by omega⟩, by decide, by omega, ?_⟩
        first | (rw [← hrs]; done) | (rw [← hrs]; first | exact ⟨rfl, rfl⟩ | rfl)
      rintro w n' ⟨rfl, rfl⟩ v H6 q6
      cases q6.den.int_inv
      have d6 := d4.next q6.ext
      have hrr : rs = ((rs.toNat : Nat) : Int) := by omega
      show Q (.int rs) H6
      rw [hrr]
      exact fin _ _ 0 z _ d6 (by omega) hxb hz0 hz1 (by omega)
end
end W
namespace W
open PySem PySem.Spec PySem.W PyProof.Rows L2 DL GF
section
variable {P : Program} {w : World} {K : PySem.W.Frag} {mg : Str → Option Value} {base : Heap}
theorem pt_isi {X : Cx} {T : String} {i : Nat} {a b : Expr} {p pos : Pos} (hg : Gl X "isinstance") (hm : X.mg "isinstance" = none) (ha : PE X a (tVar i)) (hb : PE X b (tC (.ty T)))
    (he : starEach [a, b] X.env = (false, eval a X.env) :: starEach [b] X.env := by rfl) (hs2 : starEach [b] X.env = (false, eval b X.env) :: starEach [] X.env := by rfl) (hpl : (backTo pos (starEach [b] X.env)).any (·.1) = false := by rfl)
    (hv : ∀ whole, isTrue (.Call (.Name "isinstance" p) [a, b] [] pos) X.env whole = (do let v ← whole; standAt (Expr.pos (.Call (.Name "isinstance" p) [a, b] [] pos)); holding [v] (truthy v)) := by intro _; rfl) :
    PT X (.Call (.Name "isinstance" p) [a, b] [] pos) fun σ H Q => ∃ v, σ[i]? = some (some v) ∧ ∃ t, TyX X.K H v (.type t) ∧ t ∈ tyNames ∧ T ∈ tyCls ∧ Q (isTy T t) H :=
  PT.weak (pt_val (pe_callB call_isi hg hm boot_isi (pa_cons ha (pa_cons hb pa_nil hs2) he) (by decide) (by decide) he hpl) hv) fun σ H Q h => by
    obtain ⟨v, e, t, ty, ht, hT, hQ⟩ := h
    exact ⟨v, e, v, .ty T, .type t, .type T, _, rfl, .ty T, ty, kit_ty (kitB_of ht hT), _, rfl, hQ⟩
theorem pt_isiT {X : Cx} {Ts : List String} {i : Nat} {a b : Expr} {p pos : Pos} (hg : Gl X "isinstance") (hm : X.mg "isinstance" = none) (ha : PE X a (tVar i)) (hb : PE X b (fun σ H Q => ∀ p, H p = none → Q (.ref p) (upd H p (.tup (Ts.map V.ty)))))
    (he : starEach [a, b] X.env = (false, eval a X.env) :: starEach [b] X.env := by rfl) (hs2 : starEach [b] X.env = (false, eval b X.env) :: starEach [] X.env := by rfl) (hpl : (backTo pos (starEach [b] X.env)).any (·.1) = false := by rfl)
    (hv : ∀ whole, isTrue (.Call (.Name "isinstance" p) [a, b] [] pos) X.env whole = (do let v ← whole; standAt (Expr.pos (.Call (.Name "isinstance" p) [a, b] [] pos)); holding [v] (truthy v)) := by intro _; rfl) :
    PT X (.Call (.Name "isinstance" p) [a, b] [] pos) fun σ H Q => ∃ v, σ[i]? = some (some v) ∧ ∀ q, H q = none → ∃ t, TyX X.K (upd H q (.tup (Ts.map V.ty))) v (.type t) ∧ t ∈ tyNames ∧ (∀ T ∈ Ts, T ∈ tyCls) ∧ Q (Ts.any fun T => isTy T t) (upd H q (.tup (Ts.map V.ty))) :=
  PT.weak (pt_val (pe_callB call_isiT hg hm boot_isi (pa_cons ha (pa_cons hb pa_nil hs2) he) (by decide) (by decide) he hpl) hv) fun σ H Q h => by
    obtain ⟨v, e, hQ⟩ := h
    refine ⟨v, e, fun q hq => ?_⟩
    obtain ⟨t, ty, ht, hT, hQ⟩ := hQ q hq
    exact ⟨v, q, Ts.map V.ty, .type t, Ts.map Value.type, _, rfl, upd_same, paired_ty Ts, ty, kitAny_of ht hT, _, rfl, hQ⟩
theorem spoilt_ok (j : Nat) (B : Bt mg) {f : Addr} {fd : FuncData} {x : Str} {params : Arguments} (c : CalR P w K mg base j "_law_spoilt" (match j with | 0 => fun _ _ _ _ => False | i + 1 => spSpo i))
    (FD : FunD K x "_law_spoilt" params (defBody s_law_spoilt) (defScope s_law_spoilt) [] [] f fd) :
    FnOk P w K mg base CX0 (j + 1) f fd ["thing"] (spSpo j) := by
  refine FD.ok sc_law_spoilt (fun vs H Q E h => by obtain ⟨v, L, rfl, _⟩ := h; rfl) fun cdv A outer s0 H vs Q E hr h => ?_
  have hu : (A.deeper (envOfC "_law_spoilt" (defScope s_law_spoilt) s0.heap.objs.size f cdv)).units + 65 < cLine := by have := hr.un; omega
  have nd_law_spoilt : N_law_spoilt.Nodup := by decide +kernel
  obtain ⟨v, L, rfl, sh, hQ⟩ := h
  have sz := sz
  have dictF : ∀ t : String, t = "str" ∨ t = "tuple" ∨ t = "list" → isTy "dict" t = false := by
    intro t h; rcases h with rfl | rfl | rfl <;> decide
  cases sh with
  | str z =>
    refine ⟨_, (show PSs (cxOf CX0 P w K mg base N_law_spoilt "_law_spoilt" (defScope s_law_spoilt) f cdv A outer s0 H E).nox (defBody s_law_spoilt) _ from
      (pss_cons (ps_if (pt_isi (i := 0) rfl B.isinstance (pe_var (i := 0) rfl (Or.inl rfl)) (pe_bty rfl B.dict bv_dict)) pss_never pss_nil)
      (pss_cons (ps_if (pt_isiT (i := 0) rfl B.isinstance (pe_var (i := 0) rfl (Or.inl rfl)) (pe_bty2 rfl B.list bv_list rfl B.tuple bv_tuple)) pss_never pss_nil)
      (pss_one (ps_if (pt_isi (i := 0) rfl B.isinstance (pe_var (i := 0) rfl (Or.inl rfl)) (pe_bty rfl B.list bv_list)) pss_never pss_nil))))).nox, ?_⟩
    refine ⟨.str z, rfl, "str", .base (.str z), by decide, by decide, ?_⟩
    rw [dictF "str" (.inl rfl)]
    refine ⟨.str z, rfl, fun q hq => ⟨"str", .base (.str z), by decide, by decide, ?_⟩⟩
    refine ⟨.str z, rfl, "str", .base (.str z), by decide, by decide, ?_⟩
    exact hQ _ ⟨fun b o h _ => by rw [upd_ne (ne_of_none h hq)]; exact h, fun b hb => nomatch hb⟩
  | @tup j t xs L h1 h2 =>
    refine ⟨_, (show PSs (cxOf CX0 P w K mg base N_law_spoilt "_law_spoilt" (defScope s_law_spoilt) f cdv A outer s0 H E).nox (defBody s_law_spoilt) _ from
      (pss_cons (ps_if (pt_isi (i := 0) rfl B.isinstance (pe_var (i := 0) rfl (Or.inl rfl)) (pe_bty rfl B.dict bv_dict)) pss_never pss_nil)
      (pss_cons (ps_if (pt_isiT (i := 0) rfl B.isinstance (pe_var (i := 0) rfl (Or.inl rfl)) (pe_bty2 rfl B.list bv_list rfl B.tuple bv_tuple))
        (pss_one (ps_for PassesOwn.never rfl (pi_tup (pe_var (i := 0) rfl (Or.inl rfl))) (pg_name (i := 2) nd_law_spoilt rfl (Or.inl rfl)) (pss_one (ps_expr (pe_callR c hr (by omega) rfl (pa_cons (pe_var (i := 2) rfl (Or.inl rfl)) pa_nil)))))) pss_nil)
      (pss_one (ps_if (pt_isi (i := 0) rfl B.isinstance (pe_var (i := 0) rfl (Or.inl rfl)) (pe_bty rfl B.list bv_list)) pss_never pss_nil))))).nox, ?_⟩
    refine ⟨.ref t, rfl, "tuple", .base (.tup h1), by decide, by decide, ?_⟩
    rw [dictF "tuple" (.inr (.inl rfl))]
    have nl : ∀ b ∈ L, ∃ ys, H b = some (.lst ys) := fun b hb => h2.mem b hb
    have tL : t ∉ L := fun z => by obtain ⟨ys, e⟩ := nl t z; rw [h1] at e; cases e
    refine ⟨.ref t, rfl, fun q hq => ?_⟩
    have htq : t ≠ q := ne_of_none h1 hq
    have kq : ∀ b o, H b = some o → (upd H q (.tup (["list", "tuple"].map V.ty))) b = some o := fun b o e => by rw [upd_ne (ne_of_none e hq)]; exact e
    generalize upd H q (.tup (["list", "tuple"].map V.ty)) = H1 at kq
    have h1' := kq _ _ h1
    have sh1 : ShpL H1 j xs L := ShpL.keep (X := []) (fun b o e _ => kq b o e) (fun b hb => nomatch hb) h2 (fun b _ => List.not_mem_nil)
    refine ⟨"tuple", .base (.tup h1'), by decide, by decide, ?_⟩
    rw [show (["list", "tuple"].any fun T => isTy T "tuple") = true by decide]
    refine ⟨.ref t, rfl, t, rfl, ⟨xs, SqT.of h1'⟩, ?_⟩
    refine for_it (walk_tup (xs := xs)) (fun i σ' H' => Spi j xs L H1 i H' ∧ σ'[0]? = some (some (V.ref t)) ∧ σ'.length = 3) ⟨Spi.start sh1, rfl, rfl⟩ (fun i σ' H' _ hp => SqT.of (hp.1.kept h1' tL)) ?_ ?_
    · rintro i y σ' H' _ hi ⟨sp, e0, el⟩ ⟨rfl, hy⟩
      obtain ⟨L1, shy, nxt⟩ := sp.step hy
      refine ⟨y, by rw [List.getElem?_set_self (by omega)], ?_⟩
      refine ⟨y, L1, rfl, shy, fun H2 s2 => ⟨nxt H2 s2, ?_, by rw [List.length_set]; exact el⟩⟩
      rw [List.getElem?_set_ne (by decide)]; exact e0
    · rintro σ' H' ⟨sp, e0, el⟩
      have sd := sp.fin
      have h1'' := sd.kp _ _ h1' tL
      refine ⟨.ref t, e0, "tuple", .base (.tup h1''), by decide, by decide, ?_⟩
      exact hQ _ ⟨fun b o e hb => sd.kp b o (kq b o e) hb, sd.ls⟩
  | @lst j a xs L h1 h3 h2 h4 =>
    refine ⟨_, (show PSs (cxOf CX0 P w K mg base N_law_spoilt "_law_spoilt" (defScope s_law_spoilt) f cdv A outer s0 H E).nox (defBody s_law_spoilt) _ from
      (pss_cons (ps_if (pt_isi (i := 0) rfl B.isinstance (pe_var (i := 0) rfl (Or.inl rfl)) (pe_bty rfl B.dict bv_dict)) pss_never pss_nil)
      (pss_cons (ps_if (pt_isiT (i := 0) rfl B.isinstance (pe_var (i := 0) rfl (Or.inl rfl)) (pe_bty2 rfl B.list bv_list rfl B.tuple bv_tuple))
        (pss_one (ps_for PassesOwn.never rfl (pi_list (pe_var (i := 0) rfl (Or.inl rfl))) (pg_name (i := 2) nd_law_spoilt rfl (Or.inl rfl)) (pss_one (ps_expr (pe_callR c hr (by omega) rfl (pa_cons (pe_var (i := 2) rfl (Or.inl rfl)) pa_nil)))))) pss_nil)
      (pss_one (ps_if (pt_isi (i := 0) rfl B.isinstance (pe_var (i := 0) rfl (Or.inl rfl)) (pe_bty rfl B.list bv_list))
        (pss_one (ps_expr (pe_bm PySem.F.plainAttrs_list PySem.F.slot_list_append PySem.F.type_list_append mt_append (pe_var (i := 0) rfl (Or.inl rfl)) (pa_cons pe_str pa_nil)))) pss_nil))))).nox, ?_⟩
    refine ⟨.ref a, rfl, "list", .base (.lst h1), by decide, by decide, ?_⟩
    rw [dictF "list" (.inr (.inr rfl))]
    refine ⟨.ref a, rfl, fun q hq => ?_⟩
    have kq : ∀ b o, H b = some o → (upd H q (.tup (["list", "tuple"].map V.ty))) b = some o := fun b o e => by rw [upd_ne (ne_of_none e hq)]; exact e
    generalize upd H q (.tup (["list", "tuple"].map V.ty)) = H1 at kq
    have h1' := kq _ _ h1
    have sh1 : ShpL H1 j xs L := ShpL.keep (X := []) (fun b o e _ => kq b o e) (fun b hb => nomatch hb) h2 (fun b _ => List.not_mem_nil)
    refine ⟨"list", .base (.lst h1'), by decide, by decide, ?_⟩
    rw [show (["list", "tuple"].any fun T => isTy T "list") = true by decide]
    refine ⟨.ref a, rfl, a, rfl, ⟨xs, SqL.of h1'⟩, ?_⟩
    refine for_it (walk_list (xs := xs)) (fun i σ' H' => Spi j xs L H1 i H' ∧ σ'[0]? = some (some (V.ref a)) ∧ σ'.length = 3) ⟨Spi.start sh1, rfl, rfl⟩ (fun i σ' H' _ hp => SqL.of (hp.1.kept h1' h4)) ?_ ?_
    · rintro i y σ' H' _ hi ⟨sp, e0, el⟩ ⟨rfl, hy⟩
      obtain ⟨L1, shy, nxt⟩ := sp.step hy
      refine ⟨y, by rw [List.getElem?_set_self (by omega)], ?_⟩
      refine ⟨y, L1, rfl, shy, fun H2 s2 => ⟨nxt H2 s2, ?_, by rw [List.length_set]; exact el⟩⟩
      rw [List.getElem?_set_ne (by decide)]; exact e0
    · rintro σ' H' ⟨sp, e0, el⟩
      have sd := sp.fin
      have h1'' := sd.kp _ _ h1' h4
      refine ⟨.ref a, e0, "list", .base (.lst h1''), by decide, by decide, ?_⟩
      rw [show isTy "list" "list" = true by decide]
      refine ⟨.ref a, e0, .inl ⟨rfl, xs, SqL.of h1''⟩, a, xs, _, rfl, rfl, h1'', h3, ?_⟩
      · refine hQ _ ⟨fun b o e hb => ?_, fun b hb => ?_⟩
        · rw [List.mem_cons, not_or] at hb
          rw [upd_ne hb.1]; exact sd.kp b o (kq b o e) hb.2
        · by_cases hba : b = a
          · subst hba; exact ⟨_, upd_same⟩
          · rw [upd_ne hba]
            rcases List.mem_cons.mp hb with h | h
            · exact absurd h hba
            · exact sd.ls b h
end
end W
namespace DL
open PySem PySem.Spec PySem.W PyProof.Rows L2
theorem any1 (T t : String) : ([T].any fun T => isTy T t) = isTy T t := by simp
theorem any2 (T U t : String) : ([T, U].any fun T => isTy T t) = (isTy T t || isTy U t) := by simp
theorem any3 (T U V t : String) : ([T, U, V].any fun T => isTy T t) = (isTy T t || (isTy U t || isTy V t)) := by simp
theorem isTy_self (t : String) : isTy t t = true := by simp [isTy]
theorem oNe_bool (a b : Bool) (k : PyData → Prop) : oNe (.bool a) (.bool b) k = k (.bool (!decide (a = b))) := by
  have e : PyData.eqv (.bool a) (.bool b) = decide (a = b) := by cases a <;> cases b <;> rfl
  rw [← e]
  exact propext ⟨fun h => h.2.2, fun h => ⟨by cases a <;> decide, by cases b <;> decide, h⟩⟩
theorem oEq_bool (a b : Bool) (k : PyData → Prop) : oEq (.bool a) (.bool b) k = k (.bool (decide (a = b))) := by
  have e : PyData.eqv (.bool a) (.bool b) = decide (a = b) := by cases a <;> cases b <;> rfl
  rw [← e]
  exact propext ⟨fun h => h.2.2, fun h => ⟨by cases a <;> decide, by cases b <;> decide, h⟩⟩
theorem ex_ty_int (a : Int) (P : String → Prop) : (∃ t', tyS (.int a) = some t' ∧ P t') = P "int" := ex_ty rfl P
theorem ex_ty_bool (a : Bool) (P : String → Prop) : (∃ t', tyS (.bool a) = some t' ∧ P t') = P "bool" := ex_ty rfl P
theorem ex_ty_none (P : String → Prop) : (∃ t', tyS .none = some t' ∧ P t') = P "NoneType" := ex_ty rfl P
theorem isn_str (a : Str) (k : PyData → Prop) : oIsN (PyData.str a) .none k = k (.bool false) := rfl
theorem isn_int (a : Int) (k : PyData → Prop) : oIsN (.int a) .none k = k (.bool false) := rfl
theorem isn_bool (a : Bool) (k : PyData → Prop) : oIsN (.bool a) .none k = k (.bool false) := rfl
theorem isn_none (k : PyData → Prop) : oIsN .none .none k = k (.bool true) := rfl
theorem zipP_list (l m : List PyData) : zipP (.list l) (.list m) = some ((l.zip m).map fun p => .tuple [p.1, p.2]) := rfl
theorem zipP_tuple (l m : List PyData) : zipP (.tuple l) (.tuple m) = some ((l.zip m).map fun p => .tuple [p.1, p.2]) := rfl
theorem zip_self : ∀ l : List PyData, l.zip l = l.map fun d => (d, d)
  | [] => rfl
  | a :: l => by rw [List.zip_cons_cons, zip_self l]; rfl
end DL
local macro_rules | `(tactic| walk_at "my_wpi") => `(tactic| ((try walk_at "my_wp"); (try simp only [DL.any1, DL.any2, DL.any3, DL.isTy_self, DL.ex_ty_int, DL.ex_ty_bool, DL.ex_ty_none, DL.oNe_bool, DL.oEq_bool, DL.isn_str, DL.isn_int, DL.isn_bool, DL.isn_none, DL.zipP_list, DL.zipP_tuple, show DL.isTy "list" "tuple" = false by decide, show DL.isTy "tuple" "list" = false by decide, show DL.isTy "list" "str" = false by decide, show DL.isTy "tuple" "str" = false by decide, show DL.isTy "dict" "str" = false by decide, show DL.isTy "bool" "str" = false by decide, show DL.isTy "int" "str" = false by decide,
  show DL.isTy "list" "int" = false by decide, show DL.isTy "tuple" "int" = false by decide, show DL.isTy "dict" "int" = false by decide, show DL.isTy "bool" "int" = false by decide, show DL.isTy "str" "int" = false by decide,
  show DL.isTy "list" "bool" = false by decide, show DL.isTy "tuple" "bool" = false by decide, show DL.isTy "dict" "bool" = false by decide,
  show DL.isTy "list" "NoneType" = false by decide, show DL.isTy "tuple" "NoneType" = false by decide, show DL.isTy "dict" "NoneType" = false by decide, show DL.isTy "bool" "NoneType" = false by decide,
  Bool.or_false, Bool.false_or, Bool.or_true, Bool.true_or, decide_true, Bool.not_true, Bool.not_false, if_true, Bool.false_eq_true, if_false]); (try walk_at "my_wp")))
namespace W
open PySem PySem.Spec PySem.W PyProof.Rows L2 DL GF
def spSame : Nat → SpecD
  | 0 => fun _ _ _ => False
  | j + 1 => sp_law_same j
def spLoose : Nat → SpecD
  | 0 => fun _ _ _ => False
  | j + 1 => sp_law_loose j
abbrev SPs (j : Nat) : Sps := { SP with law_same := spSame j }
abbrev SPl (j : Nat) : Sps := { SP with law_loose := spLoose j }
theorem k_law_same (j : Nat) : Keeps N_law_same ["found", "due"] (sp_law_same j) (b_law_same (SPs j)) := by
  rintro ds n k hl ⟨d, hd, rfl, hk⟩
  unfold b_law_same
  have z := sz
  cases d with
  | str a =>
    walk_at "my_wpi"
    exact hk
  | int a =>
    walk_at "my_wpi"
    simpa using hk
  | bool a =>
    walk_at "my_wpi"
    simpa using hk
  | none =>
    walk_at "my_wpi"
    simpa using hk
  | list l =>
    cases j with
    | zero => exact hd.elim
    | succ j =>
      obtain ⟨hz, hd⟩ := hd
      walk_at "my_wpi"
      rw [zip_self, List.map_map]
      refine lcW_pure (fun d : PyData => .tuple [d, d]) (fun _ => true) (fun d => .bool true) l _ _ (fun x hx => ⟨_, rfl, fun K hK => hK, fun _ K hK => ?_⟩) (by simp; omega) ?_
      · walk_at "my_wp"
        exact ⟨x, hd x hx, rfl, hK⟩
      · rw [List.nil_append, List.filter_eq_self.mpr (fun _ _ => rfl)]
        refine oAll_map (fun _ => true) l _ ?_
        rw [List.all_eq_true.mpr fun _ _ => rfl]; exact hk
  | tuple l =>
    cases j with
    | zero => exact hd.elim
    | succ j =>
      obtain ⟨hz, hd⟩ := hd
      walk_at "my_wpi"
      rw [zip_self, List.map_map]
      refine lcW_pure (fun d : PyData => .tuple [d, d]) (fun _ => true) (fun d => .bool true) l _ _ (fun x hx => ⟨_, rfl, fun K hK => hK, fun _ K hK => ?_⟩) (by simp; omega) ?_
      · walk_at "my_wp"
        exact ⟨x, hd x hx, rfl, hK⟩
      · rw [List.nil_append, List.filter_eq_self.mpr (fun _ _ => rfl)]
        refine oAll_map (fun _ => true) l _ ?_
        rw [List.all_eq_true.mpr fun _ _ => rfl]; exact hk
  | dict l => cases j <;> exact hd.elim
theorem loose_seq {j : Nat} {l : List PyData} {c0 : Nat} (b : Bool) (hl : l.length ≤ 1000) (hd : ∀ d ∈ l, Looser j c0 d) {n : Nat} {k : PyData → Nat → Prop} (hn : 1 + l.length * c0 ≤ n) (hk : ∀ d' n', Lz (sq b l) d' → n ≤ n' + (1 + l.length * c0) → k d' n') :
    b_law_loose (SPl (j + 1)) (startG 2 N_law_loose [strmP, sq b l]) n { nx := fun _ n' => k .none n', rt := k } := by
  have z := sz
  unfold b_law_loose
  have hty : (["list", "tuple"].any fun T => isTy T (if b = true then "tuple" else "list")) = true := by cases b <;> decide
  walk_at "my_wp"
  rw [show l = l.map (fun d => d) by simp]
  refine lcW_rel (fun d : PyData => d) Lz c0 l [] n _ (fun x hx => ⟨_, rfl, fun n K hn hK => ?_⟩) (by simp; omega) (by omega) ?_
  · walk_at "my_wp"
    exact ⟨x, c0, hd x hx, rfl, hn, fun d' n' h1 h2 => hK d' n' h1 h2⟩
  intro ms n1 ha hn1
  rw [List.nil_append]
  refine ⟨2, n1 - 1, rfl, by omega, by omega, by omega, fun i hi => ?_⟩
  walk_at "my_wp"
  by_cases h0 : i = 0
  · subst h0
    walk_at "my_wpi"
    have := hk (.list ms) (n1 - 1) (by have := Lz.sq b false (l := l) (m := ms) ha; exact this) (by omega)
    first | exact this | simpa using this
  · have h0' : decide ((i : Int) = 0) = false := decide_eq_false (by omega)
    rw [h0']
    walk_at "my_wpi"
    have := hk (.tuple ms) (n1 - 1) (by have := Lz.sq b true (l := l) (m := ms) ha; exact this) (by omega)
    first | exact this | simpa using this
theorem k_law_loose (j : Nat) : Keeps N_law_loose ["stream", "thing"] (sp_law_loose j) (b_law_loose (SPl j)) := by
  rintro ds n k hl ⟨d, c, hd, rfl, hc, hk⟩
  cases d with
  | str a =>
    unfold b_law_loose
    walk_at "my_wpi"
    exact hk _ _ (.str a) (by omega)
  | list l =>
    cases j with
    | zero => exact hd.elim
    | succ j =>
      obtain ⟨hz, c0, rfl, hd⟩ := hd
      exact loose_seq false hz hd hc hk
  | tuple l =>
    cases j with
    | zero => exact hd.elim
    | succ j =>
      obtain ⟨hz, c0, rfl, hd⟩ := hd
      exact loose_seq true hz hd hc hk
  | int a => cases j <;> exact hd.elim
  | bool a => cases j <;> exact hd.elim
  | none => cases j <;> exact hd.elim
  | dict l => cases j <;> exact hd.elim
end W
namespace W
open PySem PySem.Spec PySem.W PyProof.Rows L2 DL GF
structure Sh (b : Nat) (t : Str) : Prop where
  len : t.length ≤ b
  ok : PyData.strOk t = true
theorem strOk_cp {t : Str} : PyData.strOk t = true ↔ ∀ c ∈ cp t, c < 0x110000 := by
  unfold PyData.strOk
  rw [← Array.all_toList, List.all_eq_true]
  simp
theorem Sh.mono {a b : Nat} {t : Str} (h : Sh a t) (hab : a ≤ b) : Sh b t := ⟨Nat.le_trans h.len hab, h.ok⟩
theorem str_len_append (a b : Str) : (a ++ b).length = a.length + b.length := by
  rw [← cp_len, cp_append, List.length_append, cp_len, cp_len]
theorem Sh.app {a b : Nat} {t u : Str} (h : Sh a t) (h' : Sh b u) : Sh (a + b) (t ++ u) :=
  ⟨by rw [str_len_append]; exact Nat.add_le_add h.len h'.len, strOk_append h.ok h'.ok⟩
theorem reprChars : ((cp letters).all fun c => decide (Builtin.Str.reprChar 39 c = [c])) = true := by decide +kernel
theorem sh_name {z : Str} (h : NameOk z) : Sh 10 (reprText z) := by
  have hq : reprQuote z = 39 := by
    unfold reprQuote
    have : z.cps.contains 39 = false := by
      cases e : z.cps.contains 39 with
      | false => rfl
      | true =>
        have := letter_iff.mp (h.abc 39 (Array.mem_toList_iff.mpr (Array.contains_iff_mem.mp e)))
        omega
    rw [this]; rfl
  have key : ∀ (l : List Nat) (acc : Array Nat), (∀ c ∈ l, c ∈ cp letters) → (l.foldl (fun out c => out ++ (Builtin.Str.reprChar 39 c).toArray) acc).toList = acc.toList ++ l := by
    intro l
    induction l with
    | nil => intro acc _; simp
    | cons c l ih =>
      intro acc hl
      have hc := List.all_eq_true.mp reprChars c (hl c (List.mem_cons_self ..))
      rw [List.foldl_cons, ih _ fun d hd => hl d (List.mem_cons_of_mem _ hd), of_decide_eq_true hc]
      simp
  have e : cp (reprText z) = 39 :: cp z ++ [39] := by
    show (((z.cps.foldl (fun out c => out ++ (Builtin.Str.reprChar (reprQuote z) c).toArray) #[reprQuote z]).push (reprQuote z))).toList = _
    rw [hq, Array.toList_push, ← Array.foldl_toList, key _ _ h.abc]
    rfl
  refine ⟨?_, strOk_cp.mpr fun c hc => ?_⟩
  · rw [← cp_len, e]
    have := h.len
    rw [← cp_len] at this
    simp only [List.length_append, List.length_cons, List.length_nil]
    omega
  · rw [e] at hc
    simp at hc
    rcases hc with rfl | hc | rfl
    · decide
    · have := letter_iff.mp (h.abc c (Array.mem_toList_iff.mpr hc)); omega
    · decide
theorem sh_from {b : Nat} : ∀ (ts : List Str) (k a : Nat) (acc : Str), Sh a acc → (∀ t ∈ ts, Sh b t) → Sh (a + ts.length * (b + 2)) (textFrom k acc ts)
  | [], k, a, acc, h, _ => by simpa [textFrom] using h
  | t :: ts, k, a, acc, h, ht => by
    have hs : Sh 2 ((if k > 0 then ", " else "" : String) : Str) := by
      split
      · exact ⟨by decide +kernel, by decide +kernel⟩
      · exact ⟨by decide +kernel, by decide +kernel⟩
    have := sh_from ts (k + 1) (a + 2 + b) _ ((h.app hs).app (ht t (List.mem_cons_self ..))) fun u hu => ht u (List.mem_cons_of_mem _ hu)
    refine (show Sh (a + (t :: ts).length * (b + 2)) (textFrom (k + 1) (acc ++ (if k > 0 then ", " else "" : String) ++ t) ts) from this.mono ?_)
    rw [List.length_cons, Nat.succ_mul]; omega
theorem sh_join {b : Nat} : ∀ (ts : List Str), (∀ t ∈ ts, Sh b t) → Sh (ts.length * (b + 2)) (Str.join ", " ts)
  | [], _ => ⟨Nat.zero_le _, by decide +kernel⟩
  | [t], h => (h t (List.mem_cons_self ..)).mono (by simp)
  | t :: u :: r, h => by
    have hs : Sh 2 (", " : Str) := ⟨by decide +kernel, by decide +kernel⟩
    have := ((h t (List.mem_cons_self ..)).app hs).app (sh_join (u :: r) fun v hv => h v (List.mem_cons_of_mem _ hv))
    refine this.mono ?_
    rw [List.length_cons (a := t), Nat.succ_mul]; omega
theorem sh_list {b : Nat} {ds : List PyData} (h : ∀ d ∈ ds, Sh b d.shown) : Sh (2 + ds.length * (b + 2)) (PyData.list ds).shown := by
  have e : ∀ ds : List PyData, PyData.shownAll ds = ds.map PyData.shown := fun ds => by
    induction ds with
    | nil => rfl
    | cons d ds ih => show PyData.shown d :: PyData.shownAll ds = _; rw [ih]; rfl
  show Sh _ (textFrom 0 "[" (PyData.shownAll ds) ++ ("]" : Str))
  rw [e]
  have h1 : Sh 1 ("[" : Str) := ⟨by decide +kernel, by decide +kernel⟩
  have h2 : Sh 1 ("]" : Str) := ⟨by decide +kernel, by decide +kernel⟩
  have := (sh_from (ds.map PyData.shown) 0 1 "[" h1 (b := b) fun t ht => by obtain ⟨d, hd, rfl⟩ := List.mem_map.mp ht; exact h d hd).app h2
  rw [List.length_map] at this
  exact this.mono (by omega)
theorem sh_tuple {b : Nat} {ds : List PyData} (h : ∀ d ∈ ds, Sh b d.shown) : Sh (3 + ds.length * (b + 2)) (PyData.tuple ds).shown := by
  have e : ∀ ds : List PyData, PyData.shownAll ds = ds.map PyData.shown := fun ds => by
    induction ds with
    | nil => rfl
    | cons d ds ih => show PyData.shown d :: PyData.shownAll ds = _; rw [ih]; rfl
  show Sh _ (("(" : Str) ++ Str.join ", " (PyData.shownAll ds) ++ ((if (PyData.shownAll ds).length == 1 then ",)" else ")" : String) : Str))
  rw [e]
  have h1 : Sh 1 ("(" : Str) := ⟨by decide +kernel, by decide +kernel⟩
  have h2 : Sh 2 ((if (ds.map PyData.shown).length == 1 then ",)" else ")" : String) : Str) := by
    split
    · exact ⟨by decide +kernel, by decide +kernel⟩
    · exact ⟨by decide +kernel, by decide +kernel⟩
  have hj : Sh (ds.length * (b + 2)) (Str.join ", " (ds.map PyData.shown)) := by
    have := sh_join (b := b) (ds.map PyData.shown) fun t ht => by obtain ⟨d, hd, rfl⟩ := List.mem_map.mp ht; exact h d hd
    rw [List.length_map] at this
    exact this
  exact Sh.mono (a := 1 + ds.length * (b + 2) + 2) ((h1.app hj).app h2) (by omega)
theorem sh_sq {b : Nat} (q : Bool) {ds : List PyData} (h : ∀ d ∈ ds, Sh b d.shown) : Sh (3 + ds.length * (b + 2)) (sq q ds).shown := by
  cases q
  · exact Sh.mono (a := 2 + ds.length * (b + 2)) (sh_list h) (by omega)
  · exact sh_tuple h
theorem sh_texts {l : List Str} (h : ∀ z ∈ l, NameOk z) : ∀ d ∈ l.map (fun z => PyData.str z), Sh 10 d.shown := fun d hd => by
  obtain ⟨z, hz, rfl⟩ := List.mem_map.mp hd
  exact sh_name (h z hz)
theorem show_texts : ∀ l : List Str, PyData.showableAll (l.map fun z => PyData.str z) = true
  | [] => rfl
  | a :: l => by show (true && PyData.showableAll (l.map fun z => PyData.str z)) = true; rw [show_texts l]; rfl
theorem repr_sq {b : Bool} {l : List Str} (hl : l.length ≤ 1000) (h : ∀ z ∈ l, NameOk z) {k : PyData → Prop} (hk : k (.str (sq b (l.map fun z => PyData.str z)).shown)) : oRepr (sq b (l.map fun z => PyData.str z)) k := by
  have s1 := sh_sq b (sh_texts h)
  have z := sz
  rw [List.length_map] at s1
  have f := ndL_texts l
  have g := depth_texts l
  refine ⟨?_, ?_, ?_, ?_, Nat.le_trans s1.len (by omega), s1.ok, hk⟩
  · cases b <;> exact f
  · cases b <;> (show PyData.depth _ ≤ 40; simp [sq, PyData.depth, g])
  · cases b <;> exact ⟨_, rfl⟩
  · cases b <;> exact show_texts l
theorem repr_law {R : List Str} {ws : List Wire} (hH : HOk R ws) {k : PyData → Prop} (hk : k (.str (lawD R ws).shown)) : oRepr (lawD R ws) k := by
  have z := sz
  have hz := hH.len
  have hw := hH.wl
  have s1 : Sh 200 (dL R).shown := by
    have := sh_list (sh_texts hH.nam)
    rw [List.length_map] at this
    exact this.mono (by omega)
  have s2 : Sh 7000 (wiresD ws).shown := by
    have := sh_list (b := 27) (ds := ws.map dW) fun d hd => by
      obtain ⟨w, hw, rfl⟩ := List.mem_map.mp hd
      have hm := hH.mem w hw
      have := sh_tuple (b := 10) (ds := [PyData.str w.1, PyData.str w.2]) fun d hd => by
        simp at hd
        rcases hd with rfl | rfl
        · exact sh_name (hH.nam _ hm.1)
        · exact sh_name (hH.nam _ hm.2.1)
      exact this.mono (by simp)
    rw [List.length_map] at this
    exact this.mono (by omega)
  have s3 : Sh 15000 (lawD R ws).shown := by
    have := sh_tuple (b := 7000) (ds := [dL R, wiresD ws]) fun d hd => by
      simp at hd
      rcases hd with rfl | rfl
      · exact s1.mono (by omega)
      · exact s2
    exact this.mono (by simp)
  have hsw : ∀ l : List Wire, PyData.showableAll (l.map dW) = true := fun l => by
    induction l with
    | nil => rfl
    | cons a l ih => show (PyData.showable (dW a) && PyData.showableAll (l.map dW)) = true; rw [ih]; rfl
  have hdw : ∀ l : List Wire, PyData.depthAll (l.map dW) ≤ 1 := fun l => by
    induction l with
    | nil => simp [PyData.depthAll]
    | cons a l ih =>
      rw [List.map_cons]
      simp only [PyData.depthAll]
      have : (dW a).depth = 1 := by simp [dW, PyData.depth, PyData.depthAll]
      omega
  refine ⟨?_, ?_, ⟨_, rfl⟩, ?_, Nat.le_trans s3.len (by omega), s3.ok, hk⟩
  · show (ndL (R.map fun z => PyData.str z) && (ndL (ws.map dW) && true)) = true
    rw [ndL_texts, (sortOk_wires ws).nd]; rfl
  · have := hdw ws
    simp [lawD, wiresD, dL, PyData.depth, PyData.depthAll, depth_texts]
    omega
  · show (PyData.showableAll (R.map fun z => PyData.str z) && (PyData.showableAll (ws.map dW) && true)) = true
    rw [show_texts, hsw]; rfl
end W
namespace W
open PySem PySem.Spec PySem.W PyProof.Rows L2 DL GF
theorem Al.perm {α β : Type} {R : α → β → Prop} {as : List α} {bs cs : List β} (h : Al R as bs) (p : cs.Perm bs) : ∃ ds, List.Perm ds as ∧ Al R ds cs := by
  have q := p.symm
  clear p
  induction q generalizing as with
  | nil => cases h; exact ⟨[], .refl _, .nil⟩
  | cons x p ih =>
    cases h with
    | cons h1 h2 =>
      obtain ⟨ds, q1, q2⟩ := ih h2
      exact ⟨_ :: ds, q1.cons _, .cons h1 q2⟩
  | swap x y l =>
    cases h with
    | cons h1 h2 =>
      cases h2 with
      | cons h3 h4 => exact ⟨_, .swap .., .cons h3 (.cons h1 h4)⟩
  | trans p1 p2 ih1 ih2 =>
    obtain ⟨ds, q1, q2⟩ := ih1 h
    obtain ⟨es, r1, r2⟩ := ih2 q2
    exact ⟨es, r1.trans q1, r2⟩
theorem Lz.sq_inv {b : Bool} {l : List PyData} {d : PyData} (h : Lz (DL.sq b l) d) : ∃ b' m, d = DL.sq b' m ∧ Al Lz l m := by
  generalize e : DL.sq b l = x at h
  cases h with
  | str z => cases b <;> cases e
  | @sq b1 b2 l1 m h1 =>
    have : l = l1 := by cases b <;> cases b1 <;> cases e <;> rfl
    subst this
    exact ⟨b2, m, rfl, h1⟩
theorem Lz.texts : ∀ {l : List Str} {m : List PyData}, Al Lz (l.map fun z => PyData.str z) m → m = l.map fun z => PyData.str z
  | [], _, .nil => rfl
  | a :: l, _, .cons h1 h2 => by
    rw [Lz.texts h2]
    have : ∀ {d e : PyData}, Lz d e → ∀ a, d = PyData.str a → e = PyData.str a := by
      intro d e h a ha
      cases h with
      | str z => exact ha
      | sq b b' h => cases b <;> cases ha
    rw [this h1 a rfl]; rfl
theorem looser_texts {j : Nat} (b : Bool) {l : List Str} (h : l.length ≤ 1000) : Looser (j + 1) 1 (sq b (l.map fun z => PyData.str z)) := by
  have key : ∀ d ∈ l.map (fun z => PyData.str z), Looser j 0 d := fun d hd => by
    obtain ⟨z, _, rfl⟩ := List.mem_map.mp hd
    cases j <;> exact trivial
  cases b
  · exact ⟨by rw [List.length_map]; exact h, 0, by simp, key⟩
  · exact ⟨by rw [List.length_map]; exact h, 0, by simp, key⟩
theorem pair_perm {w : Wire} {m : List PyData} (h : m.Perm [PyData.str w.1, PyData.str w.2]) : m = [PyData.str w.1, PyData.str w.2] ∨ m = [PyData.str w.2, PyData.str w.1] := by
  have hl := h.length_eq
  match m, hl with
  | [a, b], _ =>
    have ha := h.mem_iff (a := a)
    have hb := h.mem_iff (a := b)
    have h1 := h.mem_iff (a := PyData.str w.1)
    have h2 := h.mem_iff (a := PyData.str w.2)
    simp at ha hb h1 h2
    rcases ha with ha | ha <;> rcases hb with hb | hb
    · subst ha; subst hb; simp at h2; left; rw [h2]
    · left; rw [ha, hb]
    · right; rw [ha, hb]
    · subst ha; subst hb; simp at h1; left; rw [h1]
theorem PairOf.loose {w : Wire} {d e : PyData} (h : PairOf w d) (l : Lz d e) : PairOf w e := by
  obtain ⟨b, rfl | rfl⟩ := h
  · obtain ⟨b', m, rfl, hm⟩ := l.sq_inv
    have := Lz.texts (l := [w.1, w.2]) hm
    exact ⟨b', .inl (by rw [this]; rfl)⟩
  · obtain ⟨b', m, rfl, hm⟩ := l.sq_inv
    have := Lz.texts (l := [w.2, w.1]) hm
    exact ⟨b', .inr (by rw [this]; rfl)⟩
theorem PairOf.looser {w : Wire} {d : PyData} (h : PairOf w d) : Looser 1 1 d := by
  obtain ⟨b, rfl | rfl⟩ := h
  · exact looser_texts (l := [w.1, w.2]) b (by simp)
  · exact looser_texts (l := [w.2, w.1]) b (by simp)
theorem k_law_made : Keeps N_law_made ["stream", "hall"] sp_law_made (b_law_made SP) := by
  rintro ds n k hl ⟨R, ws, hH, rfl, hn, hk⟩
  unfold b_law_made
  have z := sz
  have hz := hH.len
  have hw := hH.wl
  walk_at "my_wp"
  refine lcW_rel dW PairOf 3 ws [] n _ (fun w hwm => ⟨_, rfl, fun n K hn hK => ?_⟩) (by simp; omega) (by omega) ?_
  · walk_at "my_wp"
    refine ⟨false, [PyData.str w.1, PyData.str w.2], n - 2, rfl, by simp, by simp; omega, fun m hm => ?_⟩
    show SP.law_loose [strmP, .tuple m] (n - 2) K
    rcases pair_perm hm with rfl | rfl
    · refine ⟨_, 1, looser_texts (l := [w.1, w.2]) true (by simp), rfl, by omega, fun d' n' hl hn' => hK _ _ ?_ (by omega)⟩
      exact PairOf.loose ⟨true, .inl rfl⟩ hl
    · refine ⟨_, 1, looser_texts (l := [w.2, w.1]) true (by simp), rfl, by omega, fun d' n' hl hn' => hK _ _ ?_ (by omega)⟩
      exact PairOf.loose ⟨true, .inr rfl⟩ hl
  intro es n1 ha hn1
  have hel := ha.length
  walk_at "my_wp"
  refine ⟨false, R.map fun z => PyData.str z, n1 - R.length, rfl, by simp; omega, by simp; omega, fun m hm => ?_⟩
  obtain ⟨rs, hrs, rfl⟩ := perm_map_inv _ hm
  have hrl := hrs.length_eq
  refine ⟨_, 1, looser_texts false (by omega), rfl, by omega, fun d2 n2 hl2 hn2 => ?_⟩
  obtain ⟨b2, m2, rfl, hm2⟩ := hl2.sq_inv
  have := Lz.texts hm2
  subst this
  refine ⟨false, es, n2 - es.length, rfl, by omega, by omega, fun es' hes' => ?_⟩
  obtain ⟨vs, hvs, hav⟩ := Al.perm ha hes'
  have hvl := hvs.length_eq
  have hevl := hav.length
  refine ⟨.list es', 1 + es'.length * 1, ⟨by omega, 1, rfl, fun d hd => ?_⟩, rfl, by omega, fun d3 n3 hl3 hn3 => ?_⟩
  · have key : ∀ {as : List Wire} {bs : List PyData}, Al PairOf as bs → ∀ d ∈ bs, ∃ w, PairOf w d := by
      intro as bs h
      induction h with
      | nil => intro d hd; cases hd
      | cons h1 h2 ih =>
        intro d hd
        rcases List.mem_cons.mp hd with rfl | hd
        · exact ⟨_, h1⟩
        · exact ih d hd
    obtain ⟨w, hw⟩ := key hav d hd
    exact hw.looser
  obtain ⟨b3, m3, rfl, hm3⟩ := Lz.sq_inv (b := false) (l := es') hl3
  have hav3 : Al PairOf vs m3 := by
    have key : ∀ {as : List Wire} {bs cs : List PyData}, Al PairOf as bs → Al Lz bs cs → Al PairOf as cs := by
      intro as bs cs h
      induction h generalizing cs with
      | nil => intro h; cases h; exact .nil
      | cons h1 h2 ih => intro h; cases h with
        | cons h3 h4 => exact .cons (h1.loose h3) (ih h4)
    exact key hav hm3
  have hl3' := hm3.length
  exact ⟨R, ws, b2, rs, b3, vs, m3, hH, hrs, hvs, hav3, rfl, hk n3 (by omega)⟩
end W
namespace W
open PySem PySem.Spec PySem.W PyProof.Rows L2 DL GF
abbrev z7 : Str := "zzzzzzz"
theorem z7_eq : cp z7 = List.replicate 7 122 := by decide +kernel
theorem lt_rep : ∀ (l : List Nat) (m : Nat), (∀ c ∈ l, c ≤ 122) → l.length < m → l < List.replicate m 122
  | [], 0, _, h => absurd h (by simp)
  | [], m + 1, _, _ => by rw [List.replicate_succ]; exact List.nil_lt_cons _ _
  | c :: l, 0, _, h => absurd h (by simp)
  | c :: l, m + 1, hc, h => by
    rw [List.replicate_succ, List.cons_lt_cons_iff]
    have := hc c (List.mem_cons_self ..)
    rcases Nat.lt_or_eq_of_le this with h1 | h1
    · exact .inl h1
    · exact .inr ⟨h1, lt_rep l m (fun d hd => hc d (List.mem_cons_of_mem _ hd)) (by simpa using h)⟩
theorem lt_z7 {r : Str} (h : NameOk r) (h5 : r.length ≤ 5) : ltS r z7 := by
  show dataLt (.str r) (.str z7) = true
  rw [dataLt_str]
  refine decide_eq_true ?_
  have : cp r < cp z7 := by
    rw [z7_eq]
    refine lt_rep (cp r) 7 (fun c hc => ?_) (by rw [cp_len]; omega)
    have := letter_iff.mp (h.abc c hc); omega
  exact this
theorem z7_ok : NameOk z7 := ⟨by decide +kernel, by decide +kernel, by
  have : (cp z7).all (fun c => decide (c ∈ cp letters)) = true := by decide +kernel
  intro c hc
  exact of_decide_eq_true (List.all_eq_true.mp this c hc)⟩
theorem toks_wire {v w : Wire} (h : keyToks (dW v) = keyToks (dW w)) : v = w := by
  obtain ⟨v1, v2⟩ := v
  obtain ⟨w1, w2⟩ := w
  simp [dW, keyToks, keyToksAll] at h
  have h1 := str_of_cps (x := v1) (y := w1) (by rw [h.1])
  have h2 := str_of_cps (x := v2) (y := w2) (by rw [h.2])
  rw [h1, h2]
theorem sort_up {l : List Wire} (nd : l.Nodup) : ∃ m : List Wire, m.Perm l ∧ UpW m ∧ sortP (l.map dW) = m.map dW := by
  obtain ⟨m, hp, e⟩ := sort_as dW l
  refine ⟨m, hp, ?_, e⟩
  have hs := sortP_sorted (l.map dW)
  rw [e, List.pairwise_map] at hs
  have ndm := hp.nodup_iff.mpr nd
  refine (List.Pairwise.and hs ndm).imp fun {a b} ⟨h1, h2⟩ => ?_
  cases h : dataLt (dW a) (dW b) with
  | true => rfl
  | false =>
    have h3 := dataLe_iff.mp h1
    exact absurd (toks_wire ((listOrd itemOrd).total (keyToks (dW a)) (keyToks (dW b)) h h3)) h2
theorem k_law_with : Keeps N_law_with ["stream", "hall", "kind"] sp_law_with (b_law_with SP) := by
  rintro ds n k hl ⟨R, ws, own, hH5, hz12, hw100, rfl, hn, hk⟩
  have hH := hH5.toHOk
  unfold b_law_with
  have z := sz
  walk_at "my_wp"
  refine ⟨4, n - 1, rfl, by omega, by omega, by omega, fun i hi => ?_⟩
  refine ⟨dL R, n - 2, rfl, ?_, ?_, by omega, fun x hx => ?_⟩
  · have := hH.ne
    cases R with
    | nil => exact absurd rfl this
    | cons a l => simp [pickable, dL]
  · simp [pickable, dL]; omega
  obtain ⟨r, hr, rfl⟩ : ∃ r ∈ R, x = PyData.str r := by
    obtain ⟨r, hr, rfl⟩ := List.mem_map.mp (show x ∈ R.map fun z => PyData.str z from hx)
    exact ⟨r, hr, rfl⟩
  walk_at "my_wp"
  by_cases h3 : i = 3
  · subst h3
    simp only [show decide (((3 : Nat) : Int) = 3) = true from by decide]
    walk_at "my_wp"
    exact hk R ws (n - 2) hH (by omega) (by omega)
  rw [decide_eq_false (show ¬ (i : Int) = 3 by omega)]
  walk_at "my_wp"
  have rest : ∀ (q : Str → Bool), ∀ (l : List Str), l.Perm (R.filter q) →
      lcW (tgN 7) mYes (mTup (mCons (mVar 7) (mCons (mC (PyData.str z7)) mNil))) [some strmP, some (lawD R ws), some (kd own), some (.int i), some (PyData.str r), some (dL l), none, none] (l.map fun z => PyData.str z) [] (n - 2) fun out n2 =>
        (ws.map dW).length + out.length ≤ sizeLine ∧ oSorted (.list (ws.map dW ++ out)) fun d => 1 ≤ sizeLine ∧ oAdd (dL R) (.list [PyData.str z7]) fun d_1 => oSorted d_1 fun d_2 => 2 ≤ sizeLine ∧ k (.tuple [d_2, d]) n2 := by
    intro q l hp
    have hll := hp.length_eq
    have hqf := filter_len q R
    have hlR : ∀ o ∈ l, o ∈ R := fun o ho => (List.mem_filter.mp (hp.mem_iff.mp ho)).1
    refine lcW_pure (fun z => PyData.str z) (fun _ => true) (fun o => dW (o, z7)) l _ _ (fun x hx => ⟨_, rfl, fun K hK => hK, fun _ K hK => ?_⟩) (by simp; omega) ?_
    · walk_at "my_wp"
      exact ⟨by omega, hK⟩
    rw [List.nil_append, List.filter_eq_self.mpr (fun _ _ => rfl)]
    refine ⟨by simp; omega, ?_⟩
    rw [show (l.map fun o => dW (o, z7)) = (l.map fun o => (o, z7)).map dW by rw [List.map_map]; rfl, ← List.map_append]
    have zR : z7 ∉ R := fun h => by
      have h5 := hH5.five _ h
      rw [← cp_len, z7_eq] at h5
      simp at h5
    have nd : (ws ++ l.map fun o => (o, z7)).Nodup := by
      rw [List.nodup_append]
      refine ⟨hH.upw.nodup, nodup_map (fun a _ b _ e => (Prod.mk.injEq _ _ _ _ ▸ e).1) (hp.nodup_iff.mpr (hH.up.filter q).nodup), fun a ha b hb e => ?_⟩
      obtain ⟨o, _, rfl⟩ := List.mem_map.mp hb
      rw [e] at ha
      exact zR (hH.mem _ ha).2.1
    obtain ⟨m, hmp, hmu, hme⟩ := sort_up nd
    refine ⟨_, rfl, sortOk_wires _, ?_⟩
    rw [hme]
    have up' : Up (R ++ [z7]) := by
      show List.Pairwise _ _
      rw [List.pairwise_append]
      refine ⟨hH.up, by simp, fun a ha b hb => ?_⟩
      rw [List.mem_singleton.mp hb]
      exact lt_z7 (hH.nam a ha) (hH5.five a ha)
    refine ⟨by omega, by simp; omega, ?_⟩
    rw [show (R.map (fun z => PyData.str z) ++ [PyData.str z7]) = (R ++ [z7]).map (fun z => PyData.str z) by simp]
    refine sorted_texts up' (.refl _) ⟨by omega, hk (R ++ [z7]) m (n - 2) ⟨up', by simp, by simp; omega, fun r hr => ?_, hmu, fun w hw => ?_, ?_⟩ (by simp) (by omega)⟩
    · rcases List.mem_append.mp hr with hr | hr
      · exact hH.nam r hr
      · rw [List.mem_singleton.mp hr]; exact z7_ok
    · rcases List.mem_append.mp (hmp.mem_iff.mp hw) with hw | hw
      · have := hH.mem w hw
        exact ⟨List.mem_append_left _ this.1, List.mem_append_left _ this.2.1, this.2.2⟩
      · obtain ⟨o, ho, rfl⟩ := List.mem_map.mp hw
        have hoR := hlR o ho
        exact ⟨List.mem_append_left _ hoR, by simp, lt_z7 (hH.nam o hoR) (hH5.five o hoR)⟩
    · have := hmp.length_eq
      rw [List.length_append, List.length_map] at this
      omega
  have one : R.filter (fun s => decide (s = r)) = [r] := filter_one hH.up.nodup hr
  by_cases h2 : i < 2
  · rw [decide_eq_true (show (i : Int) < 2 by omega)]
    walk_at "my_wp"
    refine ⟨R, ws, r, hH, hr, rfl, ?_⟩
    walk_at "my_wp"
    rw [oEq_kd]
    cases own with
    | true =>
      walk_at "my_wp"
      have hzR := hH.len
      have hqf := filter_len (adj ws r) R
      refine ⟨by omega, by simp; omega, ?_⟩
      rw [show ((R.filter (adj ws r)).map (fun z => PyData.str z) ++ [PyData.str r]) = (R.filter (adj ws r) ++ [r]).map (fun z => PyData.str z) by simp]
      refine ⟨_, rfl, rest (fun s => decide (s = r) || adj ws r s) (R.filter (adj ws r) ++ [r]) (perm_of ?_ (hH.up.filter _).nodup fun x => ?_)⟩
      · rw [List.nodup_append]
        refine ⟨(hH.up.filter _).nodup, by simp, fun a ha b hb e => ?_⟩
        rw [List.mem_singleton.mp hb] at e
        rw [e, List.mem_filter, adj_self hH] at ha
        cases ha.2
      · simp only [List.mem_append, List.mem_filter, List.mem_singleton]
        by_cases h : x = r
        · subst h; simp [hr]
        · simp [h]
    | false =>
      walk_at "my_wp"
      refine ⟨by omega, by
        have := filter_len (adj ws r) R
        have := hH.len
        simp; omega, ?_⟩
      rw [List.append_nil]
      exact ⟨_, rfl, rest (adj ws r) (R.filter (adj ws r)) (.refl _)⟩
  · rw [decide_eq_false (show ¬ (i : Int) < 2 by omega)]
    walk_at "my_wp"
    refine ⟨by omega, ?_⟩
    exact rest (fun s => decide (s = r)) [r] (by rw [one])
end W
namespace W
open PySem PySem.Spec PySem.W PyProof.Rows L2 DL GF
theorem plain_texts (j : Nat) (l : List Str) (h : l.length ≤ 1000) : Plain (j + 1) (dL l) := ⟨by rw [List.length_map]; omega, fun d hd => by
  obtain ⟨z, _, rfl⟩ := List.mem_map.mp hd
  cases j <;> exact trivial⟩
theorem plain_wires (j : Nat) (ws : List Wire) (h : ws.length ≤ 1000) : Plain (j + 2) (wiresD ws) := ⟨by rw [List.length_map]; omega, fun d hd => by
  obtain ⟨w, _, rfl⟩ := List.mem_map.mp hd
  refine ⟨by simp, fun e he => ?_⟩
  simp only [List.mem_cons, List.not_mem_nil, or_false] at he
  rcases he with rfl | rfl <;> cases j <;> exact trivial⟩
theorem plain_list (j : Nat) {l : List PyData} (h : l.length ≤ 1000) (hl : ∀ d ∈ l, Plain j d) : Plain (j + 1) (.list l) := ⟨by omega, hl⟩
theorem wIn_len (p : Str → Bool) (ws : List Wire) : (wIn p ws).length ≤ ws.length := List.length_filter_le _ _
theorem k_law_lots_right : Keeps N_law_lots_right ["stream", "hall", "made"] sp_law_lots_right (b_law_lots_right SP) := by
  rintro ds n k hl ⟨R, ws, hH, rfl, hn, hk⟩
  unfold b_law_lots_right
  have z := sz
  have hz := hH.len
  obtain ⟨R0, last, hR⟩ : ∃ R0 last, R = R0 ++ [last] := ⟨R.dropLast, R.getLast hH.ne, (List.dropLast_concat_getLast hH.ne).symm⟩
  walk_at "my_wp"
  refine ⟨R, ws, hH, rfl, by omega, fun f n1 hn1 => ?_⟩
  walk_at "my_wp"
  refine lcW_pure (fun z => PyData.str z) (fun z => !decide (z = last)) (fun z => PyData.str z) (R.filter f) _ _ (fun x hx => ⟨_, rfl, fun K hK => ?_, fun _ K hK => ?_⟩) (by have := filter_len f R; simp; omega) ?_
  · walk_at "my_wp"
    refine ⟨PyData.str last, ?_, ?_⟩
    · rw [hR, List.map_append]; exact atI_last _ _
    show oNe (PyData.str x) (PyData.str last) _
    rw [oNe_str]
    exact hK
  · walk_at "my_wp"
    exact hK
  rw [List.nil_append]
  generalize hl0 : (R.filter f).filter (fun z => !decide (z = last)) = l
  have hls : l.Sublist R := by rw [← hl0]; exact List.filter_sublist.trans List.filter_sublist
  have hll : l.length < R.length := by
    have : l.Sublist (R.filter fun z => !decide (z = last)) := by
      rw [← hl0]; exact List.Sublist.filter _ List.filter_sublist
    refine Nat.lt_of_le_of_lt this.length_le ?_
    rw [List.length_filter_lt_length_iff_exists]
    exact ⟨last, by rw [hR]; simp, by simp⟩
  have hlu : Up l := List.Pairwise.sublist hls hH.up
  have hlm : ∀ r ∈ l, r ∈ R := fun r hr => hls.subset hr
  refine ⟨R, ws, l, hH, rfl, ?_⟩
  refine ⟨_, 1 + (l.map fun z => PyData.str z).length * 0, (show Looser 2 _ (.list (l.map fun z => PyData.str z)) from ⟨by rw [List.length_map]; omega, 0, rfl, fun d hd => by
    obtain ⟨z, _, rfl⟩ := List.mem_map.mp hd
    exact trivial⟩), rfl, by omega, fun d' n' hl' hn' => ?_⟩
  obtain ⟨b, m, rfl, hm⟩ := Lz.sq_inv (b := false) hl'
  have := Lz.texts hm
  subst this
  have hnam : ∀ z ∈ l, NameOk z := fun z hz => hH.nam z (hlm z hz)
  refine repr_sq (by omega) hnam ?_
  refine ⟨R, ws, b, l, hH, hlu, hlm, hll, rfl, ?_⟩
  unfold mCallK
  walk_at "my_wp"
  refine ⟨rfl, R, ws, false, l, hH, hlu, hlm, hll, rfl, ?_⟩
  generalize hR' : R.filter (fun r => !decide (r ∈ l)) = R'
  generalize hws' : wIn (fun r => !decide (r ∈ l)) ws = ws'
  have hR'l : R'.length ≤ 13 := by rw [← hR']; exact Nat.le_trans (List.length_filter_le _ _) hz
  have hws'l : ws'.length ≤ 200 := by rw [← hws']; exact Nat.le_trans (wIn_len _ _) hH.wl
  refine ⟨by omega, ?_⟩
  refine lcW_pure (fun _ : Unit => hallD R' ws') (fun _ => true) (fun _ => .list [dL R', wiresD ws']) [(), ()] _ _ (fun x hx => ⟨_, rfl, fun K hK => hK, fun _ K hK => ?_⟩) (by simp; omega) ?_
  · walk_at "my_wp"
    refine ⟨_, rfl, rfl, R', ws', rfl, ?_⟩
    refine ⟨_, rfl, rfl, R', ws', rfl, ?_⟩
    exact ⟨by omega, hK⟩
  refine ⟨by omega, by omega, by decide, by decide, by simp; omega, ?_⟩
  refine ⟨.list [.list [dL R', wiresD ws'], .list [dL R', wiresD ws']], ?_, rfl, ?_⟩
  · refine plain_list 4 (by simp) fun d hd => ?_
    simp only [List.mem_cons, List.not_mem_nil, or_false, or_self] at hd
    subst hd
    refine plain_list 3 (by simp) fun d hd => ?_
    simp only [List.mem_cons, List.not_mem_nil, or_false] at hd
    rcases hd with rfl | rfl
    · exact plain_texts 2 R' (by omega)
    · exact plain_wires 1 ws' (by omega)
  simp only [if_true]
  refine repr_sq (by omega) hnam ?_
  rw [oEq_str, decide_eq_true rfl]
  exact hk _ (by rw [List.length_map, Nat.mul_zero] at hn'; omega)
end W
namespace W
open PySem PySem.Spec PySem.W PyProof.Rows L2 DL GF
def h_end : MS := (mSeq (mFrz 6 (mSet 9 (mON (on1 oSorted) (mCons (mON (on1 oDictT) (mCons (mLc (mItems (mVar 6)) (tgN 10) mYes (mTup (mCons (mTup (mCons (mON (on1 oMin) (mCons (mVar 10) mNil)) (mCons (mON (on1 oMax) (mCons (mVar 10) mNil)) mNil))) (mCons (mC (.int 0)) mNil))) [10]) mNil)) mNil))))
    (mRet (mTup (mCons (mVar 3) (mCons (mON (on1 oSorted) (mCons (mSl (mCall 2 SP.law_mixed (mCons (mVar 0) (mCons (mVar 9) mNil))) mNone (mSome (mVar 2))) mNil)) mNil)))))
def h_for : MS := (mFor (mRange1 (mCons (mIf (mB (mOp oGt (mON (on1 oLen) (mCons (mVar 3) mNil)) (mC (.int 1)))) (mCall 2 SP.law_draw (mCons (mVar 0) (mCons (mOp oAdd (mVar 2) (mC (.int 1))) mNil))) (mC (.int 0))) mNil)) (tgN 8) (mApp 6 (mON (on1 oTuple) (mCons (mSl (mCall 2 SP.law_mixed (mCons (mVar 0) (mCons (mVar 3) mNil))) mNone (mSome (mC (.int 2)))) mNil))))
def h_if : MS := (mIfS (mAndT (mB (mOp oEq (mVar 4) (mC (.int 1)))) (mB (mOp oGt (mON (on1 oLen) (mCons (mVar 5) mNil)) (mC (.int 2))))) (mApp 6 (mTup (mCons (mOp oIx (mVar 5) (mC (.int 0))) (mCons (mOp oIx (mVar 5) (mU oNeg (mC (.int 1)))) mNil)))) mSkip)
def h_way : MS := (mFor (mRange2 (mCons (mC (.int 1)) (mCons (mIf (mB (mOp oLt (mVar 4) (mC (.int 3)))) (mON (on1 oLen) (mCons (mVar 5) mNil)) (mC (.int 0))) mNil))) (tgN 7) (mApp 6 (mTup (mCons (mOp oIx (mVar 5) (mVar 7)) (mCons (mOp oIx (mVar 5) (mIf (mB (mOp oEq (mVar 4) (mC (.int 2)))) (mC (.int 0)) (mOp oSub (mVar 7) (mC (.int 1))))) mNil)))))
def h_two : MS := (mPar 5 6 none (some false) (mCall 2 SP.law_mixed (mCons (mVar 0) (mCons (mVar 3) mNil))) (mLst mNil))
def h_one : MS := (mPar 3 4 none none (mON (on1 oSorted) (mCons (mCall 2 SP.law_names (mCons (mVar 0) (mCons (mOp oAdd (mC (.int 1)) (mCall 2 SP.law_draw (mCons (mVar 0) (mCons (mVar 1) mNil)))) mNil))) mNil)) (mCall 2 SP.law_draw (mCons (mVar 0) (mCons (mC (.int 5)) mNil))))
theorem hall_parts : b_law_hall SP = mSeq h_one (mSeq h_two (mSeq h_way (mSeq h_if (mSeq h_for h_end)))) := rfl
def Two (R : List Str) (p : Wire) : Prop := p.1 ∈ R ∧ p.2 ∈ R ∧ p.1 ≠ p.2
theorem toks_text {a b : Str} (h : keyToks (PyData.str a) = keyToks (PyData.str b)) : a = b := by
  simp [keyToks] at h
  exact str_of_cps (by rw [h])
theorem ltS_total {a b : Str} (h : a ≠ b) : ltS a b ∨ ltS b a := by
  cases h1 : dataLt (PyData.str a) (PyData.str b) with
  | true => exact .inl h1
  | false =>
    cases h2 : dataLt (PyData.str b) (PyData.str a) with
    | true => exact .inr h2
    | false => exact absurd (toks_text ((listOrd itemOrd).total (keyToks (PyData.str a)) (keyToks (PyData.str b)) h1 h2)) h
theorem sort_upS {l : List Str} (nd : l.Nodup) : ∃ m : List Str, m.Perm l ∧ Up m := by
  obtain ⟨m, hp, e⟩ := sort_as (fun z => PyData.str z) l
  refine ⟨m, hp, ?_⟩
  have hs := sortP_sorted (l.map fun z => PyData.str z)
  rw [e, List.pairwise_map] at hs
  have ndm := hp.nodup_iff.mpr nd
  refine (List.Pairwise.and hs ndm).imp fun {a b} ⟨h1, h2⟩ => ?_
  rcases ltS_total h2 with h | h
  · exact h
  · rw [dataLe_iff] at h1
    exact absurd (h1.symm.trans h) (by simp)
def ktw (w : Wire) : List L2.Key := [.inr w.1, .inr w.2]
theorem ktw_inj {v w : Wire} (h : ktw v = ktw w) : v = w := by
  obtain ⟨v1, v2⟩ := v
  obtain ⟨w1, w2⟩ := w
  simp [ktw] at h
  rw [h.1, h.2]
theorem dict_wires (d : PyData) : ∀ (qs acc : List Wire), acc.Nodup → ∃ us : List Wire, us.Nodup ∧ (∀ w, w ∈ us ↔ w ∈ acc ∨ w ∈ qs) ∧ us.length ≤ acc.length + qs.length ∧
    (qs.map fun w => (ktw w, d)).foldl (fun acc p => putKP acc p.1 p.2) (acc.map fun w => (ktw w, d)) = us.map fun w => (ktw w, d)
  | [], acc, h => ⟨acc, h, fun w => by simp, by simp, rfl⟩
  | q :: qs, acc, h => by
    by_cases hq : q ∈ acc
    · obtain ⟨us, h1, h2, h3, h4⟩ := dict_wires d qs acc h
      refine ⟨us, h1, fun w => (h2 w).trans ?_, by rw [List.length_cons]; omega, ?_⟩
      · simp only [List.mem_cons]
        constructor
        · rintro (h | h)
          · exact .inl h
          · exact .inr (.inr h)
        · rintro (h | rfl | h)
          · exact .inl h
          · exact .inl hq
          · exact .inr h
      · rw [List.map_cons, List.foldl_cons, ← h4]
        congr 1
        unfold putKP
        rw [if_pos]
        · rw [List.map_map]
          refine List.map_congr_left fun w _ => ?_
          show (if ktw w = ktw q then (ktw w, d) else (ktw w, d)) = _
          split <;> rfl
        · rw [List.any_map]
          exact List.any_eq_true.mpr ⟨q, hq, by simp⟩
    · have nd : (acc ++ [q]).Nodup := by
        rw [List.nodup_append]
        exact ⟨h, by simp, fun a ha b hb e => hq (by rw [← List.mem_singleton.mp hb, ← e]; exact ha)⟩
      obtain ⟨us, h1, h2, h3, h4⟩ := dict_wires d qs (acc ++ [q]) nd
      refine ⟨us, h1, fun w => (h2 w).trans ?_, by rw [List.length_append] at h3; simp at h3 ⊢; omega, ?_⟩
      · simp only [List.mem_append, List.mem_singleton, List.mem_cons, or_assoc, List.not_mem_nil, false_or]
      · rw [List.map_cons, List.foldl_cons, ← h4]
        congr 1
        unfold putKP
        rw [if_neg]
        · simp
        · rw [List.any_map]
          intro e
          obtain ⟨w, hw, e⟩ := List.any_eq_true.mp e
          exact hq (ktw_inj (by simpa using e : ktw w = ktw q) ▸ hw)
def nrm (p : Wire) : Wire := if dataLt (PyData.str p.2) (PyData.str p.1) = true then (p.2, p.1) else p
theorem nrm_ok {R : List Str} {p : Wire} (h : Two R p) : (nrm p).1 ∈ R ∧ (nrm p).2 ∈ R ∧ ltS (nrm p).1 (nrm p).2 := by
  unfold nrm
  split
  · rename_i e
    exact ⟨h.2.1, h.1, e⟩
  · rename_i e
    refine ⟨h.1, h.2.1, ?_⟩
    rcases ltS_total h.2.2 with h1 | h1
    · exact h1
    · exact absurd h1 e
theorem nrm_min (p : Wire) (hne : p.1 ≠ p.2) (k : PyData → Prop) (hk : k (PyData.str (nrm p).1)) : oMin (dW p) k := by
  refine min_pair (x := p.1) (y := p.2) true k ?_
  unfold nrm at hk
  split at hk
  · rename_i e; rw [if_pos e]; exact hk
  · rename_i e; rw [if_neg e]; exact hk
theorem nrm_max (p : Wire) (hne : p.1 ≠ p.2) (k : PyData → Prop) (hk : k (PyData.str (nrm p).2)) : oMax (dW p) k := by
  refine max_pair (x := p.1) (y := p.2) true k ?_
  unfold nrm at hk
  split at hk
  · rename_i e; rw [dataLt_asymm e]; exact hk
  · rename_i e
    rcases ltS_total hne with h1 | h1
    · rw [if_pos h1]; exact hk
    · exact absurd h1 e
theorem h_end_ok {R : List Str} {ps : List Wire} {rooms wires n : Nat} {s4 s5 s7 s8 s9 s10 : Sl} {k : Ks} (hu : Up R) (hnam : ∀ r ∈ R, NameOk r) (hl : ps.length ≤ 150) (ht : ∀ p ∈ ps, Two R p) (hw : wires ≤ 100) (hn : 150 ≤ n)
    (hk : ∀ ws n', UpW ws → (∀ w ∈ ws, w.1 ∈ R ∧ w.2 ∈ R ∧ ltS w.1 w.2) → ws.length ≤ wires → n ≤ n' + 150 → k.rt (lawD R ws) n') :
    h_end [.val strmP, .val (.int (rooms : Nat)), .val (.int (wires : Nat)), .val (dL R), s4, s5, .own false (.list (ps.map dW)), s7, s8, s9, s10] n k := by
  have z := sz
  unfold h_end
  walk_at "my_wp"
  refine lcW_pure dW (fun _ => true) (fun p => .tuple [dW (nrm p), .int 0]) ps _ _ (fun p hp => ⟨_, rfl, fun K hK => hK, fun _ K hK => ?_⟩) (by simp; omega) ?_
  · walk_at "my_wp"
    refine nrm_min p (ht p hp).2.2 _ ?_
    refine nrm_max p (ht p hp).2.2 _ ?_
    exact ⟨by omega, by omega, hK⟩
  rw [List.nil_append, List.filter_eq_self.mpr (fun _ _ => rfl)]
  obtain ⟨us, h1, h2, h3, h4⟩ := dict_wires (.int 0) (ps.map nrm) [] .nil
  have hus : ∀ w ∈ us, w.1 ∈ R ∧ w.2 ∈ R ∧ ltS w.1 w.2 := fun w hw => by
    rcases (h2 w).mp hw with h | h
    · cases h
    · obtain ⟨p, hp, rfl⟩ := List.mem_map.mp h
      exact nrm_ok (ht p hp)
  have hul : us.length ≤ 150 := by rw [List.length_map] at h3; simp at h3; omega
  refine ⟨(ps.map nrm).map fun w => (ktw w, .int 0), ?_, ?_, ?_⟩
  · rw [List.map_map, List.map_map]; rfl
  · rw [List.all_map, List.all_map]
    refine List.all_eq_true.mpr fun p hp => ?_
    have := nrm_ok (ht p hp)
    have s1 := strOk_letters (hnam _ this.1).abc
    have s2 := strOk_letters (hnam _ this.2.1).abc
    show (PyData.strOk (nrm p).1 && (PyData.strOk (nrm p).2 && true)) = true
    rw [s1, s2]; rfl
  rw [show (List.foldl (fun acc p => putKP acc p.1 p.2) [] ((ps.map nrm).map fun w => (ktw w, PyData.int 0))) = us.map fun w => (ktw w, .int 0) from h4]
  obtain ⟨ms, hmp, hmu, hme⟩ := sort_up h1
  refine ⟨us.map dW, ?_, sortOk_wires us, ?_⟩
  · show (if noNone ((us.map fun w => (ktw w, PyData.int 0)).map fun p => (ktP p.1, p.2)) = true then some (((us.map fun w => (ktw w, PyData.int 0)).map fun p => (ktP p.1, p.2)).map (·.1)) else none) = _
    rw [if_pos]
    · rw [List.map_map, List.map_map]; rfl
    · unfold noNone
      rw [List.map_map, List.all_map]
      exact List.all_eq_true.mpr fun _ _ => rfl
  rw [hme]
  have hml := hmp.length_eq
  refine ⟨false, ms.map dW, n - ms.length, rfl, by simp; omega, by simp; omega, fun m hm => ?_⟩
  obtain ⟨vs, hvs, rfl⟩ := perm_map_inv _ hm
  rw [oSl_list, cutP_to, ← List.map_take]
  have hnd : (vs.take wires).Nodup := (List.take_sublist _ _).nodup (hvs.nodup_iff.mpr (hmp.nodup_iff.mpr h1))
  obtain ⟨fs, hfp, hfu, hfe⟩ := sort_up hnd
  refine ⟨_, rfl, sortOk_wires _, ?_⟩
  rw [hfe]
  have hfl := hfp.length_eq
  rw [List.length_take] at hfl
  refine ⟨by omega, hk fs _ hfu (fun w hw => ?_) (by omega) (by omega)⟩
  exact hus w (hmp.mem_iff.mp (hvs.mem_iff.mp (List.mem_of_mem_take (hfp.mem_iff.mp hw))))

theorem h_for_ok {R : List Str} {ps : List Wire} {rooms wires way n : Nat} {s5 s7 s8 s9 s10 : Sl} {k : Ks} (hu : Up R) (hR : R.length ≤ 12) (hl : ps.length ≤ 20) (ht : ∀ p ∈ ps, Two R p) (hw : wires ≤ 100) (hn : 1500 ≤ n)
    (hk : ∀ (qs : List Wire) (s8' : Sl) (n' : Nat), (∀ p ∈ qs, Two R p) → qs.length ≤ 150 → n ≤ n' + 1500 → k.nx [.val strmP, .val (.int (rooms : Nat)), .val (.int (wires : Nat)), .val (dL R), .val (.int (way : Nat)), s5, .own false (.list (qs.map dW)), s7, s8', s9, s10] n') :
    h_for [.val strmP, .val (.int (rooms : Nat)), .val (.int (wires : Nat)), .val (dL R), .val (.int (way : Nat)), s5, .own false (.list (ps.map dW)), s7, s8, s9, s10] n k := by
  have z := sz
  unfold h_for
  walk_at "my_wp"
  by_cases h1 : 1 < R.length
  · rw [if_pos (decide_eq_true (show (1 : Int) < R.length by omega))]
    refine ⟨wires + 1, n - 1, by simp, by omega, by omega, by omega, fun i hi => ?_⟩
    walk_at "my_wp"
    refine ⟨by omega, by omega, ?_⟩
    rw [Int.toNat_natCast]
    refine forW_it (fun i : Nat => .int (i : Nat)) (fun done γ n' => ∃ (qs : List Wire) (s8' : Sl), γ = [.val strmP, .val (.int (rooms : Nat)), .val (.int (wires : Nat)), .val (dL R), .val (.int (way : Nat)), s5, .own false (.list (qs.map dW)), s7, s8', s9, s10] ∧ (∀ p ∈ qs, Two R p) ∧ qs.length = ps.length + done.length ∧ n - 1 ≤ n' + done.length * 12) (List.range i) ⟨ps, s8, rfl, ht, by simp, by simp⟩ ?_ ?_
    · rintro done x rest γ n1 e ⟨qs, s8', rfl, q1, q2, q3⟩
      have hdl : done.length + 1 ≤ i := by
        have := congrArg List.length e
        simp at this; omega
      refine ⟨_, rfl, fun K hK => ?_⟩
      walk_at "my_wp"
      refine ⟨_, rfl, ?_⟩
      refine ⟨false, R.map fun z => PyData.str z, n1 - R.length, rfl, by simp; omega, by simp; omega, fun m hm => ?_⟩
      obtain ⟨rs, hrs, rfl⟩ := perm_map_inv _ hm
      rw [oSl_list, show (2 : Int) = ((2 : Nat) : Int) from rfl, cutP_to, ← List.map_take]
      have hrl := hrs.length_eq
      have hnd := hrs.nodup_iff.mpr hu.nodup
      match rs, hrl, hrs, hnd with
      | [], hrl, _, _ => simp at hrl; omega
      | [_], hrl, _, _ => simp at hrl; omega
      | a :: b :: rs, hrl, hrs, hnd =>
        refine ⟨by rw [List.length_map]; omega, ?_⟩
        refine hK _ _ ⟨qs ++ [(a, b)], .val (.int (x : Nat)), ?_, fun p hp => ?_, by simp; omega, ?_⟩
        · rw [List.map_append]; rfl
        · rcases List.mem_append.mp hp with hp | hp
          · exact q1 p hp
          · rw [List.mem_singleton.mp hp]
            refine ⟨hrs.mem_iff.mp (by simp), hrs.mem_iff.mp (by simp), fun e => ?_⟩
            simp at hnd
            exact hnd.1.1 e
        · rw [List.length_append]; simp; omega
    · rintro γ n1 ⟨qs, s8', rfl, q1, q2, q3⟩
      rw [List.length_range] at q2 q3
      exact hk qs _ _ q1 (by omega) (by omega)
  · rw [if_neg (by rw [decide_eq_true_eq]; omega)]
    refine ⟨by omega, by omega, ?_⟩
    exact hk ps _ _ ht (by omega) (by omega)
theorem h_if_ok {R rs : List Str} {ps : List Wire} {rooms wires way n : Nat} {s7 s8 s9 s10 : Sl} {k : Ks} (hu : Up R) (hR : R.length ≤ 12) (hrs : rs.Perm R) (hl : ps.length ≤ 12) (ht : ∀ p ∈ ps, Two R p)
    (hk : ∀ qs : List Wire, (∀ p ∈ qs, Two R p) → qs.length ≤ 20 → k.nx [.val strmP, .val (.int (rooms : Nat)), .val (.int (wires : Nat)), .val (dL R), .val (.int (way : Nat)), .val (dL rs), .own false (.list (qs.map dW)), s7, s8, s9, s10] n) :
    h_if [.val strmP, .val (.int (rooms : Nat)), .val (.int (wires : Nat)), .val (dL R), .val (.int (way : Nat)), .val (dL rs), .own false (.list (ps.map dW)), s7, s8, s9, s10] n k := by
  have z := sz
  have hrl := hrs.length_eq
  have hnd := hrs.nodup_iff.mpr hu.nodup
  unfold h_if
  walk_at "my_wp"
  by_cases h1 : (way : Int) = 1
  · rw [if_pos (decide_eq_true h1)]
    by_cases h2 : 2 < rs.length
    · rw [if_pos (decide_eq_true (show (2 : Int) < rs.length by omega))]
      match rs, h2, hrs, hnd with
      | a :: r, h2, hrs, hnd =>
        have hr : r ≠ [] := by intro e; rw [e] at h2; simp at h2
        obtain ⟨t, b, rfl⟩ : ∃ t b, r = t ++ [b] := ⟨r.dropLast, r.getLast hr, (List.dropLast_concat_getLast hr).symm⟩
        refine ⟨_, rfl, PyData.str a, (by rw [show (0 : Int) = ((0 : Nat) : Int) from rfl, atI_nat _ 0 (by simp)]; rfl), PyData.str b, ?_, by omega, by rw [List.length_map]; omega, ?_⟩
        · show atI ((a :: (t ++ [b])).map fun z => PyData.str z) (-1) = _
          rw [← List.cons_append, List.map_append]; exact atI_last _ _
        · have := hk (ps ++ [(a, b)]) (fun p hp => ?_) (by simp; omega)
          · rw [List.map_append] at this; exact this
          · rcases List.mem_append.mp hp with hp | hp
            · exact ht p hp
            · rw [List.mem_singleton.mp hp]
              refine ⟨hrs.mem_iff.mp (by simp), hrs.mem_iff.mp (by simp), fun e => ?_⟩
              have e : a = b := e
              subst e
              simp at hnd
    · rw [if_neg (by rw [decide_eq_true_eq]; omega)]
      exact hk ps ht (by omega)
  · rw [if_neg (by rw [decide_eq_true_eq]; exact h1)]
    exact hk ps ht (by omega)
theorem h_way_ok {R rs : List Str} {rooms wires way n : Nat} {s7 s8 s9 s10 : Sl} {k : Ks} (hu : Up R) (hR : R.length ≤ 12) (hrs : rs.Perm R) 
    (hk : ∀ (qs : List Wire) (s7' : Sl), (∀ p ∈ qs, Two R p) → qs.length ≤ 12 → k.nx [.val strmP, .val (.int (rooms : Nat)), .val (.int (wires : Nat)), .val (dL R), .val (.int (way : Nat)), .val (dL rs), .own false (.list (qs.map dW)), s7', s8, s9, s10] n) :
    h_way [.val strmP, .val (.int (rooms : Nat)), .val (.int (wires : Nat)), .val (dL R), .val (.int (way : Nat)), .val (dL rs), .own false (.list []), s7, s8, s9, s10] n k := by
  have z := sz
  unfold h_way
  walk_at "my_wp"
  have hrl := hrs.length_eq
  have hnd := hrs.nodup_iff.mpr hu.nodup
  by_cases h1 : (way : Int) < 3
  · rw [if_pos (decide_eq_true h1)]
    refine ⟨⟨by omega, by omega, by omega, by omega⟩, ?_⟩
    refine forW_it (fun t : Nat => .int (1 + (t : Nat))) (fun done γ n' => n' = n ∧ ∃ (qs : List Wire) (s7' : Sl), γ = [.val strmP, .val (.int (rooms : Nat)), .val (.int (wires : Nat)), .val (dL R), .val (.int (way : Nat)), .val (dL rs), .own false (.list (qs.map dW)), s7', s8, s9, s10] ∧ (∀ p ∈ qs, Two R p) ∧ qs.length = done.length) (List.range ((rs.length : Int) - 1).toNat) ⟨rfl, [], s7, rfl, (fun p hp => by cases hp), rfl⟩ ?_ ?_
    · rintro done t rest γ n1 e ⟨rfl, qs, s7', rfl, q1, q2⟩
      have ht : t = done.length ∧ t + 1 < rs.length := by
        have h5 := congrArg List.length e
        have h6 : (List.range ((rs.length : Int) - 1).toNat)[done.length]? = some t := by rw [e]; simp
        rw [List.getElem?_range (by simp at h5; omega)] at h6
        simp at h5
        exact ⟨(Option.some.inj h6).symm, by have := Option.some.inj h6; omega⟩
      refine ⟨_, rfl, fun K hK => ?_⟩
      walk_at "my_wp"
      refine ⟨_, rfl, ?_⟩
      have ix : ∀ (i : Nat) (h : i < rs.length), atI (rs.map fun z => PyData.str z) (i : Int) = some (PyData.str rs[i]) := fun i h => by rw [atI_nat _ i (by rw [List.length_map]; exact h), List.getElem_map]
      have go : ∀ i (h : i < rs.length), i ≠ t + 1 → (qs.map dW).length < sizeLine ∧ K [.val strmP, .val (.int (rooms : Nat)), .val (.int (wires : Nat)), .val (dL R), .val (.int (way : Nat)), .val (dL rs), .own false (.list (qs.map dW ++ [.tuple [PyData.str rs[t + 1], PyData.str rs[i]]])), .val (.int (1 + (t : Nat))), s8, s9, s10] n1 := fun i h hne => by
        refine ⟨by rw [List.length_map]; omega, hK _ _ ⟨rfl, qs ++ [(rs[t + 1], rs[i])], _, by rw [List.map_append]; rfl, fun p hp => ?_, by simp; omega⟩⟩
        rcases List.mem_append.mp hp with hp | hp
        · exact q1 p hp
        · rw [List.mem_singleton.mp hp]
          refine ⟨hrs.mem_iff.mp (List.getElem_mem _), hrs.mem_iff.mp (List.getElem_mem _), fun e => ?_⟩
          exact hne ((List.getElem_inj hnd).mp e).symm
      refine ⟨PyData.str rs[t + 1], ?_, ?_⟩
      · rw [show (1 : Int) + (t : Nat) = ((t + 1 : Nat) : Int) by omega]
        exact ix _ ht.2
      by_cases h2 : (way : Int) = 2
      · change (if decide ((way : Int) = 2) = true then _ else _)
        rw [if_pos (decide_eq_true h2)]
        exact ⟨PyData.str rs[0], ix 0 (by omega), by omega, go 0 (by omega) (by omega)⟩
      · change (if decide ((way : Int) = 2) = true then _ else _)
        rw [if_neg (by rw [decide_eq_true_eq]; exact h2)]
        refine ⟨PyData.str rs[t], ?_, by omega, go t (by omega) (by omega)⟩
        rw [show (1 : Int) + (t : Nat) - 1 = (t : Nat) by omega]
        exact ix t (by omega)
    · rintro γ n1 ⟨rfl, qs, s7', rfl, q1, q2⟩
      rw [List.length_range] at q2
      exact hk qs _ q1 (by omega)
  · rw [if_neg (by rw [decide_eq_true_eq]; exact h1)]
    refine ⟨⟨by omega, by omega, by omega, by omega⟩, ?_⟩
    exact hk [] _ (fun p hp => by cases hp) (by simp)
theorem k_law_hall : Keeps N_law_hall ["stream", "rooms", "wires"] sp_law_hall (b_law_hall SP) := by
  rintro ds n k hl ⟨rooms, wires, rfl, hr0, hr, hw, hn, hk⟩
  rw [hall_parts]
  have z := sz
  refine (show h_one _ _ _ from ?_)
  unfold h_one
  walk_at "my_wp"
  refine ⟨rooms, n - 1, rfl, by omega, by omega, by omega, fun many hm => ?_⟩
  walk_at "my_wp"
  refine ⟨1 + many, by simp, by omega, by omega, fun l n1 hl1 hl2 hl3 hn1 => ?_⟩
  obtain ⟨R, hp, hup⟩ := sort_upS hl2
  refine sorted_texts hup hp ?_
  have hRl := hp.length_eq
  have hnam : ∀ r ∈ R, NameOk r := fun r hr => (hl3 r (hp.mem_iff.mp hr)).1
  refine ⟨5, n1 - 1, rfl, by omega, by omega, by omega, fun way hway => ?_⟩
  refine (show h_two _ _ _ from ?_)
  unfold h_two
  walk_at "my_wp"
  refine ⟨false, R.map fun z => PyData.str z, n1 - 1 - R.length, rfl, by simp; omega, by simp; omega, fun m hm => ?_⟩
  obtain ⟨rs, hrs, rfl⟩ := perm_map_inv _ hm
  have hrl := hrs.length_eq
  refine ⟨by omega, ?_⟩
  refine h_way_ok hup (by omega) hrs fun ps s7 hps hpl => ?_
  refine h_if_ok hup (by omega) hrs hpl hps fun qs hqs hql => ?_
  refine h_for_ok hup (by omega) hql hqs hw (by omega) fun us s8 n2 hus hul hn2 => ?_
  refine h_end_ok hup hnam hul hus hw (by omega) fun ws n3 hwu hwm hwl hn3 => ?_
  refine hk R ws n3 ⟨⟨hup, ?_, by omega, hnam, hwu, hwm, by omega⟩, fun r hr => (hl3 r (hp.mem_iff.mp hr)).2⟩ (by omega) hwl (by omega)
  intro e; rw [e] at hRl; simp at hRl; omega
end W
namespace W
open PySem PySem.Spec PySem.W PyProof.Rows L2 DL GF
abbrev rowT (f : Str → List Str) (r : Str) : PyData := .tuple [PyData.str r, dL (f r)]
theorem row_lt {f : Str → List Str} {a b : Str} (h : ltS a b) : dataLt (rowT f a) (rowT f b) = true := by
  have al : alike (dL (f a)) (dL (f b)) = true := by
    show alike (.list _) (.list _) = true
    rw [alike]; exact alike_texts _ _
  rw [dataLt_pair (show alike (PyData.str a) (PyData.str b) = true from rfl) al, eqv_str, if_neg]
  · exact h
  · rw [decide_eq_true_eq]
    rintro rfl
    exact ltS_irrefl h
theorem sortOk_rows (f : Str → List Str) (R : List Str) : SortOk (R.map (rowT f)) where
  al := fun d hd d' hd' => by
    obtain ⟨a, _, rfl⟩ := List.mem_map.mp hd
    obtain ⟨b, _, rfl⟩ := List.mem_map.mp hd'
    have : alike (dL (f a)) (dL (f b)) = true := by
      show alike (.list _) (.list _) = true
      rw [alike]; exact alike_texts _ _
    show alike (.tuple _) (.tuple _) = true
    rw [alike, alikeAll, alikeAll, this]; simp [alikeAll, alike]
  sb := .inl fun d hd => by
    obtain ⟨a, _, rfl⟩ := List.mem_map.mp hd
    exact ⟨_, _, rfl⟩
  nd := by
    induction R with
    | nil => rfl
    | cons a l ih =>
      show ((nd (PyData.str a) && (ndL ((f a).map fun z => PyData.str z) && true)) && ndL (l.map (rowT f))) = true
      rw [ih, ndL_texts]; rfl
  dp := fun d hd => by
    obtain ⟨a, _, rfl⟩ := List.mem_map.mp hd
    simp [PyData.depth, PyData.depthAll, depth_texts, dL]
theorem sort_rows {f : Str → List Str} {R : List Str} (h : Up R) : sortP (R.map (rowT f)) = R.map (rowT f) := sortP_eq (.refl _) (List.pairwise_map.mpr (h.imp fun h => row_lt h))
theorem k_ends : KeepsN N_ends ["hall"] sp_ends (b_ends SP) := by
  rintro ds n k hl ⟨R, ws, hH, rfl, hk⟩
  unfold b_ends mSeqN mSortIt
  have z := sz
  have hz := hH.len
  walk_at "my_wp"
  refine ⟨R, ws, rfl, ?_⟩
  simp only [fld_around]
  have hm : (R.map fun r => (PyData.str r, lotD R (adj ws r))).map (fun e => PyData.tuple [e.1, e.2]) = R.map (rowT fun r => R.filter (adj ws r)) := by rw [List.map_map]; rfl
  refine ⟨_, rfl, ?_, ?_, ?_⟩
  · unfold keyed
    rw [noNone_rooms R fun r => lotD R (adj ws r)]
    have := hH.ne
    cases R with
    | nil => exact absurd rfl this
    | cons a l => rfl
  · rw [hm]; exact sortOk_rows _ R
  rw [hm, sort_rows hH.up]
  refine lcW_pure (rowT fun r => R.filter (adj ws r)) (fun r => decide ((R.filter (adj ws r)).length = 1)) (fun r => dW (r, (R.filter (adj ws r)).headD r)) R _ _ (fun r hr => ⟨_, rfl, fun K hK => ?_, fun h1 K hK => ?_⟩) (by simp; omega) ?_
  · walk_at "my_wp"
    rw [show decide (((R.filter (adj ws r)).length : Int) = 1) = decide ((R.filter (adj ws r)).length = 1) by rw [decide_eq_decide]; omega]
    exact hK
  · walk_at "my_wp"
    have h1 := of_decide_eq_true h1
    match hf : R.filter (adj ws r), h1 with
    | [x], _ =>
      rw [hf] at hK
      exact ⟨PyData.str x, rfl, by omega, hK⟩
  · rw [List.nil_append]
    have : endsL ws R = (R.filter fun r => decide ((R.filter (adj ws r)).length = 1)).map fun r => (r, (R.filter (adj ws r)).headD r) := rfl
    rw [this, wiresD, List.map_map] at hk
    exact hk
end W
namespace W
open PySem PySem.Spec PySem.W PyProof.Rows L2 DL GF
theorem adj_in {p : Str → Bool} {ws : List Wire} {a b : Str} (ha : p a = true) (hb : p b = true) : adj (wIn p ws) a b = adj ws a b := by
  unfold adj wIn
  simp [List.mem_filter, ha, hb]
theorem tch_in {own : Bool} {p : Str → Bool} {ws : List Wire} {a b : Str} (ha : p a = true) (hb : p b = true) : tch own (wIn p ws) a b = tch own ws a b := by
  unfold tch
  rw [adj_in ha hb]
theorem Qt_in {own : Bool} {p : Str → Bool} {ws : List Wire} {R : List Str} (x : Str → Bool) : Qt (tch own (wIn p ws)) (R.filter p) x ↔ Qt (tch own ws) (R.filter p) x := by
  have : ∀ s ∈ R.filter p, tv (tch own (wIn p ws)) (R.filter p) x s = tv (tch own ws) (R.filter p) x s := fun s hs => by
    refine par_congr fun a ha => ?_
    rw [tch_in (List.mem_filter.mp ha).2 (List.mem_filter.mp hs).2]
  exact ⟨fun h => ⟨h.1, fun s hs => (this s hs).symm.trans (h.2 s hs)⟩, fun h => ⟨h.1, fun s hs => (this s hs).trans (h.2 s hs)⟩⟩
theorem flat_wires (ws : List Wire) : ∀ d ∈ ws.map dW, flatT 1 d := fun d hd => by
  obtain ⟨w, _, rfl⟩ := List.mem_map.mp hd
  intro e he
  simp only [List.mem_cons, List.not_mem_nil, or_false] at he
  rcases he with rfl | rfl <;> exact trivial
theorem AllQ.perm {T : Str → Str → Bool} {R : List Str} {A B : List (Str → Bool)} (h : AllQ T R A) (p : B.Perm A) : AllQ T R B := ⟨p.nodup_iff.mpr h.1, fun x => p.mem_iff.trans (h.2 x)⟩
theorem endsL_mem {R : List Str} {ws : List Wire} (hH : HOk R ws) {e f : Str} (h : (e, f) ∈ endsL ws R) : e ∈ R ∧ f ∈ R ∧ e ≠ f ∧ ∀ u ∈ R, tch false ws e u = decide (u = f) := by
  obtain ⟨r, hr, e1⟩ := List.mem_map.mp h
  have hfd : (R.filter (adj ws r)).headD r = f := congrArg Prod.snd e1
  have hre : r = e := congrArg Prod.fst e1
  rw [← hre]
  obtain ⟨hr, h1⟩ := List.mem_filter.mp hr
  have h1 := of_decide_eq_true h1
  obtain ⟨x, hx⟩ := List.length_eq_one_iff.mp h1
  rw [hx, List.headD_cons] at hfd
  rw [← hfd]
  obtain ⟨x1, x2⟩ := List.mem_filter.mp (show x ∈ R.filter (adj ws r) by rw [hx]; simp)
  refine ⟨hr, x1, fun z => ?_, fun u hu => ?_⟩
  · rw [← z, adj_self hH] at x2; cases x2
  · show ((false && _) ^^ adj ws r u) = decide (u = x)
    rw [Bool.false_and, Bool.false_xor, Bool.eq_iff_iff, decide_eq_true_eq]
    constructor
    · intro h
      have : u ∈ R.filter (adj ws r) := List.mem_filter.mpr ⟨hu, h⟩
      rw [hx] at this; simpa using this
    · intro z; rw [z]; exact x2
theorem nodup_sub_len {α : Type} [DecidableEq α] : ∀ {l m : List α}, l.Nodup → (∀ x ∈ l, x ∈ m) → l.length ≤ m.length
  | [], m, _, _ => by simp
  | a :: l, m, nd, h => by
    rw [List.nodup_cons] at nd
    have ha := h a (List.mem_cons_self ..)
    have ih := nodup_sub_len (l := l) (m := m.erase a) nd.2 fun x hx => (List.mem_erase_of_ne (fun (e : x = a) => nd.1 (e ▸ hx))).mpr (h x (List.mem_cons_of_mem _ hx))
    rw [List.length_erase_of_mem ha] at ih
    have := List.length_pos_of_mem ha
    rw [List.length_cons]; omega
theorem AllQ.len {T : Str → Str → Bool} {R : List Str} {A : List (Str → Bool)} (h : AllQ T R A) (nR : R.Nodup) (hz : R.length ≤ 13) : A.length ≤ 8192 := by
  have h1 := lotsL_ok _ R rfl nR
  have : (A.map fun x => R.filter x).length ≤ (lotsL R).length := nodup_sub_len (nodup_map (fun a ha b hb e => ?_) h.1) fun l hl => ?_
  · rw [List.length_map, h1.1] at this
    exact Nat.le_trans this (Nat.pow_le_pow_right (n := 2) (by omega) hz)
  · have qa := (h.2 a).mp ha
    have qb := (h.2 b).mp hb
    funext s
    by_cases hs : s ∈ R
    · have e : R.filter a = R.filter b := e
      have : s ∈ R.filter a ↔ s ∈ R.filter b := by rw [e]
      rw [List.mem_filter, List.mem_filter] at this
      rw [Bool.eq_iff_iff]
      simpa [hs] using this
    · have e1 : a s = false := by
        cases e : a s with
        | false => rfl
        | true => exact absurd (qa.1 s e) hs
      have e2 : b s = false := by
        cases e : b s with
        | false => rfl
        | true => exact absurd (qb.1 s e) hs
      rw [e1, e2]
  · obtain ⟨x, _, rfl⟩ := List.mem_map.mp hl
    exact (h1.2.2 _).mpr ⟨x, rfl⟩
theorem plain_two {j : Nat} {a b : PyData} (h1 : Plain j a) (h2 : Plain j b) : Plain (j + 1) (.list [a, b]) := plain_list j (by simp) fun d hd => by
  simp only [List.mem_cons, List.not_mem_nil, or_false] at hd
  rcases hd with rfl | rfl
  · exact h1
  · exact h2
theorem endsL_len (ws : List Wire) (R : List Str) : (endsL ws R).length ≤ R.length := by
  unfold endsL
  rw [List.length_map]; exact filter_len _ R
theorem k_law_ends_right : Keeps N_law_ends_right ["hall", "made"] sp_law_ends_right (b_law_ends_right SP) := by
  rintro ds n k hl ⟨R, ws, hH, hR8, rfl, hk⟩
  unfold b_law_ends_right mSpoil
  have z := sz
  have hz := hH.len
  walk_at "my_wp"
  refine lcW_pure (fun z => PyData.str z) (fun _ => true) (rowT fun r => R.filter (adj ws r)) R _ _ (fun r hr => ⟨_, rfl, fun K hK => hK, fun _ K hK => ?_⟩) (by simp; omega) ?_
  · walk_at "my_wp"
    exact ⟨R, ws, r, hH, hr, rfl, by omega, hK⟩
  rw [List.nil_append, List.filter_eq_self.mpr (fun _ _ => rfl)]
  refine lcW_pure (rowT fun r => R.filter (adj ws r)) (fun r => decide ((R.filter (adj ws r)).length = 1)) (fun r => dW (r, (R.filter (adj ws r)).headD r)) R _ _ (fun r hr => ⟨_, rfl, fun K hK => ?_, fun h1 K hK => ?_⟩) (by simp; omega) ?_
  · walk_at "my_wp"
    rw [show decide (((R.filter (adj ws r)).length : Int) = 1) = decide ((R.filter (adj ws r)).length = 1) by rw [decide_eq_decide]; omega]
    exact hK
  · walk_at "my_wp"
    have h1 := of_decide_eq_true h1
    match hf : R.filter (adj ws r), h1 with
    | [x], _ =>
      rw [hf] at hK
      exact ⟨PyData.str x, rfl, by omega, hK⟩
  rw [List.nil_append]
  have hE : ((R.filter fun r => decide ((R.filter (adj ws r)).length = 1)).map fun r => dW (r, (R.filter (adj ws r)).headD r)) = (endsL ws R).map dW := by
    show _ = List.map dW (List.map _ _)
    rw [List.map_map]; rfl
  rw [hE]
  refine ⟨R, ws, hH, rfl, ?_⟩
  unfold mCallK
  walk_at "my_wp"
  have hel := endsL_len ws R
  refine ⟨rfl, R, ws, hH, rfl, by decide, ⟨_, _, rfl, rfl, by rw [List.length_map]; omega, by rw [List.length_map]; omega, flat_wires _, flat_wires _⟩, by omega, ?_⟩
  refine ⟨_, plain_two (plain_wires 2 (endsL ws R) (by omega)) (plain_wires 2 (endsL ws R) (by omega)), rfl, rfl, ?_⟩
  refine ⟨R, ws, false, hH, rfl, fun A hA => ?_⟩
  obtain ⟨m, hmp, hme⟩ := sort_as (lotD R) A
  rw [hme]
  have hm := hA.perm hmp
  rw [show (3 : Int) = ((3 : Nat) : Int) from rfl, cutP_to, ← List.map_take]
  refine forW_it dW (fun done γ n' => n' = n ∧ ∃ s5 s8 s9 s10 s11 s12, γ = [.val (lawD R ws), .val (hallD R ws), .val (.list (R.map (rowT fun r => R.filter (adj ws r)))), .no, .val (wiresD (endsL ws R)), s5, .no, .val (.list (m.map (lotD R))), s8, s9, s10, s11, s12]) ((endsL ws R).take 3) ⟨rfl, _, _, _, _, _, _, rfl⟩ ?_ ?_
  · rintro done ⟨e, f⟩ rest γ n' hs ⟨rfl, s5, s8, s9, s10, s11, s12, rfl⟩
    refine ⟨_, rfl, fun K hK => ?_⟩
    have hmem : (e, f) ∈ endsL ws R := List.mem_of_mem_take (show (e, f) ∈ (endsL ws R).take 3 by rw [hs]; simp)
    obtain ⟨he, hf, hef, hen⟩ := endsL_mem hH hmem
    have nR := hH.up.nodup
    have hT := tch_sym false ws R
    walk_at "my_wp"
    refine lcW_pure (lotD R) (fun _ => true) (fun x => .bool (decide (f ∈ R.filter x))) m _ _ (fun x hx => ⟨_, rfl, fun K hK => hK, fun _ K hK => ?_⟩) (by have := hm.len nR hz; simp; omega) ?_
    · walk_at "my_wp"
      exact hK
    rw [List.nil_append, List.filter_eq_self.mpr (fun _ _ => rfl)]
    refine oAny_map _ _ _ ?_
    have hno : (m.any fun x => decide (f ∈ R.filter x)) = false := by
      rw [List.any_eq_false]
      intro x hx h
      have h := of_decide_eq_true h
      have := end_friend nR hT he hf hef hen ((hm.2 x).mp hx)
      rw [(List.mem_filter.mp h).2] at this; cases this
    simp only [hno]
    by_cases h2 : 2 < R.length
    · rw [if_neg (by simp), if_pos (decide_eq_true (by omega))]
      refine ⟨by omega, R, ws, [e, f], hH, rfl, by omega, ?_⟩
      obtain ⟨l, hlp, hlu⟩ := sort_upS (l := [e, f]) (by simp [hef])
      refine sorted_texts (l := [e, f]) hlu hlp ?_
      have hll := hlp.length_eq
      have hlm : ∀ r, r ∈ l ↔ r = e ∨ r = f := fun r => hlp.mem_iff.trans (by simp)
      refine ⟨R, ws, false, l, hH, hlu, fun r hr => ?_, by rw [hll]; exact h2, rfl, ?_⟩
      · rcases (hlm r).mp hr with rfl | rfl
        · exact he
        · exact hf
      have hp1 : (fun r => !decide (r ∈ l)) = fun a => decide (a ≠ e) && decide (a ≠ f) := by
        funext a
        rw [Bool.eq_iff_iff]
        simp [hlm]
      have hp2 : (fun r => !decide (r ∈ [e, f])) = fun a => decide (a ≠ e) && decide (a ≠ f) := by
        funext a
        rw [Bool.eq_iff_iff]
        simp
      rw [hp1, hp2]
      have hne : R.filter (fun a => decide (a ≠ e) && decide (a ≠ f)) ≠ [] := by
        intro h0
        have hall : ∀ r ∈ R, r ∈ [e, f] := fun r hr => by
          have := List.filter_eq_nil_iff.mp h0 r hr
          simp at this ⊢
          by_cases h : r = e
          · exact .inl h
          · exact .inr (this h)
        have := nodup_sub_len nR hall
        simp at this; omega
      have hH' := hH.sub _ hne
      refine ⟨_, _, false, hH', rfl, fun B hB => ?_⟩
      have hcB : B.length = m.length := end_count nR hT he hf hef hen hm.1 hB.1 hm.2 fun x => (hB.2 x).trans (Qt_in x)
      obtain ⟨b, hbp, hbe⟩ := sort_as (lotD (R.filter fun a => decide (a ≠ e) && decide (a ≠ f))) B
      rw [hbe]
      have hbl := hbp.length_eq
      walk_at "my_wp"
      rw [List.length_map, List.length_map, hbl, hcB, decide_eq_true rfl, Bool.not_true, if_neg (by simp)]
      refine ⟨_, _, false, hH', rfl, fun C hC => ?_⟩
      have hcC : C.length = m.length := end_count nR hT he hf hef hen hm.1 hC.1 hm.2 fun x => (hC.2 x).trans (Qt_in x)
      walk_at "my_wp"
      rw [List.length_map, hcC, decide_eq_true rfl, Bool.not_true, if_neg (by simp)]
      exact hK _ _ ⟨rfl, s5, _, _, _, _, _, rfl⟩
    · rw [if_neg (by simp), if_neg (by rw [decide_eq_true_eq]; omega)]
      exact hK _ _ ⟨rfl, s5, _, _, _, _, _, rfl⟩
  · rintro γ n' ⟨rfl, s5, s8, s9, s10, s11, s12, rfl⟩
    walk_at "my_wp"
    exact ⟨R, ws, hH, rfl, _, plain_wires 3 (endsL ws R) (by omega), rfl, hk⟩
end W
namespace W
open PySem PySem.Spec PySem.W PyProof.Rows L2 DL GF
def tw_due : MS := (mFor (mEnum (mCons (mOp oIx (mVar 1) (mC (.int 0))) mNil)) (tgT (tgCons (tgN 5) (tgCons (tgN 6) tgNil))) (mExt 4 (mLc (mItems (mSl (mOp oIx (mVar 1) (mC (.int 0))) (mSome (mOp oAdd (mVar 5) (mC (.int 1)))) mNone)) (tgN 7) (mB (mOp oEq (mCall 3 SP.law_touch (mCons (mVar 1) (mCons (mVar 3) (mCons (mVar 6) mNil)))) (mCall 3 SP.law_touch (mCons (mVar 1) (mCons (mVar 3) (mCons (mVar 7) mNil)))))) (mTup (mCons (mVar 6) (mCons (mVar 7) mNil))) [7])))
def tw_words : MS := (mSeq (mSet 15 (mOp oIx (mCall 4 SP.presses_or_watch (mCons (mVar 2) (mCons (mVar 3) (mCons (mLst mNil) (mCons (mON (on1 oList) (mCons (mVar 14) mNil)) mNil))))) (mC (.int 0)))) (mSeq (mSet 16 (mOp oIx (mCall 4 SP.presses_or_watch (mCons (mVar 12) (mCons (mVar 3) (mCons (mLst mNil) (mCons (mLc (mItems (mVar 14)) (tgN 17) (mB (mOp oNe (mVar 17) (mVar 9))) (mVar 17) [17]) mNil))))) (mC (.int 0)))) (mSeq (mSet 18 (mAnd (mOp oEq (mOp oIn (mVar 9) (mVar 14)) (mOp oIn (mVar 10) (mVar 14))) (mOp oEq (mVar 16) (mC (.str "presses"))))) (mIfS (mNotT (mB (mCall 2 SP.law_same (mCons (mVar 15) (mCons (mIf (mB (mVar 18)) (mC (.str "presses")) (mC (.str "watch"))) mNil))))) (mRet (mC (.bool false))) mSkip))))
def tw_turn : MS := (mSeq (mSet 14 (mIf (mB (mOp oGt (mVar 13) (mC (.int 1)))) (mCall 2 SP.law_lot (mCons (mVar 0) (mCons (mVar 1) mNil))) (mCall 4 SP.law_behind (mCons (mVar 1) (mCons (mVar 3) (mCons (mLst mNil) (mCons (mCall 2 SP.law_lot (mCons (mVar 0) (mCons (mVar 1) mNil))) mNil))))))) tw_words)
def tw_turns : MS := (mFor (mRange1 (mCons (mC (.int 4)) mNil)) (tgN 13) tw_turn)
def tw_rest : MS := (mSeq (mSet 11 (mCall 2 SP.law_without (mCons (mVar 1) (mCons (mLst (mCons (mVar 9) mNil)) mNil)))) (mSeq (mSet 12 (mCall 2 SP.without_rooms (mCons (mVar 2) (mCons (mLst (mCons (mVar 9) mNil)) mNil)))) (mSeq (mIfS (mOrT (mB (mOp oNe (mOp oMul (mC (.int 2)) (mON (on1 oLen) (mCons (mCall 2 SP.quiets (mCons (mVar 12) (mCons (mVar 3) mNil))) mNil))) (mON (on1 oLen) (mCons (mCall 2 SP.quiets (mCons (mVar 2) (mCons (mVar 3) mNil))) mNil)))) (mB (mOp oNe (mON (on1 oLen) (mCons (mCall 2 SP.quiets (mCons (mVar 12) (mCons (mVar 3) mNil))) mNil)) (mON (on1 oLen) (mCons (mCall 2 SP.law_quiets (mCons (mVar 11) (mCons (mVar 3) mNil))) mNil))))) (mRet (mC (.bool false))) mSkip) tw_turns)))
def tw_pair : MS := (mSeq (mAsg (tgT (tgCons (tgN 9) (tgCons (tgN 10) tgNil))) (mIf (mB (mOp oEq (mCall 2 SP.law_draw (mCons (mVar 0) (mCons (mC (.int 2)) mNil))) (mC (.int 0)))) (mTup (mCons (mVar 6) (mCons (mVar 7) mNil))) (mTup (mCons (mVar 7) (mCons (mVar 6) mNil))))) tw_rest)
theorem twins_parts : b_law_twins_right SP = (mSeq (mOwn 4 false (mLst mNil)) (mSeq tw_due (mSpoil 8 (mCall 2 SP.twins (mCons (mVar 2) (mCons (mVar 3) mNil))) (mCallK 2 (["kind", "hall"] : List Str).length [1, 0] SP.twins (mCons (mVar 3) (mCons (mVar 2) mNil))) (mNotT (mB (mCall 2 SP.law_same (mCons (mVar 8) (mCons (mLst (mCons (mVar 4) (mCons (mVar 4) mNil))) mNil))))) (mSeq (mFrz 4 (mFor (mItems (mSl (mCall 2 SP.law_mixed (mCons (mVar 0) (mCons (mVar 4) mNil))) mNone (mSome (mC (.int 2))))) (tgT (tgCons (tgN 6) (tgCons (tgN 7) tgNil))) tw_pair)) (mRet (mC (.bool true))))))) := rfl
theorem tw_due_ok {R : List Str} {ws : List Wire} {own : Bool} (hH : HOk R ws) {n : Nat} {k : Ks} {s2 s5 s6 s7 : Sl} {rest : G}
    (hk : ∀ s5 s6 s7, k.nx (.val strmP :: .val (lawD R ws) :: s2 :: .val (kd own) :: .own false (wiresD (twinsL (tch own ws) R R)) :: s5 :: s6 :: s7 :: rest) n) :
    tw_due (.val strmP :: .val (lawD R ws) :: s2 :: .val (kd own) :: .own false (.list []) :: s5 :: s6 :: s7 :: rest) n k := by
  have z := sz
  have hz := hH.len
  unfold tw_due
  walk_at "my_wp"
  rw [enumP_lot]
  refine ⟨_, rfl, ?_⟩
  refine forW_it (fun p : Str × Nat => .tuple [.int (p.2 : Nat), PyData.str p.1]) (fun done γ n' => n' = n ∧ ∃ (F : List Wire) (s5 s6 s7 : Sl), γ = .val strmP :: .val (lawD R ws) :: s2 :: .val (kd own) :: .own false (wiresD F) :: s5 :: s6 :: s7 :: rest ∧ F ++ twinsL (tch own ws) R (R.drop done.length) = twinsL (tch own ws) R R) R.zipIdx ⟨rfl, [], _, _, _, rfl, rfl⟩ ?_ ?_
  · rintro done ⟨x, i⟩ rest' γ n' e ⟨rfl, F, s5, s6, s7, rfl, hF⟩
    refine ⟨_, rfl, fun K hK => ?_⟩
    obtain ⟨h1, h2, h3⟩ := zipIdx_split e
    have hx : x ∈ R := by rw [h1]; simp
    have hd : R.drop done.length = x :: R.drop (i + 1) := by
      rw [h2, h1]
      have : (done.map (·.1)).length = done.length := by simp
      rw [← this]; simp
    walk_at "my_wp"
    rw [nat_succ_cast, cutP_from]
    refine ⟨_, rfl, ?_⟩
    have hdl : (R.drop (i + 1)).length ≤ R.length := by simp
    refine lcW_pure (fun z => PyData.str z) (fun b => decide (R.filter (tch own ws x) = R.filter (tch own ws b))) (fun b => dW (x, b)) _ _ _ (fun y hy => ⟨_, rfl, fun K hK => ?_, fun _ K hK => ?_⟩) ?_ ?_
    · walk_at "my_wp"
      refine ⟨R, ws, own, x, hH, hx, rfl, R, ws, own, y, hH, List.mem_of_mem_drop hy, rfl, ?_⟩
      show oEq (dL _) (dL _) _
      rw [oEq_lot]
      exact hK
    · walk_at "my_wp"; exact ⟨by omega, hK⟩
    · simp; omega
    · have hlen := congrArg List.length hF
      rw [hd] at hlen hF
      simp only [twinsL, List.length_append, List.length_map] at hlen
      have htl := twinsL_len (tch own ws) R R
      have : R.length * R.length ≤ 13 * 13 := Nat.mul_le_mul hz hz
      refine ⟨_, rfl, by simp; omega, ?_⟩
      refine hK _ _ ⟨rfl, F ++ ((R.drop (i + 1)).filter fun b => decide (R.filter (tch own ws x) = R.filter (tch own ws b))).map (fun b => (x, b)), .val (.int (i : Nat)), .val (PyData.str x), s7, ?_, ?_⟩
      · rw [wiresD, List.map_append, List.map_map]; rfl
      · rw [List.length_append, List.append_assoc, ← h3]
        exact hF
  · rintro γ n' ⟨rfl, F, s5, s6, s7, rfl, hF⟩
    rw [List.length_zipIdx, List.drop_length] at hF
    simp only [twinsL, List.append_nil] at hF
    rw [hF]; exact hk _ _ _
theorem lotD_no (R : List Str) : lotD R (fun _ => false) = .list [] := by
  show PyData.list ((R.filter fun _ => false).map fun z => PyData.str z) = _
  simp
theorem led_in {own : Bool} {p : Str → Bool} {ws : List Wire} {R : List Str} (x t : Str → Bool) : (∀ u ∈ R.filter p, tv (tch own (wIn p ws)) (R.filter p) x u = t u) ↔ ∀ u ∈ R.filter p, tv (tch own ws) (R.filter p) x u = t u := by
  have : ∀ s ∈ R.filter p, tv (tch own (wIn p ws)) (R.filter p) x s = tv (tch own ws) (R.filter p) x s := fun s hs => by
    refine par_congr fun a ha => ?_
    rw [tch_in (List.mem_filter.mp ha).2 (List.mem_filter.mp hs).2]
  exact ⟨fun h s hs => (this s hs).symm.trans (h s hs), fun h s hs => (this s hs).trans (h s hs)⟩
theorem told_word {R : List Str} {T : Str → Str → Bool} {t t' : Str → Bool} {k : PyData → Prop} (hT : Sym T R) (ht : t' = t) (h : ∀ (w : Str) (L : PyData), ((w = "presses" ∧ ∃ x, ∀ u ∈ R, tv T R x u = t u) ∨ (w = "watch" ∧ ¬ ∃ x, ∀ u ∈ R, tv T R x u = t u)) → k (.tuple [PyData.str w, L])) : ToldTo R T t' k := by
  subst ht
  refine ⟨fun x _ hx => h _ _ (.inl ⟨rfl, x, hx⟩), fun q hq hd => h _ _ (.inr ⟨rfl, ?_⟩)⟩
  rintro ⟨x, hx⟩
  have := led_even hT hx hq.2
  rw [hd] at this; cases this
theorem tw_words_ok {R : List Str} {ws : List Wire} {own : Bool} {g s : Str} (hH : HOk R ws) (hg : g ∈ R) (hs : s ∈ R) (hgs : g ≠ s) (tw : ∀ u ∈ R, tch own ws g u = tch own ws s u) {n : Nat} {i : Nat} {t : Str → Bool} {k : Ks} {s4 s5 s6 s7 s8 s15 s16 s17 s18 : Sl} {d11 : PyData}
    (hk : ∀ s15 s16 s18, k.nx [.val strmP, .val (lawD R ws), .val (hallD R ws), .val (kd own), s4, s5, s6, s7, s8, .val (PyData.str g), .val (PyData.str s), .val d11, .val (hallD (R.filter fun a => decide (a ≠ g)) (wIn (fun a => decide (a ≠ g)) ws)), .val (.int (i : Nat)), .val (lotD R t), s15, s16, s17, s18] n) :
    tw_words [.val strmP, .val (lawD R ws), .val (hallD R ws), .val (kd own), s4, s5, s6, s7, s8, .val (PyData.str g), .val (PyData.str s), .val d11, .val (hallD (R.filter fun a => decide (a ≠ g)) (wIn (fun a => decide (a ≠ g)) ws)), .val (.int (i : Nat)), .val (lotD R t), s15, s16, s17, s18] n k := by
  have z := sz
  have hz := hH.len
  unfold tw_words
  walk_at "my_wp"
  have hT := tch_sym own ws R
  have hne : R.filter (fun a => decide (a ≠ g)) ≠ [] := fun h => by
    have := List.filter_eq_nil_iff.mp h s hs
    simp at this
    exact hgs this.symm
  have hH' := hH.sub _ hne
  have hft := filter_len t R
  have fin : ∀ (w : Str) (b : Bool) (d : PyData) (r : Ks → Prop), True := fun _ _ _ _ => trivial
  refine ⟨by omega, R, ws, own, fun _ => false, t, hH, by rw [lotD_no], told_word (t := t) hT (by funext r; simp) fun w L hw => ?_⟩
  refine ⟨_, rfl, by omega, ?_⟩
  refine lcW_pure (fun z => PyData.str z) (fun z => !decide (z = g)) (fun z => PyData.str z) (R.filter t) _ _ (fun x hx => ⟨_, rfl, fun K hK => ?_, fun _ K hK => ?_⟩) (by simp; omega) ?_
  · walk_at "my_wp"
    exact hK
  · walk_at "my_wp"
    exact hK
  rw [List.nil_append]
  have hout : (R.filter t).filter (fun z => !decide (z = g)) = (R.filter fun a => decide (a ≠ g)).filter t := by
    rw [List.filter_filter, List.filter_filter]
    refine List.filter_congr fun a _ => ?_
    rw [Bool.and_comm]; simp
  rw [hout]
  refine ⟨_, _, own, fun _ => false, t, hH', by rw [lotD_no]; rfl, told_word (t := t) (tch_sym own _ _) (by funext r; simp) fun w2 L2 hw2 => ?_⟩
  have hl2 : (∃ x, ∀ u ∈ R.filter (fun a => decide (a ≠ g)), tv (tch own (wIn (fun a => decide (a ≠ g)) ws)) (R.filter fun a => decide (a ≠ g)) x u = t u) ↔ ∃ x, ∀ u ∈ R.filter (fun a => decide (a ≠ g)), tv (tch own ws) (R.filter fun a => decide (a ≠ g)) x u = t u :=
    ⟨fun ⟨x, hx⟩ => ⟨x, (led_in x t).mp hx⟩, fun ⟨x, hx⟩ => ⟨x, (led_in x t).mpr hx⟩⟩
  rw [hl2] at hw2
  have hled := twin_led hH.up.nodup hT hg hs hgs tw t
  refine ⟨_, rfl, ?_⟩
  have e1 : decide (g ∈ R.filter t) = t g := by rw [Bool.eq_iff_iff]; simp [List.mem_filter, hg]
  have e2 : decide (s ∈ R.filter t) = t s := by rw [Bool.eq_iff_iff]; simp [List.mem_filter, hs]
  rw [e1, e2]
  show oEq (.bool (t g)) (.bool (t s)) _
  rw [oEq_bool]
  by_cases hts : t g = t s
  · rw [decide_eq_true hts]
    rcases hw2 with ⟨rfl, h2⟩ | ⟨rfl, h2⟩
    · have h1 : w = "presses" := by
        rcases hw with ⟨h, _⟩ | ⟨_, h⟩
        · exact h
        · exact absurd (hled.mpr ⟨hts, h2⟩) h
      subst h1
      walk_at "my_wp"
      simp only [decide_true]
      walk_at "my_wp"
      exact ⟨PyData.str "presses", trivial, rfl, hk _ _ _⟩
    · have h1 : w = "watch" := by
        rcases hw with ⟨_, h⟩ | ⟨h, _⟩
        · exact absurd (hled.mp h).2 h2
        · exact h
      subst h1
      walk_at "my_wp"
      rw [decide_eq_false (show ¬ ("watch" : Str) = "presses" by decide)]
      walk_at "my_wp"
      exact ⟨PyData.str "watch", trivial, rfl, hk _ _ _⟩
  · rw [decide_eq_false hts]
    have h1 : w = "watch" := by
      rcases hw with ⟨_, h⟩ | ⟨h, _⟩
      · exact absurd (hled.mp h).1 hts
      · exact h
    subst h1
    walk_at "my_wp"
    exact ⟨PyData.str "watch", trivial, rfl, hk _ _ _⟩
theorem tw_turn_ok {R : List Str} {ws : List Wire} {own : Bool} {g s : Str} (hH : HOk R ws) (hg : g ∈ R) (hs : s ∈ R) (hgs : g ≠ s) (tw : ∀ u ∈ R, tch own ws g u = tch own ws s u) {n : Nat} {i : Nat} {k : Ks} {s4 s5 s6 s7 s8 s14 s15 s16 s17 s18 : Sl} {d11 : PyData} (hn : 14 ≤ n)
    (hk : ∀ s14 s15 s16 s18 n', n ≤ n' + 14 → k.nx [.val strmP, .val (lawD R ws), .val (hallD R ws), .val (kd own), s4, s5, s6, s7, s8, .val (PyData.str g), .val (PyData.str s), .val d11, .val (hallD (R.filter fun a => decide (a ≠ g)) (wIn (fun a => decide (a ≠ g)) ws)), .val (.int (i : Nat)), s14, s15, s16, s17, s18] n') :
    tw_turn [.val strmP, .val (lawD R ws), .val (hallD R ws), .val (kd own), s4, s5, s6, s7, s8, .val (PyData.str g), .val (PyData.str s), .val d11, .val (hallD (R.filter fun a => decide (a ≠ g)) (wIn (fun a => decide (a ≠ g)) ws)), .val (.int (i : Nat)), s14, s15, s16, s17, s18] n k := by
  have z := sz
  unfold tw_turn
  walk_at "my_wp"
  by_cases h1 : (1 : Int) < i
  · rw [if_pos (decide_eq_true h1)]
    refine ⟨R, ws, hH, rfl, hn, fun t n1 hn1 => ?_⟩
    exact tw_words_ok hH hg hs hgs tw fun _ _ _ => hk _ _ _ _ _ hn1
  · rw [if_neg (by rw [decide_eq_true_eq]; exact h1)]
    refine ⟨by omega, R, ws, hH, rfl, hn, fun t n1 hn1 => ?_⟩
    refine ⟨R, ws, own, fun _ => false, t, hH, by rw [lotD_no], ?_⟩
    exact tw_words_ok hH hg hs hgs tw fun _ _ _ => hk _ _ _ _ _ hn1
theorem tw_turns_ok {R : List Str} {ws : List Wire} {own : Bool} {g s : Str} (hH : HOk R ws) (hg : g ∈ R) (hs : s ∈ R) (hgs : g ≠ s) (tw : ∀ u ∈ R, tch own ws g u = tch own ws s u) {n : Nat} {k : Ks} {s4 s5 s6 s7 s8 s13 s14 s15 s16 s17 s18 : Sl} {d11 : PyData} (hn : 60 ≤ n)
    (hk : ∀ s13 s14 s15 s16 s18 n', n ≤ n' + 60 → k.nx [.val strmP, .val (lawD R ws), .val (hallD R ws), .val (kd own), s4, s5, s6, s7, s8, .val (PyData.str g), .val (PyData.str s), .val d11, .val (hallD (R.filter fun a => decide (a ≠ g)) (wIn (fun a => decide (a ≠ g)) ws)), s13, s14, s15, s16, s17, s18] n') :
    tw_turns [.val strmP, .val (lawD R ws), .val (hallD R ws), .val (kd own), s4, s5, s6, s7, s8, .val (PyData.str g), .val (PyData.str s), .val d11, .val (hallD (R.filter fun a => decide (a ≠ g)) (wIn (fun a => decide (a ≠ g)) ws)), s13, s14, s15, s16, s17, s18] n k := by
  unfold tw_turns
  walk_at "my_wp"
  refine ⟨by decide, by decide, ?_⟩
  refine forW_it (fun i : Nat => .int (i : Nat)) (fun done γ n' => ∃ s13 s14 s15 s16 s18, γ = [.val strmP, .val (lawD R ws), .val (hallD R ws), .val (kd own), s4, s5, s6, s7, s8, .val (PyData.str g), .val (PyData.str s), .val d11, .val (hallD (R.filter fun a => decide (a ≠ g)) (wIn (fun a => decide (a ≠ g)) ws)), s13, s14, s15, s16, s17, s18] ∧ n ≤ n' + done.length * 14) (List.range (Int.toNat 4)) ⟨_, _, _, _, _, rfl, by simp⟩ ?_ ?_
  · rintro done i rest γ n1 e ⟨s13, s14, s15, s16, s18, rfl, hn1⟩
    have hdl : done.length + 1 ≤ 4 := by
      have := congrArg List.length e
      simp at this; omega
    refine ⟨_, rfl, fun K hK => ?_⟩
    refine tw_turn_ok hH hg hs hgs tw (by omega) fun s14 s15 s16 s18 n2 hn2 => hK _ _ ⟨_, _, _, _, _, rfl, by rw [List.length_append]; simp; omega⟩
  · rintro γ n1 ⟨s13, s14, s15, s16, s18, rfl, hn1⟩
    simp at hn1
    exact hk _ _ _ _ _ _ (by omega)
theorem twinsL_mem {T : Str → Str → Bool} {R : List Str} {a b : Str} : ∀ {l : List Str}, l.Nodup → (∀ r ∈ l, r ∈ R) → (a, b) ∈ twinsL T R l → a ∈ R ∧ b ∈ R ∧ a ≠ b ∧ ∀ u ∈ R, T a u = T b u
  | [], _, _, h => by cases h
  | c :: l, nd, hl, h => by
    rw [List.nodup_cons] at nd
    rcases List.mem_append.mp h with h | h
    · obtain ⟨x, hx, e⟩ := List.mem_map.mp h
      obtain ⟨hx, h2⟩ := List.mem_filter.mp hx
      have h2 := of_decide_eq_true h2
      have e1 : c = a := congrArg Prod.fst e
      have e2 : x = b := congrArg Prod.snd e
      subst e1
      subst e2
      refine ⟨hl _ (List.mem_cons_self ..), hl _ (List.mem_cons_of_mem _ hx), fun e => nd.1 (e ▸ hx), fun u hu => ?_⟩
      have : u ∈ R.filter (T c) ↔ u ∈ R.filter (T x) := by rw [h2]
      rw [List.mem_filter, List.mem_filter] at this
      rw [Bool.eq_iff_iff]
      simpa [hu] using this
    · exact twinsL_mem nd.2 (fun r hr => hl r (List.mem_cons_of_mem _ hr)) h
theorem tw_rest_ok {R : List Str} {ws : List Wire} {own : Bool} {g s : Str} (hH : HOk R ws) (hg : g ∈ R) (hs : s ∈ R) (hgs : g ≠ s) (tw : ∀ u ∈ R, tch own ws g u = tch own ws s u) {n : Nat} {k : Ks} {s4 s5 s6 s7 s8 s11 s12 s13 s14 s15 s16 s17 s18 : Sl} (hn : 60 ≤ n)
    (hk : ∀ s11 s12 s13 s14 s15 s16 s18 n', n ≤ n' + 60 → k.nx [.val strmP, .val (lawD R ws), .val (hallD R ws), .val (kd own), s4, s5, s6, s7, s8, .val (PyData.str g), .val (PyData.str s), s11, s12, s13, s14, s15, s16, s17, s18] n') :
    tw_rest [.val strmP, .val (lawD R ws), .val (hallD R ws), .val (kd own), s4, s5, s6, s7, s8, .val (PyData.str g), .val (PyData.str s), s11, s12, s13, s14, s15, s16, s17, s18] n k := by
  have z := sz
  have hz := hH.len
  have nR := hH.up.nodup
  have hT := tch_sym own ws R
  have hne : R.filter (fun a => decide (a ≠ g)) ≠ [] := fun h => by
    have := List.filter_eq_nil_iff.mp h s hs
    simp at this
    exact hgs this.symm
  have hH' := hH.sub _ hne
  have hp : (fun r => !decide (r ∈ [g])) = fun a => decide (a ≠ g) := by
    funext a
    rw [Bool.eq_iff_iff]
    simp
  have hlen2 : 2 ≤ R.length := by
    have := nodup_sub_len (l := [g, s]) (m := R) (by simp [hgs]) (fun x hx => by
      simp at hx
      rcases hx with rfl | rfl
      · exact hg
      · exact hs)
    exact this
  unfold tw_rest
  walk_at "my_wp"
  refine ⟨by omega, R, ws, [g], hH, rfl, by omega, ?_⟩
  refine ⟨R, ws, false, [g], hH, by simp, fun r hr => by rw [List.mem_singleton.mp hr]; exact hg, by simp; omega, rfl, ?_⟩
  rw [hp]
  refine ⟨_, _, own, hH', rfl, fun B hB => ?_⟩
  obtain ⟨b, hbp, hbe⟩ := sort_as (lotD (R.filter fun a => decide (a ≠ g))) B
  rw [hbe]
  have hbl := hbp.length_eq
  have hBl := hB.len hH'.up.nodup hH'.len
  walk_at "my_wp"
  refine ⟨by first | exact trivial | omega | (constructor <;> omega), ?_⟩
  refine ⟨R, ws, own, hH, rfl, fun A hA => ?_⟩
  obtain ⟨a, hap, hae⟩ := sort_as (lotD R) A
  rw [hae]
  have hal := hap.length_eq
  have h2 : 2 * B.length = A.length := twin_count nR hT hg hs hgs tw hA.1 hB.1 hA.2 fun x => (hB.2 x).trans (Qt_in x)
  walk_at "my_wp"
  rw [List.length_map, List.length_map, hbl, hal, ← h2, decide_eq_true (by omega), Bool.not_true, if_neg (by simp)]
  refine ⟨_, _, own, hH', rfl, fun B2 hB2 => ?_⟩
  obtain ⟨b2, hbp2, hbe2⟩ := sort_as (lotD (R.filter fun a => decide (a ≠ g))) B2
  rw [hbe2]
  walk_at "my_wp"
  refine ⟨_, _, own, hH', rfl, fun C hC => ?_⟩
  have hBC : B2.length = C.length := length_same hB2.1 hC.1 fun x => (hB2.2 x).trans (hC.2 x).symm
  have hbl2 := hbp2.length_eq
  walk_at "my_wp"
  rw [List.length_map, List.length_map, hbl2, hBC, decide_eq_true rfl, Bool.not_true, if_neg (by simp)]
  exact tw_turns_ok hH hg hs hgs tw hn fun _ _ _ _ _ _ hn' => hk _ _ _ _ _ _ _ _ hn'
theorem tw_pair_ok {R : List Str} {ws : List Wire} {own : Bool} {a b : Str} (hH : HOk R ws) (ha : a ∈ R) (hb : b ∈ R) (hab : a ≠ b) (tw : ∀ u ∈ R, tch own ws a u = tch own ws b u) {n : Nat} {k : Ks} {s4 s5 s8 s9 s10 s11 s12 s13 s14 s15 s16 s17 s18 : Sl} (hn : 61 ≤ n)
    (hk : ∀ s9 s10 s11 s12 s13 s14 s15 s16 s18 n', n ≤ n' + 61 → k.nx [.val strmP, .val (lawD R ws), .val (hallD R ws), .val (kd own), s4, s5, .val (PyData.str a), .val (PyData.str b), s8, s9, s10, s11, s12, s13, s14, s15, s16, s17, s18] n') :
    tw_pair [.val strmP, .val (lawD R ws), .val (hallD R ws), .val (kd own), s4, s5, .val (PyData.str a), .val (PyData.str b), s8, s9, s10, s11, s12, s13, s14, s15, s16, s17, s18] n k := by
  have z := sz
  have hz := hH.len
  unfold tw_pair
  walk_at "my_wp"
  refine ⟨2, n - 1, rfl, by omega, by omega, by omega, fun i hi => ?_⟩
  walk_at "my_wp"
  by_cases h0 : (i : Int) = 0
  · rw [if_pos (decide_eq_true h0)]
    refine ⟨by omega, ?_⟩
    exact tw_rest_ok hH ha hb hab tw (by omega) fun _ _ _ _ _ _ _ _ hn' => hk _ _ _ _ _ _ _ _ _ _ (by omega)
  · rw [if_neg (by rw [decide_eq_true_eq]; exact h0)]
    refine ⟨by omega, ?_⟩
    exact tw_rest_ok hH hb ha (Ne.symm hab) (fun u hu => (tw u hu).symm) (by omega) fun _ _ _ _ _ _ _ _ hn' => hk _ _ _ _ _ _ _ _ _ _ (by omega)
theorem k_law_twins_right : Keeps N_law_twins_right ["stream", "hall", "made", "kind"] sp_law_twins_right (b_law_twins_right SP) := by
  rintro ds n k hl ⟨R, ws, own, hH, hR8, rfl, hn, hk⟩
  rw [twins_parts]
  have z := sz
  have hz := hH.len
  have nR := hH.up.nodup
  unfold mSpoil
  walk_at "my_wp"
  refine ⟨by omega, ?_⟩
  refine tw_due_ok hH fun s5 s6 s7 => ?_
  have htl := twinsL_len (tch own ws) R R
  have h64 : R.length * R.length ≤ 8 * 8 := Nat.mul_le_mul hR8 hR8
  generalize hW : twinsL (tch own ws) R R = W at htl
  walk_at "my_wp"
  refine ⟨R, ws, own, hH, rfl, ?_⟩
  rw [hW]
  unfold mCallK
  walk_at "my_wp"
  refine ⟨rfl, R, ws, own, hH, rfl, ?_⟩
  rw [hW]
  refine ⟨by decide, ⟨_, _, rfl, rfl, by rw [List.length_map]; omega, by rw [List.length_map]; omega, flat_wires _, flat_wires _⟩, by omega, ?_⟩
  refine ⟨_, plain_two (plain_wires 2 W (by omega)) (plain_wires 2 W (by omega)), rfl, rfl, ?_⟩
  refine ⟨false, W.map dW, n - W.length, rfl, by simp; omega, by simp; omega, fun m hm => ?_⟩
  obtain ⟨vs, hvs, rfl⟩ := perm_map_inv _ hm
  rw [oSl_list, show (2 : Int) = ((2 : Nat) : Int) from rfl, cutP_to, ← List.map_take]
  refine ⟨_, rfl, ?_⟩
  refine forW_it dW (fun done γ n' => ∃ s5 s6 s7 s9 s10 s11 s12 s13 s14 s15 s16 s18, γ = [.val strmP, .val (lawD R ws), .val (hallD R ws), .val (kd own), .val (wiresD W), s5, s6, s7, .no, s9, s10, s11, s12, s13, s14, s15, s16, .no, s18] ∧ n - W.length ≤ n' + done.length * 61) (vs.take 2) ⟨_, _, _, _, _, _, _, _, _, _, _, _, rfl, by simp⟩ ?_ ?_
  · rintro done ⟨a, b⟩ rest γ n1 e ⟨s5, s6, s7, s9, s10, s11, s12, s13, s14, s15, s16, s18, rfl, hn1⟩
    have hdl : done.length + 1 ≤ 2 := by
      have h1 := congrArg List.length e
      rw [List.length_take] at h1
      simp at h1; omega
    have hab : (a, b) ∈ W := hvs.mem_iff.mp (List.mem_of_mem_take (show (a, b) ∈ vs.take 2 by rw [e]; simp))
    rw [← hW] at hab
    obtain ⟨ha, hb, hne, tw⟩ := twinsL_mem nR (fun r hr => hr) hab
    refine ⟨_, rfl, fun K hK => ?_⟩
    refine tw_pair_ok hH ha hb hne tw (by omega) fun _ _ _ _ _ _ _ _ _ n2 hn2 => hK _ _ ⟨_, _, _, _, _, _, _, _, _, _, _, _, rfl, by rw [List.length_append]; simp; omega⟩
  · rintro γ n1 ⟨s5, s6, s7, s9, s10, s11, s12, s13, s14, s15, s16, s18, rfl, hn1⟩
    rw [List.length_take] at hn1
    exact hk _ (by omega)
end W
namespace W
open PySem PySem.Spec PySem.W PyProof.Rows L2 DL GF
def R4 : List Str := ["a", "b", "c", "d"]
def W4 : List Wire := [("a", "b"), ("a", "c"), ("a", "d"), ("b", "c"), ("c", "d")]
def V4 : List Wire := [("a", "b"), ("b", "c"), ("c", "d"), ("a", "d"), ("a", "c")]
def R3 : List Str := ["p", "q", "r"]
def W3 : List Wire := [("p", "q")]
theorem nameOk_one (z : Str) (h1 : z.length = 1) (h2 : (z.cps.toList.all fun c => decide (c ∈ letters.cps.toList)) = true) : NameOk z := ⟨by omega, by omega, fun c hc => of_decide_eq_true (List.all_eq_true.mp h2 c hc)⟩
theorem hok4 : HOk R4 W4 where
  up := by decide +kernel
  ne := by decide
  len := by decide
  nam := fun r hr => by
    simp only [R4, List.mem_cons, List.not_mem_nil, or_false] at hr
    rcases hr with rfl | rfl | rfl | rfl <;> exact nameOk_one _ (by decide +kernel) (by decide +kernel)
  upw := by decide +kernel
  mem := by decide +kernel
  wl := by decide
theorem hok3 : HOk R3 W3 where
  up := by decide +kernel
  ne := by decide
  len := by decide
  nam := fun r hr => by
    simp only [R3, List.mem_cons, List.not_mem_nil, or_false] at hr
    rcases hr with rfl | rfl | rfl <;> exact nameOk_one _ (by decide +kernel) (by decide +kernel)
  upw := by decide +kernel
  mem := by decide +kernel
  wl := by decide
theorem tw4o : twinsL (tch true W4) R4 R4 = ([("a", "c")] : List (Str × Str)) := by decide +kernel
theorem tw4a : twinsL (tch false W4) R4 R4 = ([("b", "d")] : List (Str × Str)) := by decide +kernel
theorem wi4 : wIn (fun r => !decide (r ∈ (["a", "c"] : List Str))) W4 = [] := by decide +kernel
theorem en3 : endsL W3 R3 = ([("p", "q"), ("q", "p")] : List (Str × Str)) := by decide +kernel
theorem perm4 : V4.Perm W4 := by decide +kernel
def lw_turn : MS := (mSeq (mSet 3 (mCall 2 SP.law_pick (mCons (mVar 1) (mCons (mLst (mCons (mC (.str "own")) (mCons (mC (.str "around")) mNil))) mNil)))) (mSeq (mSet 4 (mCall 3 SP.law_with (mCons (mVar 1) (mCons (mCall 3 SP.law_hall (mCons (mVar 1) (mCons (mC (.int 6)) (mCons (mC (.int 10)) mNil)))) (mCons (mVar 3) mNil))))) (mSeq (mPar 5 6 none none (mCall 2 SP.law_made (mCons (mVar 1) (mCons (mVar 4) mNil))) (mON (on1 oRepr) (mCons (mVar 4) mNil))) (mSeq (mIfS (mOrT (mNotT (mB (mCall 3 SP.law_lots_right (mCons (mVar 1) (mCons (mVar 4) (mCons (mVar 5) mNil)))))) (mNotT (mB (mCall 4 SP.law_twins_right (mCons (mVar 1) (mCons (mVar 4) (mCons (mVar 5) (mCons (mVar 3) mNil)))))))) (mRet (mC (.bool false))) mSkip) (mIfS (mOrT (mNotT (mB (mCall 2 SP.law_ends_right (mCons (mVar 4) (mCons (mVar 5) mNil))))) (mB (mOp oNe (mON (on1 oRepr) (mCons (mVar 4) mNil)) (mVar 6)))) (mRet (mC (.bool false))) mSkip)))))
def lw_loop : MS := (mFor (mRange1 (mCons (mC (.int 6)) mNil)) (tgN 2) lw_turn)
def lw_end : MS := (mSeq (mSet 5 (mCall 2 SP.Hall (mCons (mLst (mCons (mC (.str "a")) (mCons (mC (.str "b")) (mCons (mC (.str "c")) (mCons (mC (.str "d")) mNil))))) (mCons (mLst (mCons (mTup (mCons (mC (.str "a")) (mCons (mC (.str "b")) mNil))) (mCons (mTup (mCons (mC (.str "b")) (mCons (mC (.str "c")) mNil))) (mCons (mTup (mCons (mC (.str "c")) (mCons (mC (.str "d")) mNil))) (mCons (mTup (mCons (mC (.str "a")) (mCons (mC (.str "d")) mNil))) (mCons (mTup (mCons (mC (.str "a")) (mCons (mC (.str "c")) mNil))) mNil)))))) mNil)))) (mSeq (mSet 7 (mLst (mCons (mCall 2 SP.twins (mCons (mVar 5) (mCons (mC (.str "own")) mNil))) (mCons (mCall 2 SP.twins (mCons (mVar 5) (mCons (mC (.str "around")) mNil))) (mCons (mMeth "Hall" "wires" 1 SP.Hall_wires (mCall 2 SP.without_rooms (mCons (mVar 5) (mCons (mLst (mCons (mC (.str "a")) (mCons (mC (.str "c")) mNil))) mNil))) mNil) (mCons (mCall 1 SP.ends (mCons (mCall 2 SP.Hall (mCons (mLst (mCons (mC (.str "p")) (mCons (mC (.str "q")) (mCons (mC (.str "r")) mNil)))) (mCons (mLst (mCons (mTup (mCons (mC (.str "p")) (mCons (mC (.str "q")) mNil))) mNil)) mNil))) mNil)) mNil)))))) (mRet (mCall 2 SP.law_same (mCons (mVar 7) (mCons (mLst (mCons (mLst (mCons (mTup (mCons (mC (.str "a")) (mCons (mC (.str "c")) mNil))) mNil)) (mCons (mLst (mCons (mTup (mCons (mC (.str "b")) (mCons (mC (.str "d")) mNil))) mNil)) (mCons (mLst mNil) (mCons (mLst (mCons (mTup (mCons (mC (.str "p")) (mCons (mC (.str "q")) mNil))) (mCons (mTup (mCons (mC (.str "q")) (mCons (mC (.str "p")) mNil))) mNil))) mNil))))) mNil))))))
theorem law_parts : b_law SP = (mSeq lw_loop (mSeq (mSet 4 (mCall 3 SP.law_hall (mCons (mVar 1) (mCons (mC (.int 12)) (mCons (mC (.int 24)) mNil))))) (mSeq (mIfS (mNotT (mB (mCall 3 SP.law_lots_right (mCons (mVar 1) (mCons (mVar 4) (mCons (mCall 2 SP.law_made (mCons (mVar 1) (mCons (mVar 4) mNil))) mNil)))))) (mRet (mC (.bool false))) mSkip) lw_end))) := rfl
theorem lw_end_ok {n : Nat} {k : Ks} {s0 s1 s2 s3 s4 s5 s6 s7 : Sl} (hk : k.rt (.bool true) n) : lw_end [s0, s1, s2, s3, s4, s5, s6, s7] n k := by
  have z := sz
  unfold lw_end
  walk_at "my_wp"
  refine ⟨by omega, by omega, by omega, by omega, by omega, by omega, by omega, ?_⟩
  refine ⟨R4, W4, false, R4, false, V4, V4.map dW, hok4, .refl _, perm4, al_wires V4, rfl, ?_⟩
  refine ⟨R4, W4, true, hok4, rfl, ?_⟩
  refine ⟨R4, W4, false, hok4, rfl, ?_⟩
  refine ⟨by omega, R4, W4, false, ["a", "c"], hok4, by decide +kernel, by decide +kernel, by decide, rfl, ?_⟩
  rw [wi4]
  refine ⟨_, rfl, rfl, _, _, rfl, ?_⟩
  refine ⟨by omega, by omega, by omega, ?_⟩
  refine ⟨R3, W3, false, R3, false, W3, W3.map dW, hok3, .refl _, .refl _, al_wires W3, rfl, ?_⟩
  refine ⟨R3, W3, hok3, rfl, ?_⟩
  rw [tw4o, tw4a, en3]
  refine ⟨by omega, by omega, by omega, by omega, by omega, by omega, by omega, by omega, by omega, by omega, ?_⟩
  refine ⟨_, ?_, rfl, hk⟩
  refine plain_list 4 (by simp) fun d hd => ?_
  simp only [List.mem_cons, List.not_mem_nil, or_false] at hd
  rcases hd with rfl | rfl | rfl | rfl
  · exact plain_wires 2 [("a", "c")] (by simp)
  · exact plain_wires 2 [("b", "d")] (by simp)
  · exact plain_wires 2 [] (by simp)
  · exact plain_wires 2 [("p", "q"), ("q", "p")] (by simp)
theorem lw_turn_ok {n i : Nat} {k : Ks} {s0 s3 s4 s5 s6 s7 : Sl} (hn : 5000 ≤ n) (hk : ∀ s3 s4 s5 s6 n', n ≤ n' + 5000 → k.nx [s0, .val strmP, .val (.int (i : Nat)), s3, s4, s5, s6, s7] n') : lw_turn [s0, .val strmP, .val (.int (i : Nat)), s3, s4, s5, s6, s7] n k := by
  have z := sz
  unfold lw_turn
  walk_at "my_wp"
  refine ⟨by omega, _, n - 1, rfl, by simp [pickable], by simp [pickable], by omega, fun d hd => ?_⟩
  obtain ⟨own, rfl⟩ : ∃ own, d = kd own := by
    simp only [pickable, List.mem_cons, List.not_mem_nil, or_false] at hd
    rcases hd with rfl | rfl
    · exact ⟨true, rfl⟩
    · exact ⟨false, rfl⟩
  refine ⟨6, 10, rfl, by omega, by omega, by omega, by omega, fun R ws n1 hH hR hw hn1 => ?_⟩
  refine ⟨R, ws, own, hH, by omega, by omega, rfl, by omega, fun R' ws' n2 hH' hR' hn2 => ?_⟩
  refine ⟨R', ws', hH', rfl, by omega, fun n3 hn3 => ?_⟩
  refine repr_law hH' ?_
  refine ⟨R', ws', hH', rfl, by omega, fun n4 hn4 => ?_⟩
  refine ⟨R', ws', own, hH', by omega, rfl, by omega, fun n5 hn5 => ?_⟩
  refine ⟨R', ws', hH', by omega, rfl, ?_⟩
  walk_at "my_wp"
  refine repr_law hH' ?_
  show oNe (.str _) (.str _) _
  rw [oNe_str, decide_eq_true rfl]
  exact hk _ _ _ _ _ (by omega)
theorem lw_ok {n : Nat} {k : Ks} {s0 s2 s3 s4 s5 s6 s7 : Sl} (hn : 40000 ≤ n) (hk : ∀ n', k.rt (.bool true) n') : b_law SP [s0, .val strmP, s2, s3, s4, s5, s6, s7] n k := by
  rw [law_parts]
  unfold lw_loop
  walk_at "my_wp"
  refine ⟨by decide, by decide, ?_⟩
  refine forW_it (fun i : Nat => .int (i : Nat)) (fun done γ n' => ∃ s2 s3 s4 s5 s6, γ = [s0, .val strmP, s2, s3, s4, s5, s6, s7] ∧ n ≤ n' + done.length * 5000) (List.range (Int.toNat 6)) ⟨_, _, _, _, _, rfl, by simp⟩ ?_ ?_
  · rintro done i rest γ n1 e ⟨s2, s3, s4, s5, s6, rfl, hn1⟩
    have hdl : done.length + 1 ≤ 6 := by
      have := congrArg List.length e
      simp at this; omega
    refine ⟨_, rfl, fun K hK => ?_⟩
    exact lw_turn_ok (by omega) fun s3 s4 s5 s6 n2 hn2 => hK _ _ ⟨_, _, _, _, _, rfl, by rw [List.length_append]; simp; omega⟩
  · rintro γ n1 ⟨s2, s3, s4, s5, s6, rfl, hn1⟩
    simp at hn1
    walk_at "my_wp"
    refine ⟨12, 24, rfl, by omega, by omega, by omega, by omega, fun R ws n2 hH hR hw hn2 => ?_⟩
    refine ⟨R, ws, hH.toHOk, rfl, by omega, fun n3 hn3 => ?_⟩
    refine ⟨R, ws, hH.toHOk, rfl, by omega, fun n4 hn4 => ?_⟩
    exact lw_end_ok (hk _)
end W
namespace DL
open PySem PySem.Spec PyProof.Rows L2
theorem kbn_of {K : PySem.W.Frag} {x qual : Str} {params : Arguments} {body : List Stmt} {scope : Scope} {f : Addr} {fd : FuncData} {ps ks : List Str} {ix : List Nat} (F : FunD K x qual params body scope [] [] f fd)
    (h : ∀ (kV doc pm : Value) (an : Option Addr) (cdv ct : Value) (ws : List Value), ws.length = ks.length → bindArgs (PySem.W.fnOf x qual params body scope .none kV doc pm an cdv ct) ⟨[], ks.zip ws⟩ = pure (ps.zip (pick ix ws))) :
    KBn K fd ps 0 ks (fun _ ws => pick ix ws) (fun _ ws => pick ix ws) := by
  obtain ⟨oc, od, dV, kV, doc, pm, an, cdv, ct, osl, rfl, lk, hcd, hD, hK⟩ := F.ex
  rcases hD with ⟨_, rfl⟩ | ⟨e, _⟩
  · refine ⟨fun s us ws _ hl hw => ?_, fun _ r => pick_vals r⟩
    cases List.eq_nil_of_length_eq_zero hl
    exact .of_eq (h kV doc pm an cdv ct ws hw)
  · exact absurd rfl e
def spLaw (K : PySem.W.Frag) : Sp := fun vs H Q _ => ∃ (a : Addr) (ns : List Int), vs = [.ref a] ∧ Only H ∧ SqL K H a (ns.map V.int) ∧ ns.length ≤ 63 ∧ (∀ z ∈ ns, Builtin.Int.intBits z ≤ 1048576) ∧ ∀ H', Q (.bl true) H'
theorem track {P : Program} {w : World} {K : PySem.W.Frag} {h : Heap} {a : Addr} {vs : List Value} {ns : List Int} (X : K.In h) (ha : h.get? a = some { cls := .type "list", data := .seq vs.toArray }) (hi : IntsAre vs ns) (hl : ns.length ≤ sizeLine) :
    ∃ H : Hp, Only H ∧ SqL K H a (ns.map V.int) ∧ HOk P w H h ∧ ∀ b u, H b = some u → b = a ∧ K.lookup a = none := by
  have rel := vals_ints hi
  cases q : K.lookup a with
  | none =>
    let lst : HO := .frz { cls := .type "list", data := .seq vs.toArray } (.lst (ns.map V.int))
    have at_a : ∀ b u, (if b = a then some lst else none) = some u → b = a ∧ u = lst := fun b u z => by
      split at z
      · exact ⟨‹_›, (Option.some.inj z).symm⟩
      · cases z
    refine ⟨fun b => if b = a then some lst else none, fun b => ?_, .inl (.inr ⟨{ cls := .type "list", data := .seq vs.toArray }, if_pos rfl⟩), fun b u z => ?_, fun b u z => ⟨(at_a b u z).1, rfl⟩⟩
    · by_cases e : b = a
      · exact .inr ⟨_, _, if_pos e⟩
      · exact .inl (if_neg e)
    · obtain ⟨rfl, rfl⟩ := at_a b u z
      exact ⟨ha, (List.length_map (as := ns) V.int).symm ▸ hl, vs, _, rel, ha⟩
  | some o =>
    have same := X a o q
    rw [ha] at same
    cases same
    have sz : vs.toArray.size ≤ sizeLine := by
      have := hi.length
      rw [List.size_toArray]; omega
    refine ⟨fun _ => none, fun _ => .inl rfl, .inr ⟨_, vs.toArray, _, q, rfl, rfl, rfl, sz, by simpa using rel⟩, fun b u z => ?_, fun b u z => ?_⟩
    · exact nomatch (show (none : Option HO) = some u from z)
    · exact nomatch (show (none : Option HO) = some u from z)
theorem law_callG {P : Program} {w : World} {K : PySem.W.Frag} {mg mb : Str → Option Value} {k : Nat} {fa a : Addr} {fd : FuncData} {x : Str} {s : Shared} {vs : List Value} {ns : List Int}
    (X : K.In s.heap) (h1 : s.heap.Ns mainGlobals mg) (h2 : s.heap.Ns builtinsNs mb) (h3 : ∀ x : Str, x ≠ "__name__" → mb x = bootBuiltins x) (h4 : s.heap.NoLimit) (h5 : s.gens = #[])
    (ha : s.heap.get? a = some { cls := .type "list", data := .seq vs.toArray }) (hi : IntsAre vs ns) (hl : ns.length ≤ 63) (hbt : ∀ z ∈ ns, Builtin.Int.intBits z ≤ 1048576) (hr : Room k callerA)
    (F : ∀ base : Heap, K.In base → base.Ns mainGlobals mg → FnG P w K mg base CX0 k fa fd [x] (spLaw K)) (bind : ∀ (s : Shared) (u : Value), BindsTo s fd ⟨[u], []⟩ [(x, u)]) :
    codeAny (model P w) callerA (.call (.ref fa) ⟨[.ref a], []⟩) (fun r s' => r = .ok (.ret (.bool true)) ∧ OldK s.heap s'.heap ∧ s'.os = s.os ∧ AllBare s'.gens) s := by
  obtain ⟨H, only, sq, hok, dom⟩ := track (P := P) (w := w) X ha hi (Nat.le_trans hl (by decide))
  have out : ∀ {b : Addr} {o : Obj}, s.heap.get? b = some o → (b = a → ∃ c, K.lookup a = some c ∨ o.data ≠ .seq vs.toArray 0) → H b = none := fun {b o} e n => by
    cases q : H b with
    | none => rfl
    | some u =>
      obtain ⟨rfl, kn⟩ := dom b u q
      obtain ⟨c, n | n⟩ := n rfl
      · rw [kn] at n; cases n
      · rw [ha] at e; cases e; exact absurd rfl n
  have names : ∀ {b : Addr} {m : Str → Option Value}, s.heap.Ns b m → (hidT s.heap H).Ns b m := fun {b m} ⟨o, es, ep, e, d, r⟩ =>
    ⟨o, es, ep, hidT_get e (out e fun _ => ⟨o, .inr (by rw [d]; exact fun z => by cases z)⟩), d, r⟩
  have inb : K.In (hidT s.heap H) := fun b o e => hidT_get (X b o e) (out (X b o e) fun z => ⟨o, .inl (by rw [← z]; exact e)⟩)
  have mod : Mod K mg (hidT s.heap H) := by
    obtain ⟨mc, q1, q2⟩ := h4
    exact ⟨inb, names h1, ⟨mb, names h2, h3⟩, mc, names q1, q2⟩
  have env : Env0 P w K mg (hidT s.heap H) callerA [] s H :=
    { frames := rfl, mod := mod, bs := fun b o e => of_hidT e, bsz := Nat.le_of_eq (hidT_size _ _), funs := trivial, frf := fun b hb => (List.not_mem_nil hb).elim, hok := hok, bare := .of_eq h5 }
  refine codeAny_mono ((F _ inb (names h1)).run callerA [] s H ⟨[.ref a], []⟩ [.ref a] [.ref a] (fun v _ => v = .bl true) (fun _ _ _ => False) rfl hr env (bind s (.ref a)) (.cons rfl .nil) ⟨a, ns, rfl, only, sq, hl, hbt, fun _ => rfl⟩) fun r s' q => ?_
  match r, q with
  | .error e, q => exact (show False from q).elim
  | .ok .next, q => exact (show False from q).elim
  | .ok .brk, q => exact (show False from q).elim
  | .ok .cont, q => exact (show False from q).elim
  | .ok (.ret u), ⟨v, H', os, bare, un, hok', rv, hv⟩ =>
    cases (show v = .bl true from hv)
    cases (show u = Value.bool true from rv)
    refine ⟨rfl, OldK.of_keep fun b o e => ?_, os, bare⟩
    rcases only b with z | ⟨ob, xs, z⟩
    · exact un.keep b o e z (fun hb => (List.not_mem_nil hb).elim) List.not_mem_nil
    · have g1 := (hok b _ z).1
      have g2 := (hok' b _ (un.frzs b ob _ z)).1
      rw [e] at g1
      cases g1
      exact g2
theorem walk_G {l : PySem.W.OpenLaw} {k : Nat} {q : Program} {loose : List Str} {XP : (Str → Option Value) → Heap → Prop} {YP : World → Heap → Prop} {d : DefRec} {x : Str} (hn : l.most = some 63) (hdf : d.params.defaults = []) (hr : Room k callerA)
    (F : ∀ (w : World) (mg : Str → Option Value) (fa : Addr) (h : Heap), YP w h → h.Ns mainGlobals mg → mg d.name = some (.ref fa) →
      ∃ (K : PySem.W.Frag) (fd : FuncData), K.In h ∧ (∀ (s : Shared) (u : Value), BindsTo s fd ⟨[u], []⟩ [(x, u)]) ∧ ∀ base : Heap, K.In base → base.Ns mainGlobals mg → FnG l.prog w K mg base CX0 k fa fd [x] (spLaw K)) :
    PySem.W.WalkO q loose XP YP l.row.toRowW d [] (fun f vs => PySem.call f vs) := by
  refine Att.attach_callB hn hdf fun w s0 s mg mb fa o pm cd doc a vs ns G Y ho hd hcd hmg hobj hints hlen hbits hg => ?_
  obtain ⟨K, fd, X, hb, hF⟩ := F w mg fa _ Y G.T.g hmg
  exact law_callG X G.T.g G.T.b G.T.builtins G.T.nolimit hg hobj hints hlen hbits hr hF hb
end DL
namespace W
open PySem PySem.Spec PySem.W PyProof.Rows L2 DL GF
section
variable {P : Program} {w : World} {K : PySem.W.Frag} {mg : Str → Option Value} {base : Heap}
def spStream (K : PySem.W.Frag) : Sp := fun vs H Q _ => ∃ (a : Addr) (ns : List Int), vs = [.ref a] ∧ SqL K H a (ns.map V.int) ∧
  ∀ p1 p2, H p1 = none → H p2 = none → p1 ≠ p2 → Q (.ref p1) (upd (upd H p2 (.lst (ns.map V.int))) p1 (.lst [.ref p2, .int 0, .int 0, .int 19]))
theorem stream_ok (B : Bt mg) {f : Addr} {fd : FuncData} {x : Str} {params : Arguments}
    (FD : FunD K x "_law_stream" params (defBody s_law_stream) (defScope s_law_stream) [] [] f fd) :
    FnOk P w K mg base CX0 1 f fd ["script"] (spStream K) := by
  refine FD.ok sc_law_stream (fun vs H Q E h => by obtain ⟨a, ns, rfl, _⟩ := h; rfl) fun cdv A outer s0 H vs Q E hr h => ?_
  obtain ⟨a, ns, rfl, sq, hQ⟩ := h
  refine ⟨_, (show PSs (cxOf CX0 P w K mg base N_law_stream "_law_stream" (defScope s_law_stream) f cdv A outer s0 H E).nox (defBody s_law_stream) _ from
    (pss_one (ps_ret (pe_lst (pa_cons (pe_callTy call_list_of rfl B.list bv_list (pa_cons (pe_var (i := 0) rfl (Or.inl rfl)) pa_nil)) (pa_cons pe_int (pa_cons pe_int (pa_cons pe_int pa_nil)))))))).nox, ?_⟩
  refine ⟨.ref a, rfl, a, _, rfl, .inl sq, fun p2 h2 => ?_⟩
  refine ⟨by show 4 ≤ sizeLine; decide, fun p1 h1 => ?_⟩
  have ne : p1 ≠ p2 := fun e => by subst e; rw [upd_same] at h1; cases h1
  exact hQ p1 p2 (by rwa [upd_ne ne] at h1) h2 ne
theorem natAbs_lt {z : Int} (h : Builtin.Int.intBits z ≤ 1048576) : z.natAbs < 2 ^ 1100000 := by
  by_cases h0 : z.natAbs = 0
  · rw [h0]; exact Nat.two_pow_pos _
  · refine (Nat.log2_lt h0).mp ?_
    unfold Builtin.Int.intBits at h
    split at h
    · rename_i e; exact absurd (by simpa using e) h0
    · omega
theorem law_ok (B : Bt mg) (G : Gt K mg) (c_stream : CalR P w K mg base 1 "_law_stream" (spStream K)) 
    (hrest : ∀ {f : Addr} {cdv : Value} {A : Around} {outer : List PySem.Env} {s0 : Shared} {H : Hp} {E : XK}, A.guards = some [] → Room 11 (A.deeper (envOfC "law" (defScope s_law) s0.heap.objs.size f cdv)) →
      DSs (cxOf CX0 P w K mg base N_law "law" (defScope s_law) f cdv A outer s0 H E).nox (defBody s_law).tail (b_law SP))
    {f : Addr} {fd : FuncData} {x : Str} {params : Arguments} (FD : FunD K x "law" params (defBody s_law) (defScope s_law) [] [] f fd) :
    FnG P w K mg base CX0 12 f fd ["script"] (spLaw K) := by
  refine fnG_ok FD sc_law (fun vs H Q E h => by obtain ⟨a, ns, rfl, _⟩ := h; rfl) fun cdv A outer s0 H vs Q E hgd hr h => ?_
  obtain ⟨a, ns, rfl, only, sq, hl, hbt, hQ⟩ := h
  have nd_law : N_law.Nodup := by decide +kernel
  refine ⟨_, (show PSs (cxOf CX0 P w K mg base N_law "law" (defScope s_law) f cdv A outer s0 H E).nox (defBody s_law) _ from
    (pss_cons (ps_set (i := 1) nd_law rfl (Or.inl rfl) (pe_callR c_stream hr (by decide) rfl (pa_cons (pe_var (i := 0) rfl (Or.inl rfl)) pa_nil))) (hrest hgd hr))).nox, ?_⟩
  refine ⟨.ref a, rfl, a, ns, rfl, sq, fun p1 p2 h1 h2 ne => ?_⟩
  let H1 := upd (upd H p2 (.lst (ns.map V.int))) p1 (.lst [.ref p2, .int 0, .int 0, .int 19])
  have sz := sz
  have hp1 : H1 p1 = some (.lst [.ref p2, .int 0, .int 0, .int 19]) := upd_same
  have hp2 : H1 p2 = some (.lst (ns.map V.int)) := by
    show upd _ _ _ p2 = _
    rw [upd_ne (Ne.symm ne)]; exact upd_same
  have fr : Fr (fun _ => none) (some (p1, p2)) (2 ^ 40 - 1) H1 := by
    refine ⟨fun b o h => (by cases (show (none : Option HO) = some o from h)), fun b _ => rfl, ⟨ne, ns, 0, 0, 19, hp1, hp2, by decide, by decide, by decide, by decide, by decide, ?_, by omega, fun m hm => natAbs_lt (hbt m hm)⟩, fun b xs h => ?_⟩
    · exact Nat.two_pow_pos _
    · exfalso
      by_cases e1 : b = p1
      · rw [e1, hp1] at h; cases h
      · by_cases e2 : b = p2
        · rw [e2, hp2] at h; cases h
        · have h' : H b = some (.tup xs) := by
            have : H1 b = H b := by
              show upd _ _ _ b = _
              rw [upd_ne e1, upd_ne e2]
            rw [← this]; exact h
          rcases only b with z | ⟨o, ys, z⟩
          · rw [h'] at z; cases z
          · rw [h'] at z; cases z
  refine ⟨H1, fun _ => none, fun _ => none, fun _ => none, some (p1, p2), 2 ^ 40 - 1, [.no, .val strmP, .no, .no, .no, .no, .no, .no], 8, AgS.base fr (fun i d h => ?_) (fun i T d h => ?_) rfl, Sub.refl _, rfl, rfl, { nx := fun _ _ => False, rt := fun d _ => d = .bool true }, lw_ok (by decide) (fun _ => rfl), ?_⟩
  · match i, h with
    | 0, h => cases h
    | 1, h => cases h; exact ⟨.ref p1, rfl, .strm rfl⟩
    | 2, h => cases h
    | 3, h => cases h
    | 4, h => cases h
    | 5, h => cases h
    | 6, h => cases h
    | 7, h => cases h
    | i + 8, h => cases h
  · match i, h with
    | 0, h => cases h
    | 1, h => cases h
    | 2, h => cases h
    | 3, h => cases h
    | 4, h => cases h
    | 5, h => cases h
    | 6, h => cases h
    | 7, h => cases h
    | i + 8, h => cases h
  · refine ⟨fun _ _ h => h.elim, fun d n' hd v H' p => ?_, fun _ _ h => h.elim, fun _ _ h => h.elim⟩
    subst hd
    cases p.den.bool_inv
    exact hQ H'
end
end W
namespace DL
open PySem PySem.Spec PyProof.Rows L2
section
variable {P : Program} {w : World} {K : PySem.W.Frag} {mg : Str → Option Value} {base : Heap} {x qual : Str} {params : Arguments} {body : List Stmt} {scope : Scope} {f : Addr} {fd : FuncData} {N ps : List Str} {k : Nat} {sp : SpecD} {mb : MS}
theorem def_okG (F : FunD K x qual params body scope [] [] f fd) (S : FnScope N ps scope)
    (hb : ∀ (cdv : Value) (A : Around) (outer : List PySem.Env) (s : Shared) (H : Hp) (E : XK), A.guards = some [] → Room k (A.deeper (envOfC qual scope s.heap.objs.size f cdv)) → DSs (cxOf CX0 P w K mg base N qual scope f cdv A outer s H E).nox body mb) (hk : Keeps N ps sp mb) :
    FnG P w K mg base CX0 (k + 1) f fd ps (spD K ps.length sp) :=
  fnG_ok F S (fun vs H Q E h => h.1) fun cdv A outer s H vs Q E hgd hr h => ⟨_, (hb cdv A outer s H E hgd hr).nox, def_start S hk h⟩
theorem CalD.up {j m : Nat} {x : Str} (c : CalD P w K mg base j m x sp) (h : j ≤ k) : CalD P w K mg base k m x sp := by
  obtain ⟨f, fd, ps, F, a, b, d⟩ := c.ex
  exact ⟨f, fd, ps, F.mono h, a, b, d⟩
theorem CalD.never {m : Nat} {x : Str} (F : FunD K x qual params body scope [] [] f fd) (g : mg x = some (.ref f)) (kp : PySem.W.keepIn K (.ref f) = true) (b : Binds K fd ps []) : CalD P w K mg base k m x (fun _ _ _ => False) :=
  ⟨f, fd, ps, ⟨fun _ _ _ _ h => by obtain ⟨_, _, _, _, _, _, _, _, h, _⟩ := h; exact h.elim, fun _ _ _ _ _ _ _ _ _ _ _ _ _ h => by obtain ⟨_, _, _, _, _, _, _, _, h, _⟩ := h; exact h.elim⟩, g, kp, b⟩
end
theorem kp_of {fa : List He.Fa} {fn : List He.DefD} {K : PySem.W.Frag} (c : He.SaysD fa fn K) (i : Nat) {d : He.DefD} (h : fn[i]? = some d := by rfl) : PySem.W.keepIn K (.ref (He.fAd K d.at_)) = true := by
  obtain ⟨fd, D⟩ := c.def_ i h
  exact D.kp
end DL
namespace W
open PySem PySem.Spec PySem.W PyProof.Rows L2 DL GF
structure Fc (K : PySem.W.Frag) (mg : Str → Option Value) : Prop where
  b : Bt mg
  g : Gt K mg
  d_is_list : ∃ fd, FunD K "is_list" "is_list" (defArgs s_is_list) (defBody s_is_list) (defScope s_is_list) [] [] (He.fAd K ("is_list", none)) fd
  d_is_row : ∃ fd, FunD K "is_row" "is_row" (defArgs s_is_row) (defBody s_is_row) (defScope s_is_row) [] [] (He.fAd K ("is_row", none)) fd
  d_is_name : ∃ fd, FunD K "is_name" "is_name" (defArgs s_is_name) (defBody s_is_name) (defScope s_is_name) [] [] (He.fAd K ("is_name", none)) fd
  d_is_rising : ∃ fd, FunD K "is_rising" "is_rising" (defArgs s_is_rising) (defBody s_is_rising) (defScope s_is_rising) [] [] (He.fAd K ("is_rising", none)) fd
  d_first_bad_room : ∃ fd, FunD K "first_bad_room" "first_bad_room" (defArgs s_first_bad_room) (defBody s_first_bad_room) (defScope s_first_bad_room) [] [] (He.fAd K ("first_bad_room", none)) fd
  d_check_hall : ∃ fd, FunD K "check_hall" "check_hall" (defArgs s_check_hall) (defBody s_check_hall) (defScope s_check_hall) [] [] (He.fAd K ("check_hall", none)) fd
  d_is_room : ∃ fd, FunD K "is_room" "is_room" (defArgs s_is_room) (defBody s_is_room) (defScope s_is_room) [] [] (He.fAd K ("is_room", none)) fd
  d_check_room : ∃ fd, FunD K "check_room" "check_room" (defArgs s_check_room) (defBody s_check_room) (defScope s_check_room) [] [] (He.fAd K ("check_room", none)) fd
  d_is_lot_of : ∃ fd, FunD K "is_lot_of" "is_lot_of" (defArgs s_is_lot_of) (defBody s_is_lot_of) (defScope s_is_lot_of) [] [] (He.fAd K ("is_lot_of", none)) fd
  d_check_lot : ∃ fd, FunD K "check_lot" "check_lot" (defArgs s_check_lot) (defBody s_check_lot) (defScope s_check_lot) [] [] (He.fAd K ("check_lot", none)) fd
  d_check_kind : ∃ fd, FunD K "check_kind" "check_kind" (defArgs s_check_kind) (defBody s_check_kind) (defScope s_check_kind) [] [] (He.fAd K ("check_kind", none)) fd
  d_summed : ∃ fd, FunD K "summed" "summed" (defArgs s_summed) (defBody s_summed) (defScope s_summed) [] [] (He.fAd K ("summed", none)) fd
  d_touch : ∃ fd, FunD K "touch" "touch" (defArgs s_touch) (defBody s_touch) (defScope s_touch) [] [] (He.fAd K ("touch", none)) fd
  d_touches_of : ∃ fd, FunD K "touches_of" "touches_of" (defArgs s_touches_of) (defBody s_touches_of) (defScope s_touches_of) [] [] (He.fAd K ("touches_of", none)) fd
  d_is_even_with : ∃ fd, FunD K "is_even_with" "is_even_with" (defArgs s_is_even_with) (defBody s_is_even_with) (defScope s_is_even_with) [] [] (He.fAd K ("is_even_with", none)) fd
  d_check_two : ∃ fd, FunD K "check_two" "check_two" (defArgs s_check_two) (defBody s_check_two) (defScope s_check_two) [] [] (He.fAd K ("check_two", none)) fd
  d_told_of : ∃ fd, FunD K "told_of" "told_of" (defArgs s_told_of) (defBody s_told_of) (defScope s_told_of) [] [] (He.fAd K ("told_of", none)) fd
  d_presses_or_watch : ∃ fd, FunD K "presses_or_watch" "presses_or_watch" (defArgs s_presses_or_watch) (defBody s_presses_or_watch) (defScope s_presses_or_watch) [] [] (He.fAd K ("presses_or_watch", none)) fd
  d_sums_of : ∃ fd, FunD K "sums_of" "sums_of" (defArgs s_sums_of) (defBody s_sums_of) (defScope s_sums_of) [] [] (He.fAd K ("sums_of", none)) fd
  d_quiets : ∃ fd, FunD K "quiets" "quiets" (defArgs s_quiets) (defBody s_quiets) (defScope s_quiets) [] [] (He.fAd K ("quiets", none)) fd
  d_within : ∃ fd, FunD K "within" "within" (defArgs s_within) (defBody s_within) (defScope s_within) [] [] (He.fAd K ("within", none)) fd
  d_twins : ∃ fd, FunD K "twins" "twins" (defArgs s_twins) (defBody s_twins) (defScope s_twins) [] [] (He.fAd K ("twins", none)) fd
  d_without_rooms : ∃ fd, FunD K "without_rooms" "without_rooms" (defArgs s_without_rooms) (defBody s_without_rooms) (defScope s_without_rooms) [] [] (He.fAd K ("without_rooms", none)) fd
  d_ends : ∃ fd, FunD K "ends" "ends" (defArgs s_ends) (defBody s_ends) (defScope s_ends) [] [] (He.fAd K ("ends", none)) fd
  d_law_stream : ∃ fd, FunD K "_law_stream" "_law_stream" (defArgs s_law_stream) (defBody s_law_stream) (defScope s_law_stream) [] [] (He.fAd K ("_law_stream", none)) fd
  d_law_draw : ∃ fd, FunD K "_law_draw" "_law_draw" (defArgs s_law_draw) (defBody s_law_draw) (defScope s_law_draw) [] [] (He.fAd K ("_law_draw", none)) fd
  d_law_pick : ∃ fd, FunD K "_law_pick" "_law_pick" (defArgs s_law_pick) (defBody s_law_pick) (defScope s_law_pick) [] [] (He.fAd K ("_law_pick", none)) fd
  d_law_mixed : ∃ fd, FunD K "_law_mixed" "_law_mixed" (defArgs s_law_mixed) (defBody s_law_mixed) (defScope s_law_mixed) [] [] (He.fAd K ("_law_mixed", none)) fd
  d_law_same : ∃ fd, FunD K "_law_same" "_law_same" (defArgs s_law_same) (defBody s_law_same) (defScope s_law_same) [] [] (He.fAd K ("_law_same", none)) fd
  d_law_loose : ∃ fd, FunD K "_law_loose" "_law_loose" (defArgs s_law_loose) (defBody s_law_loose) (defScope s_law_loose) [] [] (He.fAd K ("_law_loose", none)) fd
  d_law_spoilt : ∃ fd, FunD K "_law_spoilt" "_law_spoilt" (defArgs s_law_spoilt) (defBody s_law_spoilt) (defScope s_law_spoilt) [] [] (He.fAd K ("_law_spoilt", none)) fd
  d_law_names : ∃ fd, FunD K "_law_names" "_law_names" (defArgs s_law_names) (defBody s_law_names) (defScope s_law_names) [] [] (He.fAd K ("_law_names", none)) fd
  d_law_around : ∃ fd, FunD K "_law_around" "_law_around" (defArgs s_law_around) (defBody s_law_around) (defScope s_law_around) [] [] (He.fAd K ("_law_around", none)) fd
  d_law_touch : ∃ fd, FunD K "_law_touch" "_law_touch" (defArgs s_law_touch) (defBody s_law_touch) (defScope s_law_touch) [] [] (He.fAd K ("_law_touch", none)) fd
  d_law_sum : ∃ fd, FunD K "_law_sum" "_law_sum" (defArgs s_law_sum) (defBody s_law_sum) (defScope s_law_sum) [] [] (He.fAd K ("_law_sum", none)) fd
  d_law_behind : ∃ fd, FunD K "_law_behind" "_law_behind" (defArgs s_law_behind) (defBody s_law_behind) (defScope s_law_behind) [] [] (He.fAd K ("_law_behind", none)) fd
  d_law_lots : ∃ fd, FunD K "_law_lots" "_law_lots" (defArgs s_law_lots) (defBody s_law_lots) (defScope s_law_lots) [] [] (He.fAd K ("_law_lots", none)) fd
  d_law_quiets : ∃ fd, FunD K "_law_quiets" "_law_quiets" (defArgs s_law_quiets) (defBody s_law_quiets) (defScope s_law_quiets) [] [] (He.fAd K ("_law_quiets", none)) fd
  d_law_hall : ∃ fd, FunD K "_law_hall" "_law_hall" (defArgs s_law_hall) (defBody s_law_hall) (defScope s_law_hall) [] [] (He.fAd K ("_law_hall", none)) fd
  d_law_lot : ∃ fd, FunD K "_law_lot" "_law_lot" (defArgs s_law_lot) (defBody s_law_lot) (defScope s_law_lot) [] [] (He.fAd K ("_law_lot", none)) fd
  d_law_made : ∃ fd, FunD K "_law_made" "_law_made" (defArgs s_law_made) (defBody s_law_made) (defScope s_law_made) [] [] (He.fAd K ("_law_made", none)) fd
  d_law_with : ∃ fd, FunD K "_law_with" "_law_with" (defArgs s_law_with) (defBody s_law_with) (defScope s_law_with) [] [] (He.fAd K ("_law_with", none)) fd
  d_law_without : ∃ fd, FunD K "_law_without" "_law_without" (defArgs s_law_without) (defBody s_law_without) (defScope s_law_without) [] [] (He.fAd K ("_law_without", none)) fd
  d_law_lots_right : ∃ fd, FunD K "_law_lots_right" "_law_lots_right" (defArgs s_law_lots_right) (defBody s_law_lots_right) (defScope s_law_lots_right) [] [] (He.fAd K ("_law_lots_right", none)) fd
  d_law_twins_right : ∃ fd, FunD K "_law_twins_right" "_law_twins_right" (defArgs s_law_twins_right) (defBody s_law_twins_right) (defScope s_law_twins_right) [] [] (He.fAd K ("_law_twins_right", none)) fd
  d_law_ends_right : ∃ fd, FunD K "_law_ends_right" "_law_ends_right" (defArgs s_law_ends_right) (defBody s_law_ends_right) (defScope s_law_ends_right) [] [] (He.fAd K ("_law_ends_right", none)) fd
  d_law : ∃ fd, FunD K "law" "law" (defArgs s_law) (defBody s_law) (defScope s_law) [] [] (He.fAd K ("law", none)) fd
  d_Hall_init : ∃ fd, FunD K "__init__" "Hall.__init__" (defArgs s_Hall_init) (defBody s_Hall_init) (defScope s_Hall_init) [] [] (He.fAd K ("Hall", some "__init__")) fd
  d_Hall_is_wire : ∃ fd, FunD K "is_wire" "Hall.is_wire" (defArgs s_Hall_is_wire) (defBody s_Hall_is_wire) (defScope s_Hall_is_wire) [] [] (He.fAd K ("Hall", some "is_wire")) fd
  d_Hall_rooms : ∃ fd, FunD K "rooms" "Hall.rooms" (defArgs s_Hall_rooms) (defBody s_Hall_rooms) (defScope s_Hall_rooms) [] [] (He.fAd K ("Hall", some "rooms")) fd
  d_Hall_wires : ∃ fd, FunD K "wires" "Hall.wires" (defArgs s_Hall_wires) (defBody s_Hall_wires) (defScope s_Hall_wires) [] [] (He.fAd K ("Hall", some "wires")) fd
  d_Hall_around : ∃ fd, FunD K "around" "Hall.around" (defArgs s_Hall_around) (defBody s_Hall_around) (defScope s_Hall_around) [] [] (He.fAd K ("Hall", some "around")) fd
  d_Solved_init : ∃ fd, FunD K "__init__" "Solved.__init__" (defArgs s_Solved_init) (defBody s_Solved_init) (defScope s_Solved_init) [] [] (He.fAd K ("Solved", some "__init__")) fd
  d_Solved_reduced : ∃ fd, FunD K "reduced" "Solved.reduced" (defArgs s_Solved_reduced) (defBody s_Solved_reduced) (defScope s_Solved_reduced) [] [] (He.fAd K ("Solved", some "reduced")) fd
  p_is_list : PySem.W.keepIn K (.ref (He.fAd K ("is_list", none))) = true
  p_is_row : PySem.W.keepIn K (.ref (He.fAd K ("is_row", none))) = true
  p_is_name : PySem.W.keepIn K (.ref (He.fAd K ("is_name", none))) = true
  p_is_rising : PySem.W.keepIn K (.ref (He.fAd K ("is_rising", none))) = true
  p_first_bad_room : PySem.W.keepIn K (.ref (He.fAd K ("first_bad_room", none))) = true
  p_check_hall : PySem.W.keepIn K (.ref (He.fAd K ("check_hall", none))) = true
  p_is_room : PySem.W.keepIn K (.ref (He.fAd K ("is_room", none))) = true
  p_check_room : PySem.W.keepIn K (.ref (He.fAd K ("check_room", none))) = true
  p_is_lot_of : PySem.W.keepIn K (.ref (He.fAd K ("is_lot_of", none))) = true
  p_check_lot : PySem.W.keepIn K (.ref (He.fAd K ("check_lot", none))) = true
  p_check_kind : PySem.W.keepIn K (.ref (He.fAd K ("check_kind", none))) = true
  p_summed : PySem.W.keepIn K (.ref (He.fAd K ("summed", none))) = true
  p_touch : PySem.W.keepIn K (.ref (He.fAd K ("touch", none))) = true
  p_touches_of : PySem.W.keepIn K (.ref (He.fAd K ("touches_of", none))) = true
  p_is_even_with : PySem.W.keepIn K (.ref (He.fAd K ("is_even_with", none))) = true
  p_check_two : PySem.W.keepIn K (.ref (He.fAd K ("check_two", none))) = true
  p_told_of : PySem.W.keepIn K (.ref (He.fAd K ("told_of", none))) = true
  p_presses_or_watch : PySem.W.keepIn K (.ref (He.fAd K ("presses_or_watch", none))) = true
  p_sums_of : PySem.W.keepIn K (.ref (He.fAd K ("sums_of", none))) = true
  p_quiets : PySem.W.keepIn K (.ref (He.fAd K ("quiets", none))) = true
  p_within : PySem.W.keepIn K (.ref (He.fAd K ("within", none))) = true
  p_twins : PySem.W.keepIn K (.ref (He.fAd K ("twins", none))) = true
  p_without_rooms : PySem.W.keepIn K (.ref (He.fAd K ("without_rooms", none))) = true
  p_ends : PySem.W.keepIn K (.ref (He.fAd K ("ends", none))) = true
  p_law_stream : PySem.W.keepIn K (.ref (He.fAd K ("_law_stream", none))) = true
  p_law_draw : PySem.W.keepIn K (.ref (He.fAd K ("_law_draw", none))) = true
  p_law_pick : PySem.W.keepIn K (.ref (He.fAd K ("_law_pick", none))) = true
  p_law_mixed : PySem.W.keepIn K (.ref (He.fAd K ("_law_mixed", none))) = true
  p_law_same : PySem.W.keepIn K (.ref (He.fAd K ("_law_same", none))) = true
  p_law_loose : PySem.W.keepIn K (.ref (He.fAd K ("_law_loose", none))) = true
  p_law_spoilt : PySem.W.keepIn K (.ref (He.fAd K ("_law_spoilt", none))) = true
  p_law_names : PySem.W.keepIn K (.ref (He.fAd K ("_law_names", none))) = true
  p_law_around : PySem.W.keepIn K (.ref (He.fAd K ("_law_around", none))) = true
  p_law_touch : PySem.W.keepIn K (.ref (He.fAd K ("_law_touch", none))) = true
  p_law_sum : PySem.W.keepIn K (.ref (He.fAd K ("_law_sum", none))) = true
  p_law_behind : PySem.W.keepIn K (.ref (He.fAd K ("_law_behind", none))) = true
  p_law_lots : PySem.W.keepIn K (.ref (He.fAd K ("_law_lots", none))) = true
  p_law_quiets : PySem.W.keepIn K (.ref (He.fAd K ("_law_quiets", none))) = true
  p_law_hall : PySem.W.keepIn K (.ref (He.fAd K ("_law_hall", none))) = true
  p_law_lot : PySem.W.keepIn K (.ref (He.fAd K ("_law_lot", none))) = true
  p_law_made : PySem.W.keepIn K (.ref (He.fAd K ("_law_made", none))) = true
  p_law_with : PySem.W.keepIn K (.ref (He.fAd K ("_law_with", none))) = true
  p_law_without : PySem.W.keepIn K (.ref (He.fAd K ("_law_without", none))) = true
  p_law_lots_right : PySem.W.keepIn K (.ref (He.fAd K ("_law_lots_right", none))) = true
  p_law_twins_right : PySem.W.keepIn K (.ref (He.fAd K ("_law_twins_right", none))) = true
  p_law_ends_right : PySem.W.keepIn K (.ref (He.fAd K ("_law_ends_right", none))) = true
  p_law : PySem.W.keepIn K (.ref (He.fAd K ("law", none))) = true
  p_Hall_init : PySem.W.keepIn K (.ref (He.fAd K ("Hall", some "__init__"))) = true
  p_Hall_is_wire : PySem.W.keepIn K (.ref (He.fAd K ("Hall", some "is_wire"))) = true
  p_Hall_rooms : PySem.W.keepIn K (.ref (He.fAd K ("Hall", some "rooms"))) = true
  p_Hall_wires : PySem.W.keepIn K (.ref (He.fAd K ("Hall", some "wires"))) = true
  p_Hall_around : PySem.W.keepIn K (.ref (He.fAd K ("Hall", some "around"))) = true
  p_Solved_init : PySem.W.keepIn K (.ref (He.fAd K ("Solved", some "__init__"))) = true
  p_Solved_reduced : PySem.W.keepIn K (.ref (He.fAd K ("Solved", some "reduced"))) = true
  glo_is_list : mg "is_list" = some (.ref (He.ga K "is_list"))
  glo_is_row : mg "is_row" = some (.ref (He.ga K "is_row"))
  glo_is_name : mg "is_name" = some (.ref (He.ga K "is_name"))
  glo_is_rising : mg "is_rising" = some (.ref (He.ga K "is_rising"))
  glo_first_bad_room : mg "first_bad_room" = some (.ref (He.ga K "first_bad_room"))
  glo_check_hall : mg "check_hall" = some (.ref (He.ga K "check_hall"))
  glo_is_room : mg "is_room" = some (.ref (He.ga K "is_room"))
  glo_check_room : mg "check_room" = some (.ref (He.ga K "check_room"))
  glo_is_lot_of : mg "is_lot_of" = some (.ref (He.ga K "is_lot_of"))
  glo_check_lot : mg "check_lot" = some (.ref (He.ga K "check_lot"))
  glo_check_kind : mg "check_kind" = some (.ref (He.ga K "check_kind"))
  glo_summed : mg "summed" = some (.ref (He.ga K "summed"))
  glo_touch : mg "touch" = some (.ref (He.ga K "touch"))
  glo_touches_of : mg "touches_of" = some (.ref (He.ga K "touches_of"))
  glo_is_even_with : mg "is_even_with" = some (.ref (He.ga K "is_even_with"))
  glo_check_two : mg "check_two" = some (.ref (He.ga K "check_two"))
  glo_told_of : mg "told_of" = some (.ref (He.ga K "told_of"))
  glo_presses_or_watch : mg "presses_or_watch" = some (.ref (He.ga K "presses_or_watch"))
  glo_sums_of : mg "sums_of" = some (.ref (He.ga K "sums_of"))
  glo_quiets : mg "quiets" = some (.ref (He.ga K "quiets"))
  glo_within : mg "within" = some (.ref (He.ga K "within"))
  glo_twins : mg "twins" = some (.ref (He.ga K "twins"))
  glo_without_rooms : mg "without_rooms" = some (.ref (He.ga K "without_rooms"))
  glo_ends : mg "ends" = some (.ref (He.ga K "ends"))
  glo_law_stream : mg "_law_stream" = some (.ref (He.ga K "_law_stream"))
  glo_law_draw : mg "_law_draw" = some (.ref (He.ga K "_law_draw"))
  glo_law_pick : mg "_law_pick" = some (.ref (He.ga K "_law_pick"))
  glo_law_mixed : mg "_law_mixed" = some (.ref (He.ga K "_law_mixed"))
  glo_law_same : mg "_law_same" = some (.ref (He.ga K "_law_same"))
  glo_law_loose : mg "_law_loose" = some (.ref (He.ga K "_law_loose"))
  glo_law_spoilt : mg "_law_spoilt" = some (.ref (He.ga K "_law_spoilt"))
  glo_law_names : mg "_law_names" = some (.ref (He.ga K "_law_names"))
  glo_law_around : mg "_law_around" = some (.ref (He.ga K "_law_around"))
  glo_law_touch : mg "_law_touch" = some (.ref (He.ga K "_law_touch"))
  glo_law_sum : mg "_law_sum" = some (.ref (He.ga K "_law_sum"))
  glo_law_behind : mg "_law_behind" = some (.ref (He.ga K "_law_behind"))
  glo_law_lots : mg "_law_lots" = some (.ref (He.ga K "_law_lots"))
  glo_law_quiets : mg "_law_quiets" = some (.ref (He.ga K "_law_quiets"))
  glo_law_hall : mg "_law_hall" = some (.ref (He.ga K "_law_hall"))
  glo_law_lot : mg "_law_lot" = some (.ref (He.ga K "_law_lot"))
  glo_law_made : mg "_law_made" = some (.ref (He.ga K "_law_made"))
  glo_law_with : mg "_law_with" = some (.ref (He.ga K "_law_with"))
  glo_law_without : mg "_law_without" = some (.ref (He.ga K "_law_without"))
  glo_law_lots_right : mg "_law_lots_right" = some (.ref (He.ga K "_law_lots_right"))
  glo_law_twins_right : mg "_law_twins_right" = some (.ref (He.ga K "_law_twins_right"))
  glo_law_ends_right : mg "_law_ends_right" = some (.ref (He.ga K "_law_ends_right"))
  glo_law : mg "law" = some (.ref (He.ga K "law"))
  mk_Hall : Mk K (He.ga K "Hall") (He.ma K (He.ga K "Hall") "__init__")
  me_Hall_is_wire : Meth K (He.ga K "Hall") "is_wire" (He.ma K (He.ga K "Hall") "is_wire")
  me_Hall_rooms : Meth K (He.ga K "Hall") "rooms" (He.ma K (He.ga K "Hall") "rooms")
  me_Hall_wires : Meth K (He.ga K "Hall") "wires" (He.ma K (He.ga K "Hall") "wires")
  me_Hall_around : Meth K (He.ga K "Hall") "around" (He.ma K (He.ga K "Hall") "around")
  mk_Solved : Mk K (He.ga K "Solved") (He.ma K (He.ga K "Solved") "__init__")
  me_Solved_reduced : Meth K (He.ga K "Solved") "reduced" (He.ma K (He.ga K "Solved") "reduced")
section
variable {P : Program} {w : World} {K : PySem.W.Frag} {mg : Str → Option Value} {base : Heap}
theorem f_is_list (F : Fc K mg) {fd : FuncData} (D : FunD K "is_list" "is_list" (defArgs s_is_list) (defBody s_is_list) (defScope s_is_list) [] [] (He.fAd K ("is_list", none)) fd) : FnOk P w K mg base CX0 1 (He.fAd K ("is_list", none)) fd ["thing"] (spD K 1 SP.is_list) :=
  def_ok D sc_is_list (fun _ _ _ _ _ _ hr => w_is_list SP F.b F.g  hr) k_is_list
theorem c_is_list (F : Fc K mg) : CalD P w K mg base 1 1 "is_list" SP.is_list := by
  obtain ⟨fd, D⟩ := F.d_is_list
  exact ⟨_, fd, ["thing"], f_is_list F D, F.glo_is_list, F.p_is_list, (D.bindsN fun _ _ _ _ _ _ us hl => match us, hl with | [_], _ => rfl)⟩
theorem f_is_name (F : Fc K mg) {fd : FuncData} (D : FunD K "is_name" "is_name" (defArgs s_is_name) (defBody s_is_name) (defScope s_is_name) [] [] (He.fAd K ("is_name", none)) fd) : FnOk P w K mg base CX0 1 (He.fAd K ("is_name", none)) fd ["thing"] (spD K 1 SP.is_name) :=
  def_ok D sc_is_name (fun _ _ _ _ _ _ hr => w_is_name SP F.b F.g  hr) k_is_name
theorem c_is_name (F : Fc K mg) : CalD P w K mg base 1 1 "is_name" SP.is_name := by
  obtain ⟨fd, D⟩ := F.d_is_name
  exact ⟨_, fd, ["thing"], f_is_name F D, F.glo_is_name, F.p_is_name, (D.bindsN fun _ _ _ _ _ _ us hl => match us, hl with | [_], _ => rfl)⟩
theorem f_is_rising (F : Fc K mg) {fd : FuncData} (D : FunD K "is_rising" "is_rising" (defArgs s_is_rising) (defBody s_is_rising) (defScope s_is_rising) [] [] (He.fAd K ("is_rising", none)) fd) : FnOk P w K mg base CX0 1 (He.fAd K ("is_rising", none)) fd ["things"] (spD K 1 SP.is_rising) :=
  def_ok D sc_is_rising (fun _ _ _ _ _ _ hr => w_is_rising SP F.b F.g  hr) k_is_rising
theorem c_is_rising (F : Fc K mg) : CalD P w K mg base 1 1 "is_rising" SP.is_rising := by
  obtain ⟨fd, D⟩ := F.d_is_rising
  exact ⟨_, fd, ["things"], f_is_rising F D, F.glo_is_rising, F.p_is_rising, (D.bindsN fun _ _ _ _ _ _ us hl => match us, hl with | [_], _ => rfl)⟩
theorem f_is_room (F : Fc K mg) {fd : FuncData} (D : FunD K "is_room" "is_room" (defArgs s_is_room) (defBody s_is_room) (defScope s_is_room) [] [] (He.fAd K ("is_room", none)) fd) : FnOk P w K mg base CX0 1 (He.fAd K ("is_room", none)) fd ["hall", "thing"] (spD K 2 SP.is_room) :=
  def_ok D sc_is_room (fun _ _ _ _ _ _ hr => w_is_room SP F.b F.g  hr) k_is_room
theorem c_is_room (F : Fc K mg) : CalD P w K mg base 1 2 "is_room" SP.is_room := by
  obtain ⟨fd, D⟩ := F.d_is_room
  exact ⟨_, fd, ["hall", "thing"], f_is_room F D, F.glo_is_room, F.p_is_room, (D.bindsN fun _ _ _ _ _ _ us hl => match us, hl with | [_, _], _ => rfl)⟩
theorem f_summed (F : Fc K mg) {fd : FuncData} (D : FunD K "summed" "summed" (defArgs s_summed) (defBody s_summed) (defScope s_summed) [] [] (He.fAd K ("summed", none)) fd) : FnOk P w K mg base CX0 1 (He.fAd K ("summed", none)) fd ["one", "other"] (spD K 2 SP.summed) :=
  def_ok D sc_summed (fun _ _ _ _ _ _ hr => w_summed SP F.b F.g  hr) k_summed
theorem c_summed (F : Fc K mg) : CalD P w K mg base 1 2 "summed" SP.summed := by
  obtain ⟨fd, D⟩ := F.d_summed
  exact ⟨_, fd, ["one", "other"], f_summed F D, F.glo_summed, F.p_summed, (D.bindsN fun _ _ _ _ _ _ us hl => match us, hl with | [_, _], _ => rfl)⟩
theorem f_is_even_with (F : Fc K mg) {fd : FuncData} (D : FunD K "is_even_with" "is_even_with" (defArgs s_is_even_with) (defBody s_is_even_with) (defScope s_is_even_with) [] [] (He.fAd K ("is_even_with", none)) fd) : FnOk P w K mg base CX0 1 (He.fAd K ("is_even_with", none)) fd ["lot", "other"] (spD K 2 SP.is_even_with) :=
  def_ok D sc_is_even_with (fun _ _ _ _ _ _ hr => w_is_even_with SP F.b F.g  hr) k_is_even_with
theorem c_is_even_with (F : Fc K mg) : CalD P w K mg base 1 2 "is_even_with" SP.is_even_with := by
  obtain ⟨fd, D⟩ := F.d_is_even_with
  exact ⟨_, fd, ["lot", "other"], f_is_even_with F D, F.glo_is_even_with, F.p_is_even_with, (D.bindsN fun _ _ _ _ _ _ us hl => match us, hl with | [_, _], _ => rfl)⟩
theorem c_law_stream (F : Fc K mg) : CalR P w K mg base 1 "_law_stream" (spStream K) := by
  obtain ⟨fd, D⟩ := F.d_law_stream
  exact ⟨_, fd, ["script"], stream_ok F.b D, F.glo_law_stream, F.p_law_stream, (D.bindsN fun _ _ _ _ _ _ us hl => match us, hl with | [_], _ => rfl)⟩
theorem c_law_draw (F : Fc K mg) : CalD P w K mg base 1 2 "_law_draw" SP.law_draw := by
  obtain ⟨fd, D⟩ := F.d_law_draw
  exact ⟨_, fd, ["stream", "many"], draw_ok F.b D, F.glo_law_draw, F.p_law_draw, (D.bindsN fun _ _ _ _ _ _ us hl => match us, hl with | [_, _], _ => rfl)⟩
theorem f_law_around (F : Fc K mg) {fd : FuncData} (D : FunD K "_law_around" "_law_around" (defArgs s_law_around) (defBody s_law_around) (defScope s_law_around) [] [] (He.fAd K ("_law_around", none)) fd) : FnOk P w K mg base CX0 1 (He.fAd K ("_law_around", none)) fd ["hall", "room"] (spD K 2 SP.law_around) :=
  def_ok D sc_law_around (fun _ _ _ _ _ _ hr => w_law_around SP F.b F.g  hr) k_law_around
theorem c_law_around (F : Fc K mg) : CalD P w K mg base 1 2 "_law_around" SP.law_around := by
  obtain ⟨fd, D⟩ := F.d_law_around
  exact ⟨_, fd, ["hall", "room"], f_law_around F D, F.glo_law_around, F.p_law_around, (D.bindsN fun _ _ _ _ _ _ us hl => match us, hl with | [_, _], _ => rfl)⟩
theorem f_law_sum (F : Fc K mg) {fd : FuncData} (D : FunD K "_law_sum" "_law_sum" (defArgs s_law_sum) (defBody s_law_sum) (defScope s_law_sum) [] [] (He.fAd K ("_law_sum", none)) fd) : FnOk P w K mg base CX0 1 (He.fAd K ("_law_sum", none)) fd ["one", "other"] (spD K 2 SP.law_sum) :=
  def_ok D sc_law_sum (fun _ _ _ _ _ _ hr => w_law_sum SP F.b F.g  hr) k_law_sum
theorem c_law_sum (F : Fc K mg) : CalD P w K mg base 1 2 "_law_sum" SP.law_sum := by
  obtain ⟨fd, D⟩ := F.d_law_sum
  exact ⟨_, fd, ["one", "other"], f_law_sum F D, F.glo_law_sum, F.p_law_sum, (D.bindsN fun _ _ _ _ _ _ us hl => match us, hl with | [_, _], _ => rfl)⟩
theorem f_law_lots (F : Fc K mg) {fd : FuncData} (D : FunD K "_law_lots" "_law_lots" (defArgs s_law_lots) (defBody s_law_lots) (defScope s_law_lots) [] [] (He.fAd K ("_law_lots", none)) fd) : FnOk P w K mg base CX0 1 (He.fAd K ("_law_lots", none)) fd ["rooms"] (spD K 1 SP.law_lots) :=
  def_ok D sc_law_lots (fun _ _ _ _ _ _ hr => w_law_lots SP F.b F.g  hr) k_law_lots
theorem c_law_lots (F : Fc K mg) : CalD P w K mg base 1 1 "_law_lots" SP.law_lots := by
  obtain ⟨fd, D⟩ := F.d_law_lots
  exact ⟨_, fd, ["rooms"], f_law_lots F D, F.glo_law_lots, F.p_law_lots, (D.bindsN fun _ _ _ _ _ _ us hl => match us, hl with | [_], _ => rfl)⟩
theorem f_law_without (F : Fc K mg) {fd : FuncData} (D : FunD K "_law_without" "_law_without" (defArgs s_law_without) (defBody s_law_without) (defScope s_law_without) [] [] (He.fAd K ("_law_without", none)) fd) : FnOk P w K mg base CX0 1 (He.fAd K ("_law_without", none)) fd ["hall", "lot"] (spD K 2 SP.law_without) :=
  def_ok D sc_law_without (fun _ _ _ _ _ _ hr => w_law_without SP F.b F.g  hr) k_law_without
theorem c_law_without (F : Fc K mg) : CalD P w K mg base 1 2 "_law_without" SP.law_without := by
  obtain ⟨fd, D⟩ := F.d_law_without
  exact ⟨_, fd, ["hall", "lot"], f_law_without F D, F.glo_law_without, F.p_law_without, (D.bindsN fun _ _ _ _ _ _ us hl => match us, hl with | [_, _], _ => rfl)⟩
theorem c_Hall_rooms (F : Fc K mg) : MetD P w K mg base 1 1 "Hall" "rooms" SP.Hall_rooms := by
  obtain ⟨fd, D⟩ := F.d_Hall_rooms
  exact ⟨_, fd, ["self"], F.g.cls_Hall, F.me_Hall_rooms, def_ok D sc_Hall_rooms (fun _ _ _ _ _ _ hr => w_Hall_rooms SP F.b F.g  hr) k_Hall_rooms, (D.bindsN fun _ _ _ _ _ _ us hl => match us, hl with | [_], _ => rfl)⟩
theorem c_Hall_wires (F : Fc K mg) : MetD P w K mg base 1 1 "Hall" "wires" SP.Hall_wires := by
  obtain ⟨fd, D⟩ := F.d_Hall_wires
  exact ⟨_, fd, ["self"], F.g.cls_Hall, F.me_Hall_wires, def_ok D sc_Hall_wires (fun _ _ _ _ _ _ hr => w_Hall_wires SP F.b F.g  hr) k_Hall_wires, (D.bindsN fun _ _ _ _ _ _ us hl => match us, hl with | [_], _ => rfl)⟩
theorem f_is_row (F : Fc K mg) {fd : FuncData} (D : FunD K "is_row" "is_row" (defArgs s_is_row) (defBody s_is_row) (defScope s_is_row) [] [] (He.fAd K ("is_row", none)) fd) : FnOk P w K mg base CX0 2 (He.fAd K ("is_row", none)) fd ["thing", "many"] (spD K 2 SP.is_row) :=
  def_ok D sc_is_row (fun _ _ _ _ _ _ hr => w_is_row SP F.b F.g (c_is_list F) hr) k_is_row
theorem c_is_row (F : Fc K mg) : CalD P w K mg base 2 2 "is_row" SP.is_row := by
  obtain ⟨fd, D⟩ := F.d_is_row
  exact ⟨_, fd, ["thing", "many"], f_is_row F D, F.glo_is_row, F.p_is_row, (D.bindsN fun _ _ _ _ _ _ us hl => match us, hl with | [_, _], _ => rfl)⟩
theorem f_first_bad_room (F : Fc K mg) {fd : FuncData} (D : FunD K "first_bad_room" "first_bad_room" (defArgs s_first_bad_room) (defBody s_first_bad_room) (defScope s_first_bad_room) [] [] (He.fAd K ("first_bad_room", none)) fd) : FnOk P w K mg base CX0 2 (He.fAd K ("first_bad_room", none)) fd ["rooms"] (spD K 1 SP.first_bad_room) :=
  def_ok D sc_first_bad_room (fun _ _ _ _ _ _ hr => w_first_bad_room SP F.b F.g (c_is_list F) (c_is_name F) hr) k_first_bad_room
theorem c_first_bad_room (F : Fc K mg) : CalD P w K mg base 2 1 "first_bad_room" SP.first_bad_room := by
  obtain ⟨fd, D⟩ := F.d_first_bad_room
  exact ⟨_, fd, ["rooms"], f_first_bad_room F D, F.glo_first_bad_room, F.p_first_bad_room, (D.bindsN fun _ _ _ _ _ _ us hl => match us, hl with | [_], _ => rfl)⟩
theorem f_is_lot_of (F : Fc K mg) {fd : FuncData} (D : FunD K "is_lot_of" "is_lot_of" (defArgs s_is_lot_of) (defBody s_is_lot_of) (defScope s_is_lot_of) [] [] (He.fAd K ("is_lot_of", none)) fd) : FnOk P w K mg base CX0 2 (He.fAd K ("is_lot_of", none)) fd ["hall", "thing"] (spD K 2 SP.is_lot_of) :=
  def_ok D sc_is_lot_of (fun _ _ _ _ _ _ hr => w_is_lot_of SP F.b F.g (c_is_list F) (c_is_rising F) (c_is_room F) hr) k_is_lot_of
theorem c_is_lot_of (F : Fc K mg) : CalD P w K mg base 2 2 "is_lot_of" SP.is_lot_of := by
  obtain ⟨fd, D⟩ := F.d_is_lot_of
  exact ⟨_, fd, ["hall", "thing"], f_is_lot_of F D, F.glo_is_lot_of, F.p_is_lot_of, (D.bindsN fun _ _ _ _ _ _ us hl => match us, hl with | [_, _], _ => rfl)⟩
theorem f_touch (F : Fc K mg) {fd : FuncData} (D : FunD K "touch" "touch" (defArgs s_touch) (defBody s_touch) (defScope s_touch) [] [] (He.fAd K ("touch", none)) fd) : FnOk P w K mg base CX0 2 (He.fAd K ("touch", none)) fd ["hall", "is_own", "room"] (spD K 3 SP.touch) :=
  def_ok D sc_touch (fun _ _ _ _ _ _ hr => w_touch SP F.b F.g (c_summed F) hr) k_touch
theorem c_touch (F : Fc K mg) : CalD P w K mg base 2 3 "touch" SP.touch := by
  obtain ⟨fd, D⟩ := F.d_touch
  exact ⟨_, fd, ["hall", "is_own", "room"], f_touch F D, F.glo_touch, F.p_touch, (D.bindsN fun _ _ _ _ _ _ us hl => match us, hl with | [_, _, _], _ => rfl)⟩
theorem f_sums_of (F : Fc K mg) {fd : FuncData} (D : FunD K "sums_of" "sums_of" (defArgs s_sums_of) (defBody s_sums_of) (defScope s_sums_of) [] [] (He.fAd K ("sums_of", none)) fd) : FnOk P w K mg base CX0 2 (He.fAd K ("sums_of", none)) fd ["lots"] (spD K 1 SP.sums_of) :=
  def_ok D sc_sums_of (fun _ _ _ _ _ _ hr => w_sums_of SP F.b F.g (c_summed F) hr) k_sums_of
theorem c_sums_of (F : Fc K mg) : CalD P w K mg base 2 1 "sums_of" SP.sums_of := by
  obtain ⟨fd, D⟩ := F.d_sums_of
  exact ⟨_, fd, ["lots"], f_sums_of F D, F.glo_sums_of, F.p_sums_of, (D.bindsN fun _ _ _ _ _ _ us hl => match us, hl with | [_], _ => rfl)⟩
theorem f_law_pick (F : Fc K mg) {fd : FuncData} (D : FunD K "_law_pick" "_law_pick" (defArgs s_law_pick) (defBody s_law_pick) (defScope s_law_pick) [] [] (He.fAd K ("_law_pick", none)) fd) : FnOk P w K mg base CX0 2 (He.fAd K ("_law_pick", none)) fd ["stream", "things"] (spD K 2 SP.law_pick) :=
  def_ok D sc_law_pick (fun _ _ _ _ _ _ hr => w_law_pick SP F.b F.g (c_law_draw F) hr) k_law_pick
theorem c_law_pick (F : Fc K mg) : CalD P w K mg base 2 2 "_law_pick" SP.law_pick := by
  obtain ⟨fd, D⟩ := F.d_law_pick
  exact ⟨_, fd, ["stream", "things"], f_law_pick F D, F.glo_law_pick, F.p_law_pick, (D.bindsN fun _ _ _ _ _ _ us hl => match us, hl with | [_, _], _ => rfl)⟩
theorem f_law_mixed (F : Fc K mg) {fd : FuncData} (D : FunD K "_law_mixed" "_law_mixed" (defArgs s_law_mixed) (defBody s_law_mixed) (defScope s_law_mixed) [] [] (He.fAd K ("_law_mixed", none)) fd) : FnOk P w K mg base CX0 2 (He.fAd K ("_law_mixed", none)) fd ["stream", "things"] (spD K 2 SP.law_mixed) :=
  def_ok D sc_law_mixed (fun _ _ _ _ _ _ hr => w_law_mixed SP F.b F.g (c_law_draw F) hr) k_law_mixed
theorem c_law_mixed (F : Fc K mg) : CalD P w K mg base 2 2 "_law_mixed" SP.law_mixed := by
  obtain ⟨fd, D⟩ := F.d_law_mixed
  exact ⟨_, fd, ["stream", "things"], f_law_mixed F D, F.glo_law_mixed, F.p_law_mixed, (D.bindsN fun _ _ _ _ _ _ us hl => match us, hl with | [_, _], _ => rfl)⟩
theorem f_law_touch (F : Fc K mg) {fd : FuncData} (D : FunD K "_law_touch" "_law_touch" (defArgs s_law_touch) (defBody s_law_touch) (defScope s_law_touch) [] [] (He.fAd K ("_law_touch", none)) fd) : FnOk P w K mg base CX0 2 (He.fAd K ("_law_touch", none)) fd ["hall", "kind", "room"] (spD K 3 SP.law_touch) :=
  def_ok D sc_law_touch (fun _ _ _ _ _ _ hr => w_law_touch SP F.b F.g (c_law_around F) hr) k_law_touch
theorem c_law_touch (F : Fc K mg) : CalD P w K mg base 2 3 "_law_touch" SP.law_touch := by
  obtain ⟨fd, D⟩ := F.d_law_touch
  exact ⟨_, fd, ["hall", "kind", "room"], f_law_touch F D, F.glo_law_touch, F.p_law_touch, (D.bindsN fun _ _ _ _ _ _ us hl => match us, hl with | [_, _, _], _ => rfl)⟩
theorem c_Solved_reduced (F : Fc K mg) : MetD P w K mg base 2 2 "Solved" "reduced" SP.Solved_reduced := by
  obtain ⟨fd, D⟩ := F.d_Solved_reduced
  exact ⟨_, fd, ["self", "lot"], F.g.cls_Solved, F.me_Solved_reduced, def_ok D sc_Solved_reduced (fun _ _ _ _ _ _ hr => w_Solved_reduced SP F.b F.g (c_summed F) hr) k_Solved_reduced, (D.bindsN fun _ _ _ _ _ _ us hl => match us, hl with | [_, _], _ => rfl)⟩
theorem f_check_hall (F : Fc K mg) {fd : FuncData} (D : FunD K "check_hall" "check_hall" (defArgs s_check_hall) (defBody s_check_hall) (defScope s_check_hall) [] [] (He.fAd K ("check_hall", none)) fd) : FnOk P w K mg base CX0 3 (He.fAd K ("check_hall", none)) fd ["hall"] (spD K 1 SP.check_hall) :=
  def_ok D sc_check_hall (fun _ _ _ _ _ _ hr => w_check_hall SP F.b F.g  hr) k_check_hall
theorem c_check_hall (F : Fc K mg) : CalD P w K mg base 3 1 "check_hall" SP.check_hall := by
  obtain ⟨fd, D⟩ := F.d_check_hall
  exact ⟨_, fd, ["hall"], f_check_hall F D, F.glo_check_hall, F.p_check_hall, (D.bindsN fun _ _ _ _ _ _ us hl => match us, hl with | [_], _ => rfl)⟩
theorem f_check_room (F : Fc K mg) {fd : FuncData} (D : FunD K "check_room" "check_room" (defArgs s_check_room) (defBody s_check_room) (defScope s_check_room) [] [] (He.fAd K ("check_room", none)) fd) : FnOk P w K mg base CX0 3 (He.fAd K ("check_room", none)) fd ["hall", "room"] (spD K 2 SP.check_room) :=
  def_ok D sc_check_room (fun _ _ _ _ _ _ hr => w_check_room SP F.b F.g (c_is_room F) hr) k_check_room
theorem c_check_room (F : Fc K mg) : CalD P w K mg base 3 2 "check_room" SP.check_room := by
  obtain ⟨fd, D⟩ := F.d_check_room
  exact ⟨_, fd, ["hall", "room"], f_check_room F D, F.glo_check_room, F.p_check_room, (D.bindsN fun _ _ _ _ _ _ us hl => match us, hl with | [_, _], _ => rfl)⟩
theorem f_check_lot (F : Fc K mg) {fd : FuncData} (D : FunD K "check_lot" "check_lot" (defArgs s_check_lot) (defBody s_check_lot) (defScope s_check_lot) [] [] (He.fAd K ("check_lot", none)) fd) : FnOk P w K mg base CX0 3 (He.fAd K ("check_lot", none)) fd ["hall", "lot"] (spD K 2 SP.check_lot) :=
  def_ok D sc_check_lot (fun _ _ _ _ _ _ hr => w_check_lot SP F.b F.g (c_is_lot_of F) hr) k_check_lot
theorem c_check_lot (F : Fc K mg) : CalD P w K mg base 3 2 "check_lot" SP.check_lot := by
  obtain ⟨fd, D⟩ := F.d_check_lot
  exact ⟨_, fd, ["hall", "lot"], f_check_lot F D, F.glo_check_lot, F.p_check_lot, (D.bindsN fun _ _ _ _ _ _ us hl => match us, hl with | [_, _], _ => rfl)⟩
theorem f_touches_of (F : Fc K mg) {fd : FuncData} (D : FunD K "touches_of" "touches_of" (defArgs s_touches_of) (defBody s_touches_of) (defScope s_touches_of) [] [] (He.fAd K ("touches_of", none)) fd) : FnOk P w K mg base CX0 3 (He.fAd K ("touches_of", none)) fd ["hall", "kind"] (spD K 2 SP.touches_of) :=
  def_ok D sc_touches_of (fun _ _ _ _ _ _ hr => w_touches_of SP F.b F.g (c_touch F) hr) k_touches_of
theorem c_touches_of (F : Fc K mg) : CalD P w K mg base 3 2 "touches_of" SP.touches_of := by
  obtain ⟨fd, D⟩ := F.d_touches_of
  exact ⟨_, fd, ["hall", "kind"], f_touches_of F D, F.glo_touches_of, F.p_touches_of, (D.bindsN fun _ _ _ _ _ _ us hl => match us, hl with | [_, _], _ => rfl)⟩
theorem f_law_names (F : Fc K mg) {fd : FuncData} (D : FunD K "_law_names" "_law_names" (defArgs s_law_names) (defBody s_law_names) (defScope s_law_names) [] [] (He.fAd K ("_law_names", none)) fd) : FnOk P w K mg base CX0 3 (He.fAd K ("_law_names", none)) fd ["stream", "many"] (spD K 2 SP.law_names) :=
  def_ok D sc_law_names (fun _ _ _ _ _ _ hr => w_law_names SP F.b F.g (c_law_draw F) (c_law_pick F) hr) k_law_names
theorem c_law_names (F : Fc K mg) : CalD P w K mg base 3 2 "_law_names" SP.law_names := by
  obtain ⟨fd, D⟩ := F.d_law_names
  exact ⟨_, fd, ["stream", "many"], f_law_names F D, F.glo_law_names, F.p_law_names, (D.bindsN fun _ _ _ _ _ _ us hl => match us, hl with | [_, _], _ => rfl)⟩
theorem f_law_behind (F : Fc K mg) {fd : FuncData} (D : FunD K "_law_behind" "_law_behind" (defArgs s_law_behind) (defBody s_law_behind) (defScope s_law_behind) [] [] (He.fAd K ("_law_behind", none)) fd) : FnOk P w K mg base CX0 3 (He.fAd K ("_law_behind", none)) fd ["hall", "kind", "lighting", "lot"] (spD K 4 SP.law_behind) :=
  def_ok D sc_law_behind (fun _ _ _ _ _ _ hr => w_law_behind SP F.b F.g (c_law_sum F) (c_law_touch F) hr) k_law_behind
theorem c_law_behind (F : Fc K mg) : CalD P w K mg base 3 4 "_law_behind" SP.law_behind := by
  obtain ⟨fd, D⟩ := F.d_law_behind
  exact ⟨_, fd, ["hall", "kind", "lighting", "lot"], f_law_behind F D, F.glo_law_behind, F.p_law_behind, (D.bindsN fun _ _ _ _ _ _ us hl => match us, hl with | [_, _, _, _], _ => rfl)⟩
theorem f_law_lot (F : Fc K mg) {fd : FuncData} (D : FunD K "_law_lot" "_law_lot" (defArgs s_law_lot) (defBody s_law_lot) (defScope s_law_lot) [] [] (He.fAd K ("_law_lot", none)) fd) : FnOk P w K mg base CX0 3 (He.fAd K ("_law_lot", none)) fd ["stream", "hall"] (spD K 2 SP.law_lot) :=
  def_ok D sc_law_lot (fun _ _ _ _ _ _ hr => w_law_lot SP F.b F.g (c_law_draw F) (c_law_mixed F) hr) k_law_lot
theorem c_law_lot (F : Fc K mg) : CalD P w K mg base 3 2 "_law_lot" SP.law_lot := by
  obtain ⟨fd, D⟩ := F.d_law_lot
  exact ⟨_, fd, ["stream", "hall"], f_law_lot F D, F.glo_law_lot, F.p_law_lot, (D.bindsN fun _ _ _ _ _ _ us hl => match us, hl with | [_, _], _ => rfl)⟩
theorem f_law_with (F : Fc K mg) {fd : FuncData} (D : FunD K "_law_with" "_law_with" (defArgs s_law_with) (defBody s_law_with) (defScope s_law_with) [] [] (He.fAd K ("_law_with", none)) fd) : FnOk P w K mg base CX0 3 (He.fAd K ("_law_with", none)) fd ["stream", "hall", "kind"] (spD K 3 SP.law_with) :=
  def_ok D sc_law_with (fun _ _ _ _ _ _ hr => w_law_with SP F.b F.g (c_law_around F) (c_law_draw F) (c_law_pick F) hr) k_law_with
theorem c_law_with (F : Fc K mg) : CalD P w K mg base 3 3 "_law_with" SP.law_with := by
  obtain ⟨fd, D⟩ := F.d_law_with
  exact ⟨_, fd, ["stream", "hall", "kind"], f_law_with F D, F.glo_law_with, F.p_law_with, (D.bindsN fun _ _ _ _ _ _ us hl => match us, hl with | [_, _, _], _ => rfl)⟩
theorem c_Hall_is_wire (F : Fc K mg) : MetD P w K mg base 3 2 "Hall" "is_wire" SP.Hall_is_wire := by
  obtain ⟨fd, D⟩ := F.d_Hall_is_wire
  exact ⟨_, fd, ["self", "thing"], F.g.cls_Hall, F.me_Hall_is_wire, def_ok D sc_Hall_is_wire (fun _ _ _ _ _ _ hr => w_Hall_is_wire SP F.b F.g (c_is_row F) hr) k_is_wire, (D.bindsN fun _ _ _ _ _ _ us hl => match us, hl with | [_, _], _ => rfl)⟩
theorem c_Solved (F : Fc K mg) : MakD P w K mg base 3 1 "Solved" SP.Solved := by
  obtain ⟨fd, D⟩ := F.d_Solved_init
  exact ⟨_, fd, ["self", "touches"], F.mk_Solved, solved_ok F.b F.g (c_Solved_reduced F) (c_summed F) D, F.g.cgm_Solved, (D.bindsN fun _ _ _ _ _ _ us hl => match us, hl with | [_, _], _ => rfl)⟩
theorem f_check_kind (F : Fc K mg) {fd : FuncData} (D : FunD K "check_kind" "check_kind" (defArgs s_check_kind) (defBody s_check_kind) (defScope s_check_kind) [] [] (He.fAd K ("check_kind", none)) fd) : FnOk P w K mg base CX0 4 (He.fAd K ("check_kind", none)) fd ["hall", "kind"] (spD K 2 SP.check_kind) :=
  def_ok D sc_check_kind (fun _ _ _ _ _ _ hr => w_check_kind SP F.b F.g (c_check_hall F) hr) k_check_kind
theorem c_check_kind (F : Fc K mg) : CalD P w K mg base 4 2 "check_kind" SP.check_kind := by
  obtain ⟨fd, D⟩ := F.d_check_kind
  exact ⟨_, fd, ["hall", "kind"], f_check_kind F D, F.glo_check_kind, F.p_check_kind, (D.bindsN fun _ _ _ _ _ _ us hl => match us, hl with | [_, _], _ => rfl)⟩
theorem f_ends (F : Fc K mg) {fd : FuncData} (D : FunD K "ends" "ends" (defArgs s_ends) (defBody s_ends) (defScope s_ends) [] [] (He.fAd K ("ends", none)) fd) : FnOk P w K mg base CX0 4 (He.fAd K ("ends", none)) fd ["hall"] (spN K false 1 SP.ends) :=
  def_okN D sc_ends (fun _ _ _ _ _ _ hr => w_ends SP F.b F.g (c_check_hall F) hr) k_ends
theorem c_ends (F : Fc K mg) : CalN P w K mg base 4 1 false "ends" SP.ends := by
  obtain ⟨fd, D⟩ := F.d_ends
  exact ⟨_, fd, ["hall"], f_ends F D, F.glo_ends, F.p_ends, (D.bindsN fun _ _ _ _ _ _ us hl => match us, hl with | [_], _ => rfl)⟩
theorem c_ends_K0 (F : Fc K mg) : CalKN P w K mg base 4 1 false "ends" ["hall"] [0] SP.ends := by
  obtain ⟨fd, D⟩ := F.d_ends
  exact ⟨_, fd, ["hall"], f_ends F D, F.glo_ends, F.p_ends, kbn_of D fun _ _ _ _ _ _ ws hl => match ws, hl with | [_], _ => rfl⟩
theorem n_law_spoilt (F : Fc K mg) : CalR P w K mg base 0 "_law_spoilt" (fun _ _ _ _ => False) := by
  obtain ⟨fd, D⟩ := F.d_law_spoilt
  exact ⟨_, fd, ["thing"], ⟨fun _ _ _ _ h => h.elim, fun _ _ _ _ _ _ _ _ _ _ _ _ _ h => h.elim⟩, F.glo_law_spoilt, F.p_law_spoilt, (D.bindsN fun _ _ _ _ _ _ us hl => match us, hl with | [_], _ => rfl)⟩
theorem c_law_spoiltJ (F : Fc K mg) : ∀ j : Nat, CalR P w K mg base (j + 1) "_law_spoilt" (spSpo j)
  | 0 => by
    obtain ⟨fd, D⟩ := F.d_law_spoilt
    exact ⟨_, fd, ["thing"], spoilt_ok 0 F.b (n_law_spoilt F) D, F.glo_law_spoilt, F.p_law_spoilt, (D.bindsN fun _ _ _ _ _ _ us hl => match us, hl with | [_], _ => rfl)⟩
  | j + 1 => by
    obtain ⟨fd, D⟩ := F.d_law_spoilt
    exact ⟨_, fd, ["thing"], spoilt_ok (j + 1) F.b (c_law_spoiltJ F j) D, F.glo_law_spoilt, F.p_law_spoilt, (D.bindsN fun _ _ _ _ _ _ us hl => match us, hl with | [_], _ => rfl)⟩
theorem c_law_spoilt (F : Fc K mg) : CalR P w K mg base 4 "_law_spoilt" (spSpo 3) := c_law_spoiltJ F 3
theorem f_law_quiets (F : Fc K mg) {fd : FuncData} (D : FunD K "_law_quiets" "_law_quiets" (defArgs s_law_quiets) (defBody s_law_quiets) (defScope s_law_quiets) [] [] (He.fAd K ("_law_quiets", none)) fd) : FnOk P w K mg base CX0 4 (He.fAd K ("_law_quiets", none)) fd ["hall", "kind"] (spD K 2 SP.law_quiets) :=
  def_ok D sc_law_quiets (fun _ _ _ _ _ _ hr => w_law_quiets SP F.b F.g (c_law_behind F) (c_law_lots F) hr) k_law_quiets
theorem c_law_quiets (F : Fc K mg) : CalD P w K mg base 4 2 "_law_quiets" SP.law_quiets := by
  obtain ⟨fd, D⟩ := F.d_law_quiets
  exact ⟨_, fd, ["hall", "kind"], f_law_quiets F D, F.glo_law_quiets, F.p_law_quiets, (D.bindsN fun _ _ _ _ _ _ us hl => match us, hl with | [_, _], _ => rfl)⟩
theorem f_law_hall (F : Fc K mg) {fd : FuncData} (D : FunD K "_law_hall" "_law_hall" (defArgs s_law_hall) (defBody s_law_hall) (defScope s_law_hall) [] [] (He.fAd K ("_law_hall", none)) fd) : FnOk P w K mg base CX0 4 (He.fAd K ("_law_hall", none)) fd ["stream", "rooms", "wires"] (spD K 3 SP.law_hall) :=
  def_ok D sc_law_hall (fun _ _ _ _ _ _ hr => w_law_hall SP F.b F.g (c_law_draw F) (c_law_mixed F) (c_law_names F) hr) k_law_hall
theorem c_law_hall (F : Fc K mg) : CalD P w K mg base 4 3 "_law_hall" SP.law_hall := by
  obtain ⟨fd, D⟩ := F.d_law_hall
  exact ⟨_, fd, ["stream", "rooms", "wires"], f_law_hall F D, F.glo_law_hall, F.p_law_hall, (D.bindsN fun _ _ _ _ _ _ us hl => match us, hl with | [_, _, _], _ => rfl)⟩
theorem c_Hall (F : Fc K mg) : MakD P w K mg base 4 2 "Hall" SP.Hall := by
  obtain ⟨fd, D⟩ := F.d_Hall_init
  exact ⟨_, fd, ["self", "rooms", "wires"], F.mk_Hall, hall_ok F.b F.g (c_first_bad_room F) (c_is_list F) (c_Hall_is_wire F) D, F.g.cgm_Hall, (D.bindsN fun _ _ _ _ _ _ us hl => match us, hl with | [_, _, _], _ => rfl)⟩

theorem f_check_two (F : Fc K mg) {fd : FuncData} (D : FunD K "check_two" "check_two" (defArgs s_check_two) (defBody s_check_two) (defScope s_check_two) [] [] (He.fAd K ("check_two", none)) fd) : FnOk P w K mg base CX0 5 (He.fAd K ("check_two", none)) fd ["hall", "kind", "lighting", "other"] (spD K 4 SP.check_two) :=
  def_ok D sc_check_two (fun _ _ _ _ _ _ hr => w_check_two SP F.b F.g (c_check_kind F) (c_check_lot F) hr) k_check_two
theorem c_check_two (F : Fc K mg) : CalD P w K mg base 5 4 "check_two" SP.check_two := by
  obtain ⟨fd, D⟩ := F.d_check_two
  exact ⟨_, fd, ["hall", "kind", "lighting", "other"], f_check_two F D, F.glo_check_two, F.p_check_two, (D.bindsN fun _ _ _ _ _ _ us hl => match us, hl with | [_, _, _, _], _ => rfl)⟩
theorem f_told_of (F : Fc K mg) {fd : FuncData} (D : FunD K "told_of" "told_of" (defArgs s_told_of) (defBody s_told_of) (defScope s_told_of) [] [] (He.fAd K ("told_of", none)) fd) : FnOk P w K mg base CX0 5 (He.fAd K ("told_of", none)) fd ["hall", "kind", "lot"] (spD K 3 SP.told_of) :=
  def_ok D sc_told_of (fun _ _ _ _ _ _ hr => w_told_of SP F.b F.g (c_Solved F) (c_is_even_with F) (c_touches_of F) (c_Solved_reduced F) hr) k_told_of
theorem c_told_of (F : Fc K mg) : CalD P w K mg base 5 3 "told_of" SP.told_of := by
  obtain ⟨fd, D⟩ := F.d_told_of
  exact ⟨_, fd, ["hall", "kind", "lot"], f_told_of F D, F.glo_told_of, F.p_told_of, (D.bindsN fun _ _ _ _ _ _ us hl => match us, hl with | [_, _, _], _ => rfl)⟩
theorem f_quiets (F : Fc K mg) {fd : FuncData} (D : FunD K "quiets" "quiets" (defArgs s_quiets) (defBody s_quiets) (defScope s_quiets) [] [] (He.fAd K ("quiets", none)) fd) : FnOk P w K mg base CX0 5 (He.fAd K ("quiets", none)) fd ["hall", "kind"] (spD K 2 SP.quiets) :=
  def_ok D sc_quiets (fun _ _ _ _ _ _ hr => w_quiets SP F.b F.g (c_Solved F) (c_check_kind F) (c_sums_of F) (c_touches_of F) hr) k_quiets
theorem c_quiets (F : Fc K mg) : CalD P w K mg base 5 2 "quiets" SP.quiets := by
  obtain ⟨fd, D⟩ := F.d_quiets
  exact ⟨_, fd, ["hall", "kind"], f_quiets F D, F.glo_quiets, F.p_quiets, (D.bindsN fun _ _ _ _ _ _ us hl => match us, hl with | [_, _], _ => rfl)⟩
theorem f_twins (F : Fc K mg) {fd : FuncData} (D : FunD K "twins" "twins" (defArgs s_twins) (defBody s_twins) (defScope s_twins) [] [] (He.fAd K ("twins", none)) fd) : FnOk P w K mg base CX0 5 (He.fAd K ("twins", none)) fd ["hall", "kind"] (spN K false 2 SP.twins) :=
  def_okN D sc_twins (fun _ _ _ _ _ _ hr => w_twins SP F.b F.g (c_check_kind F) (c_touches_of F) hr) k_twins
theorem c_twins (F : Fc K mg) : CalN P w K mg base 5 2 false "twins" SP.twins := by
  obtain ⟨fd, D⟩ := F.d_twins
  exact ⟨_, fd, ["hall", "kind"], f_twins F D, F.glo_twins, F.p_twins, (D.bindsN fun _ _ _ _ _ _ us hl => match us, hl with | [_, _], _ => rfl)⟩
theorem c_twins_K10 (F : Fc K mg) : CalKN P w K mg base 5 2 false "twins" ["kind", "hall"] [1, 0] SP.twins := by
  obtain ⟨fd, D⟩ := F.d_twins
  exact ⟨_, fd, ["hall", "kind"], f_twins F D, F.glo_twins, F.p_twins, kbn_of D fun _ _ _ _ _ _ ws hl => match ws, hl with | [_, _], _ => rfl⟩
theorem f_presses_or_watch (F : Fc K mg) {fd : FuncData} (D : FunD K "presses_or_watch" "presses_or_watch" (defArgs s_presses_or_watch) (defBody s_presses_or_watch) (defScope s_presses_or_watch) [] [] (He.fAd K ("presses_or_watch", none)) fd) : FnOk P w K mg base CX0 6 (He.fAd K ("presses_or_watch", none)) fd ["hall", "kind", "lighting", "other"] (spD K 4 SP.presses_or_watch) :=
  def_ok D sc_presses_or_watch (fun _ _ _ _ _ _ hr => w_presses_or_watch SP F.b F.g (c_check_two F) (c_summed F) (c_told_of F) hr) k_presses_or_watch
theorem c_presses_or_watch (F : Fc K mg) : CalD P w K mg base 6 4 "presses_or_watch" SP.presses_or_watch := by
  obtain ⟨fd, D⟩ := F.d_presses_or_watch
  exact ⟨_, fd, ["hall", "kind", "lighting", "other"], f_presses_or_watch F D, F.glo_presses_or_watch, F.p_presses_or_watch, (D.bindsN fun _ _ _ _ _ _ us hl => match us, hl with | [_, _, _, _], _ => rfl)⟩
theorem f_within (F : Fc K mg) {fd : FuncData} (D : FunD K "within" "within" (defArgs s_within) (defBody s_within) (defScope s_within) [] [] (He.fAd K ("within", none)) fd) : FnOk P w K mg base CX0 6 (He.fAd K ("within", none)) fd ["hall", "rooms"] (spD K 2 SP.within) :=
  def_ok D sc_within (fun _ _ _ _ _ _ hr => w_within SP F.b F.g (c_Hall F) hr) k_within
theorem c_within (F : Fc K mg) : CalD P w K mg base 6 2 "within" SP.within := by
  obtain ⟨fd, D⟩ := F.d_within
  exact ⟨_, fd, ["hall", "rooms"], f_within F D, F.glo_within, F.p_within, (D.bindsN fun _ _ _ _ _ _ us hl => match us, hl with | [_, _], _ => rfl)⟩
theorem f_without_rooms (F : Fc K mg) {fd : FuncData} (D : FunD K "without_rooms" "without_rooms" (defArgs s_without_rooms) (defBody s_without_rooms) (defScope s_without_rooms) [] [] (He.fAd K ("without_rooms", none)) fd) : FnOk P w K mg base CX0 7 (He.fAd K ("without_rooms", none)) fd ["hall", "lot"] (spD K 2 SP.without_rooms) :=
  def_ok D sc_without_rooms (fun _ _ _ _ _ _ hr => w_without_rooms SP F.b F.g (c_check_hall F) (c_is_lot_of F) (c_within F) hr) k_without_rooms
theorem c_without_rooms (F : Fc K mg) : CalD P w K mg base 7 2 "without_rooms" SP.without_rooms := by
  obtain ⟨fd, D⟩ := F.d_without_rooms
  exact ⟨_, fd, ["hall", "lot"], f_without_rooms F D, F.glo_without_rooms, F.p_without_rooms, (D.bindsN fun _ _ _ _ _ _ us hl => match us, hl with | [_, _], _ => rfl)⟩
theorem c_without_rooms_K10 (F : Fc K mg) : CalK P w K mg base 7 2 "without_rooms" ["lot", "hall"] [1, 0] SP.without_rooms := by
  obtain ⟨fd, D⟩ := F.d_without_rooms
  exact ⟨_, fd, ["hall", "lot"], f_without_rooms F D, F.glo_without_rooms, F.p_without_rooms, kbn_of D fun _ _ _ _ _ _ ws hl => match ws, hl with | [_, _], _ => rfl⟩
theorem c_law_looseJ (F : Fc K mg) : ∀ j : Nat, CalD P w K mg base (2 * j) 2 "_law_loose" (spLoose j)
  | 0 => by
    obtain ⟨fd, D⟩ := F.d_law_loose
    exact CalD.never (ps := ["stream", "thing"]) D F.glo_law_loose F.p_law_loose (D.bindsN fun _ _ _ _ _ _ us hl => match us, hl with | [_, _], _ => rfl)
  | j + 1 => by
    obtain ⟨fd, D⟩ := F.d_law_loose
    exact ⟨_, fd, ["stream", "thing"], def_ok D sc_law_loose (fun _ _ _ _ _ _ hr => w_law_loose (SPl j) F.b F.g (c_law_draw F) (c_law_looseJ F j) hr) (k_law_loose j), F.glo_law_loose, F.p_law_loose, (D.bindsN fun _ _ _ _ _ _ us hl => match us, hl with | [_, _], _ => rfl)⟩
theorem c_law_loose (F : Fc K mg) : CalD P w K mg base 9 2 "_law_loose" SP.law_loose := (c_law_looseJ F 3).up (by decide)
theorem c_law_sameJ (F : Fc K mg) : ∀ j : Nat, CalD P w K mg base j 2 "_law_same" (spSame j)
  | 0 => by
    obtain ⟨fd, D⟩ := F.d_law_same
    exact CalD.never (ps := ["found", "due"]) D F.glo_law_same F.p_law_same (D.bindsN fun _ _ _ _ _ _ us hl => match us, hl with | [_, _], _ => rfl)
  | j + 1 => by
    obtain ⟨fd, D⟩ := F.d_law_same
    exact ⟨_, fd, ["found", "due"], def_ok D sc_law_same (fun _ _ _ _ _ _ hr => w_law_same (SPs j) F.b F.g (c_law_sameJ F j) hr) (k_law_same j), F.glo_law_same, F.p_law_same, (D.bindsN fun _ _ _ _ _ _ us hl => match us, hl with | [_, _], _ => rfl)⟩
theorem c_law_same (F : Fc K mg) : CalD P w K mg base 10 2 "_law_same" SP.law_same := (c_law_sameJ F 6).up (by decide)
theorem f_law_made (F : Fc K mg) {fd : FuncData} (D : FunD K "_law_made" "_law_made" (defArgs s_law_made) (defBody s_law_made) (defScope s_law_made) [] [] (He.fAd K ("_law_made", none)) fd) : FnOk P w K mg base CX0 10 (He.fAd K ("_law_made", none)) fd ["stream", "hall"] (spD K 2 SP.law_made) :=
  def_ok D sc_law_made (fun _ _ _ _ _ _ hr => w_law_made SP F.b F.g (c_Hall F) (c_law_loose F) (c_law_mixed F) hr) k_law_made
theorem c_law_made (F : Fc K mg) : CalD P w K mg base 10 2 "_law_made" SP.law_made := by
  obtain ⟨fd, D⟩ := F.d_law_made
  exact ⟨_, fd, ["stream", "hall"], f_law_made F D, F.glo_law_made, F.p_law_made, (D.bindsN fun _ _ _ _ _ _ us hl => match us, hl with | [_, _], _ => rfl)⟩
theorem c_law_lots_right (F : Fc K mg) : CalG P w K mg base 11 3 "_law_lots_right" SP.law_lots_right := by
  obtain ⟨fd, D⟩ := F.d_law_lots_right
  exact ⟨_, fd, ["stream", "hall", "made"], def_okG D sc_law_lots_right (fun _ _ _ _ _ _ hgd hr => w_law_lots_right SP F.b F.g (c_law_loose F) (c_law_lot F) (c_law_same F) (c_law_without F) (c_without_rooms F) (c_without_rooms_K10 F) (c_Hall_rooms F) (c_Hall_wires F) hgd hr) k_law_lots_right, F.glo_law_lots_right, F.p_law_lots_right, (D.bindsN fun _ _ _ _ _ _ us hl => match us, hl with | [_, _, _], _ => rfl)⟩
theorem f_law_twins_right (F : Fc K mg) {fd : FuncData} (D : FunD K "_law_twins_right" "_law_twins_right" (defArgs s_law_twins_right) (defBody s_law_twins_right) (defScope s_law_twins_right) [] [] (He.fAd K ("_law_twins_right", none)) fd) : FnOk P w K mg base CX0 11 (He.fAd K ("_law_twins_right", none)) fd ["stream", "hall", "made", "kind"] (spD K 4 SP.law_twins_right) :=
  def_ok D sc_law_twins_right (fun _ _ _ _ _ _ hr => w_law_twins_right SP F.b F.g (c_law_behind F) (c_law_draw F) (c_law_lot F) (c_law_mixed F) (c_law_quiets F) (c_law_same F) (c_law_touch F) (c_law_without F) (c_presses_or_watch F) (c_quiets F) (c_twins F) (c_without_rooms F) (c_twins_K10 F) (c_law_spoilt F) hr) k_law_twins_right
theorem c_law_twins_right (F : Fc K mg) : CalD P w K mg base 11 4 "_law_twins_right" SP.law_twins_right := by
  obtain ⟨fd, D⟩ := F.d_law_twins_right
  exact ⟨_, fd, ["stream", "hall", "made", "kind"], f_law_twins_right F D, F.glo_law_twins_right, F.p_law_twins_right, (D.bindsN fun _ _ _ _ _ _ us hl => match us, hl with | [_, _, _, _], _ => rfl)⟩
theorem f_law_ends_right (F : Fc K mg) {fd : FuncData} (D : FunD K "_law_ends_right" "_law_ends_right" (defArgs s_law_ends_right) (defBody s_law_ends_right) (defScope s_law_ends_right) [] [] (He.fAd K ("_law_ends_right", none)) fd) : FnOk P w K mg base CX0 11 (He.fAd K ("_law_ends_right", none)) fd ["hall", "made"] (spD K 2 SP.law_ends_right) :=
  def_ok D sc_law_ends_right (fun _ _ _ _ _ _ hr => w_law_ends_right SP F.b F.g (c_law_around F) (c_law_quiets F) (c_law_same F) (c_law_without F) (c_ends F) (c_quiets F) (c_without_rooms F) (c_ends_K0 F) (c_law_spoilt F) hr) k_law_ends_right
theorem c_law_ends_right (F : Fc K mg) : CalD P w K mg base 11 2 "_law_ends_right" SP.law_ends_right := by
  obtain ⟨fd, D⟩ := F.d_law_ends_right
  exact ⟨_, fd, ["hall", "made"], f_law_ends_right F D, F.glo_law_ends_right, F.p_law_ends_right, (D.bindsN fun _ _ _ _ _ _ us hl => match us, hl with | [_, _], _ => rfl)⟩
theorem f_law (F : Fc K mg) {fd : FuncData} (D : FunD K "law" "law" (defArgs s_law) (defBody s_law) (defScope s_law) [] [] (He.fAd K ("law", none)) fd) : FnG P w K mg base CX0 12 (He.fAd K ("law", none)) fd ["script"] (spLaw K) :=
  law_ok F.b F.g (c_law_stream F) (fun hgd hr => w_law SP F.b F.g (c_Hall F) (c_law_ends_right F) (c_law_hall F) (c_law_lots_right F) (c_law_made F) (c_law_pick F) (c_law_same F) (c_law_twins_right F) (c_law_with F) (c_ends F) (c_twins F) (c_without_rooms F) (c_Hall_wires F) hgd hr) D
end
end W
namespace HD
open PySem PySem.Spec PyProof.Rows L2
def d_is_list : He.DefD := ⟨("is_list", none), "is_list", "is_list", defArgs W.s_is_list, defBody W.s_is_list, defScope W.s_is_list, [], []⟩
def d_is_row : He.DefD := ⟨("is_row", none), "is_row", "is_row", defArgs W.s_is_row, defBody W.s_is_row, defScope W.s_is_row, [], []⟩
def d_is_name : He.DefD := ⟨("is_name", none), "is_name", "is_name", defArgs W.s_is_name, defBody W.s_is_name, defScope W.s_is_name, [], []⟩
def d_is_rising : He.DefD := ⟨("is_rising", none), "is_rising", "is_rising", defArgs W.s_is_rising, defBody W.s_is_rising, defScope W.s_is_rising, [], []⟩
def d_first_bad_room : He.DefD := ⟨("first_bad_room", none), "first_bad_room", "first_bad_room", defArgs W.s_first_bad_room, defBody W.s_first_bad_room, defScope W.s_first_bad_room, [], []⟩
def d_check_hall : He.DefD := ⟨("check_hall", none), "check_hall", "check_hall", defArgs W.s_check_hall, defBody W.s_check_hall, defScope W.s_check_hall, [], []⟩
def d_is_room : He.DefD := ⟨("is_room", none), "is_room", "is_room", defArgs W.s_is_room, defBody W.s_is_room, defScope W.s_is_room, [], []⟩
def d_check_room : He.DefD := ⟨("check_room", none), "check_room", "check_room", defArgs W.s_check_room, defBody W.s_check_room, defScope W.s_check_room, [], []⟩
def d_is_lot_of : He.DefD := ⟨("is_lot_of", none), "is_lot_of", "is_lot_of", defArgs W.s_is_lot_of, defBody W.s_is_lot_of, defScope W.s_is_lot_of, [], []⟩
def d_check_lot : He.DefD := ⟨("check_lot", none), "check_lot", "check_lot", defArgs W.s_check_lot, defBody W.s_check_lot, defScope W.s_check_lot, [], []⟩
def d_check_kind : He.DefD := ⟨("check_kind", none), "check_kind", "check_kind", defArgs W.s_check_kind, defBody W.s_check_kind, defScope W.s_check_kind, [], []⟩
def d_summed : He.DefD := ⟨("summed", none), "summed", "summed", defArgs W.s_summed, defBody W.s_summed, defScope W.s_summed, [], []⟩
def d_touch : He.DefD := ⟨("touch", none), "touch", "touch", defArgs W.s_touch, defBody W.s_touch, defScope W.s_touch, [], []⟩
def d_touches_of : He.DefD := ⟨("touches_of", none), "touches_of", "touches_of", defArgs W.s_touches_of, defBody W.s_touches_of, defScope W.s_touches_of, [], []⟩
def d_is_even_with : He.DefD := ⟨("is_even_with", none), "is_even_with", "is_even_with", defArgs W.s_is_even_with, defBody W.s_is_even_with, defScope W.s_is_even_with, [], []⟩
def d_check_two : He.DefD := ⟨("check_two", none), "check_two", "check_two", defArgs W.s_check_two, defBody W.s_check_two, defScope W.s_check_two, [], []⟩
def d_told_of : He.DefD := ⟨("told_of", none), "told_of", "told_of", defArgs W.s_told_of, defBody W.s_told_of, defScope W.s_told_of, [], []⟩
def d_presses_or_watch : He.DefD := ⟨("presses_or_watch", none), "presses_or_watch", "presses_or_watch", defArgs W.s_presses_or_watch, defBody W.s_presses_or_watch, defScope W.s_presses_or_watch, [], []⟩
def d_sums_of : He.DefD := ⟨("sums_of", none), "sums_of", "sums_of", defArgs W.s_sums_of, defBody W.s_sums_of, defScope W.s_sums_of, [], []⟩
def d_quiets : He.DefD := ⟨("quiets", none), "quiets", "quiets", defArgs W.s_quiets, defBody W.s_quiets, defScope W.s_quiets, [], []⟩
def d_within : He.DefD := ⟨("within", none), "within", "within", defArgs W.s_within, defBody W.s_within, defScope W.s_within, [], []⟩
def d_twins : He.DefD := ⟨("twins", none), "twins", "twins", defArgs W.s_twins, defBody W.s_twins, defScope W.s_twins, [], []⟩
def d_without_rooms : He.DefD := ⟨("without_rooms", none), "without_rooms", "without_rooms", defArgs W.s_without_rooms, defBody W.s_without_rooms, defScope W.s_without_rooms, [], []⟩
def d_ends : He.DefD := ⟨("ends", none), "ends", "ends", defArgs W.s_ends, defBody W.s_ends, defScope W.s_ends, [], []⟩
def d_law_stream : He.DefD := ⟨("_law_stream", none), "_law_stream", "_law_stream", defArgs W.s_law_stream, defBody W.s_law_stream, defScope W.s_law_stream, [], []⟩
def d_law_draw : He.DefD := ⟨("_law_draw", none), "_law_draw", "_law_draw", defArgs W.s_law_draw, defBody W.s_law_draw, defScope W.s_law_draw, [], []⟩
def d_law_pick : He.DefD := ⟨("_law_pick", none), "_law_pick", "_law_pick", defArgs W.s_law_pick, defBody W.s_law_pick, defScope W.s_law_pick, [], []⟩
def d_law_mixed : He.DefD := ⟨("_law_mixed", none), "_law_mixed", "_law_mixed", defArgs W.s_law_mixed, defBody W.s_law_mixed, defScope W.s_law_mixed, [], []⟩
def d_law_same : He.DefD := ⟨("_law_same", none), "_law_same", "_law_same", defArgs W.s_law_same, defBody W.s_law_same, defScope W.s_law_same, [], []⟩
def d_law_loose : He.DefD := ⟨("_law_loose", none), "_law_loose", "_law_loose", defArgs W.s_law_loose, defBody W.s_law_loose, defScope W.s_law_loose, [], []⟩
def d_law_spoilt : He.DefD := ⟨("_law_spoilt", none), "_law_spoilt", "_law_spoilt", defArgs W.s_law_spoilt, defBody W.s_law_spoilt, defScope W.s_law_spoilt, [], []⟩
def d_law_names : He.DefD := ⟨("_law_names", none), "_law_names", "_law_names", defArgs W.s_law_names, defBody W.s_law_names, defScope W.s_law_names, [], []⟩
def d_law_around : He.DefD := ⟨("_law_around", none), "_law_around", "_law_around", defArgs W.s_law_around, defBody W.s_law_around, defScope W.s_law_around, [], []⟩
def d_law_touch : He.DefD := ⟨("_law_touch", none), "_law_touch", "_law_touch", defArgs W.s_law_touch, defBody W.s_law_touch, defScope W.s_law_touch, [], []⟩
def d_law_sum : He.DefD := ⟨("_law_sum", none), "_law_sum", "_law_sum", defArgs W.s_law_sum, defBody W.s_law_sum, defScope W.s_law_sum, [], []⟩
def d_law_behind : He.DefD := ⟨("_law_behind", none), "_law_behind", "_law_behind", defArgs W.s_law_behind, defBody W.s_law_behind, defScope W.s_law_behind, [], []⟩
def d_law_lots : He.DefD := ⟨("_law_lots", none), "_law_lots", "_law_lots", defArgs W.s_law_lots, defBody W.s_law_lots, defScope W.s_law_lots, [], []⟩
def d_law_quiets : He.DefD := ⟨("_law_quiets", none), "_law_quiets", "_law_quiets", defArgs W.s_law_quiets, defBody W.s_law_quiets, defScope W.s_law_quiets, [], []⟩
def d_law_hall : He.DefD := ⟨("_law_hall", none), "_law_hall", "_law_hall", defArgs W.s_law_hall, defBody W.s_law_hall, defScope W.s_law_hall, [], []⟩
def d_law_lot : He.DefD := ⟨("_law_lot", none), "_law_lot", "_law_lot", defArgs W.s_law_lot, defBody W.s_law_lot, defScope W.s_law_lot, [], []⟩
def d_law_made : He.DefD := ⟨("_law_made", none), "_law_made", "_law_made", defArgs W.s_law_made, defBody W.s_law_made, defScope W.s_law_made, [], []⟩
def d_law_with : He.DefD := ⟨("_law_with", none), "_law_with", "_law_with", defArgs W.s_law_with, defBody W.s_law_with, defScope W.s_law_with, [], []⟩
def d_law_without : He.DefD := ⟨("_law_without", none), "_law_without", "_law_without", defArgs W.s_law_without, defBody W.s_law_without, defScope W.s_law_without, [], []⟩
def d_law_lots_right : He.DefD := ⟨("_law_lots_right", none), "_law_lots_right", "_law_lots_right", defArgs W.s_law_lots_right, defBody W.s_law_lots_right, defScope W.s_law_lots_right, [], []⟩
def d_law_twins_right : He.DefD := ⟨("_law_twins_right", none), "_law_twins_right", "_law_twins_right", defArgs W.s_law_twins_right, defBody W.s_law_twins_right, defScope W.s_law_twins_right, [], []⟩
def d_law_ends_right : He.DefD := ⟨("_law_ends_right", none), "_law_ends_right", "_law_ends_right", defArgs W.s_law_ends_right, defBody W.s_law_ends_right, defScope W.s_law_ends_right, [], []⟩
def d_law : He.DefD := ⟨("law", none), "law", "law", defArgs W.s_law, defBody W.s_law, defScope W.s_law, [], []⟩
def d_Hall_init : He.DefD := ⟨("Hall", some "__init__"), "__init__", "Hall.__init__", defArgs W.s_Hall_init, defBody W.s_Hall_init, defScope W.s_Hall_init, [], []⟩
def d_Hall_is_wire : He.DefD := ⟨("Hall", some "is_wire"), "is_wire", "Hall.is_wire", defArgs W.s_Hall_is_wire, defBody W.s_Hall_is_wire, defScope W.s_Hall_is_wire, [], []⟩
def d_Hall_rooms : He.DefD := ⟨("Hall", some "rooms"), "rooms", "Hall.rooms", defArgs W.s_Hall_rooms, defBody W.s_Hall_rooms, defScope W.s_Hall_rooms, [], []⟩
def d_Hall_wires : He.DefD := ⟨("Hall", some "wires"), "wires", "Hall.wires", defArgs W.s_Hall_wires, defBody W.s_Hall_wires, defScope W.s_Hall_wires, [], []⟩
def d_Hall_around : He.DefD := ⟨("Hall", some "around"), "around", "Hall.around", defArgs W.s_Hall_around, defBody W.s_Hall_around, defScope W.s_Hall_around, [], []⟩
def d_Solved_init : He.DefD := ⟨("Solved", some "__init__"), "__init__", "Solved.__init__", defArgs W.s_Solved_init, defBody W.s_Solved_init, defScope W.s_Solved_init, [], []⟩
def d_Solved_reduced : He.DefD := ⟨("Solved", some "reduced"), "reduced", "Solved.reduced", defArgs W.s_Solved_reduced, defBody W.s_Solved_reduced, defScope W.s_Solved_reduced, [], []⟩
def fn : List He.DefD := [d_is_list, d_is_row, d_is_name, d_is_rising, d_first_bad_room, d_check_hall, d_is_room, d_check_room, d_is_lot_of, d_check_lot, d_check_kind, d_summed, d_touch, d_touches_of, d_is_even_with, d_check_two, d_told_of, d_presses_or_watch, d_sums_of, d_quiets, d_within, d_twins, d_without_rooms, d_ends, d_law_stream, d_law_draw, d_law_pick, d_law_mixed, d_law_same, d_law_loose, d_law_spoilt, d_law_names, d_law_around, d_law_touch, d_law_sum, d_law_behind, d_law_lots, d_law_quiets, d_law_hall, d_law_lot, d_law_made, d_law_with, d_law_without, d_law_lots_right, d_law_twins_right, d_law_ends_right, d_law, d_Hall_init, d_Hall_is_wire, d_Hall_rooms, d_Hall_wires, d_Hall_around, d_Solved_init, d_Solved_reduced]
def fa : List He.Fa := [.glo "is_list", .glo "is_row", .glo "is_name", .glo "is_rising", .glo "first_bad_room", .glo "check_hall", .glo "is_room", .glo "check_room", .glo "is_lot_of", .glo "check_lot", .glo "check_kind", .glo "summed", .glo "touch", .glo "touches_of", .glo "is_even_with", .glo "check_two", .glo "told_of", .glo "presses_or_watch", .glo "sums_of", .glo "quiets", .glo "within", .glo "twins", .glo "without_rooms", .glo "ends", .glo "_law_stream", .glo "_law_draw", .glo "_law_pick", .glo "_law_mixed", .glo "_law_same", .glo "_law_loose", .glo "_law_spoilt", .glo "_law_names", .glo "_law_around", .glo "_law_touch", .glo "_law_sum", .glo "_law_behind", .glo "_law_lots", .glo "_law_quiets", .glo "_law_hall", .glo "_law_lot", .glo "_law_made", .glo "_law_with", .glo "_law_without", .glo "_law_lots_right", .glo "_law_twins_right", .glo "_law_ends_right", .glo "law", .glo "Hall", .cls "Hall", .keep "Hall", .mkr "Hall", .meth "Hall" "is_wire", .meth "Hall" "rooms", .meth "Hall" "wires", .meth "Hall" "around", .meth "Hall" "__eq__", .noat "Hall" "own_rooms", .noat "Hall" "own_wires", .noat "Hall" "own_around", .glo "Solved", .cls "Solved", .keep "Solved", .mkr "Solved", .meth "Solved" "reduced", .noat "Solved" "own_rows", .noat "Solved" "own_quiet", .str "LETTERS" "abcdefghijklmnopqrstuvwxyz", .glo "KINDS", .free "ValueError", .free "abs", .free "all", .free "any", .free "bool", .free "dict", .free "enumerate", .free "int", .free "isinstance", .free "len", .free "list", .free "max", .free "min", .free "range", .free "repr", .free "sorted", .free "str", .free "tuple", .free "zip"]
def ex (K : PySem.W.Frag) : Bool := He.lstB K "KINDS" [.str "own", .str "around"] && (He.eqO (PySem.W.findIn K (.ref (He.ga K "Hall")) "__class__") (some (some (.builtin "object.__class__"))) && (decide (PySem.W.mroIn K (He.ga K "Hall") (.type "object") = some true) && (He.eqO (PySem.W.findIn K (.ref (He.ga K "Solved")) "__class__") (some (some (.builtin "object.__class__"))) && (decide (PySem.W.mroIn K (He.ga K "Solved") (.type "object") = some true) && (He.eqO (PySem.W.specialIn K (.builtin "object.__class__") "__get__") (some (some (.builtin "getset_descriptor.__get__"))) && (decide (PySem.W.takesIn K (.builtin "object.__class__") = some true)))))))
abbrev R : PySem.W.OpenRow := PySem.W.OpenLaw.row PySem.Challenge.rw_oddlights_k79_whole_main_twins_and_ends
abbrev hk : PySem.W.Hook := He.hookX 5 fa fn [] [] ex
def ob (s : PySem.W.SharedT) : He.AlX := He.obsX 5 fa fn [] [] ex (HandSHeadRun.getT s)
theorem ob_eq (s : PySem.W.SharedT) : ob s = hk.obs s.abs := He.obsX_eq (HandSHeadRun.getT_eq s)
def loose0 : List PySem.Str := ["BadHall", "BadKind", "BadLot", "BadRoom", "BadRooms", "BadWires", "Hall", "KINDS", "LETTERS", "LampError", "Solved", "_law_around", "_law_behind", "_law_draw", "_law_ends_right", "_law_hall", "_law_loose", "_law_lot", "_law_lots", "_law_lots_right", "_law_made", "_law_mixed", "_law_names", "_law_pick", "_law_quiets", "_law_same", "_law_spoilt", "_law_stream", "_law_sum", "_law_touch"]
def loose1 : List PySem.Str := ["_law_twins_right", "_law_with", "_law_without", "check_hall", "check_kind", "check_lot", "check_room", "check_two", "ends", "first_bad_room", "is_even_with", "is_list", "is_lot_of", "is_name", "is_rising", "is_room", "is_row", "presses_or_watch", "quiets", "summed", "sums_of", "told_of", "touch", "touches_of", "twins", "within", "without_rooms"]
def loose : List PySem.Str := loose0 ++ loose1
theorem run (w : World) : HandSHeadRun.RunEq R (PySem.W.view R.prog [63]) hk ob 6000 loose w := by
  intro os
  kernel_rfl
end HD
namespace W
open PySem PySem.Spec PySem.W PyProof.Rows L2 DL
theorem fc_of {w : World} {K : PySem.W.Frag} {h : Heap} {mg : Str → Option Value} (X : K.In h) (N : h.Ns mainGlobals mg) (c : He.SaysX HD.fa HD.fn [] [] HD.ex w h K) : Fc K mg := by
  have c0 := c.t.d
  have hx := c.more
  unfold HD.ex at hx
  have hn := He.eqO_ok (He.ba (He.ba (He.ba (He.ba (He.ba (He.ba hx).2).2).2).2).2).1
  have htk := of_decide_eq_true (He.ba (He.ba (He.ba (He.ba (He.ba (He.ba hx).2).2).2).2).2).2
  have cl_Hall := He.cls_ok (c0.fact 48 (f := .cls "Hall") rfl)
  have cd_Hall : ClsD K (He.ga K "Hall") := ⟨cl_Hall, He.eqO_ok (He.ba (He.ba hx).2).1, hn, htk, of_decide_eq_true (He.ba (He.ba (He.ba hx).2).2).1⟩
  have cl_Solved := He.cls_ok (c0.fact 60 (f := .cls "Solved") rfl)
  have cd_Solved : ClsD K (He.ga K "Solved") := ⟨cl_Solved, He.eqO_ok (He.ba (He.ba (He.ba (He.ba hx).2).2).2).1, hn, htk, of_decide_eq_true (He.ba (He.ba (He.ba (He.ba (He.ba hx).2).2).2).2).1⟩
  exact {
    b := { abs := He.free_ok X N (c0.fact 69 (f := .free "abs") rfl), all := He.free_ok X N (c0.fact 70 (f := .free "all") rfl), any := He.free_ok X N (c0.fact 71 (f := .free "any") rfl), bool := He.free_ok X N (c0.fact 72 (f := .free "bool") rfl), dict := He.free_ok X N (c0.fact 73 (f := .free "dict") rfl), enumerate := He.free_ok X N (c0.fact 74 (f := .free "enumerate") rfl), int := He.free_ok X N (c0.fact 75 (f := .free "int") rfl), isinstance := He.free_ok X N (c0.fact 76 (f := .free "isinstance") rfl), len := He.free_ok X N (c0.fact 77 (f := .free "len") rfl), list := He.free_ok X N (c0.fact 78 (f := .free "list") rfl), max := He.free_ok X N (c0.fact 79 (f := .free "max") rfl), min := He.free_ok X N (c0.fact 80 (f := .free "min") rfl), range := He.free_ok X N (c0.fact 81 (f := .free "range") rfl), repr := He.free_ok X N (c0.fact 82 (f := .free "repr") rfl), sorted := He.free_ok X N (c0.fact 83 (f := .free "sorted") rfl), str := He.free_ok X N (c0.fact 84 (f := .free "str") rfl), tuple := He.free_ok X N (c0.fact 85 (f := .free "tuple") rfl), zip := He.free_ok X N (c0.fact 86 (f := .free "zip") rfl) }
    g := { k_LETTERS := (He.str_ok X N (c0.fact 66 (f := .str "LETTERS" "abcdefghijklmnopqrstuvwxyz") rfl)).elim fun t h => ⟨_, h, t, rfl⟩, k_KINDS := ⟨_, He.glo_ok X N (c0.fact 67 (f := .glo "KINDS") rfl), He.lstB_ok (He.ba hx).1⟩, cls_Hall := cl_Hall, cld_Hall := cd_Hall, cgm_Hall := He.glo_ok X N (c0.fact 47 (f := .glo "Hall") rfl), cls_Solved := cl_Solved, cld_Solved := cd_Solved, cgm_Solved := He.glo_ok X N (c0.fact 59 (f := .glo "Solved") rfl), na_Hall_own_rooms := He.noat_ok (c0.fact 56 (f := .noat "Hall" "own_rooms") rfl), na_Hall_own_wires := He.noat_ok (c0.fact 57 (f := .noat "Hall" "own_wires") rfl), na_Hall_own_around := He.noat_ok (c0.fact 58 (f := .noat "Hall" "own_around") rfl), na_Solved_own_rows := He.noat_ok (c0.fact 64 (f := .noat "Solved" "own_rows") rfl), na_Solved_own_quiet := He.noat_ok (c0.fact 65 (f := .noat "Solved" "own_quiet") rfl) }
    d_is_list := c0.def_ 0 (d := HD.d_is_list) rfl
    d_is_row := c0.def_ 1 (d := HD.d_is_row) rfl
    d_is_name := c0.def_ 2 (d := HD.d_is_name) rfl
    d_is_rising := c0.def_ 3 (d := HD.d_is_rising) rfl
    d_first_bad_room := c0.def_ 4 (d := HD.d_first_bad_room) rfl
    d_check_hall := c0.def_ 5 (d := HD.d_check_hall) rfl
    d_is_room := c0.def_ 6 (d := HD.d_is_room) rfl
    d_check_room := c0.def_ 7 (d := HD.d_check_room) rfl
    d_is_lot_of := c0.def_ 8 (d := HD.d_is_lot_of) rfl
    d_check_lot := c0.def_ 9 (d := HD.d_check_lot) rfl
    d_check_kind := c0.def_ 10 (d := HD.d_check_kind) rfl
    d_summed := c0.def_ 11 (d := HD.d_summed) rfl
    d_touch := c0.def_ 12 (d := HD.d_touch) rfl
    d_touches_of := c0.def_ 13 (d := HD.d_touches_of) rfl
    d_is_even_with := c0.def_ 14 (d := HD.d_is_even_with) rfl
    d_check_two := c0.def_ 15 (d := HD.d_check_two) rfl
    d_told_of := c0.def_ 16 (d := HD.d_told_of) rfl
    d_presses_or_watch := c0.def_ 17 (d := HD.d_presses_or_watch) rfl
    d_sums_of := c0.def_ 18 (d := HD.d_sums_of) rfl
    d_quiets := c0.def_ 19 (d := HD.d_quiets) rfl
    d_within := c0.def_ 20 (d := HD.d_within) rfl
    d_twins := c0.def_ 21 (d := HD.d_twins) rfl
    d_without_rooms := c0.def_ 22 (d := HD.d_without_rooms) rfl
    d_ends := c0.def_ 23 (d := HD.d_ends) rfl
    d_law_stream := c0.def_ 24 (d := HD.d_law_stream) rfl
    d_law_draw := c0.def_ 25 (d := HD.d_law_draw) rfl
    d_law_pick := c0.def_ 26 (d := HD.d_law_pick) rfl
    d_law_mixed := c0.def_ 27 (d := HD.d_law_mixed) rfl
    d_law_same := c0.def_ 28 (d := HD.d_law_same) rfl
    d_law_loose := c0.def_ 29 (d := HD.d_law_loose) rfl
    d_law_spoilt := c0.def_ 30 (d := HD.d_law_spoilt) rfl
    d_law_names := c0.def_ 31 (d := HD.d_law_names) rfl
    d_law_around := c0.def_ 32 (d := HD.d_law_around) rfl
    d_law_touch := c0.def_ 33 (d := HD.d_law_touch) rfl
    d_law_sum := c0.def_ 34 (d := HD.d_law_sum) rfl
    d_law_behind := c0.def_ 35 (d := HD.d_law_behind) rfl
    d_law_lots := c0.def_ 36 (d := HD.d_law_lots) rfl
    d_law_quiets := c0.def_ 37 (d := HD.d_law_quiets) rfl
    d_law_hall := c0.def_ 38 (d := HD.d_law_hall) rfl
    d_law_lot := c0.def_ 39 (d := HD.d_law_lot) rfl
    d_law_made := c0.def_ 40 (d := HD.d_law_made) rfl
    d_law_with := c0.def_ 41 (d := HD.d_law_with) rfl
    d_law_without := c0.def_ 42 (d := HD.d_law_without) rfl
    d_law_lots_right := c0.def_ 43 (d := HD.d_law_lots_right) rfl
    d_law_twins_right := c0.def_ 44 (d := HD.d_law_twins_right) rfl
    d_law_ends_right := c0.def_ 45 (d := HD.d_law_ends_right) rfl
    d_law := c0.def_ 46 (d := HD.d_law) rfl
    d_Hall_init := c0.def_ 47 (d := HD.d_Hall_init) rfl
    d_Hall_is_wire := c0.def_ 48 (d := HD.d_Hall_is_wire) rfl
    d_Hall_rooms := c0.def_ 49 (d := HD.d_Hall_rooms) rfl
    d_Hall_wires := c0.def_ 50 (d := HD.d_Hall_wires) rfl
    d_Hall_around := c0.def_ 51 (d := HD.d_Hall_around) rfl
    d_Solved_init := c0.def_ 52 (d := HD.d_Solved_init) rfl
    d_Solved_reduced := c0.def_ 53 (d := HD.d_Solved_reduced) rfl
    p_is_list := kp_of c0 0 (d := HD.d_is_list) rfl
    p_is_row := kp_of c0 1 (d := HD.d_is_row) rfl
    p_is_name := kp_of c0 2 (d := HD.d_is_name) rfl
    p_is_rising := kp_of c0 3 (d := HD.d_is_rising) rfl
    p_first_bad_room := kp_of c0 4 (d := HD.d_first_bad_room) rfl
    p_check_hall := kp_of c0 5 (d := HD.d_check_hall) rfl
    p_is_room := kp_of c0 6 (d := HD.d_is_room) rfl
    p_check_room := kp_of c0 7 (d := HD.d_check_room) rfl
    p_is_lot_of := kp_of c0 8 (d := HD.d_is_lot_of) rfl
    p_check_lot := kp_of c0 9 (d := HD.d_check_lot) rfl
    p_check_kind := kp_of c0 10 (d := HD.d_check_kind) rfl
    p_summed := kp_of c0 11 (d := HD.d_summed) rfl
    p_touch := kp_of c0 12 (d := HD.d_touch) rfl
    p_touches_of := kp_of c0 13 (d := HD.d_touches_of) rfl
    p_is_even_with := kp_of c0 14 (d := HD.d_is_even_with) rfl
    p_check_two := kp_of c0 15 (d := HD.d_check_two) rfl
    p_told_of := kp_of c0 16 (d := HD.d_told_of) rfl
    p_presses_or_watch := kp_of c0 17 (d := HD.d_presses_or_watch) rfl
    p_sums_of := kp_of c0 18 (d := HD.d_sums_of) rfl
    p_quiets := kp_of c0 19 (d := HD.d_quiets) rfl
    p_within := kp_of c0 20 (d := HD.d_within) rfl
    p_twins := kp_of c0 21 (d := HD.d_twins) rfl
    p_without_rooms := kp_of c0 22 (d := HD.d_without_rooms) rfl
    p_ends := kp_of c0 23 (d := HD.d_ends) rfl
    p_law_stream := kp_of c0 24 (d := HD.d_law_stream) rfl
    p_law_draw := kp_of c0 25 (d := HD.d_law_draw) rfl
    p_law_pick := kp_of c0 26 (d := HD.d_law_pick) rfl
    p_law_mixed := kp_of c0 27 (d := HD.d_law_mixed) rfl
    p_law_same := kp_of c0 28 (d := HD.d_law_same) rfl
    p_law_loose := kp_of c0 29 (d := HD.d_law_loose) rfl
    p_law_spoilt := kp_of c0 30 (d := HD.d_law_spoilt) rfl
    p_law_names := kp_of c0 31 (d := HD.d_law_names) rfl
    p_law_around := kp_of c0 32 (d := HD.d_law_around) rfl
    p_law_touch := kp_of c0 33 (d := HD.d_law_touch) rfl
    p_law_sum := kp_of c0 34 (d := HD.d_law_sum) rfl
    p_law_behind := kp_of c0 35 (d := HD.d_law_behind) rfl
    p_law_lots := kp_of c0 36 (d := HD.d_law_lots) rfl
    p_law_quiets := kp_of c0 37 (d := HD.d_law_quiets) rfl
    p_law_hall := kp_of c0 38 (d := HD.d_law_hall) rfl
    p_law_lot := kp_of c0 39 (d := HD.d_law_lot) rfl
    p_law_made := kp_of c0 40 (d := HD.d_law_made) rfl
    p_law_with := kp_of c0 41 (d := HD.d_law_with) rfl
    p_law_without := kp_of c0 42 (d := HD.d_law_without) rfl
    p_law_lots_right := kp_of c0 43 (d := HD.d_law_lots_right) rfl
    p_law_twins_right := kp_of c0 44 (d := HD.d_law_twins_right) rfl
    p_law_ends_right := kp_of c0 45 (d := HD.d_law_ends_right) rfl
    p_law := kp_of c0 46 (d := HD.d_law) rfl
    p_Hall_init := kp_of c0 47 (d := HD.d_Hall_init) rfl
    p_Hall_is_wire := kp_of c0 48 (d := HD.d_Hall_is_wire) rfl
    p_Hall_rooms := kp_of c0 49 (d := HD.d_Hall_rooms) rfl
    p_Hall_wires := kp_of c0 50 (d := HD.d_Hall_wires) rfl
    p_Hall_around := kp_of c0 51 (d := HD.d_Hall_around) rfl
    p_Solved_init := kp_of c0 52 (d := HD.d_Solved_init) rfl
    p_Solved_reduced := kp_of c0 53 (d := HD.d_Solved_reduced) rfl
    glo_is_list := He.glo_ok X N (c0.fact 0 (f := .glo "is_list") rfl)
    glo_is_row := He.glo_ok X N (c0.fact 1 (f := .glo "is_row") rfl)
    glo_is_name := He.glo_ok X N (c0.fact 2 (f := .glo "is_name") rfl)
    glo_is_rising := He.glo_ok X N (c0.fact 3 (f := .glo "is_rising") rfl)
    glo_first_bad_room := He.glo_ok X N (c0.fact 4 (f := .glo "first_bad_room") rfl)
    glo_check_hall := He.glo_ok X N (c0.fact 5 (f := .glo "check_hall") rfl)
    glo_is_room := He.glo_ok X N (c0.fact 6 (f := .glo "is_room") rfl)
    glo_check_room := He.glo_ok X N (c0.fact 7 (f := .glo "check_room") rfl)
    glo_is_lot_of := He.glo_ok X N (c0.fact 8 (f := .glo "is_lot_of") rfl)
    glo_check_lot := He.glo_ok X N (c0.fact 9 (f := .glo "check_lot") rfl)
    glo_check_kind := He.glo_ok X N (c0.fact 10 (f := .glo "check_kind") rfl)
    glo_summed := He.glo_ok X N (c0.fact 11 (f := .glo "summed") rfl)
    glo_touch := He.glo_ok X N (c0.fact 12 (f := .glo "touch") rfl)
    glo_touches_of := He.glo_ok X N (c0.fact 13 (f := .glo "touches_of") rfl)
    glo_is_even_with := He.glo_ok X N (c0.fact 14 (f := .glo "is_even_with") rfl)
    glo_check_two := He.glo_ok X N (c0.fact 15 (f := .glo "check_two") rfl)
    glo_told_of := He.glo_ok X N (c0.fact 16 (f := .glo "told_of") rfl)
    glo_presses_or_watch := He.glo_ok X N (c0.fact 17 (f := .glo "presses_or_watch") rfl)
    glo_sums_of := He.glo_ok X N (c0.fact 18 (f := .glo "sums_of") rfl)
    glo_quiets := He.glo_ok X N (c0.fact 19 (f := .glo "quiets") rfl)
    glo_within := He.glo_ok X N (c0.fact 20 (f := .glo "within") rfl)
    glo_twins := He.glo_ok X N (c0.fact 21 (f := .glo "twins") rfl)
    glo_without_rooms := He.glo_ok X N (c0.fact 22 (f := .glo "without_rooms") rfl)
    glo_ends := He.glo_ok X N (c0.fact 23 (f := .glo "ends") rfl)
    glo_law_stream := He.glo_ok X N (c0.fact 24 (f := .glo "_law_stream") rfl)
    glo_law_draw := He.glo_ok X N (c0.fact 25 (f := .glo "_law_draw") rfl)
    glo_law_pick := He.glo_ok X N (c0.fact 26 (f := .glo "_law_pick") rfl)
    glo_law_mixed := He.glo_ok X N (c0.fact 27 (f := .glo "_law_mixed") rfl)
    glo_law_same := He.glo_ok X N (c0.fact 28 (f := .glo "_law_same") rfl)
    glo_law_loose := He.glo_ok X N (c0.fact 29 (f := .glo "_law_loose") rfl)
    glo_law_spoilt := He.glo_ok X N (c0.fact 30 (f := .glo "_law_spoilt") rfl)
    glo_law_names := He.glo_ok X N (c0.fact 31 (f := .glo "_law_names") rfl)
    glo_law_around := He.glo_ok X N (c0.fact 32 (f := .glo "_law_around") rfl)
    glo_law_touch := He.glo_ok X N (c0.fact 33 (f := .glo "_law_touch") rfl)
    glo_law_sum := He.glo_ok X N (c0.fact 34 (f := .glo "_law_sum") rfl)
    glo_law_behind := He.glo_ok X N (c0.fact 35 (f := .glo "_law_behind") rfl)
    glo_law_lots := He.glo_ok X N (c0.fact 36 (f := .glo "_law_lots") rfl)
    glo_law_quiets := He.glo_ok X N (c0.fact 37 (f := .glo "_law_quiets") rfl)
    glo_law_hall := He.glo_ok X N (c0.fact 38 (f := .glo "_law_hall") rfl)
    glo_law_lot := He.glo_ok X N (c0.fact 39 (f := .glo "_law_lot") rfl)
    glo_law_made := He.glo_ok X N (c0.fact 40 (f := .glo "_law_made") rfl)
    glo_law_with := He.glo_ok X N (c0.fact 41 (f := .glo "_law_with") rfl)
    glo_law_without := He.glo_ok X N (c0.fact 42 (f := .glo "_law_without") rfl)
    glo_law_lots_right := He.glo_ok X N (c0.fact 43 (f := .glo "_law_lots_right") rfl)
    glo_law_twins_right := He.glo_ok X N (c0.fact 44 (f := .glo "_law_twins_right") rfl)
    glo_law_ends_right := He.glo_ok X N (c0.fact 45 (f := .glo "_law_ends_right") rfl)
    glo_law := He.glo_ok X N (c0.fact 46 (f := .glo "law") rfl)
    mk_Hall := He.mkr_ok (c0.fact 50 (f := .mkr "Hall") rfl)
    me_Hall_is_wire := He.meth_ok (c0.fact 51 (f := .meth "Hall" "is_wire") rfl)
    me_Hall_rooms := He.meth_ok (c0.fact 52 (f := .meth "Hall" "rooms") rfl)
    me_Hall_wires := He.meth_ok (c0.fact 53 (f := .meth "Hall" "wires") rfl)
    me_Hall_around := He.meth_ok (c0.fact 54 (f := .meth "Hall" "around") rfl)
    mk_Solved := He.mkr_ok (c0.fact 62 (f := .mkr "Solved") rfl)
    me_Solved_reduced := He.meth_ok (c0.fact 63 (f := .meth "Solved" "reduced") rfl)
  }
end W
open PySem PySem.W PySem.Calls PyProof.Rows
theorem PySem.Challenge.cw_oddlights_k79_whole_main_twins_and_ends_holds : PySem.Challenge.rw_oddlights_k79_whole_main_twins_and_ends.Holds := by
  w_on; o_law
  refine HandSHeadRun.head_any (r := OpenLaw.row PySem.Challenge.rw_oddlights_k79_whole_main_twins_and_ends) (q := view (OpenLaw.row PySem.Challenge.rw_oddlights_k79_whole_main_twins_and_ends).prog [63]) (H := HD.hk) (ob := HD.ob) (M := 6000) (loose := HD.loose) (d := HandSHeadRun.topDef (OpenLaw.row PySem.Challenge.rw_oddlights_k79_whole_main_twins_and_ends).prog 63) (kwd := []) HD.ob_eq
    (by kernel_rfl) (fun s => by kernel_rfl) HD.run (by kernel_rfl) (by kernel_rfl) (by kernel_rfl) (by rfl) (by first | assumption | decide +kernel) (by decide +kernel) ⟨rfl, rfl, rfl, rfl, rfl, by decide +kernel⟩ ?hw ?hc
  case hw => w_witness2
  case hc =>
    refine DL.walk_G (l := PySem.Challenge.rw_oddlights_k79_whole_main_twins_and_ends) (k := 12) (x := "script") rfl (by kernel_rfl) ⟨rfl, by decide, by decide⟩ ?F
    intro w mg fa h Y G hmg0
    obtain ⟨K, KX, c⟩ := Y
    have hmg : mg ("law" : PySem.Str) = some (.ref fa) := by
      have e : (HandSHeadRun.topDef (OpenLaw.row PySem.Challenge.rw_oddlights_k79_whole_main_twins_and_ends).prog 63).name = ("law" : PySem.Str) := by kernel_rfl
      rw [← e]
      exact hmg0
    have F := W.fc_of KX G c
    obtain ⟨fd, D⟩ := F.d_law
    have e := hmg.symm.trans F.glo_law
    cases e
    exact ⟨K, fd, KX, fun s v => (D.bindsA (ps := ["script"]) fun _ _ _ _ _ _ us hl => match us, hl with | [_], _ => rfl) s [v] rfl, fun base _ _ => W.f_law F D⟩
