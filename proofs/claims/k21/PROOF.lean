import PyProof.Rows.All
import HandS.Lambda
import HandS.ForMost
import HandS.ForExc
import HandS.TupAny
import HandS.Style
import HandS.TupMul
import HandS.Deep
import HandS.IsInst
import HandS.GenList
import HandS.AnyAll
import HandS.Text
import PyProof.JoinWalk
import PyProof.TupleOfSeq
import HandS.Conv
import PyProof.Rows.SortShellAny
import PyProof.ListStr
import PyProof.ListCopy
import HandS.Replace
import HandS.Dict
import PyProof.Draws
import PyProof.EnumMake
import HandS.Iter
import HandS.Defaults
import HandS.HeadHook4
import HandS.HeadWalk
import HandS.EndTab
import HandS.Head0
import HandS.Head1
import HandS.Head2
import HandS.Set
import HandS.SetTxt0
import HandS.Strs
import PyProof.StrWalks
import HandS.SortKw
import HandS.More
import PyProof.StrOps2
import KE.GoesZip
import PyProof.WalkInts
import KE.DataMinKey
import HandS.StrMore
import KE.GoesEnum
import PyProof.SumWalkG
import PySem.Challenge.RW_traceclasses_k21_how_many_traces
set_option Elab.async false
set_option linter.all false
set_option maxRecDepth 100000
set_option maxHeartbeats 4000000
/-! Plain data over the layer: D, the world W (what is true of the object at an address), what a value stands for, the slots of a def. -/
namespace TC
open PySem PySem.Spec PyProof.Rows L2

/-- plain data: no heap in sight -/
inductive D where
  | non | bl (b : Bool) | int (i : Int) | str (s : List Nat) | tup (l : List D) | lst (l : List D) | dct (l : List (Key × D)) | dtt (l : List (List Key × D)) | obj (n : Nat) (l : List D)

abbrev mkS (s : List Nat) : Str := ⟨s.toArray⟩
theorem mkS_len (s : List Nat) : (mkS s).length = s.length := by simp [mkS, PySem.Str.length]
theorem mkS_app (a b : List Nat) : mkS a ++ mkS b = mkS (a ++ b) := by
  show (⟨_⟩ : Str) = ⟨_⟩
  congr 1
  simp
theorem mkS_inj {a b : List Nat} (h : mkS a = mkS b) : a = b := by
  have := congrArg (fun z : Str => z.cps.toList) h
  simpa [mkS] using this
theorem mkS_toList (a : List Nat) : (mkS a).cps.toList = a := by simp [mkS]

/-- the world: what is true of the object at an address, for good -/
abbrev Wd := Addr → Option (HO → Prop)
def WLe (W W' : Wd) : Prop := ∀ a P, W a = some P → W' a = some P
theorem WLe.refl (W : Wd) : WLe W W := fun _ _ h => h
theorem WLe.trans {W W1 W2 : Wd} (a : WLe W W1) (b : WLe W1 W2) : WLe W W2 := fun c P h => b c P (a c P h)
def wup (W : Wd) (a : Addr) (P : HO → Prop) : Wd := fun b => if b = a then some P else W b
theorem wup_same {W : Wd} {a : Addr} {P : HO → Prop} : wup W a P a = some P := by unfold wup; rw [if_pos rfl]
theorem wup_ne {W : Wd} {a b : Addr} {P : HO → Prop} (h : b ≠ a) : wup W a P b = W b := by unfold wup; rw [if_neg h]
theorem wup_le {W : Wd} {a : Addr} {P : HO → Prop} (h : W a = none) : WLe W (wup W a P) := fun b Q e => by
  rw [wup_ne (fun z => by subst z; rw [h] at e; cases e)]; exact e

/-- the frozen object u -/
def Fz (u : HO) : HO → Prop := fun o => o = u

/-- objects with a meaning of their own: kind n, data l, at a -/
structure ObjI where
  rel : Nat → List D → Wd → Addr → Prop
  mono : ∀ {n l W W' a}, WLe W W' → rel n l W a → rel n l W' a

section
variable (O : ObjI)
mutual
/-- the value v stands for the data d, all of it frozen -/
inductive Rep (W : Wd) : D → V → Prop
  | non : Rep W .non .non
  | bl {b} : Rep W (.bl b) (.bl b)
  | int {i} : Rep W (.int i) (.int i)
  | str {s} : s.length ≤ sizeLine → Rep W (.str s) (.str (mkS s))
  | tup {l a vs} : W a = some (Fz (.tup vs)) → RepL W l vs → Rep W (.tup l) (.ref a)
  | lst {l a vs} : W a = some (Fz (.lst vs)) → RepL W l vs → Rep W (.lst l) (.ref a)
  | dct {l a vs} : W a = some (Fz (.dK vs)) → RepD W l vs → Rep W (.dct l) (.ref a)
  | dtt {l a vs} : W a = some (Fz (.dT vs)) → RepT W l vs → Rep W (.dtt l) (.ref a)
  | obj {n l a} : O.rel n l W a → Rep W (.obj n l) (.ref a)
inductive RepL (W : Wd) : List D → List V → Prop
  | nil : RepL W [] []
  | cons {d l v vs} : Rep W d v → RepL W l vs → RepL W (d :: l) (v :: vs)
inductive RepD (W : Wd) : List (Key × D) → List (Key × V) → Prop
  | nil : RepD W [] []
  | cons {k d l v vs} : Rep W d v → RepD W l vs → RepD W ((k, d) :: l) ((k, v) :: vs)
inductive RepT (W : Wd) : List (List Key × D) → List (List Key × V) → Prop
  | nil : RepT W [] []
  | cons {k d l v vs} : Rep W d v → RepT W l vs → RepT W ((k, d) :: l) ((k, v) :: vs)
end
end

section
variable {O : ObjI} {W W' : Wd}
mutual
theorem Rep.mono (h : WLe W W') : ∀ {d : D} {v : V}, Rep O W d v → Rep O W' d v
  | _, _, .non => .non
  | _, _, .bl => .bl
  | _, _, .int => .int
  | _, _, .str h => .str h
  | _, _, .tup e r => .tup (h _ _ e) (RepL.mono h r)
  | _, _, .lst e r => .lst (h _ _ e) (RepL.mono h r)
  | _, _, .dct e r => .dct (h _ _ e) (RepD.mono h r)
  | _, _, .dtt e r => .dtt (h _ _ e) (RepT.mono h r)
  | _, _, .obj e => .obj (O.mono h e)
theorem RepL.mono (h : WLe W W') : ∀ {l : List D} {vs : List V}, RepL O W l vs → RepL O W' l vs
  | _, _, .nil => .nil
  | _, _, .cons r t => .cons (Rep.mono h r) (RepL.mono h t)
theorem RepD.mono (h : WLe W W') : ∀ {l : List (Key × D)} {vs : List (Key × V)}, RepD O W l vs → RepD O W' l vs
  | _, _, .nil => .nil
  | _, _, .cons r t => .cons (Rep.mono h r) (RepD.mono h t)
theorem RepT.mono (h : WLe W W') : ∀ {l : List (List Key × D)} {vs : List (List Key × V)}, RepT O W l vs → RepT O W' l vs
  | _, _, .nil => .nil
  | _, _, .cons r t => .cons (Rep.mono h r) (RepT.mono h t)
end
theorem RepT.length : ∀ {l : List (List Key × D)} {vs : List (List Key × V)}, RepT O W l vs → l.length = vs.length
  | _, _, .nil => rfl
  | _, _, .cons _ t => congrArg (· + 1) (RepT.length t)
theorem RepL.length : ∀ {l : List D} {vs : List V}, RepL O W l vs → l.length = vs.length
  | _, _, .nil => rfl
  | _, _, .cons _ t => congrArg (· + 1) (RepL.length t)
theorem RepD.length : ∀ {l : List (Key × D)} {vs : List (Key × V)}, RepD O W l vs → l.length = vs.length
  | _, _, .nil => rfl
  | _, _, .cons _ t => congrArg (· + 1) (RepD.length t)
theorem RepL.get : ∀ {l : List D} {vs : List V} {i : Nat} {d : D}, RepL O W l vs → l[i]? = some d → ∃ v, vs[i]? = some v ∧ Rep O W d v
  | _, _, _, _, .nil, e => by simp at e
  | _, _, 0, _, .cons r _, e => by simp at e; subst e; exact ⟨_, rfl, r⟩
  | _, _, i + 1, d, .cons _ t, e => by
    obtain ⟨v, h1, h2⟩ := RepL.get (i := i) (d := d) t (by simpa using e)
    exact ⟨v, by simpa using h1, h2⟩
theorem RepL.getV : ∀ {l : List D} {vs : List V} {i : Nat} {v : V}, RepL O W l vs → vs[i]? = some v → ∃ d, l[i]? = some d ∧ Rep O W d v
  | _, _, _, _, .nil, e => by simp at e
  | _, _, 0, _, .cons r _, e => by simp at e; subst e; exact ⟨_, rfl, r⟩
  | _, _, i + 1, v, .cons _ t, e => by
    obtain ⟨d, h1, h2⟩ := RepL.getV (i := i) (v := v) t (by simpa using e)
    exact ⟨d, by simpa using h1, h2⟩
theorem RepL.append : ∀ {l k : List D} {vs ws : List V}, RepL O W l vs → RepL O W k ws → RepL O W (l ++ k) (vs ++ ws)
  | _, _, _, _, .nil, s => s
  | _, _, _, _, .cons r t, s => .cons r (RepL.append t s)
theorem RepL.take : ∀ {l : List D} {vs : List V} (n : Nat), RepL O W l vs → RepL O W (l.take n) (vs.take n)
  | _, _, 0, _ => by simp; exact .nil
  | _, _, _ + 1, .nil => .nil
  | _, _, n + 1, .cons r t => .cons r (RepL.take n t)
theorem RepL.drop : ∀ {l : List D} {vs : List V} (n : Nat), RepL O W l vs → RepL O W (l.drop n) (vs.drop n)
  | _, _, 0, r => r
  | _, _, _ + 1, .nil => .nil
  | _, _, n + 1, .cons _ t => RepL.drop n t
theorem RepL.set : ∀ {l : List D} {vs : List V} {d : D} {v : V} (i : Nat), Rep O W d v → RepL O W l vs → RepL O W (l.set i d) (vs.set i v)
  | _, _, _, _, _, _, .nil => .nil
  | _, _, _, _, 0, q, .cons _ t => .cons q t
  | _, _, _, _, i + 1, q, .cons r t => .cons r (RepL.set i q t)
theorem RepL.eraseIdx : ∀ {l : List D} {vs : List V} (i : Nat), RepL O W l vs → RepL O W (l.eraseIdx i) (vs.eraseIdx i)
  | _, _, _, .nil => .nil
  | _, _, 0, .cons _ t => t
  | _, _, i + 1, .cons r t => .cons r (RepL.eraseIdx i t)
theorem RepL.reverse {l : List D} {vs : List V} (h : RepL O W l vs) : RepL O W l.reverse vs.reverse := by
  induction h using RepL.rec (motive_1 := fun _ _ _ => True) (motive_3 := fun _ _ _ => True) (motive_4 := fun _ _ _ => True) with
  | nil => exact .nil
  | cons r t _ ih => rw [List.reverse_cons, List.reverse_cons]; exact ih.append (.cons r .nil)
  | _ => trivial
theorem RepD.val : ∀ {l : List (Key × D)} {vs : List (Key × V)} (k : Key), RepD O W l vs → (∀ d, (l.find? fun p => decide (p.1 = k)).map (·.2) = some d → ∃ v, valV vs k = some v ∧ Rep O W d v) ∧ ((l.find? fun p => decide (p.1 = k)).map (·.2) = none → valV vs k = none)
  | _, _, _, .nil => ⟨fun _ h => (by cases h), fun _ => rfl⟩
  | _, _, k, .cons (k := j) r t => by
    by_cases e : j = k
    · subst e
      refine ⟨fun d h => ?_, fun h => ?_⟩
      · simp at h; subst h; exact ⟨_, valV_pos rfl, r⟩
      · simp at h
    · obtain ⟨h1, h2⟩ := RepD.val k t
      refine ⟨fun d h => ?_, fun h => ?_⟩
      · rw [List.find?_cons_of_neg (by simpa using e)] at h
        obtain ⟨v, q1, q2⟩ := h1 d h
        exact ⟨v, by rw [valV_neg e]; exact q1, q2⟩
      · rw [List.find?_cons_of_neg (by simpa using e)] at h
        rw [valV_neg e]; exact h2 h
theorem RepT.val : ∀ {l : List (List Key × D)} {vs : List (List Key × V)} (k : List Key), RepT O W l vs → (∀ d, (l.find? fun p => decide (p.1 = k)).map (·.2) = some d → ∃ v, valV vs k = some v ∧ Rep O W d v) ∧ ((l.find? fun p => decide (p.1 = k)).map (·.2) = none → valV vs k = none)
  | _, _, _, .nil => ⟨fun _ h => (by cases h), fun _ => rfl⟩
  | _, _, k, .cons (k := j) r t => by
    by_cases e : j = k
    · subst e
      refine ⟨fun d h => ?_, fun h => ?_⟩
      · simp at h; subst h; exact ⟨_, valV_pos rfl, r⟩
      · simp at h
    · obtain ⟨h1, h2⟩ := RepT.val k t
      refine ⟨fun d h => ?_, fun h => ?_⟩
      · rw [List.find?_cons_of_neg (by simpa using e)] at h
        obtain ⟨v, q1, q2⟩ := h1 d h
        exact ⟨v, by rw [valV_neg e]; exact q1, q2⟩
      · rw [List.find?_cons_of_neg (by simpa using e)] at h
        rw [valV_neg e]; exact h2 h
theorem RepL.strs : ∀ {l : List (List Nat)} {vs : List V}, RepL O W (l.map D.str) vs → vs = (l.map mkS).map V.str ∧ ∀ x ∈ l, x.length ≤ sizeLine
  | [], _, .nil => ⟨rfl, fun _ h => by cases h⟩
  | x :: l, _, .cons r t => by
    obtain ⟨e, h⟩ := RepL.strs (l := l) t
    cases r with
    | str hx => exact ⟨by rw [e]; rfl, fun y hy => by rcases List.mem_cons.mp hy with rfl | hy; exact hx; exact h y hy⟩
theorem RepL.ofStrs : ∀ {l : List (List Nat)}, (∀ x ∈ l, x.length ≤ sizeLine) → RepL O W (l.map D.str) ((l.map mkS).map V.str)
  | [], _ => .nil
  | x :: l, h => .cons (.str (h x List.mem_cons_self)) (RepL.ofStrs fun y hy => h y (List.mem_cons_of_mem _ hy))
theorem RepL.ints : ∀ {l : List Int} {vs : List V}, RepL O W (l.map D.int) vs → vs = l.map V.int
  | [], _, .nil => rfl
  | x :: l, _, .cons r t => by
    have e := RepL.ints (l := l) t
    cases r
    rw [e]; rfl
theorem RepL.ofInts : ∀ {l : List Int}, RepL O W (l.map D.int) (l.map V.int)
  | [] => .nil
  | x :: l => .cons .int RepL.ofInts
end

/-- the tables of code objects: what is true of one -/
def TblP : HO → Prop := fun o => ∃ ps : Array Value, o = .tbl ps ∧ TriplesOk ps.toList

/-- a code object, of some name -/
def CdP (c : Addr) : HO → Prop := fun o => ∃ q, o = LamX.CodeO c q
/-- the world holds of the heap; TB: the tables of code objects -/
structure WOk (TB : List Addr) (W : Wd) (H : Hp) : Prop where
  at_ : ∀ a P, W a = some P → ∃ o, H a = some o ∧ P o
  tb : ∀ P ∈ TB, W P = some TblP
  cd : ∀ P ∈ TB, ∀ ps, H P = some (.tbl ps) → ∀ pos cv, codeAmong pos ps.toList = some cv → ∃ c, cv = .ref c ∧ W c = some (CdP c)

/-- what a slot of a def holds: nothing told; frozen data; a list or dict that is its own; a list or dict that the def around owns (within a comprehension) -/
inductive Sl where
  | no | fz (d : D) | ow (d : D) | br (d : D)
abbrev Rho := List Sl

/-- what is to be kept as it is: g; b, of it, what the slots of the def around own -/
structure Kp where
  b : Hp
  g : Hp
section
variable (O : ObjI)
/-- an object that can still change: its content now -/
inductive Cnt (W : Wd) : D → HO → Prop
  | lst {l vs} : RepL O W l vs → Cnt W (.lst l) (.lst vs)
  | dct {l vs} : RepD O W l vs → Cnt W (.dct l) (.dK vs)
  | dtt {l vs} : RepT O W l vs → Cnt W (.dtt l) (.dT vs)
def SlOk (G : Kp) (W : Wd) (H : Hp) : Sl → Option V → Prop
  | .no, _ => True
  | .fz d, ov => ∃ v, ov = some v ∧ Rep O W d v
  | .ow d, ov => ∃ a o, ov = some (.ref a) ∧ W a = none ∧ H a = some o ∧ Cnt O W d o
  | .br d, ov => ∃ a o, ov = some (.ref a) ∧ G.b a = some o ∧ Cnt O W d o
/-- the address that slot i owns -/
def Owns (ρ : Rho) (σ : L2.St) (i : Nat) (a : Addr) : Prop := (∃ d, ρ[i]? = some (.ow d)) ∧ σ[i]? = some (some (.ref a))

/-- the state: G, the objects that are to be kept as they are; W, the world; ρ, what the slots hold -/
structure SOk (TB : List Addr) (G : Kp) (W : Wd) (ρ : Rho) (σ : L2.St) (H : Hp) : Prop where
  w : WOk TB W H
  g : ∀ a o, G.g a = some o → H a = some o ∧ W a = none
  b : ∀ a o, G.b a = some o → G.g a = some o
  len : ρ.length = σ.length
  sl : ∀ (i : Nat) (s : Sl), ρ[i]? = some s → ∃ ov, σ[i]? = some ov ∧ SlOk O G W H s ov
  og : ∀ i a, Owns ρ σ i a → G.g a = none
  dj : ∀ i j a, Owns ρ σ i a → Owns ρ σ j a → i = j

/-- how a value is held: frozen; a new list or dict; the one that slot i owns; one that the def around owns -/
inductive Kd where
  | fz | fr | sl (i : Nat) | br
def RepK (G : Kp) (W : Wd) (H : Hp) (ρ : Rho) (σ : L2.St) : Kd → D → V → Prop
  | .fz, d, v => Rep O W d v
  | .fr, d, v => ∃ a o, v = .ref a ∧ W a = none ∧ H a = some o ∧ Cnt O W d o ∧ G.g a = none ∧ ∀ i, ¬ Owns ρ σ i a
  | .sl i, d, v => σ[i]? = some (some v) ∧ (ρ[i]? = some (.ow d) ∨ Rep O W d v)
  | .br, d, v => ∃ a o, v = .ref a ∧ G.b a = some o ∧ Cnt O W d o
end

/-- between two states of the slots: some of what they own has been frozen -/
def Fro (ρ ρ' : Rho) : Prop := ρ'.length = ρ.length ∧ ∀ (i : Nat) (s s' : Sl), ρ[i]? = some s → ρ'[i]? = some s' → s' = s ∨ ∃ d, s = .ow d ∧ s' = .fz d
theorem Fro.refl (ρ : Rho) : Fro ρ ρ := ⟨rfl, fun i s s' h h' => by rw [h] at h'; cases h'; exact .inl rfl⟩
theorem Fro.trans {ρ ρ1 ρ2 : Rho} (a : Fro ρ ρ1) (b : Fro ρ1 ρ2) : Fro ρ ρ2 := by
  refine ⟨b.1.trans a.1, fun i s s2 h h2 => ?_⟩
  have hi : i < ρ1.length := by
    rw [a.1]
    rcases Nat.lt_or_ge i ρ.length with z | z
    · exact z
    · rw [List.getElem?_eq_none z] at h; cases h
  have e1 : ρ1[i]? = some ρ1[i] := List.getElem?_eq_getElem hi
  rcases a.2 i s _ h e1 with e | ⟨d, e, e'⟩
  · rw [e] at e1
    exact b.2 i s s2 e1 h2
  · rw [e'] at e1
    rcases b.2 i _ s2 e1 h2 with q | ⟨d', q, _⟩
    · exact .inr ⟨d, e, q⟩
    · cases q

abbrev EvT := Rho → (Kd × D → Rho → Prop) → Prop

/-- the reading that an evaluation of plain data gives -/
def tEv (O : ObjI) (TB : List Addr) (ev : EvT) : TE := fun σ H Q => ∃ (G : Kp) (W : Wd) (ρ : Rho) (Qd : Kd × D → Rho → Prop), SOk O TB G W ρ σ H ∧ ev ρ Qd ∧
  ∀ v H' W' ρ' k d, WLe W W' → Fro ρ ρ' → SOk O TB G W' ρ' σ H' → RepK O G W' H' ρ' σ k d v → Qd (k, d) ρ' → Q v H'

theorem _root_.L2.PE.imp {X : Cx} {e : Expr} {t t' : TE} (h : PE X e t) (i : ∀ σ H Q, t' σ H Q → t σ H Q) : PE X e t' :=
  ⟨fun pins s σ H Q I q => h.run pins s σ H Q I (i σ H Q q)⟩
theorem _root_.L2.PT.imp {X : Cx} {e : Expr} {t t' : TT} (h : PT X e t) (i : ∀ σ H Q, t' σ H Q → t σ H Q) : PT X e t' :=
  ⟨fun pins s σ H Q I q => h.run pins s σ H Q I (i σ H Q q)⟩
theorem _root_.L2.PA.imp {X : Cx} {e : List Expr} {t t' : TA} (h : PA X e t) (i : ∀ σ H Q, t' σ H Q → t σ H Q) : PA X e t' :=
  ⟨fun pos pins s σ H Q I q => h.run pos pins s σ H Q I (i σ H Q q)⟩
theorem _root_.L2.PS.imp {X : Cx} {e : Stmt} {t t' : TS} (h : PS X e t) (i : ∀ D σ H, t' D σ H → t D σ H) : PS X e t' :=
  ⟨fun pins s σ H D I q => h.run pins s σ H D I (i D σ H q)⟩
theorem _root_.L2.PSs.imp {X : Cx} {e : List Stmt} {t t' : TS} (h : PSs X e t) (i : ∀ D σ H, t' D σ H → t D σ H) : PSs X e t' :=
  ⟨fun pins s σ H D I q => h.run pins s σ H D I (i D σ H q)⟩

/-- an expression evaluates as ev says -/
abbrev DE (O : ObjI) (TB : List Addr) (X : Cx) (e : Expr) (ev : EvT) : Prop := PE X e (tEv O TB ev)

section
variable {O : ObjI} {TB : List Addr} {G : Kp} {W W' : Wd} {ρ ρ' : Rho} {σ : L2.St} {H H' : Hp} {d : D} {v : V} {o : HO} {a : Addr} {k : Kd}
theorem Cnt.mono (h : WLe W W') (c : Cnt O W d o) : Cnt O W' d o := by
  cases c with
  | lst r => exact .lst (r.mono h)
  | dct r => exact .dct (r.mono h)
  | dtt r => exact .dtt (r.mono h)
theorem Cnt.rep (c : Cnt O W d o) (h : W a = some (Fz o)) : Rep O W d (.ref a) := by
  cases c with
  | lst r => exact .lst h r
  | dct r => exact .dct h r
  | dtt r => exact .dtt h r
theorem WOk.wup (w : WOk TB W H) {P : HO → Prop} (hw : W a = none) (ho : H a = some o) (hp : P o) : WOk TB (wup W a P) H where
  at_ := fun b Q e => by
    by_cases hb : b = a
    · subst hb; rw [wup_same] at e; cases e; exact ⟨o, ho, hp⟩
    · rw [wup_ne hb] at e; exact w.at_ b Q e
  tb := fun P hP => by
    have e := w.tb P hP
    rw [wup_ne (fun z => by subst z; rw [hw] at e; cases e)]; exact e
  cd := fun P hP ps e pos cv hc => by
    obtain ⟨c, e1, e2⟩ := w.cd P hP ps e pos cv hc
    exact ⟨c, e1, by rw [wup_ne (fun z => by subst z; rw [hw] at e2; cases e2)]; exact e2⟩
/-- the heap changes at an address of which the world says nothing -/
theorem WOk.upd (w : WOk TB W H) (hw : W a = none) : WOk TB W (upd H a o) where
  at_ := fun b Q e => by
    rw [upd_ne (fun z => by subst z; rw [hw] at e; cases e)]; exact w.at_ b Q e
  tb := w.tb
  cd := fun P hP ps e => by
    have z := w.tb P hP
    rw [upd_ne (fun q => by subst q; rw [hw] at z; cases z)] at e
    exact w.cd P hP ps e
theorem WOk.none_of (w : WOk TB W H) (h : H a = none) : W a = none := by
  cases e : W a with
  | none => rfl
  | some P => obtain ⟨o, ho, _⟩ := w.at_ a P e; rw [h] at ho; cases ho
/-- the state under a larger world, and a heap that keeps the kept, the owned -/
theorem SOk.keep (s : SOk O TB G W ρ σ H) (le : WLe W W') (w : WOk TB W' H') (k : ∀ a o, H a = some o → W a = none → (G.g a = some o ∨ ∃ i, Owns ρ σ i a) → H' a = some o ∧ W' a = none) : SOk O TB G W' ρ σ H' where
  w := w
  g := fun a o e => k a o (s.g a o e).1 (s.g a o e).2 (.inl e)
  b := s.b
  len := s.len
  sl := fun i x e => by
    obtain ⟨ov, h1, h2⟩ := s.sl i x e
    refine ⟨ov, h1, ?_⟩
    cases x with
    | no => trivial
    | fz d => obtain ⟨v, e1, r⟩ := h2; exact ⟨v, e1, r.mono le⟩
    | ow d =>
      obtain ⟨a, o, e1, e2, e3, c⟩ := h2
      subst e1
      obtain ⟨z1, z2⟩ := k a o e3 e2 (.inr ⟨i, ⟨d, e⟩, h1⟩)
      exact ⟨a, o, rfl, z2, z1, c.mono le⟩
    | br d => obtain ⟨a, o, e1, e2, c⟩ := h2; exact ⟨a, o, e1, e2, c.mono le⟩
  og := s.og
  dj := s.dj
/-- a new object, not told yet -/
theorem SOk.new (s : SOk O TB G W ρ σ H) (h : H a = none) : SOk O TB G W ρ σ (upd H a o) :=
  s.keep (WLe.refl W) (s.w.upd (s.w.none_of h)) fun b u e1 e2 _ => ⟨by rw [upd_ne (ne_of_none e1 h)]; exact e1, e2⟩
/-- a new object, frozen -/
theorem SOk.newF (s : SOk O TB G W ρ σ H) (h : H a = none) : SOk O TB G (wup W a (Fz o)) ρ σ (upd H a o) :=
  s.keep (wup_le (s.w.none_of h)) ((s.w.upd (s.w.none_of h)).wup (s.w.none_of h) upd_same rfl) fun b u e1 e2 _ => by
    have ne := ne_of_none e1 h
    exact ⟨by rw [upd_ne ne]; exact e1, by rw [wup_ne ne]; exact e2⟩
theorem SOk.newOwn (s : SOk O TB G W ρ σ H) (h : H a = none) : G.g a = none ∧ ∀ i, ¬ Owns ρ σ i a := by
  refine ⟨?_, fun i ⟨⟨d, e⟩, e2⟩ => ?_⟩
  · cases e : G.g a with
    | none => rfl
    | some u => have := (s.g a u e).1; rw [h] at this; cases this
  · obtain ⟨ov, h1, h2⟩ := s.sl i _ e
    obtain ⟨b, u, e3, _, e4, _⟩ := h2
    rw [e2] at h1
    cases h1
    cases e3
    rw [h] at e4; cases e4
/-- an address that is held anew: kept from now on -/
theorem SOk.guard (s : SOk O TB G W ρ σ H) (ho : H a = some o) (hw : W a = none) (hn : ∀ i, ¬ Owns ρ σ i a) : SOk O TB ⟨G.b, upd G.g a o⟩ W ρ σ H where
  w := s.w
  g := fun b u e => by
    have e : upd G.g a o b = some u := e
    by_cases hb : b = a
    · subst hb; rw [upd_same] at e; cases e; exact ⟨ho, hw⟩
    · rw [upd_ne hb] at e; exact s.g b u e
  b := fun b u e => by
    show upd G.g a o b = some u
    by_cases hb : b = a
    · subst hb
      have := (s.g b u (s.b b u e)).1
      rw [ho] at this; cases this
      exact upd_same
    · rw [upd_ne hb]; exact s.b b u e
  len := s.len
  sl := s.sl
  og := fun i b q => by
    show upd G.g a o b = none
    by_cases hb : b = a
    · subst hb; exact absurd q (hn i)
    · rw [upd_ne hb]; exact s.og i b q
  dj := s.dj
/-- the kept set made smaller again -/
theorem SOk.unguard {g : Hp} (s : SOk O TB ⟨G.b, g⟩ W ρ σ H) (h : ∀ a o, G.g a = some o → g a = some o) (hb : ∀ a o, G.b a = some o → G.g a = some o) : SOk O TB G W ρ σ H where
  w := s.w
  g := fun a o e => s.g a o (h a o e)
  b := hb
  len := s.len
  sl := s.sl
  og := fun i a q => by
    cases e : G.g a with
    | none => rfl
    | some u => have z := h a u e; have y : g a = none := s.og i a q; rw [y] at z; cases z
  dj := s.dj

/-! ### settled: a value that may be handed on -/
def frz (i : Nat) (ρ : Rho) : Rho := match ρ[i]? with
  | some (.ow d) => ρ.set i (.fz d)
  | _ => ρ
def settle (r : Kd × D) (ρ : Rho) (Q : D → Rho → Prop) : Prop := match r with
  | (.fz, d) => Q d ρ
  | (.fr, d) => Q d ρ
  | (.sl i, d) => Q d (frz i ρ)
  | (.br, _) => False
theorem SOk.freeze (s : SOk O TB G W ρ σ H) {i : Nat} (e : ρ[i]? = some (.ow d)) : ∃ a o, σ[i]? = some (some (.ref a)) ∧ W a = none ∧ WLe W (wup W a (Fz o)) ∧ SOk O TB G (wup W a (Fz o)) (ρ.set i (.fz d)) σ H ∧ Rep O (wup W a (Fz o)) d (.ref a) := by
  obtain ⟨ov, h1, h2⟩ := s.sl i _ e
  obtain ⟨a, o, rfl, hw, ho, c⟩ := h2
  have le := wup_le (P := Fz o) hw
  have rp : Rep O (wup W a (Fz o)) d (.ref a) := (c.mono le).rep wup_same
  have oa : Owns ρ σ i a := ⟨⟨d, e⟩, h1⟩
  have ilt : i < ρ.length := by
    rcases Nat.lt_or_ge i ρ.length with h | h
    · exact h
    · rw [List.getElem?_eq_none h] at e; cases e
  have ow : ∀ j b, Owns (ρ.set i (.fz d)) σ j b → Owns ρ σ j b ∧ j ≠ i := fun j b ⟨⟨d', q1⟩, q2⟩ => by
    by_cases hj : i = j
    · subst hj; rw [List.getElem?_set_self ilt] at q1; cases q1
    · rw [List.getElem?_set_ne hj] at q1; exact ⟨⟨⟨d', q1⟩, q2⟩, fun z => hj z.symm⟩
  refine ⟨a, o, h1, hw, le, ⟨s.w.wup hw ho rfl, fun b u q => ?_, s.b, by rw [List.length_set]; exact s.len, fun j x q => ?_, fun j b q => s.og j b (ow j b q).1, fun j1 j2 b q1 q2 => s.dj j1 j2 b (ow j1 b q1).1 (ow j2 b q2).1⟩, rp⟩
  · obtain ⟨z1, z2⟩ := s.g b u q
    refine ⟨z1, ?_⟩
    rw [wup_ne (fun z => by subst z; rw [s.og i b oa] at q; cases q)]; exact z2
  · by_cases hj : i = j
    · subst hj
      rw [List.getElem?_set_self ilt] at q
      cases q
      exact ⟨_, h1, _, rfl, rp⟩
    · rw [List.getElem?_set_ne hj] at q
      obtain ⟨ov, g1, g2⟩ := s.sl j x q
      refine ⟨ov, g1, ?_⟩
      cases x with
      | no => trivial
      | fz d => obtain ⟨v, e1, r⟩ := g2; exact ⟨v, e1, r.mono le⟩
      | ow d' =>
        obtain ⟨b, u, e1, e2, e3, c'⟩ := g2
        subst e1
        have nb : b ≠ a := fun z => by
          subst z
          exact hj (s.dj i j b oa ⟨⟨d', q⟩, g1⟩)
        exact ⟨b, u, rfl, by rw [wup_ne nb]; exact e2, e3, c'.mono le⟩
      | br d' => obtain ⟨b, u, e1, e2, c'⟩ := g2; exact ⟨b, u, e1, e2, c'.mono le⟩
theorem frz_fro (i : Nat) (ρ : Rho) : Fro ρ (frz i ρ) := by
  unfold frz
  split
  · rename_i d e
    refine ⟨by rw [List.length_set], fun j s s' h h' => ?_⟩
    by_cases hj : i = j
    · subst hj
      rw [e] at h; cases h
      have : i < ρ.length := by
        rcases Nat.lt_or_ge i ρ.length with z | z
        · exact z
        · rw [List.getElem?_eq_none z] at e; cases e
      rw [List.getElem?_set_self this] at h'; cases h'
      exact .inr ⟨d, rfl, rfl⟩
    · rw [List.getElem?_set_ne hj, h] at h'; cases h'; exact .inl rfl
  · exact Fro.refl ρ
theorem SOk.settle (s : SOk O TB G W ρ σ H) (r : RepK O G W H ρ σ k d v) {Q : D → Rho → Prop} (q : TC.settle (k, d) ρ Q) : ∃ W' ρ', WLe W W' ∧ Fro ρ ρ' ∧ SOk O TB G W' ρ' σ H ∧ Rep O W' d v ∧ Q d ρ' := by
  cases k with
  | fz => exact ⟨W, ρ, WLe.refl W, Fro.refl ρ, s, r, q⟩
  | fr =>
    obtain ⟨a, o, rfl, hw, ho, c, hg, hn⟩ := r
    have le := wup_le (P := Fz o) hw
    refine ⟨wup W a (Fz o), ρ, le, Fro.refl ρ, s.keep le (s.w.wup hw ho rfl) fun b u e1 e2 e3 => ⟨e1, ?_⟩, (c.mono le).rep wup_same, q⟩
    rw [wup_ne (fun z => ?_)]
    · exact e2
    · subst z
      rcases e3 with e3 | ⟨i, e3⟩
      · rw [hg] at e3; cases e3
      · exact hn i e3
  | sl i =>
    obtain ⟨h1, h2⟩ := r
    have q : Q d (frz i ρ) := q
    by_cases hz : ∃ d', ρ[i]? = some (.ow d')
    · obtain ⟨d', e⟩ := hz
      obtain ⟨a, o, g1, gw, le, s', rp⟩ := s.freeze e
      have ef : frz i ρ = ρ.set i (.fz d') := by unfold frz; rw [e]
      rw [h1] at g1; cases g1
      have fr := frz_fro i ρ
      rw [ef] at q fr
      rcases h2 with h2 | h2
      · rw [e] at h2; cases h2
        exact ⟨_, _, le, fr, s', rp, q⟩
      · exact ⟨_, _, le, fr, s', h2.mono le, q⟩
    · have ef : frz i ρ = ρ := by
        unfold frz
        cases e : ρ[i]? with
        | none => rfl
        | some x =>
          cases x with
          | ow d' => exact absurd ⟨d', e⟩ hz
          | _ => rfl
      rw [ef] at q
      rcases h2 with h2 | h2
      · exact absurd ⟨d, h2⟩ hz
      · exact ⟨W, ρ, WLe.refl W, Fro.refl ρ, s, h2, q⟩
  | br => exact False.elim q

/-! ### a value is read -/
inductive View (O : ObjI) (W : Wd) (H : Hp) : D → V → Prop
  | non : View O W H .non .non
  | bl {b} : View O W H (.bl b) (.bl b)
  | int {i} : View O W H (.int i) (.int i)
  | str {s} : s.length ≤ sizeLine → View O W H (.str s) (.str (mkS s))
  | tup {l a vs} : W a = some (Fz (.tup vs)) → H a = some (.tup vs) → RepL O W l vs → View O W H (.tup l) (.ref a)
  | lst {l a vs} : H a = some (.lst vs) → RepL O W l vs → View O W H (.lst l) (.ref a)
  | dct {l a vs} : H a = some (.dK vs) → RepD O W l vs → View O W H (.dct l) (.ref a)
  | dtt {l a vs} : H a = some (.dT vs) → RepT O W l vs → View O W H (.dtt l) (.ref a)
  | obj {n l a} : O.rel n l W a → View O W H (.obj n l) (.ref a)
theorem Rep.view (w : WOk TB W H) (r : Rep O W d v) : View O W H d v := by
  cases r with
  | non => exact .non
  | bl => exact .bl
  | int => exact .int
  | str h => exact .str h
  | tup e r => obtain ⟨o, h1, h2⟩ := w.at_ _ _ e; exact .tup e (by rw [h1]; exact congrArg some h2) r
  | lst e r => obtain ⟨o, h1, h2⟩ := w.at_ _ _ e; exact .lst (by rw [h1]; exact congrArg some h2) r
  | dct e r => obtain ⟨o, h1, h2⟩ := w.at_ _ _ e; exact .dct (by rw [h1]; exact congrArg some h2) r
  | dtt e r => obtain ⟨o, h1, h2⟩ := w.at_ _ _ e; exact .dtt (by rw [h1]; exact congrArg some h2) r
  | obj e => exact .obj e
theorem Cnt.view (c : Cnt O W d o) (h : H a = some o) : View O W H d (.ref a) := by
  cases c with
  | lst r => exact .lst h r
  | dct r => exact .dct h r
  | dtt r => exact .dtt h r
theorem SOk.view (s : SOk O TB G W ρ σ H) (r : RepK O G W H ρ σ k d v) : View O W H d v := by
  cases k with
  | fz => exact Rep.view s.w r
  | fr => obtain ⟨a, o, rfl, _, ho, c, _⟩ := r; exact c.view ho
  | sl i =>
    obtain ⟨h1, h2 | h2⟩ := r
    · obtain ⟨ov, g1, g2⟩ := s.sl i _ h2
      rw [h1] at g1; cases g1
      obtain ⟨a, o, e1, _, e3, c⟩ := g2
      cases e1
      exact c.view e3
    · exact h2.view s.w
  | br => obtain ⟨a, o, rfl, ho, c⟩ := r; exact c.view (s.g a o (s.b a o ho)).1

/-! ### a value held while more is evaluated -/
/-- while the value is held, evaluation goes on; behind it the value still stands, and the kept set is the old one -/
theorem SOk.hold (s : SOk O TB G W ρ σ H) (r : RepK O G W H ρ σ k d v) :
    ∃ G2, SOk O TB G2 W ρ σ H ∧ ∀ {W' ρ' H'}, WLe W W' → Fro ρ ρ' → SOk O TB G2 W' ρ' σ H' →
      SOk O TB G W' ρ' σ H' ∧ RepK O G W' H' ρ' σ k d v ∧ ∀ k' d' v', RepK O G2 W' H' ρ' σ k' d' v' → RepK O G W' H' ρ' σ k' d' v' := by
  cases k with
  | fz => exact ⟨G, s, fun le _ s' => ⟨s', Rep.mono le r, fun _ _ _ h => h⟩⟩
  | fr =>
    obtain ⟨a, o, rfl, hw, ho, c, hg, hn⟩ := r
    refine ⟨⟨G.b, upd G.g a o⟩, s.guard ho hw hn, fun {W' ρ' H'} le fr s' => ?_⟩
    have sub : ∀ b u, G.g b = some u → upd G.g a o b = some u := fun b u e => by
      rw [upd_ne (fun z => by subst z; rw [hg] at e; cases e)]; exact e
    obtain ⟨z1, z2⟩ := s'.g a o upd_same
    have hn' : ∀ i, ¬ Owns ρ' σ i a := fun i q => by
      have z : upd G.g a o a = none := s'.og i a q
      rw [upd_same] at z; cases z
    refine ⟨s'.unguard sub s.b, ⟨a, o, rfl, z2, z1, c.mono le, hg, hn'⟩, fun k' d' v' h => ?_⟩
    cases k' with
    | fz => exact h
    | fr =>
      obtain ⟨b, u, e1, e2, e3, e4, e5, e6⟩ := h
      have e5 : upd G.g a o b = none := e5
      refine ⟨b, u, e1, e2, e3, e4, ?_, e6⟩
      rw [upd_ne (fun z => by subst z; rw [upd_same] at e5; cases e5)] at e5
      exact e5
    | sl i => exact h
    | br => exact h
  | sl i =>
    refine ⟨G, s, fun {W' ρ' H'} le fr s' => ⟨s', ⟨r.1, ?_⟩, fun _ _ _ h => h⟩⟩
    rcases r.2 with h | h
    · have hi : i < ρ'.length := by
        rw [fr.1]
        rcases Nat.lt_or_ge i ρ.length with z | z
        · exact z
        · rw [List.getElem?_eq_none z] at h; cases h
      have e1 : ρ'[i]? = some ρ'[i] := List.getElem?_eq_getElem hi
      rcases fr.2 i _ _ h e1 with e | ⟨d', e, e'⟩
      · rw [e] at e1; exact .inl e1
      · cases e
        rw [e'] at e1
        obtain ⟨ov, h1, h2⟩ := s'.sl i _ e1
        obtain ⟨v', q1, q2⟩ := h2
        rw [r.1] at h1; cases h1; cases q1
        exact .inr q2
    · exact .inr (h.mono le)
  | br => exact ⟨G, s, fun le _ s' => ⟨s', by obtain ⟨a, o, e, h, c⟩ := r; exact ⟨a, o, e, h, c.mono le⟩, fun _ _ _ h => h⟩⟩
end
end TC

/-! Expressions over plain data: names, constants, operators, comparisons, and, or, not, subscripts, displays. -/
namespace TC
open PySem PySem.Spec PyProof.Rows L2

/-! ### evaluation -/
def vVar (i : Nat) : EvT := fun ρ Q => match ρ[i]? with
  | some (.fz d) => Q (.fz, d) ρ
  | some (.ow d) => Q (.sl i, d) ρ
  | some (.br d) => Q (.br, d) ρ
  | _ => False
def vC (d : D) : EvT := fun ρ Q => Q (.fz, d) ρ
abbrev Op2 := D → D → (Kd × D → Prop) → Prop
abbrev Op1 := D → (Kd × D → Prop) → Prop
def v2 (o : Op2) (ea eb : EvT) : EvT := fun ρ Q => ea ρ fun ra ρ1 => eb ρ1 fun rb ρ2 => o ra.2 rb.2 fun r => Q r ρ2
def v1 (o : Op1) (ea : EvT) : EvT := fun ρ Q => ea ρ fun ra ρ1 => o ra.2 fun r => Q r ρ1

section
variable (O : ObjI) (TB : List Addr)
/-- an operator's reading, from its meaning over data -/
def rD (o : Op2) : R2 := fun x y H Q => ∃ (G : Kp) (W : Wd) (ρ : Rho) (σ : L2.St) (d e : D) (Qd : Kd × D → Prop), SOk O TB G W ρ σ H ∧ View O W H d x ∧ View O W H e y ∧ o d e Qd ∧
  ∀ z H' W' k dz, WLe W W' → SOk O TB G W' ρ σ H' → RepK O G W' H' ρ σ k dz z → Qd (k, dz) → Q z H'
def rU1 (o : Op1) : V → Hp → VK → Prop := fun x H Q => ∃ (G : Kp) (W : Wd) (ρ : Rho) (σ : L2.St) (d : D) (Qd : Kd × D → Prop), SOk O TB G W ρ σ H ∧ View O W H d x ∧ o d Qd ∧
  ∀ z H' W' k dz, WLe W W' → SOk O TB G W' ρ σ H' → RepK O G W' H' ρ σ k dz z → Qd (k, dz) → Q z H'
end

section
variable {O : ObjI} {TB : List Addr} {X : Cx} {a b c : Expr} {ea eb ec : EvT} {pos : Pos}
theorem de_var {i : Nat} {x : Str} (hN : X.N[i]? = some x := by rfl) (hv : Vis X.env.scope x := by first | exact Or.inl rfl | exact Or.inr (Or.inl rfl) | exact Or.inr (Or.inr rfl)) (hd : (x == ("__debug__" : Str)) = false := by decide)
    (hcd : (x == ("__classdict__" : Str)) = false := by decide) : DE O TB X (.Name x pos) (vVar i) := by
  refine (pe_var hN hv hd hcd).imp ?_
  rintro σ H Q ⟨G, W, ρ, Qd, s, ev, fin⟩
  unfold vVar at ev
  split at ev
  · rename_i d e
    obtain ⟨ov, h1, v, rfl, r⟩ := s.sl i _ e
    exact ⟨v, h1, fin v H W ρ .fz d (WLe.refl W) (Fro.refl ρ) s r ev⟩
  · rename_i d e
    obtain ⟨ov, h1, a, o, rfl, _⟩ := s.sl i _ e
    exact ⟨_, h1, fin _ H W ρ (.sl i) d (WLe.refl W) (Fro.refl ρ) s ⟨h1, .inl e⟩ ev⟩
  · rename_i d e
    obtain ⟨ov, h1, a, o, rfl, h2, c⟩ := s.sl i _ e
    exact ⟨_, h1, fin _ H W ρ .br d (WLe.refl W) (Fro.refl ρ) s ⟨a, o, rfl, h2, c⟩ ev⟩
  · exact ev.elim
theorem de_const {e : Expr} {d : D} {v : V} (h : PE X e (tC v)) (r : ∀ W, Rep O W d v) : DE O TB X e (vC d) := by
  refine h.imp ?_
  rintro σ H Q ⟨G, W, ρ, Qd, s, ev, fin⟩
  exact fin v H W ρ .fz d (WLe.refl W) (Fro.refl ρ) s (r W) ev
theorem de_int {i j} : DE O TB X (.Constant (.int i) j pos) (vC (.int i)) := de_const pe_int fun _ => .int
theorem de_bl {b j} : DE O TB X (.Constant (.bool b) j pos) (vC (.bl b)) := de_const pe_bl fun _ => .bl
theorem de_non {j} : DE O TB X (.Constant .none j pos) (vC .non) := de_const pe_non fun _ => .non
theorem de_str {x : Str} {l : List Nat} {j} (e : x = mkS l := by rfl) (h : l.length ≤ sizeLine := by decide) : DE O TB X (.Constant (.str x) j pos) (vC (.str l)) := by
  subst e
  exact de_const pe_str fun _ => .str h

theorem tEv2 {o : Op2} {σ : L2.St} {H : Hp} {Q : VK} (h : tEv O TB (v2 o ea eb) σ H Q) : tOp (rD O TB o) (tEv O TB ea) (tEv O TB eb) σ H Q := by
  obtain ⟨G, W, ρ, Qd, s, ev, fin⟩ := h
  refine ⟨G, W, ρ, _, s, ev, fun v H1 W1 ρ1 k d le fr s1 r1 q1 => ?_⟩
  obtain ⟨G2, s2, back⟩ := s1.hold r1
  refine ⟨G2, W1, ρ1, _, s2, q1, fun u H2 W2 ρ2 k2 d2 le2 fr2 s3 r2 q2 => ?_⟩
  obtain ⟨s4, r4, cv⟩ := back le2 fr2 s3
  exact ⟨G, W2, ρ2, σ, d, d2, _, s4, s4.view r4, s4.view (cv _ _ _ r2), q2, fun z H' W' k' dz le' s' rz qz => fin z H' W' ρ2 k' dz ((le.trans le2).trans le') (fr.trans fr2) s' rz qz⟩
theorem de_op {op : Operator} {o : Op2} (ho : OpR X (binaryOp op) (rD O TB o)) (ha : DE O TB X a ea) (hb : DE O TB X b eb) : DE O TB X (.BinOp a op b pos) (v2 o ea eb) :=
  (pe_op ho ha hb).imp fun _ _ _ h => tEv2 h
theorem de_cmp {op : CmpOp} {o : Op2} (ho : OpR X (compareOp op) (rD O TB o)) (ha : DE O TB X a ea) (hb : DE O TB X b eb) (hm : behindInMarks op b = false) : DE O TB X (.Compare a [op] [b] pos) (v2 o ea eb) :=
  (pe_cmpR ho ha hb hm).imp fun _ _ _ h => tEv2 h
theorem tEv1 {o : Op1} {σ : L2.St} {H : Hp} {Q : VK} (h : tEv O TB (v1 o ea) σ H Q) : tUn (rU1 O TB o) (tEv O TB ea) σ H Q := by
  obtain ⟨G, W, ρ, Qd, s, ev, fin⟩ := h
  refine ⟨G, W, ρ, _, s, ev, fun v H1 W1 ρ1 k d le fr s1 r1 q1 => ?_⟩
  exact ⟨G, W1, ρ1, σ, d, _, s1, s1.view r1, q1, fun z H' W' k' dz le' s' rz qz => fin z H' W' ρ1 k' dz (le.trans le') fr s' rz qz⟩
theorem de_un {op : UnaryOp} {o : Op1} (ho : UnR X (unaryOp op) (rU1 O TB o)) (ha : DE O TB X a ea) : DE O TB X (.UnaryOp op a pos) (v1 o ea) :=
  (pe_un ho ha).imp fun _ _ _ h => tEv1 h
end

/-! ### the operators' meanings -/
def addD : Op2
  | .int i, .int j, Q => Q (.fz, .int (i + j))
  | .str a, .str b, Q => a.length + b.length ≤ sizeLine ∧ Q (.fz, .str (a ++ b))
  | .lst a, .lst b, Q => a.length + b.length ≤ sizeLine ∧ Q (.fr, .lst (a ++ b))
  | .tup a, .tup b, Q => a.length + b.length ≤ sizeLine ∧ Q (.fz, .tup (a ++ b))
  | _, _, _ => False
def subD : Op2
  | .int i, .int j, Q => Q (.fz, .int (i - j))
  | _, _, _ => False
def mulD : Op2
  | .int i, .int j, Q => CMul i j ∧ Q (.fz, .int (i * j))
  | .lst a, .int k, Q => (-(2 ^ 63) ≤ k ∧ k < 2 ^ 63 ∧ a.length * k.toNat ≤ sizeLine) ∧ Q (.fr, .lst (List.replicate k.toNat a).flatten)
  | _, _, _ => False
def fdivD : Op2
  | .int i, .int j, Q => CDiv i j ∧ Q (.fz, .int (i / j))
  | _, _, _ => False
def modD : Op2
  | .int i, .int j, Q => 0 < j ∧ Q (.fz, .int (i % j))
  | _, _, _ => False
def powD : Op2
  | .int i, .int j, Q => CPow i j ∧ Q (.fz, .int (i ^ j.toNat))
  | _, _, _ => False
def negD : Op1
  | .int i, Q => Q (.fz, .int (-i))
  | _, _ => False
/-- lists of code points in their order -/
def ltL (a b : List Nat) : Bool := decide (a < b)
def ltD : Op2
  | .int i, .int j, Q => Q (.fz, .bl (decide (i < j)))
  | .str a, .str b, Q => Q (.fz, .bl (ltL a b))
  | _, _, _ => False
def leD : Op2
  | .int i, .int j, Q => Q (.fz, .bl (decide (i ≤ j)))
  | .str a, .str b, Q => Q (.fz, .bl (!ltL b a))
  | _, _, _ => False
def gtD : Op2
  | .int i, .int j, Q => Q (.fz, .bl (decide (j < i)))
  | .str a, .str b, Q => Q (.fz, .bl (ltL b a))
  | _, _, _ => False
def geD : Op2
  | .int i, .int j, Q => Q (.fz, .bl (decide (j ≤ i)))
  | .str a, .str b, Q => Q (.fz, .bl (!ltL a b))
  | _, _, _ => False

/-! ### data compared -/
mutual
def D.py : D → PyData
  | .non => .none
  | .bl b => .bool b
  | .int i => .int i
  | .str s => .str (mkS s)
  | .tup l => .tuple (D.pyL l)
  | .lst l => .list (D.pyL l)
  | .dct _ => .dict []
  | .dtt _ => .dict []
  | .obj _ _ => .dict []
def D.pyL : List D → List PyData
  | [] => []
  | d :: l => D.py d :: D.pyL l
end
mutual
/-- no dicts, no objects -/
def D.flat : D → Bool
  | .non => true
  | .bl _ => true
  | .int _ => true
  | .str _ => true
  | .tup l => D.flatL l
  | .lst l => D.flatL l
  | .dct _ => false
  | .dtt _ => false
  | .obj _ _ => false
def D.flatL : List D → Bool
  | [] => true
  | d :: l => D.flat d && D.flatL l
end
/-- may be compared -/
def D.ok (d : D) : Prop := d.flat = true ∧ SeqAt.shaped d.py = true
def eqD : Op2 := fun d e Q => d.ok ∧ e.ok ∧ Q (.fz, .bl (PyData.eqv d.py e.py))
def neD : Op2 := fun d e Q => d.ok ∧ e.ok ∧ Q (.fz, .bl (!PyData.eqv d.py e.py))
def isNoneD : D → Bool
  | .non => true
  | _ => false
def isD : Op2
  | d, .non, Q => Q (.fz, .bl (isNoneD d))
  | .bl a, .bl b, Q => Q (.fz, .bl (decide (a = b)))
  | _, _, _ => False
def isNotD : Op2
  | d, .non, Q => Q (.fz, .bl (!isNoneD d))
  | .bl a, .bl b, Q => Q (.fz, .bl (!decide (a = b)))
  | _, _, _ => False
def keyD : D → Option Key
  | .int i => some (.inl i)
  | .str s => some (.inr (mkS s))
  | _ => none
def keysD : List D → Option (List Key)
  | [] => some []
  | d :: l => match keyD d, keysD l with
    | some k, some ks => some (k :: ks)
    | _, _ => none
/-- what a dict holds at a key -/
def lookK {κ : Type} [DecidableEq κ] (l : List (κ × D)) (k : κ) : Option D := (l.find? fun p => decide (p.1 = k)).map (·.2)
/-- d[k] of a dict: what stands there (none: nothing); no answer where k is no such key -/
def dlook (d k : D) (Q : Option D → Prop) : Prop := match d, k with
  | .dct l, k => (match keyD k with | some k => Q (lookK l k) | none => False)
  | .dtt l, .tup k => (match keysD k with | some k => Q (lookK l k) | none => False)
  | _, _ => False
def inD : Op2
  | .str [c], .str z, Q => Q (.fz, .bl (decide (c ∈ z)))
  | d, .lst l, Q => d.ok ∧ (D.lst l).ok ∧ Q (.fz, .bl (l.any fun z => PyData.eqv z.py d.py))
  | d, .tup l, Q => d.ok ∧ (D.tup l).ok ∧ Q (.fz, .bl (l.any fun z => PyData.eqv z.py d.py))
  | k, d, Q => dlook d k fun o => Q (.fz, .bl o.isSome)
def notInD : Op2
  | .str [c], .str z, Q => Q (.fz, .bl (!decide (c ∈ z)))
  | d, .lst l, Q => d.ok ∧ (D.lst l).ok ∧ Q (.fz, .bl (!l.any fun z => PyData.eqv z.py d.py))
  | d, .tup l, Q => d.ok ∧ (D.tup l).ok ∧ Q (.fz, .bl (!l.any fun z => PyData.eqv z.py d.py))
  | k, d, Q => dlook d k fun o => Q (.fz, .bl (!o.isSome))

section
variable {O : ObjI} {TB : List Addr} {X : Cx} {G : Kp} {W W' : Wd} {ρ : Rho} {σ : L2.St} {H : Hp} {d e : D} {v u : V}
/-- the end of an operator's reading: a plain value -/
theorem SOk.plain {Q : VK} {Qd : Kd × D → Prop} (s : SOk O TB G W ρ σ H) (fin : ∀ z H' W' k dz, WLe W W' → SOk O TB G W' ρ σ H' → RepK O G W' H' ρ σ k dz z → Qd (k, dz) → Q z H') {z : V} {dz : D} (r : Rep O W dz z) (q : Qd (.fz, dz)) : Q z H :=
  fin z H W .fz dz (WLe.refl W) s r q
/-- a new list -/
theorem SOk.newL {Q : VK} {Qd : Kd × D → Prop} (s : SOk O TB G W ρ σ H) (fin : ∀ z H' W' k dz, WLe W W' → SOk O TB G W' ρ σ H' → RepK O G W' H' ρ σ k dz z → Qd (k, dz) → Q z H') {l : List D} {vs : List V} (r : RepL O W l vs) (q : Qd (.fr, .lst l)) :
    ∀ p, H p = none → Q (.ref p) (upd H p (.lst vs)) := fun p hp =>
  fin _ _ W .fr (.lst l) (WLe.refl W) (s.new hp) ⟨p, _, rfl, s.w.none_of hp, upd_same, .lst r, (s.newOwn hp).1, (s.newOwn hp).2⟩ q
/-- a new tuple -/
theorem SOk.newT {Q : VK} {Qd : Kd × D → Prop} (s : SOk O TB G W ρ σ H) (fin : ∀ z H' W' k dz, WLe W W' → SOk O TB G W' ρ σ H' → RepK O G W' H' ρ σ k dz z → Qd (k, dz) → Q z H') {l : List D} {vs : List V} (r : RepL O W l vs) (q : Qd (.fz, .tup l)) :
    ∀ p, H p = none → Q (.ref p) (upd H p (.tup vs)) := fun p hp =>
  fin _ _ (wup W p (Fz (.tup vs))) .fz (.tup l) (wup_le (s.w.none_of hp)) (s.newF hp) (.tup wup_same (r.mono (wup_le (s.w.none_of hp)))) q

theorem od_add : OpR X (binaryOp .Add) (rD O TB addD) := by
  rintro pins s σ' H x y v u Q I rx ry ⟨G, W, ρ, σ, d, e, Qd, S, vx, vy, h, fin⟩
  cases vx <;> cases vy <;> (try exact (show False from h).elim)
  · exact op_add pins s σ' H _ _ v u Q I rx ry ⟨_, _, rfl, rfl, S.plain fin .int h⟩
  · rename_i a ha b hb
    obtain ⟨hz, q⟩ := h
    refine op_add_str pins s σ' H _ _ v u Q I rx ry ⟨_, _, rfl, rfl, by rw [mkS_len, mkS_len]; exact hz, ?_⟩
    rw [mkS_app]
    exact S.plain fin (.str (by rw [List.length_append]; exact hz)) q
  · rename_i l p vs hw hp r l2 p2 vs2 hw2 hp2 r2
    obtain ⟨hz, q⟩ := h
    refine op_catA pins s σ' H _ _ v u Q I rx ry ⟨p, p2, vs, vs2, rfl, rfl, SqT.of hp, SqT.of hp2, by rw [← r.length, ← r2.length]; exact hz, fun e => ?_, fun _ e => ?_, fun _ _ => ?_⟩
    · subst e; cases r; exact S.plain fin (.tup hw2 r2) q
    · subst e; cases r2; rw [List.append_nil] at q; exact S.plain fin (.tup hw r) q
    · exact S.newT fin (r.append r2) q
  · rename_i l p vs hp r l2 p2 vs2 hp2 r2
    obtain ⟨hz, q⟩ := h
    exact op_cat pins s σ' H _ _ v u Q I rx ry ⟨p, p2, vs, vs2, rfl, rfl, hp, hp2, by rw [← r.length, ← r2.length]; exact hz, S.newL fin (r.append r2) q⟩
theorem od_sub : OpR X (binaryOp .Sub) (rD O TB subD) := by
  rintro pins s σ' H x y v u Q I rx ry ⟨G, W, ρ, σ, d, e, Qd, S, vx, vy, h, fin⟩
  cases vx <;> cases vy <;> (try exact (show False from h).elim)
  exact op_sub pins s σ' H _ _ v u Q I rx ry ⟨_, _, rfl, rfl, S.plain fin .int h⟩
theorem RepL.rep {l : List D} {vs : List V} (r : RepL O W l vs) : ∀ k : Nat, RepL O W (List.replicate k l).flatten (List.replicate k vs).flatten
  | 0 => .nil
  | k + 1 => by
    rw [List.replicate_succ, List.replicate_succ, List.flatten_cons, List.flatten_cons]
    exact r.append (RepL.rep r k)
theorem od_mul : OpR X (binaryOp .Mult) (rD O TB mulD) := by
  rintro pins s σ' H x y v u Q I rx ry ⟨G, W, ρ, σ, d, e, Qd, S, vx, vy, h, fin⟩
  cases vx <;> cases vy <;> (try exact (show False from h).elim)
  · exact op_mul pins s σ' H _ _ v u Q I rx ry ⟨_, _, rfl, rfl, h.1, S.plain fin .int h.2⟩
  · rename_i l p vs hp r k
    obtain ⟨⟨h1, h2, h3⟩, q⟩ := h
    exact op_rep pins s σ' H _ _ v u Q I rx ry ⟨p, k, vs, rfl, rfl, hp, h1, h2, by rw [← r.length]; exact h3, S.newL fin (r.rep _) q⟩
theorem od_fdiv : OpR X (binaryOp .FloorDiv) (rD O TB fdivD) := by
  rintro pins s σ' H x y v u Q I rx ry ⟨G, W, ρ, σ, d, e, Qd, S, vx, vy, h, fin⟩
  cases vx <;> cases vy <;> (try exact (show False from h).elim)
  exact op_fdiv pins s σ' H _ _ v u Q I rx ry ⟨_, _, rfl, rfl, h.1, S.plain fin .int h.2⟩
theorem od_mod : OpR X (binaryOp .Mod) (rD O TB modD) := by
  rintro pins s σ' H x y v u Q I rx ry ⟨G, W, ρ, σ, d, e, Qd, S, vx, vy, h, fin⟩
  cases vx <;> cases vy <;> (try exact (show False from h).elim)
  exact op_mod pins s σ' H _ _ v u Q I rx ry ⟨_, _, rfl, rfl, h.1, S.plain fin .int h.2⟩
theorem od_pow : OpR X (binaryOp .Pow) (rD O TB powD) := by
  rintro pins s σ' H x y v u Q I rx ry ⟨G, W, ρ, σ, d, e, Qd, S, vx, vy, h, fin⟩
  cases vx <;> cases vy <;> (try exact (show False from h).elim)
  exact op_pow pins s σ' H _ _ v u Q I rx ry ⟨_, _, rfl, rfl, h.1, S.plain fin .int h.2⟩
theorem ud_neg : UnR X (unaryOp .USub) (rU1 O TB negD) := by
  rintro pins s σ' H x v Q I rx ⟨G, W, ρ, σ, d, Qd, S, vx, h, fin⟩
  cases vx <;> (try exact (show False from h).elim)
  exact un_neg pins s σ' H _ v Q I rx ⟨_, rfl, S.plain fin .int h⟩
theorem od_lt : OpR X (compareOp .Lt) (rD O TB ltD) := by
  rintro pins s σ' H x y v u Q I rx ry ⟨G, W, ρ, σ, d, e, Qd, S, vx, vy, h, fin⟩
  cases vx <;> cases vy <;> (try exact (show False from h).elim)
  · exact op_lt pins s σ' H _ _ v u Q I rx ry ⟨_, _, rfl, rfl, S.plain fin .bl h⟩
  · refine op_lt_str pins s σ' H _ _ v u Q I rx ry ⟨_, _, rfl, rfl, ?_⟩
    rw [mkS_toList, mkS_toList]; exact S.plain fin .bl h
theorem od_le : OpR X (compareOp .LtE) (rD O TB leD) := by
  rintro pins s σ' H x y v u Q I rx ry ⟨G, W, ρ, σ, d, e, Qd, S, vx, vy, h, fin⟩
  cases vx <;> cases vy <;> (try exact (show False from h).elim)
  · exact op_le pins s σ' H _ _ v u Q I rx ry ⟨_, _, rfl, rfl, S.plain fin .bl h⟩
  · refine op_le_str pins s σ' H _ _ v u Q I rx ry ⟨_, _, rfl, rfl, ?_⟩
    rw [mkS_toList, mkS_toList]; exact S.plain fin .bl h
theorem od_gt : OpR X (compareOp .Gt) (rD O TB gtD) := by
  rintro pins s σ' H x y v u Q I rx ry ⟨G, W, ρ, σ, d, e, Qd, S, vx, vy, h, fin⟩
  cases vx <;> cases vy <;> (try exact (show False from h).elim)
  · exact op_gt pins s σ' H _ _ v u Q I rx ry ⟨_, _, rfl, rfl, S.plain fin .bl h⟩
  · refine op_gt_str pins s σ' H _ _ v u Q I rx ry ⟨_, _, rfl, rfl, ?_⟩
    rw [mkS_toList, mkS_toList]; exact S.plain fin .bl h
theorem od_ge : OpR X (compareOp .GtE) (rD O TB geD) := by
  rintro pins s σ' H x y v u Q I rx ry ⟨G, W, ρ, σ, d, e, Qd, S, vx, vy, h, fin⟩
  cases vx <;> cases vy <;> (try exact (show False from h).elim)
  · exact op_ge pins s σ' H _ _ v u Q I rx ry ⟨_, _, rfl, rfl, S.plain fin .bl h⟩
  · refine op_ge_str pins s σ' H _ _ v u Q I rx ry ⟨_, _, rfl, rfl, ?_⟩
    rw [mkS_toList, mkS_toList]; exact S.plain fin .bl h
mutual
theorem Rep.dp (w : WOk TB W H) : ∀ {d : D} {v : V}, Rep O W d v → d.flat = true → Dp X.K H v d.py
  | _, _, .non, _ => .non
  | _, _, .bl, _ => .bl _
  | _, _, .int, _ => .int _
  | _, _, .str h, _ => .str _
  | _, _, .tup e r, h => by
    obtain ⟨o, h1, h2⟩ := w.at_ _ _ e
    exact .tup (SqT.of (by rw [h1]; exact congrArg some h2)) (RepL.dp w r h)
  | _, _, .lst e r, h => by
    obtain ⟨o, h1, h2⟩ := w.at_ _ _ e
    exact .lst (SqL.of (by rw [h1]; exact congrArg some h2)) (RepL.dp w r h)
  | _, _, .dct e r, h => by cases h
  | _, _, .dtt e r, h => by cases h
  | _, _, .obj e, h => by cases h
theorem RepL.dp (w : WOk TB W H) : ∀ {l : List D} {vs : List V}, RepL O W l vs → D.flatL l = true → DpAll X.K H vs (D.pyL l)
  | _, _, .nil, _ => .nil
  | _, _, .cons r t, h => by
    have h' := Bool.and_eq_true_iff.mp h
    exact .cons (Rep.dp w r h'.1) (RepL.dp w t h'.2)
end
theorem View.dp (w : WOk TB W H) (r : View O W H d v) (h : d.flat = true) : Dp X.K H v d.py := by
  cases r with
  | non => exact .non
  | bl => exact .bl _
  | int => exact .int _
  | str _ => exact .str _
  | tup _ e r => exact .tup (SqT.of e) (r.dp w h)
  | lst e r => exact .lst (SqL.of e) (r.dp w h)
  | dct e r => cases h
  | dtt e r => cases h
  | obj e => cases h
theorem od_eq (hu : X.A.units + 64 < cLine) : OpR X (compareOp .Eq) (rD O TB eqD) := by
  rintro pins s σ' H x y v u Q I rx ry ⟨G, W, ρ, σ, d, e, Qd, S, vx, vy, ⟨h1, h2, h⟩, fin⟩
  exact op_eqD hu pins s σ' H _ _ v u Q I rx ry ⟨_, _, vx.dp S.w h1.1, vy.dp S.w h2.1, h1.2, h2.2, S.plain fin .bl h⟩
theorem od_ne (hu : X.A.units + 64 < cLine) : OpR X (compareOp .NotEq) (rD O TB neD) := by
  rintro pins s σ' H x y v u Q I rx ry ⟨G, W, ρ, σ, d, e, Qd, S, vx, vy, ⟨h1, h2, h⟩, fin⟩
  exact op_neD hu pins s σ' H _ _ v u Q I rx ry ⟨_, _, vx.dp S.w h1.1, vy.dp S.w h2.1, h1.2, h2.2, S.plain fin .bl h⟩
theorem View.isNone (r : View O W H d v) : decide (v = .non) = isNoneD d := by
  cases r <;> rfl
theorem od_is : OpR X (compareOp .Is) (rD O TB isD) := by
  rintro pins s σ' H x y v u Q I rx ry ⟨G, W, ρ, σ, d, e, Qd, S, vx, vy, h, fin⟩
  cases vy with
  | non =>
    have h : Qd (.fz, .bl (isNoneD d)) := by cases d <;> exact h
    refine op_isN pins s σ' H _ _ v u Q I rx ry ⟨rfl, ?_⟩
    rw [vx.isNone]
    exact S.plain fin .bl h
  | bl =>
    cases vx <;> (try exact (show False from h).elim)
    exact op_isBl pins s σ' H _ _ v u Q I rx ry ⟨_, _, rfl, rfl, S.plain fin .bl h⟩
  | _ => cases vx <;> exact (show False from h).elim
theorem od_isNot : OpR X (compareOp .IsNot) (rD O TB isNotD) := by
  rintro pins s σ' H x y v u Q I rx ry ⟨G, W, ρ, σ, d, e, Qd, S, vx, vy, h, fin⟩
  cases vy with
  | non =>
    have h : Qd (.fz, .bl (!isNoneD d)) := by cases d <;> exact h
    refine op_notN pins s σ' H _ _ v u Q I rx ry ⟨rfl, ?_⟩
    rw [vx.isNone]
    exact S.plain fin .bl h
  | bl =>
    cases vx <;> (try exact (show False from h).elim)
    exact op_notBl pins s σ' H _ _ v u Q I rx ry ⟨_, _, rfl, rfl, S.plain fin .bl h⟩
  | _ => cases vx <;> exact (show False from h).elim

theorem keyD_rep {k : Key} (e : keyD d = some k) (r : View O W H d v) : v = kV k := by
  cases r <;> simp only [keyD, Option.some.injEq, reduceCtorEq] at e <;> subst e <;> rfl
theorem keyD_repR {k : Key} (e : keyD d = some k) (r : Rep O W d v) : v = kV k := by
  cases r <;> simp only [keyD, Option.some.injEq, reduceCtorEq] at e <;> subst e <;> rfl
theorem keysD_rep : ∀ {l : List D} {vs : List V} {ks : List Key}, keysD l = some ks → RepL O W l vs → vs = ks.map kV
  | [], _, _, e, .nil => by simp only [keysD, Option.some.injEq] at e; subst e; rfl
  | d :: l, _, _, e, .cons r t => by
    unfold keysD at e
    split at e
    · rename_i k ks h1 h2
      cases e
      rw [keyD_repR h1 r, keysD_rep h2 t]; rfl
    · cases e
/-- a dict is asked -/
theorem dlook_get {k : D} {P : Option D → Prop} (w : WOk TB W H) (h : dlook d k P) (rd : View O W H d v) (rk : View O W H k u) :
    ∃ a o, v = .ref a ∧ P o ∧ ∃ ov, DGet H a u ov ∧ ov.isSome = o.isSome ∧ (∀ x, o = some x → ∃ y, ov = some y ∧ Rep O W x y) := by
  cases rd with
  | dct e r =>
    rename_i l a vs
    have h : (match keyD k with | some k => P (lookK l k) | none => False) := h
    split at h
    · rename_i kk ek
      rw [keyD_rep ek rk]
      refine ⟨a, _, rfl, h, _, DGet.k e, ?_⟩
      obtain ⟨h1, h2⟩ := r.val kk
      cases q : (lookK l kk) with
      | none => exact ⟨by rw [h2 q]; rfl, fun x z => by cases z⟩
      | some x =>
        obtain ⟨y, q1, q2⟩ := h1 x q
        exact ⟨by rw [q1]; rfl, fun x' z => by cases z; exact ⟨y, q1, q2⟩⟩
    · exact h.elim
  | dtt e r =>
    rename_i l a vs
    cases rk with
    | tup hw hh rr =>
      rename_i k b ws
      have h : (match keysD k with | some k => P (lookK l k) | none => False) := h
      split at h
      · rename_i kk ek
        have ews := keysD_rep ek rr
        subst ews
        refine ⟨a, _, rfl, h, _, DGet.t e hh, ?_⟩
        obtain ⟨h1, h2⟩ := r.val kk
        cases q : (lookK l kk) with
        | none => exact ⟨by rw [h2 q]; rfl, fun x z => by cases z⟩
        | some x =>
          obtain ⟨y, q1, q2⟩ := h1 x q
          exact ⟨by rw [q1]; rfl, fun x' z => by cases z; exact ⟨y, q1, q2⟩⟩
      · exact h.elim
    | _ => exact (show False from h).elim
  | _ => exact (show False from h).elim
theorem in_cases {P : Kd × D → Prop} (h : inD d e P) : (∃ c z, d = .str [c] ∧ e = .str z ∧ P (.fz, .bl (decide (c ∈ z)))) ∨
    ((∃ l, e = .lst l ∧ d.ok ∧ (D.lst l).ok ∧ P (.fz, .bl (l.any fun z => PyData.eqv z.py d.py))) ∨ (∃ l, e = .tup l ∧ d.ok ∧ (D.tup l).ok ∧ P (.fz, .bl (l.any fun z => PyData.eqv z.py d.py)))) ∨ dlook e d fun o => P (.fz, .bl o.isSome) := by
  unfold inD at h
  split at h
  · exact .inl ⟨_, _, rfl, rfl, h⟩
  · exact .inr (.inl (.inl ⟨_, rfl, h⟩))
  · exact .inr (.inl (.inr ⟨_, rfl, h⟩))
  · exact .inr (.inr h)
theorem notIn_cases {P : Kd × D → Prop} (h : notInD d e P) : (∃ c z, d = .str [c] ∧ e = .str z ∧ P (.fz, .bl (!decide (c ∈ z)))) ∨
    ((∃ l, e = .lst l ∧ d.ok ∧ (D.lst l).ok ∧ P (.fz, .bl (!l.any fun z => PyData.eqv z.py d.py))) ∨ (∃ l, e = .tup l ∧ d.ok ∧ (D.tup l).ok ∧ P (.fz, .bl (!l.any fun z => PyData.eqv z.py d.py)))) ∨ dlook e d fun o => P (.fz, .bl (!o.isSome)) := by
  unfold notInD at h
  split at h
  · exact .inl ⟨_, _, rfl, rfl, h⟩
  · exact .inr (.inl (.inl ⟨_, rfl, h⟩))
  · exact .inr (.inl (.inr ⟨_, rfl, h⟩))
  · exact .inr (.inr h)
theorem pyL_any (p : PyData) : ∀ l : List D, ((D.pyL l).any fun z => PyData.eqv z p) = l.any fun z => PyData.eqv z.py p
  | [] => rfl
  | d :: l => by
    show (PyData.eqv d.py p || (D.pyL l).any _) = (PyData.eqv d.py p || l.any _)
    rw [pyL_any p l]
theorem sign_of {c : Nat} : mkS [c] = ⟨#[c]⟩ := rfl
theorem od_in (hu : X.A.units + 65 < cLine) : OpR X (compareOp .In) (rD O TB inD) := by
  rintro pins s σ' H x y v u Q I rx ry ⟨G, W, ρ, σ, d, e, Qd, S, vx, vy, h, fin⟩
  rcases in_cases h with ⟨c, z, rfl, rfl, h⟩ | ⟨⟨l, rfl, h1, h2, h⟩ | ⟨l, rfl, h1, h2, h⟩⟩ | h
  · cases vx; cases vy
    refine op_in_sign pins s σ' H _ _ v u Q I rx ry ⟨c, mkS z, rfl, rfl, ?_⟩
    rw [mkS_toList]; exact S.plain fin .bl h
  · refine op_inD hu pins s σ' H _ _ v u Q I rx ry ⟨_, D.pyL l, vx.dp S.w h1.1, vy.dp S.w h2.1, h1.2, h2.2, ?_⟩
    rw [pyL_any]; exact S.plain fin .bl h
  · obtain ⟨as, r1⟩ := Dp.reads I _ x v (vx.dp S.w h1.1) rx
    obtain ⟨bs, r2⟩ := Dp.reads I _ y u (vy.dp S.w h2.1) ry
    have se : SeqAt.shaped (.tuple (D.pyL l)) = true := h2.2
    refine SeqAt.in_tuple_reads r2 r1 (SeqAt.canLay_of_shaped se) (SeqAt.canLay_of_shaped h1.2) (room_in_shaped h1.2 hu) ⟨.bl _, H, I, rfl, ?_⟩
    rw [pyL_any]; exact S.plain fin .bl h
  · obtain ⟨a, o, rfl, q, ov, g, e1, _⟩ := dlook_get S.w h vy vx
    cases ry
    refine d_in (by omega) I g rx fun s3 I3 => ⟨.bl ov.isSome, H, I3, rfl, ?_⟩
    rw [e1]; exact S.plain fin .bl q
theorem od_notIn (hu : X.A.units + 65 < cLine) : OpR X (compareOp .NotIn) (rD O TB notInD) := by
  rintro pins s σ' H x y v u Q I rx ry ⟨G, W, ρ, σ, d, e, Qd, S, vx, vy, h, fin⟩
  rcases notIn_cases h with ⟨c, z, rfl, rfl, h⟩ | ⟨⟨l, rfl, h1, h2, h⟩ | ⟨l, rfl, h1, h2, h⟩⟩ | h
  · cases vx; cases vy
    refine op_notIn_sign pins s σ' H _ _ v u Q I rx ry ⟨c, mkS z, rfl, rfl, ?_⟩
    rw [mkS_toList]; exact S.plain fin .bl h
  · refine op_notInD hu pins s σ' H _ _ v u Q I rx ry ⟨_, D.pyL l, vx.dp S.w h1.1, vy.dp S.w h2.1, h1.2, h2.2, ?_⟩
    rw [pyL_any]; exact S.plain fin .bl h
  · obtain ⟨as, r1⟩ := Dp.reads I _ x v (vx.dp S.w h1.1) rx
    obtain ⟨bs, r2⟩ := Dp.reads I _ y u (vy.dp S.w h2.1) ry
    have se : SeqAt.shaped (.tuple (D.pyL l)) = true := h2.2
    refine SeqAt.notIn_tuple_reads r2 r1 (SeqAt.canLay_of_shaped se) (SeqAt.canLay_of_shaped h1.2) (room_in_shaped h1.2 hu) ⟨.bl _, H, I, rfl, ?_⟩
    rw [pyL_any]; exact S.plain fin .bl h
  · obtain ⟨a, o, rfl, q, ov, g, e1, _⟩ := dlook_get S.w h vy vx
    cases ry
    refine d_notIn (by omega) I g rx fun s3 I3 => ⟨.bl (!ov.isSome), H, I3, rfl, ?_⟩
    rw [e1]; exact S.plain fin .bl q
end
end TC

/-! Tests, and, or, not, conditional expressions, subscripts, slices, displays, arguments, calls. -/
namespace TC
open PySem PySem.Spec PyProof.Rows L2

/-! ### tests -/
abbrev TvT := Rho → (Bool → Rho → Prop) → Prop
def tTv (O : ObjI) (TB : List Addr) (tv : TvT) : TT := fun σ H Q => ∃ (G : Kp) (W : Wd) (ρ : Rho) (Qd : Bool → Rho → Prop), SOk O TB G W ρ σ H ∧ tv ρ Qd ∧
  ∀ b H' W' ρ', WLe W W' → Fro ρ ρ' → SOk O TB G W' ρ' σ H' → Qd b ρ' → Q b H'
abbrev DT (O : ObjI) (TB : List Addr) (X : Cx) (e : Expr) (tv : TvT) : Prop := PT X e (tTv O TB tv)
abbrev DW (O : ObjI) (TB : List Addr) (X : Cx) (e : Expr) (tv : TvT) : Prop := PW X e (tTv O TB tv)
theorem _root_.L2.PW.imp {X : Cx} {e : Expr} {t t' : TT} (h : PW X e t) (i : ∀ σ H Q, t' σ H Q → t σ H Q) : PW X e t' :=
  ⟨fun wh pins s σ H Q I q => h.run wh pins s σ H Q I (i σ H Q q)⟩
def truthD (d : D) (Q : Bool → Prop) : Prop := match d with
  | .non => Q false
  | .bl b => Q b
  | .int i => Q (i != 0)
  | .str s => Q (!s.isEmpty)
  | .tup l => Q (!l.isEmpty)
  | .lst l => Q (!l.isEmpty)
  | .dct l => Q (!l.isEmpty)
  | _ => False
def boolD (d : D) (Q : Bool → Prop) : Prop := match d with
  | .bl b => Q b
  | _ => False
def tOf (ev : EvT) : TvT := fun ρ Q => ev ρ fun r ρ1 => truthD r.2 fun b => Q b ρ1
def tBl (ev : EvT) : TvT := fun ρ Q => ev ρ fun r ρ1 => boolD r.2 fun b => Q b ρ1
def tAnd (t u : TvT) : TvT := fun ρ Q => t ρ fun b ρ1 => if b = true then u ρ1 Q else Q false ρ1
def tOr (t u : TvT) : TvT := fun ρ Q => t ρ fun b ρ1 => if b = true then Q true ρ1 else u ρ1 Q
def tNot (t : TvT) : TvT := fun ρ Q => t ρ fun b ρ1 => Q (!b) ρ1
def vIf (t : TvT) (ea eb : EvT) : EvT := fun ρ Q => t ρ fun b ρ1 => if b = true then ea ρ1 Q else eb ρ1 Q
def vAnd (ea eb : EvT) : EvT := fun ρ Q => ea ρ fun r ρ1 => boolD r.2 fun b => if b = true then eb ρ1 Q else Q (.fz, .bl false) ρ1
def vOr (ea eb : EvT) : EvT := fun ρ Q => ea ρ fun r ρ1 => boolD r.2 fun b => if b = true then Q (.fz, .bl true) ρ1 else eb ρ1 Q
def vNot (ea : EvT) : EvT := fun ρ Q => ea ρ fun r ρ1 => boolD r.2 fun b => Q (.fz, .bl (!b)) ρ1
def vChain (o o' : Op2) (ea eb ec : EvT) : EvT := fun ρ Q => ea ρ fun ra ρ1 => eb ρ1 fun rb ρ2 => o ra.2 rb.2 fun r => boolD r.2 fun k => if k = true then ec ρ2 fun rc ρ3 => o' rb.2 rc.2 fun r' => Q r' ρ3 else Q (.fz, .bl false) ρ2

section
variable {O : ObjI} {TB : List Addr} {X : Cx} {G : Kp} {W W' : Wd} {ρ : Rho} {σ : L2.St} {H : Hp} {d : D} {v : V}
theorem View.truth {P : Bool → Prop} (r : View O W H d v) (h : truthD d P) : ∃ k, TruV X.K v H k ∧ P k := by
  cases r with
  | non => exact ⟨false, rfl, h⟩
  | bl => exact ⟨_, rfl, h⟩
  | int => exact ⟨_, rfl, h⟩
  | str hs =>
    rename_i s
    refine ⟨!s.isEmpty, ⟨by rw [mkS_len]; exact hs, ?_⟩, h⟩
    rw [mkS_len]
    cases s with
    | nil => rfl
    | cons a r =>
      show true = (((r.length + 1 : Nat) : Int) != 0)
      symm
      rw [bne_iff_ne]
      omega
  | tup _ e r => refine ⟨_, .inr (.inl ⟨_, SqT.of e, rfl⟩), ?_⟩; cases r <;> exact h
  | lst e r => refine ⟨_, .inl ⟨_, SqL.of e, rfl⟩, ?_⟩; cases r <;> exact h
  | dct e r => refine ⟨_, .inr (.inr ⟨_, e, rfl⟩), ?_⟩; cases r <;> exact h
  | dtt e r => exact (show False from h).elim
  | obj e => exact (show False from h).elim
theorem View.bool {P : Bool → Prop} (r : View O W H d v) (h : boolD d P) : ∃ k, v = .bl k ∧ P k := by
  cases r <;> first | exact ⟨_, rfl, h⟩ | exact (show False from h).elim

variable {a b c e : Expr} {ea eb ec : EvT} {pos : Pos} {tA tB : TvT} {rest : List Expr}
theorem dt_of (h : DE O TB X e ea) (he : ∀ whole, isTrue e X.env whole = (do let v ← whole; standAt e.pos; holding [v] (truthy v)) := by intro _; rfl) : DT O TB X e (tOf ea) := by
  refine (pt_truth h he).imp ?_
  rintro σ H Q ⟨G, W, ρ, Qd, s, ev, fin⟩
  refine ⟨G, W, ρ, _, s, ev, fun v H' W' ρ' k d le fr s' r q => ?_⟩
  obtain ⟨b, h1, h2⟩ := (s'.view r).truth (X := X) q
  exact ⟨b, h1, fin b H' W' ρ' le fr s' h2⟩
theorem tEv_bool {σ : L2.St} {H : Hp} {Q : Bool → Hp → Prop} (h : tTv O TB (tBl ea) σ H Q) : tTest (tEv O TB ea) σ H Q := by
  obtain ⟨G, W, ρ, Qd, s, ev, fin⟩ := h
  refine ⟨G, W, ρ, _, s, ev, fun v H' W' ρ' k d le fr s' r q => ?_⟩
  obtain ⟨b, rfl, q⟩ := (s'.view r).bool q
  exact ⟨b, rfl, fin b H' W' ρ' le fr s' q⟩
theorem tTest_mono {t t' : TE} (h : ∀ σ H Q, t' σ H Q → t σ H Q) {σ : L2.St} {H : Hp} {Q : Bool → Hp → Prop} (q : tTest t' σ H Q) : tTest t σ H Q := h _ _ _ q
theorem dt_cmp {op : CmpOp} {o : Op2} (ho : OpR X (compareOp op) (rD O TB o)) (ha : DE O TB X a ea) (hb : DE O TB X b eb) (hm : behindInMarks op b = false) : DT O TB X (.Compare a [op] [b] pos) (tBl (v2 o ea eb)) :=
  (pt_cmpR ho ha hb hm).imp fun _ _ _ h => tTest_mono (fun _ _ _ h => tEv2 h) (tEv_bool h)
theorem View.of_le {v : V} {d : D} (r : View O W H d v) : View O W H d v := r
theorem tEvChain {o o' : Op2} {σ : L2.St} {H : Hp} {Q : VK} (h : tEv O TB (vChain o o' ea eb ec) σ H Q) : tChain (rD O TB o) (rD O TB o') (tEv O TB ea) (tEv O TB eb) (tEv O TB ec) σ H Q := by
  obtain ⟨G, W, ρ, Qd, s, ev, fin⟩ := h
  refine ⟨G, W, ρ, _, s, ev, fun v H1 W1 ρ1 k d le fr s1 r1 q1 => ?_⟩
  obtain ⟨G2, s2, back⟩ := s1.hold r1
  refine ⟨G2, W1, ρ1, _, s2, q1, fun u H2 W2 ρ2 k2 d2 le2 fr2 s3 r2 q2 => ?_⟩
  obtain ⟨s4, r4, cv⟩ := back le2 fr2 s3
  have r5 := cv _ _ _ r2
  obtain ⟨G5, s5, back5⟩ := s4.hold r5
  refine ⟨G5, W2, ρ2, σ, d, d2, _, s5, View.of_le (s4.view r4), View.of_le (s4.view r5), q2, fun z H3 W3 k3 d3 le3 s6 rz qz => ?_⟩
  obtain ⟨b, rfl, qb⟩ := (s6.view rz).bool qz
  obtain ⟨s7, r7, _⟩ := back5 le3 (Fro.refl _) s6
  refine ⟨b, rfl, ?_⟩
  cases b with
  | false => simp only [Bool.false_eq_true, if_false] at qb ⊢; exact fin _ H3 W3 ρ2 .fz _ ((le.trans le2).trans le3) (fr.trans fr2) s7 .bl qb
  | true =>
    simp only [if_true] at qb ⊢
    obtain ⟨G3, s8, back3⟩ := s7.hold r7
    refine ⟨G3, W3, ρ2, _, s8, qb, fun w H4 W4 ρ4 k4 d4 le4 fr4 s9 r9 q9 => ?_⟩
    obtain ⟨s10, r10, cv10⟩ := back3 le4 fr4 s9
    exact ⟨G, W4, ρ4, σ, d2, d4, _, s10, s10.view r10, s10.view (cv10 _ _ _ r9), q9, fun z' H' W' k' dz' le' s' rz' qz' => fin z' H' W' ρ4 k' dz' ((((le.trans le2).trans le3).trans le4).trans le') ((fr.trans fr2).trans fr4) s' rz' qz'⟩
theorem de_chain {op op' : CmpOp} {o o' : Op2} (ho : OpR X (compareOp op) (rD O TB o)) (ho' : OpR X (compareOp op') (rD O TB o')) (ha : DE O TB X a ea) (hb : DE O TB X b eb) (hc : DE O TB X c ec)
    (hm : lastMarks [op, op'] [b, c] = false := by with_unfolding_all rfl) : DE O TB X (.Compare a [op, op'] [b, c] pos) (vChain o o' ea eb ec) := (pe_chain ho ho' ha hb hc hm).imp fun _ _ _ h => tEvChain h
theorem dt_chain {op op' : CmpOp} {o o' : Op2} (ho : OpR X (compareOp op) (rD O TB o)) (ho' : OpR X (compareOp op') (rD O TB o')) (ha : DE O TB X a ea) (hb : DE O TB X b eb) (hc : DE O TB X c ec)
    (hm : lastMarks [op, op'] [b, c] = false := by with_unfolding_all rfl) : DT O TB X (.Compare a [op, op'] [b, c] pos) (tBl (vChain o o' ea eb ec)) :=
  (pt_chain ho ho' ha hb hc hm).imp fun _ _ _ h => tTest_mono (fun _ _ _ h => tEvChain h) (tEv_bool h)
theorem dw_and1 (ha : DT O TB X a tA) : DW O TB X (.BoolOp .And [a] pos) tA := pw_and1 ha
theorem dw_or1 (ha : DT O TB X a tA) : DW O TB X (.BoolOp .Or [a] pos) tA := pw_or1 ha
theorem dw_and (ha : DT O TB X a tA) (hb : DW O TB X (.BoolOp .And (b :: rest) pos) tB) : DW O TB X (.BoolOp .And (a :: b :: rest) pos) (tAnd tA tB) := by
  refine (pw_and ha hb).imp ?_
  rintro σ H Q ⟨G, W, ρ, Qd, s, ev, fin⟩
  refine ⟨G, W, ρ, _, s, ev, fun c H1 W1 ρ1 le fr s1 q1 => ?_⟩
  cases c with
  | true => simp only [if_true] at q1 ⊢; exact ⟨G, W1, ρ1, _, s1, q1, fun b H' W' ρ' le' fr' s' q => fin b H' W' ρ' (le.trans le') (fr.trans fr') s' q⟩
  | false => simp only [Bool.false_eq_true, if_false] at q1 ⊢; exact fin _ H1 W1 ρ1 le fr s1 q1
theorem dw_or (ha : DT O TB X a tA) (hb : DW O TB X (.BoolOp .Or (b :: rest) pos) tB) : DW O TB X (.BoolOp .Or (a :: b :: rest) pos) (tOr tA tB) := by
  refine (pw_or ha hb).imp ?_
  rintro σ H Q ⟨G, W, ρ, Qd, s, ev, fin⟩
  refine ⟨G, W, ρ, _, s, ev, fun c H1 W1 ρ1 le fr s1 q1 => ?_⟩
  cases c with
  | false => simp only [Bool.false_eq_true, if_false] at q1 ⊢; exact ⟨G, W1, ρ1, _, s1, q1, fun b H' W' ρ' le' fr' s' q => fin b H' W' ρ' (le.trans le') (fr.trans fr') s' q⟩
  | true => simp only [if_true] at q1 ⊢; exact fin _ H1 W1 ρ1 le fr s1 q1
theorem dt_not (ha : DT O TB X a tA) : DT O TB X (.UnaryOp .Not a pos) (tNot tA) := by
  refine (pt_not ha).imp ?_
  rintro σ H Q ⟨G, W, ρ, Qd, s, ev, fin⟩
  exact ⟨G, W, ρ, _, s, ev, fun b H' W' ρ' le fr s' q => fin (!b) H' W' ρ' le fr s' q⟩
theorem de_one {op} (h : DE O TB X a ea) : DE O TB X (.BoolOp op [a] pos) ea := pe_one h
theorem de_and (ha : DE O TB X a ea) (hb : DE O TB X (.BoolOp .And (b :: rest) pos) eb) : DE O TB X (.BoolOp .And (a :: b :: rest) pos) (vAnd ea eb) := by
  refine (pe_and ha hb).imp ?_
  rintro σ H Q ⟨G, W, ρ, Qd, s, ev, fin⟩
  refine ⟨G, W, ρ, _, s, ev, fun v H1 W1 ρ1 k d le fr s1 r1 q1 => ?_⟩
  obtain ⟨b, rfl, q1⟩ := (s1.view r1).bool q1
  refine ⟨b, rfl, ?_⟩
  cases b with
  | true => simp only [if_true] at q1 ⊢; exact ⟨G, W1, ρ1, _, s1, q1, fun z H' W' ρ' k d le' fr' s' r q => fin z H' W' ρ' k d (le.trans le') (fr.trans fr') s' r q⟩
  | false => simp only [Bool.false_eq_true, if_false] at q1 ⊢; exact fin _ H1 W1 ρ1 .fz _ le fr s1 .bl q1
theorem de_or (ha : DE O TB X a ea) (hb : DE O TB X (.BoolOp .Or (b :: rest) pos) eb) : DE O TB X (.BoolOp .Or (a :: b :: rest) pos) (vOr ea eb) := by
  refine (pe_or ha hb).imp ?_
  rintro σ H Q ⟨G, W, ρ, Qd, s, ev, fin⟩
  refine ⟨G, W, ρ, _, s, ev, fun v H1 W1 ρ1 k d le fr s1 r1 q1 => ?_⟩
  obtain ⟨b, rfl, q1⟩ := (s1.view r1).bool q1
  refine ⟨b, rfl, ?_⟩
  cases b with
  | false => simp only [Bool.false_eq_true, if_false] at q1 ⊢; exact ⟨G, W1, ρ1, _, s1, q1, fun z H' W' ρ' k d le' fr' s' r q => fin z H' W' ρ' k d (le.trans le') (fr.trans fr') s' r q⟩
  | true => simp only [if_true] at q1 ⊢; exact fin _ H1 W1 ρ1 .fz _ le fr s1 .bl q1
theorem de_not (ha : DE O TB X a ea) : DE O TB X (.UnaryOp .Not a pos) (vNot ea) := by
  refine (pe_not ha).imp ?_
  rintro σ H Q ⟨G, W, ρ, Qd, s, ev, fin⟩
  refine ⟨G, W, ρ, _, s, ev, fun v H1 W1 ρ1 k d le fr s1 r1 q1 => ?_⟩
  obtain ⟨b, rfl, q1⟩ := (s1.view r1).bool q1
  exact ⟨b, rfl, fin _ H1 W1 ρ1 .fz _ le fr s1 .bl q1⟩
theorem de_ifExp (hc : DT O TB X c tA) (ha : DE O TB X a ea) (hb : DE O TB X b eb) : DE O TB X (.IfExp c a b pos) (vIf tA ea eb) := by
  refine (pe_ifExp hc ha hb).imp ?_
  rintro σ H Q ⟨G, W, ρ, Qd, s, ev, fin⟩
  refine ⟨G, W, ρ, _, s, ev, fun c H1 W1 ρ1 le fr s1 q1 => ?_⟩
  cases c with
  | true => simp only [if_true] at q1 ⊢; exact ⟨G, W1, ρ1, _, s1, q1, fun z H' W' ρ' k d le' fr' s' r q => fin z H' W' ρ' k d (le.trans le') (fr.trans fr') s' r q⟩
  | false => simp only [Bool.false_eq_true, if_false] at q1 ⊢; exact ⟨G, W1, ρ1, _, s1, q1, fun z H' W' ρ' k d le' fr' s' r q => fin z H' W' ρ' k d (le.trans le') (fr.trans fr') s' r q⟩
end

/-! ### subscripts -/
def ixD : Op2
  | .lst l, .int i, Q => (match atI l i with | some d => Q (.fz, d) | none => False)
  | .tup l, .int i, Q => (match atI l i with | some d => Q (.fz, d) | none => False)
  | .str s, .int i, Q => (match atI s i with | some c => Q (.fz, .str [c]) | none => False)
  | d, k, Q => dlook d k fun o => match o with | some x => Q (.fz, x) | none => False
def cutL {α : Type} (xs : List α) (lo hi : Option Int) : List α := (xs.drop (HT.sIx xs.length 0 lo)).take (HT.sIx xs.length xs.length hi - HT.sIx xs.length 0 lo)
abbrev SlD := D → Option Int → Option Int → (Kd × D → Prop) → Prop
def slD : SlD := fun d lo hi Q => match d with
  | .lst l => Q (.fr, .lst (cutL l lo hi))
  | .tup l => Q (.fz, .tup (cutL l lo hi))
  | .str s => Q (.fz, .str (cutL s lo hi))
  | _ => False
abbrev PoT := Rho → (Option Int → Rho → Prop) → Prop
def pNo : PoT := fun ρ Q => Q none ρ
def pSome (ea : EvT) : PoT := fun ρ Q => ea ρ fun r ρ1 => match r.2 with | .int i => Q (some i) ρ1 | _ => False
def vSl (ea : EvT) (lo hi : PoT) : EvT := fun ρ Q => ea ρ fun r ρ1 => lo ρ1 fun l ρ2 => hi ρ2 fun u ρ3 => slD r.2 l u fun z => Q z ρ3
def tPo (O : ObjI) (TB : List Addr) (tv : PoT) : TO := fun σ H Q => ∃ (G : Kp) (W : Wd) (ρ : Rho) (Qd : Option Int → Rho → Prop), SOk O TB G W ρ σ H ∧ tv ρ Qd ∧
  ∀ b H' W' ρ', WLe W W' → Fro ρ ρ' → SOk O TB G W' ρ' σ H' → Qd b ρ' → Q b H'
abbrev DO (O : ObjI) (TB : List Addr) (X : Cx) (e : Option Expr) (tv : PoT) : Prop := PO X e (tPo O TB tv)
theorem _root_.L2.PO.imp {X : Cx} {e : Option Expr} {t t' : TO} (h : PO X e t) (i : ∀ σ H Q, t' σ H Q → t σ H Q) : PO X e t' := by
  obtain ⟨r⟩ := h
  exact ⟨fun pins s σ H Q I q => r pins s σ H Q I (i σ H Q q)⟩
section
variable {O : ObjI} {TB : List Addr} {X : Cx} {G : Kp} {W W' : Wd} {ρ : Rho} {σ : L2.St} {H : Hp} {d e : D} {v u : V}
theorem atI_rep {l : List D} {vs : List V} {i : Int} {d : D} (r : RepL O W l vs) (h : atI l i = some d) : ∃ v, atI vs i = some v ∧ Rep O W d v := by
  unfold atI at h ⊢
  rw [← r.length]
  cases e : ixN l.length i with
  | none => rw [e] at h; cases h
  | some j =>
    rw [e] at h
    exact r.get (show l[j]? = some d from h)
theorem cut_rep {l : List D} {vs : List V} (r : RepL O W l vs) (lo hi : Option Int) : RepL O W (cutL l lo hi) (cutV vs lo hi) := by
  unfold cutL cutV
  rw [← r.length]
  exact (r.drop _).take _
theorem cut_str (s : List Nat) (lo hi : Option Int) : cutS (mkS s) lo hi = mkS (cutL s lo hi) := by
  unfold cutS cutL
  rw [mkS_toList, mkS_len]
theorem cutL_len {α : Type} (l : List α) (lo hi : Option Int) : (cutL l lo hi).length ≤ l.length := by
  unfold cutL
  rw [List.length_take, List.length_drop]
  omega
theorem ixD_cases {P : Kd × D → Prop} (h : ixD d e P) : (∃ l i x, d = .lst l ∧ e = .int i ∧ atI l i = some x ∧ P (.fz, x)) ∨ (∃ l i x, d = .tup l ∧ e = .int i ∧ atI l i = some x ∧ P (.fz, x)) ∨
    (∃ s i c, d = .str s ∧ e = .int i ∧ atI s i = some c ∧ P (.fz, .str [c])) ∨ dlook d e fun o => match o with | some x => P (.fz, x) | none => False := by
  unfold ixD at h
  split at h
  · split at h
    · rename_i x hx; exact .inl ⟨_, _, x, rfl, rfl, hx, h⟩
    · exact h.elim
  · split at h
    · rename_i x hx; exact .inr (.inl ⟨_, _, x, rfl, rfl, hx, h⟩)
    · exact h.elim
  · split at h
    · rename_i x hx; exact .inr (.inr (.inl ⟨_, _, x, rfl, rfl, hx, h⟩))
    · exact h.elim
  · exact .inr (.inr (.inr h))
theorem id_all (hu : X.A.units + 1 < cLine) : IxR X (rD O TB ixD) := by
  rintro value slice pins s σ' H x y v u Q I rx ry ⟨G, W, ρ, σ, d, e, Qd, S, vx, vy, h, fin⟩ hs
  rcases ixD_cases h with ⟨l, i, z, rfl, rfl, hz, q⟩ | ⟨l, i, z, rfl, rfl, hz, q⟩ | ⟨l, i, z, rfl, rfl, hz, q⟩ | h
  · cases vx with
    | lst e r =>
      cases vy
      obtain ⟨w, h1, h2⟩ := atI_rep r hz
      exact ix_list value slice pins s σ' H _ _ v u Q I rx ry ⟨_, _, _, w, rfl, rfl, SqL.of e, h1, S.plain fin h2 q⟩ hs
  · cases vx with
    | tup _ e r =>
      cases vy
      obtain ⟨w, h1, h2⟩ := atI_rep r hz
      exact ix_tup value slice pins s σ' H _ _ v u Q I rx ry ⟨_, _, _, w, rfl, rfl, SqT.of e, h1, S.plain fin h2 q⟩ hs
  · cases vx with
    | str hl =>
      cases vy
      exact ix_str value slice pins s σ' H _ _ v u Q I rx ry ⟨_, _, z, rfl, rfl, by rw [mkS_len]; exact hl, by rw [mkS_toList]; exact hz, S.plain fin (.str (s := [z]) (by show 1 ≤ sizeLine; decide)) q⟩ hs
  · obtain ⟨a, o, rfl, q, ov, g, e1, e2⟩ := dlook_get S.w h vx vy
    cases o with
    | none => exact q.elim
    | some x =>
      obtain ⟨w, rfl, r⟩ := e2 x rfl
      cases rx
      exact tail_any (dict_typeIs I g) slot_dict_getitem.lookup (d_getItem hu I g ry fun w' s' I' rw' => ⟨w, H, I', rw', S.plain fin r q⟩) hs
theorem sd_all : SlR X (fun x lo hi H Q => ∃ (G : Kp) (W : Wd) (ρ : Rho) (σ : L2.St) (d : D) (Qd : Kd × D → Prop), SOk O TB G W ρ σ H ∧ View O W H d x ∧ slD d lo hi Qd ∧
    ∀ z H' W' k dz, WLe W W' → SOk O TB G W' ρ σ H' → RepK O G W' H' ρ σ k dz z → Qd (k, dz) → Q z H') := by
  rintro pins s σ' H x v vl vu lo hi sl Q I rx hs pl pu ⟨G, W, ρ, σ, d, Qd, S, vx, h, fin⟩
  cases vx <;> (try exact (show False from h).elim)
  · rename_i z hl
    refine sl_str pins s σ' H _ v vl vu lo hi sl Q I rx hs pl pu ⟨_, rfl, by rw [mkS_len]; exact hl, ?_⟩
    rw [cut_str]
    exact S.plain fin (.str (Nat.le_trans (cutL_len _ _ _) hl)) h
  · rename_i l a vs hw hh r
    refine sl_tupA pins s σ' H _ v vl vu lo hi sl Q I rx hs pl pu ⟨a, vs, rfl, SqT.of hh, fun e => ?_, fun _ => ?_⟩
    · have h : Qd (.fz, .tup (cutL l lo hi)) := h
      have e2 : cutL l lo hi = l := by
        unfold cutL
        rw [r.length, e.1, e.2]
        rw [List.drop_zero, Nat.sub_zero, ← r.length]; exact List.take_length
      rw [e2] at h
      exact S.plain fin (.tup hw r) h
    · exact S.newT fin (cut_rep r lo hi) h
  · rename_i l a vs hh r
    exact sl_list pins s σ' H _ v vl vu lo hi sl Q I rx hs pl pu ⟨a, vs, rfl, SqL.of hh, S.newL fin (cut_rep r lo hi) h⟩
end
section
variable {O : ObjI} {TB : List Addr} {X : Cx} {a b : Expr} {ea eb : EvT} {pos p2 : Pos} {lo hi : Option Expr} {tl th : PoT}
theorem de_ix (hu : X.A.units + 1 < cLine) (ha : DE O TB X a ea) (hb : DE O TB X b eb) (hs : PlainIx b := by exact fun _ _ => rfl) : DE O TB X (.Subscript a b pos) (v2 ixD ea eb) :=
  (pe_ix (id_all hu) ha hb hs).imp fun _ _ _ h => tEv2 h
theorem do_no : DO O TB X none pNo := by
  refine po_none.imp ?_
  rintro σ H Q ⟨G, W, ρ, Qd, s, ev, fin⟩
  exact fin none H W ρ (WLe.refl W) (Fro.refl ρ) s ev
theorem do_some (h : DE O TB X a ea) : DO O TB X (some a) (pSome ea) := by
  refine (po_some h).imp ?_
  rintro σ H Q ⟨G, W, ρ, Qd, s, ev, fin⟩
  refine ⟨G, W, ρ, _, s, ev, fun v H1 W1 ρ1 k d le fr s1 r1 q1 => ?_⟩
  have vw := s1.view r1
  cases vw with
  | int => exact ⟨_, rfl, fin _ H1 W1 ρ1 le fr s1 q1⟩
  | _ => exact (show False from q1).elim
theorem de_sl (ha : DE O TB X a ea) (hl : DO O TB X lo tl) (hh : DO O TB X hi th) : DE O TB X (.Subscript a (.Slice lo hi none p2) pos) (vSl ea tl th) := by
  refine (pe_slice (sd_all (O := O) (TB := TB)) ha hl hh).imp ?_
  rintro σ H Q ⟨G, W, ρ, Qd, s, ev, fin⟩
  refine ⟨G, W, ρ, _, s, ev, fun v H1 W1 ρ1 k d le fr s1 r1 q1 => ?_⟩
  obtain ⟨G2, s2, back⟩ := s1.hold r1
  refine ⟨G2, W1, ρ1, _, s2, q1, fun l H2 W2 ρ2 le2 fr2 s3 q2 => ⟨G2, W2, ρ2, _, s3, q2, fun u H3 W3 ρ3 le3 fr3 s4 q3 => ?_⟩⟩
  obtain ⟨s5, r5, _⟩ := back (le2.trans le3) (fr2.trans fr3) s4
  exact ⟨G, W3, ρ3, σ, d, _, s5, s5.view r5, q3, fun z H' W' k' dz le' s' rz qz => fin z H' W' ρ3 k' dz (((le.trans le2).trans le3).trans le') ((fr.trans fr2).trans fr3) s' rz qz⟩
end
end TC

/-! Arguments, displays, calls of defs and of built-ins. -/
namespace TC
open PySem PySem.Spec PyProof.Rows L2

/-! ### arguments -/
abbrev ArT := Rho → (List (Kd × D) → Rho → Prop) → Prop
abbrev AsT := Rho → (List D → Rho → Prop) → Prop
def aNil : ArT := fun ρ Q => Q [] ρ
def aCons (ea : EvT) (er : ArT) : ArT := fun ρ Q => ea ρ fun r ρ1 => er ρ1 fun rs ρ2 => Q (r :: rs) ρ2
def sNil : AsT := fun ρ Q => Q [] ρ
def sCons (ea : EvT) (er : AsT) : AsT := fun ρ Q => ea ρ fun r ρ1 => settle r ρ1 fun d ρ2 => er ρ2 fun ds ρ3 => Q (d :: ds) ρ3
/-- each value is held as told -/
inductive RepKs (O : ObjI) (G : Kp) (W : Wd) (H : Hp) (ρ : Rho) (σ : L2.St) : List (Kd × D) → List V → Prop
  | nil : RepKs O G W H ρ σ [] []
  | cons {k d v rs vs} : RepK O G W H ρ σ k d v → RepKs O G W H ρ σ rs vs → RepKs O G W H ρ σ ((k, d) :: rs) (v :: vs)
inductive Views (O : ObjI) (W : Wd) (H : Hp) : List D → List V → Prop
  | nil : Views O W H [] []
  | cons {d v ds vs} : View O W H d v → Views O W H ds vs → Views O W H (d :: ds) (v :: vs)
def tAr (O : ObjI) (TB : List Addr) (ar : ArT) : TA := fun σ H Q => ∃ (G : Kp) (W : Wd) (ρ : Rho) (Qd : List (Kd × D) → Rho → Prop), SOk O TB G W ρ σ H ∧ ar ρ Qd ∧
  ∀ vs H' W' ρ' rs, WLe W W' → Fro ρ ρ' → SOk O TB G W' ρ' σ H' → RepKs O G W' H' ρ' σ rs vs → Qd rs ρ' → Q vs H'
def tAs (O : ObjI) (TB : List Addr) (ar : AsT) : TA := fun σ H Q => ∃ (G : Kp) (W : Wd) (ρ : Rho) (Qd : List D → Rho → Prop), SOk O TB G W ρ σ H ∧ ar ρ Qd ∧
  ∀ vs H' W' ρ' ds, WLe W W' → Fro ρ ρ' → SOk O TB G W' ρ' σ H' → RepL O W' ds vs → Qd ds ρ' → Q vs H'
abbrev DA (O : ObjI) (TB : List Addr) (X : Cx) (es : List Expr) (ar : ArT) : Prop := PA X es (tAr O TB ar)
abbrev DAs (O : ObjI) (TB : List Addr) (X : Cx) (es : List Expr) (ar : AsT) : Prop := PA X es (tAs O TB ar)
section
variable {O : ObjI} {TB : List Addr} {X : Cx} {G : Kp} {W W' : Wd} {ρ : Rho} {σ : L2.St} {H : Hp} {a : Expr} {es : List Expr} {ea : EvT} {ar : ArT} {as : AsT} {pos : Pos}
theorem RepKs.views (s : SOk O TB G W ρ σ H) : ∀ {rs : List (Kd × D)} {vs : List V}, RepKs O G W H ρ σ rs vs → Views O W H (rs.map (·.2)) vs
  | _, _, .nil => .nil
  | _, _, .cons r t => .cons (s.view r) (RepKs.views s t)
theorem da_nil : DA O TB X [] aNil := by
  refine pa_nil.imp ?_
  rintro σ H Q ⟨G, W, ρ, Qd, s, ev, fin⟩
  exact fin [] H W ρ [] (WLe.refl W) (Fro.refl ρ) s .nil ev
theorem da_cons (ha : DE O TB X a ea) (hr : DA O TB X es ar) (hs : starEach (a :: es) X.env = (false, eval a X.env) :: starEach es X.env := by rfl) : DA O TB X (a :: es) (aCons ea ar) := by
  refine (pa_cons ha hr hs).imp ?_
  rintro σ H Q ⟨G, W, ρ, Qd, s, ev, fin⟩
  refine ⟨G, W, ρ, _, s, ev, fun v H1 W1 ρ1 k d le fr s1 r1 q1 => ?_⟩
  obtain ⟨G2, s2, back⟩ := s1.hold r1
  refine ⟨G2, W1, ρ1, _, s2, q1, fun vs H2 W2 ρ2 rs le2 fr2 s3 r2 q2 => ?_⟩
  obtain ⟨s4, r4, cv⟩ := back le2 fr2 s3
  refine fin _ H2 W2 ρ2 _ (le.trans le2) (fr.trans fr2) s4 (.cons r4 ?_) q2
  clear q2
  induction r2 with
  | nil => exact .nil
  | cons r t ih => exact .cons (cv _ _ _ r) ih
theorem das_nil : DAs O TB X [] sNil := by
  refine pa_nil.imp ?_
  rintro σ H Q ⟨G, W, ρ, Qd, s, ev, fin⟩
  exact fin [] H W ρ [] (WLe.refl W) (Fro.refl ρ) s .nil ev
theorem das_cons (ha : DE O TB X a ea) (hr : DAs O TB X es as) (hs : starEach (a :: es) X.env = (false, eval a X.env) :: starEach es X.env := by rfl) : DAs O TB X (a :: es) (sCons ea as) := by
  refine (pa_cons ha hr hs).imp ?_
  rintro σ H Q ⟨G, W, ρ, Qd, s, ev, fin⟩
  refine ⟨G, W, ρ, _, s, ev, fun v H1 W1 ρ1 k d le fr s1 r1 q1 => ?_⟩
  obtain ⟨W2, ρ2, le2, fr2, s2, r2, q2⟩ := s1.settle r1 q1
  exact ⟨G, W2, ρ2, _, s2, q2, fun vs H3 W3 ρ3 ds le3 fr3 s3 r3 q3 => fin _ H3 W3 ρ3 _ ((le.trans le2).trans le3) ((fr.trans fr2).trans fr3) s3 (.cons (r2.mono le3) r3) q3⟩

/-! ### displays -/
def vTup (as : AsT) : EvT := fun ρ Q => as ρ fun ds ρ1 => ds.length ≤ sizeLine ∧ Q (.fz, .tup ds) ρ1
def vLst (as : AsT) : EvT := fun ρ Q => as ρ fun ds ρ1 => ds.length ≤ sizeLine ∧ Q (.fr, .lst ds) ρ1
theorem de_tup {x1} (h : DAs O TB X es as) : DE O TB X (.Tuple es x1 pos) (vTup as) := by
  refine (pe_tup h).imp ?_
  rintro σ H Q ⟨G, W, ρ, Qd, s, ev, fin⟩
  refine ⟨G, W, ρ, _, s, ev, fun vs H1 W1 ρ1 ds le fr s1 r1 q1 => ⟨by rw [← r1.length]; exact q1.1, fun p hp => ?_⟩⟩
  have l1 := wup_le (P := Fz (.tup vs)) (s1.w.none_of hp)
  exact fin _ _ _ ρ1 .fz _ (le.trans l1) fr (s1.newF hp) (.tup wup_same (r1.mono l1)) q1.2
theorem de_lst (h : DAs O TB X es as) : DE O TB X (.List es pos) (vLst as) := by
  refine (pe_lst h).imp ?_
  rintro σ H Q ⟨G, W, ρ, Qd, s, ev, fin⟩
  refine ⟨G, W, ρ, _, s, ev, fun vs H1 W1 ρ1 ds le fr s1 r1 q1 => ⟨by rw [← r1.length]; exact q1.1, fun p hp => ?_⟩⟩
  exact fin _ _ W1 ρ1 .fr _ le fr (s1.new hp) ⟨p, _, rfl, s1.w.none_of hp, upd_same, .lst r1, (s1.newOwn hp).1, (s1.newOwn hp).2⟩ q1.2

/-! ### calls of built-ins -/
abbrev OpN := List D → (Kd × D → Prop) → Prop
def rC (O : ObjI) (TB : List Addr) (o : OpN) : List V → Hp → VK → Prop := fun xs H Q => ∃ (G : Kp) (W : Wd) (ρ : Rho) (σ : L2.St) (ds : List D) (Qd : Kd × D → Prop), SOk O TB G W ρ σ H ∧ Views O W H ds xs ∧ o ds Qd ∧
  ∀ z H' W' k dz, WLe W W' → SOk O TB G W' ρ σ H' → RepK O G W' H' ρ σ k dz z → Qd (k, dz) → Q z H'
def vB (o : OpN) (ar : ArT) : EvT := fun ρ Q => ar ρ fun rs ρ1 => o (rs.map (·.2)) fun r => Q r ρ1
theorem tEvB {o : OpN} {σ : L2.St} {H : Hp} {Q : VK} (h : tEv O TB (vB o ar) σ H Q) : tCB (rC O TB o) (tAr O TB ar) σ H Q := by
  obtain ⟨G, W, ρ, Qd, s, ev, fin⟩ := h
  refine ⟨G, W, ρ, _, s, ev, fun vs H1 W1 ρ1 rs le fr s1 r1 q1 => ?_⟩
  exact ⟨G, W1, ρ1, σ, _, _, s1, r1.views s1, q1, fun z H' W' k' dz le' s' rz qz => fin z H' W' ρ1 k' dz (le.trans le') fr s' rz qz⟩
theorem de_callB {x : Str} {p : Pos} {id : String} {o : OpN} (hc : CallR X (.builtin id) (rC O TB o)) (hg : Gl X x) (hm : X.mg x = none) (hv : bootBuiltins x = some (.builtin id)) (ha : DA O TB X (a :: es) ar) (hn : x ≠ "__name__" := by decide) (hdb : (x == ("__debug__" : Str)) = false := by decide)
    (he : starEach (a :: es) X.env = (false, eval a X.env) :: starEach es X.env := by rfl) (hpl : (backTo pos (starEach es X.env)).any (·.1) = false := by rfl) : DE O TB X (.Call (.Name x p) (a :: es) [] pos) (vB o ar) :=
  (pe_callB hc hg hm hv ha hn hdb he hpl).imp fun _ _ _ h => tEvB h
theorem de_callTy {x : Str} {p : Pos} {id : String} {o : OpN} (hc : CallR X (.type id) (rC O TB o)) (hg : Gl X x) (hm : X.mg x = none) (hv : bootBuiltins x = some (.type id)) (ha : DA O TB X (a :: es) ar) (hn : x ≠ "__name__" := by decide) (hdb : (x == ("__debug__" : Str)) = false := by decide)
    (he : starEach (a :: es) X.env = (false, eval a X.env) :: starEach es X.env := by rfl) (hpl : (backTo pos (starEach es X.env)).any (·.1) = false := by rfl) : DE O TB X (.Call (.Name x p) (a :: es) [] pos) (vB o ar) :=
  (pe_callTy hc hg hm hv ha hn hdb he hpl).imp fun _ _ _ h => tEvB h

/-! ### methods of built-in types -/
abbrev OpM := D → List D → (Kd × D → Prop) → Prop
def rM (O : ObjI) (TB : List Addr) (o : OpM) : V → List V → Hp → VK → Prop := fun x xs H Q => ∃ (G : Kp) (W : Wd) (ρ : Rho) (σ : L2.St) (d : D) (ds : List D) (Qd : Kd × D → Prop), SOk O TB G W ρ σ H ∧ View O W H d x ∧ Views O W H ds xs ∧ o d ds Qd ∧
  ∀ z H' W' k dz, WLe W W' → SOk O TB G W' ρ σ H' → RepK O G W' H' ρ σ k dz z → Qd (k, dz) → Q z H'
/-- the receiver's built-in type -/
def tyD (T : String) : D → Prop
  | .str _ => T = "str"
  | .int _ => T = "int"
  | .lst _ => T = "list"
  | .dct _ => T = "dict"
  | .dtt _ => T = "dict"
  | _ => False
def vM (T : String) (o : OpM) (eo : EvT) (ar : ArT) : EvT := fun ρ Q => eo ρ fun r ρ1 => tyD T r.2 ∧ ar ρ1 fun rs ρ2 => o r.2 (rs.map (·.2)) fun z => Q z ρ2
theorem View.ty {T : String} {d : D} {v : V} (r : View O W H d v) (h : tyD T d) : tyV X.K T v H := by
  cases r with
  | str _ => exact h
  | int => exact h
  | lst e r => exact .inl ⟨h, _, SqL.of e⟩
  | dct e r => exact .inr (.inr (.inl ⟨h, .inl ⟨_, e⟩⟩))
  | dtt e r => exact .inr (.inr (.inl ⟨h, .inr ⟨_, e⟩⟩))
  | _ => exact (show False from h).elim
theorem de_bm {T id : String} {name : Str} {o : OpM} {eo : EvT} {ob : Expr} {apos : Pos} (pa : PlainAttrs T) (slot : Slot T name id) (hty : typeOf (.builtin id) = pure (.type "method_descriptor")) (hm : MtR X id (rM O TB o)) (ho : DE O TB X ob eo) (ha : DA O TB X (a :: es) ar)
    (hbase : attributeBase ob name X.env (eval ob X.env) = eval ob X.env := by rfl)
    (hfew : ((backTo pos (starEach (a :: es) X.env)).all (fun x => !x.1) && (backToKw pos (keywordEach [] X.env)).all (fun x => x.1.isSome)
      && decide ((a :: es).length + ([] : List Keyword).length + (if ([] : List Keyword).isEmpty then 0 else 1) < 30)) = true := by rfl)
    (hline : (apos.endLine == pos.line) = true := by rfl) (hs : starEach (a :: es) X.env = (false, eval a X.env) :: starEach es X.env := by rfl) (hplain : (backTo pos (starEach es X.env)).any (·.1) = false := by rfl) :
    DE O TB X (.Call (.Attribute ob name apos) (a :: es) [] pos) (vM T o eo ar) := by
  refine (pe_bm pa slot hty hm ho ha hbase hfew hline hs hplain).imp ?_
  rintro σ H Q ⟨G, W, ρ, Qd, s, ev, fin⟩
  refine ⟨G, W, ρ, _, s, ev, fun v H1 W1 ρ1 k d le fr s1 r1 q1 => ⟨(s1.view r1).ty q1.1, ?_⟩⟩
  obtain ⟨G2, s2, back⟩ := s1.hold r1
  refine ⟨G2, W1, ρ1, _, s2, q1.2, fun vs H2 W2 ρ2 rs le2 fr2 s3 r2 q2 => ?_⟩
  obtain ⟨s4, r4, cv⟩ := back le2 fr2 s3
  exact ⟨G, W2, ρ2, σ, d, _, _, s4, s4.view r4, r2.views s3, q2, fun z H' W' k' dz le' s' rz qz => fin z H' W' ρ2 k' dz ((le.trans le2).trans le') (fr.trans fr2) s' rz qz⟩
theorem de_bm0 {T id : String} {name : Str} {o : OpM} {eo : EvT} {ob : Expr} {apos : Pos} (pa : PlainAttrs T) (slot : Slot T name id) (hty : typeOf (.builtin id) = pure (.type "method_descriptor")) (hm : MtR X id (rM O TB o)) (ho : DE O TB X ob eo)
    (hbase : attributeBase ob name X.env (eval ob X.env) = eval ob X.env := by rfl) (hline : (apos.endLine == pos.line) = true := by rfl) :
    DE O TB X (.Call (.Attribute ob name apos) [] [] pos) (vM T o eo aNil) := by
  refine (pe_bm0 pa slot hty hm ho hbase hline).imp ?_
  rintro σ H Q ⟨G, W, ρ, Qd, s, ev, fin⟩
  refine ⟨G, W, ρ, _, s, ev, fun v H1 W1 ρ1 k d le fr s1 r1 q1 => ⟨(s1.view r1).ty q1.1, ?_⟩⟩
  exact ⟨G, W1, ρ1, σ, d, [], _, s1, s1.view r1, .nil, q1.2, fun z H' W' k' dz le' s' rz qz => fin z H' W' ρ1 k' dz (le.trans le') fr s' rz qz⟩

/-! ### calls of defs -/
/-- what a def says of data: its arguments, what is wanted of its answer, of an exception (kind, field) -/
abbrev Spc := List D → (D → Prop) → (Nat → D → Prop) → Prop
/-- the exceptions that are told: by number, the class and the name of its field -/
structure ExI where
  cls : Nat → Value
  fld : Nat → Str
def XRep (O : ObjI) (Y : ExI) (W : Wd) (H : Hp) (n : Nat) (x : D) (cls : Value) (dd : Option Addr) : Prop := cls = Y.cls n ∧ ∃ d v, dd = some d ∧ H d = some (.xd [(Y.fld n, v)]) ∧ Rep O W x v
def Kept (W : Wd) (H : Hp) (W' : Wd) (H' : Hp) : Prop := ∀ a o, H a = some o → W a = none → H' a = some o ∧ W' a = none
def spD (O : ObjI) (Y : ExI) (TB : List Addr) (S : Spc) : Sp := fun vs H Q E => ∃ (W : Wd) (ds : List D) (Qd : D → Prop) (Ed : Nat → D → Prop), WOk TB W H ∧ RepL O W ds vs ∧ S ds Qd Ed ∧
  (∀ v H' W' d, WLe W W' → WOk TB W' H' → Kept W H W' H' → Rep O W' d v → Qd d → Q v H') ∧
  (∀ n x cls dd H' W', WLe W W' → WOk TB W' H' → Kept W H W' H' → XRep O Y W' H' n x cls dd → Ed n x → E cls dd H')
def vCall (S : Spc) (as : AsT) : EvT := fun ρ Q => as ρ fun ds ρ1 => S ds (fun d => Q (.fz, d) ρ1) (fun _ _ => False)
theorem SOk.after {H' : Hp} (s : SOk O TB G W ρ σ H) (le : WLe W W') (w : WOk TB W' H') (k : Kept W H W' H') : SOk O TB G W' ρ σ H' :=
  s.keep le w fun a o e1 e2 _ => k a o e1 e2
theorem tEvCall {Y : ExI} {S : Spc} {E : XK} {σ : L2.St} {H : Hp} {Q : VK} (h : tEv O TB (vCall S as) σ H Q) : L2.tCall (spD O Y TB S) [] E (tAs O TB as) σ H Q := by
  obtain ⟨G, W, ρ, Qd, s, ev, fin⟩ := h
  refine ⟨G, W, ρ, _, s, ev, fun vs H1 W1 ρ1 ds le fr s1 r1 q1 => ?_⟩
  show spD O Y TB S (vs ++ []) H1 Q E
  rw [List.append_nil]
  exact ⟨W1, ds, _, _, s1.w, r1, q1, fun v H' W' d le' w' kp rd qd => fin v H' W' ρ1 .fz d (le.trans le') fr (s1.after le' w' kp) rd qd, fun _ _ _ _ _ _ _ _ _ _ z => z.elim⟩
theorem de_call {Y : ExI} {S : Spc} {k : Nat} {f : Addr} {fd : FuncData} {ps : List Str} {x : Str} {p : Pos} (F : FnOk X.prog X.w X.K X.mg X.base CX0 k f fd ps (spD O Y TB S)) (hr : Room k X.A) (hg : Gl X x) (hm : X.mg x = some (.ref f)) (hk : PySem.W.keepIn X.K (.ref f) = true) (hb : Binds X.K fd ps [])
    (ha : DAs O TB X (a :: es) as) (hdb : (x == ("__debug__" : Str)) = false := by decide) (he : starEach (a :: es) X.env = (false, eval a X.env) :: starEach es X.env := by rfl) (hpl : (backTo pos (starEach es X.env)).any (·.1) = false := by rfl) :
    DE O TB X (.Call (.Name x p) (a :: es) [] pos) (vCall S as) :=
  (pe_call F hr hg hm hk hb .nil pass0 ha hdb he hpl).imp fun _ _ _ h => tEvCall (E := E0) h
end
end TC

/-! Statements over plain data. -/
namespace TC
open PySem PySem.Spec PyProof.Rows L2

/-- what is wanted behind a statement -/
structure EndsD where
  nx : Rho → Prop
  rt : D → Prop
  bk : Rho → Prop := fun _ => False
  ct : Rho → Prop := fun _ => False
  ex : Nat → D → Prop := fun _ _ => False
abbrev StT := Rho → EndsD → Prop
/-- behind a statement the slots are others: what was kept is kept -/
def tSt (O : ObjI) (Y : ExI) (TB : List Addr) (E : XK) (st : StT) : TS := fun D σ H => ∃ (G : Kp) (W : Wd) (ρ : Rho) (Dd : EndsD), SOk O TB G W ρ σ H ∧ st ρ Dd ∧
  (∀ σ' H' W' ρ', WLe W W' → SOk O TB G W' ρ' σ' H' → Dd.nx ρ' → D.nx σ' H') ∧
  (∀ v H' W' d, WLe W W' → WOk TB W' H' → (∀ a o, G.g a = some o → H' a = some o ∧ W' a = none) → Rep O W' d v → Dd.rt d → D.rt v H') ∧
  (∀ σ' H' W' ρ', WLe W W' → SOk O TB G W' ρ' σ' H' → Dd.bk ρ' → D.bk σ' H') ∧
  (∀ σ' H' W' ρ', WLe W W' → SOk O TB G W' ρ' σ' H' → Dd.ct ρ' → D.ct σ' H') ∧
  (∀ n x cls dd H' W', WLe W W' → WOk TB W' H' → (∀ a o, G.g a = some o → H' a = some o ∧ W' a = none) → XRep O Y W' H' n x cls dd → Dd.ex n x → E cls dd H')
abbrev DS (O : ObjI) (Y : ExI) (TB : List Addr) (E : XK) (X : Cx) (st : Stmt) (t : StT) : Prop := PS X st (tSt O Y TB E t)
abbrev DSs (O : ObjI) (Y : ExI) (TB : List Addr) (E : XK) (X : Cx) (st : List Stmt) (t : StT) : Prop := PSs X st (tSt O Y TB E t)

def sNext : StT := fun ρ D => D.nx ρ
def sSeq (t u : StT) : StT := fun ρ D => t ρ { D with nx := fun ρ' => u ρ' D }
def sBreak : StT := fun ρ D => D.bk ρ
def sCont : StT := fun ρ D => D.ct ρ
def sDrop (ev : EvT) : StT := fun ρ D => ev ρ fun _ ρ1 => D.nx ρ1
def sRet (ev : EvT) : StT := fun ρ D => ev ρ fun r ρ1 => settle r ρ1 fun d _ => D.rt d
def sRetN : StT := fun _ D => D.rt .non
def sIf (c : TvT) (t u : StT) : StT := fun ρ D => c ρ fun b ρ1 => if b = true then t ρ1 D else u ρ1 D
/-- name = value -/
def put (i : Nat) (r : Kd × D) (ρ : Rho) (Q : Rho → Prop) : Prop := match r with
  | (.fz, d) => Q (ρ.set i (.fz d))
  | (.fr, d) => Q (ρ.set i (.ow d))
  | (.sl j, d) => Q ((frz j ρ).set i (.fz d))
  | (.br, _) => False
def sSet (i : Nat) (ev : EvT) : StT := fun ρ D => ev ρ fun r ρ1 => put i r ρ1 D.nx

section
variable {O : ObjI} {Y : ExI} {TB : List Addr} {E : XK} {X : Cx} {G : Kp} {W W' : Wd} {ρ : Rho} {σ : L2.St} {H : Hp} {st : Stmt} {rest : List Stmt} {t u : StT} {e c : Expr} {ev : EvT} {tc : TvT} {pos : Pos}
theorem SOk.kept (s : SOk O TB G W ρ σ H) : ∀ a o, G.g a = some o → H a = some o ∧ W a = none := s.g
theorem dss_nil : DSs O Y TB E X [] sNext := by
  refine pss_nil.imp ?_
  rintro D σ H ⟨G, W, ρ, Dd, s, h, n, _⟩
  exact n σ H W ρ (WLe.refl W) s h
theorem dss_cons (h1 : DS O Y TB E X st t) (h2 : DSs O Y TB E X rest u) : DSs O Y TB E X (st :: rest) (sSeq t u) := by
  refine (pss_cons h1 h2).imp ?_
  rintro D σ H ⟨G, W, ρ, Dd, s, h, n, r, b, ct, ex⟩
  refine ⟨G, W, ρ, _, s, h, fun σ' H' W' ρ' le s' q => ?_, r, b, ct, ex⟩
  exact ⟨G, W', ρ', Dd, s', q, fun σ2 H2 W2 ρ2 le2 => n σ2 H2 W2 ρ2 (le.trans le2), fun v H2 W2 d le2 => r v H2 W2 d (le.trans le2), fun σ2 H2 W2 ρ2 le2 => b σ2 H2 W2 ρ2 (le.trans le2), fun σ2 H2 W2 ρ2 le2 => ct σ2 H2 W2 ρ2 (le.trans le2), fun n x cls dd H2 W2 le2 => ex n x cls dd H2 W2 (le.trans le2)⟩
theorem dss_one (h1 : DS O Y TB E X st t) : DSs O Y TB E X [st] t := pss_one h1
theorem ds_pass : DS O Y TB E X (.Pass pos) sNext := by
  refine ps_pass.imp ?_
  rintro D σ H ⟨G, W, ρ, Dd, s, h, n, _⟩
  exact n σ H W ρ (WLe.refl W) s h
theorem ds_break : DS O Y TB E X (.Break pos) sBreak := by
  refine ps_break.imp ?_
  rintro D σ H ⟨G, W, ρ, Dd, s, h, _, _, b, _⟩
  exact b σ H W ρ (WLe.refl W) s h
theorem ds_cont : DS O Y TB E X (.Continue pos) sCont := by
  refine ps_continue.imp ?_
  rintro D σ H ⟨G, W, ρ, Dd, s, h, _, _, _, b, _⟩
  exact b σ H W ρ (WLe.refl W) s h
theorem ds_doc {x j pos'} : DS O Y TB E X (.Expr (.Constant (.str x) j pos) pos') sNext := by
  refine ps_doc.imp ?_
  rintro D σ H ⟨G, W, ρ, Dd, s, h, n, _⟩
  exact n σ H W ρ (WLe.refl W) s h
theorem ds_expr (he : DE O TB X e ev) (hs : swapsWith e none pos.line X.env = pure false := by rfl) : DS O Y TB E X (.Expr e pos) (sDrop ev) := by
  refine (ps_expr he hs).imp ?_
  rintro D σ H ⟨G, W, ρ, Dd, s, h, n, _⟩
  exact ⟨G, W, ρ, _, s, h, fun v H' W' ρ' k d le fr s' r q => n σ H' W' ρ' le s' q⟩
theorem ds_ret (he : DE O TB X e ev) : DS O Y TB E X (.Return (some e) pos) (sRet ev) := by
  refine (ps_ret he).imp ?_
  rintro D σ H ⟨G, W, ρ, Dd, s, h, _, r, _⟩
  refine ⟨G, W, ρ, _, s, h, fun v H' W' ρ' k d le fr s' rk q => ?_⟩
  obtain ⟨W2, ρ2, le2, fr2, s2, rp, q2⟩ := s'.settle rk q
  exact r v H' W2 d (le.trans le2) s2.w s2.g rp q2
theorem ds_retN : DS O Y TB E X (.Return none pos) sRetN := by
  refine ps_retN.imp ?_
  rintro D σ H ⟨G, W, ρ, Dd, s, h, _, r, _⟩
  exact r .non H W .non (WLe.refl W) s.w s.g .non h
theorem ds_if {a b : List Stmt} (hc : DT O TB X c tc) (ha : DSs O Y TB E X a t) (hb : DSs O Y TB E X b u) : DS O Y TB E X (.If c a b pos) (sIf tc t u) := by
  refine (ps_if hc ha hb).imp ?_
  rintro D σ H ⟨G, W, ρ, Dd, s, h, n, r, b, ct, ex⟩
  refine ⟨G, W, ρ, _, s, h, fun c H' W' ρ' le fr s' q => ?_⟩
  have fin : ∀ {z : StT}, z ρ' Dd → tSt O Y TB E z D σ H' := fun q => ⟨G, W', ρ', Dd, s', q, fun σ2 H2 W2 ρ2 le2 => n σ2 H2 W2 ρ2 (le.trans le2), fun v H2 W2 d le2 => r v H2 W2 d (le.trans le2), fun σ2 H2 W2 ρ2 le2 => b σ2 H2 W2 ρ2 (le.trans le2), fun σ2 H2 W2 ρ2 le2 => ct σ2 H2 W2 ρ2 (le.trans le2), fun n x cls dd H2 W2 le2 => ex n x cls dd H2 W2 (le.trans le2)⟩
  cases c with
  | true => simp only [if_true] at q ⊢; exact fin q
  | false => simp only [Bool.false_eq_true, if_false] at q ⊢; exact fin q

/-! ### stores -/
theorem Owns.set {ρ : Rho} {σ : L2.St} {i : Nat} {x : Sl} {v : Option V} {j : Nat} {a : Addr} (h : Owns (ρ.set i x) (σ.set i v) j a) : (j = i ∧ (∃ d, x = .ow d) ∧ v = some (.ref a)) ∨ (j ≠ i ∧ Owns ρ σ j a) := by
  obtain ⟨⟨d, h1⟩, h2⟩ := h
  by_cases hj : i = j
  · subst hj
    have l1 : i < ρ.length := by
      rcases Nat.lt_or_ge i ρ.length with z | z
      · exact z
      · rw [List.getElem?_eq_none (by rw [List.length_set]; exact z)] at h1; cases h1
    have l2 : i < σ.length := by
      rcases Nat.lt_or_ge i σ.length with z | z
      · exact z
      · rw [List.getElem?_eq_none (by rw [List.length_set]; exact z)] at h2; cases h2
    rw [List.getElem?_set_self l1] at h1
    rw [List.getElem?_set_self l2] at h2
    cases h1; cases h2
    exact .inl ⟨rfl, ⟨d, rfl⟩, rfl⟩
  · rw [List.getElem?_set_ne hj] at h1 h2
    exact .inr ⟨fun z => hj z.symm, ⟨d, h1⟩, h2⟩
/-- a frozen value goes into slot i -/
theorem SOk.setF (s : SOk O TB G W ρ σ H) {d : D} {v : V} (i : Nat) (r : Rep O W d v) : SOk O TB G W (ρ.set i (.fz d)) (σ.set i (some v)) H where
  w := s.w
  g := s.g
  b := s.b
  len := by rw [List.length_set, List.length_set]; exact s.len
  sl := fun j x e => by
    by_cases hj : i = j
    · subst hj
      have l1 : i < ρ.length := by
        rcases Nat.lt_or_ge i ρ.length with z | z
        · exact z
        · rw [List.getElem?_eq_none (by rw [List.length_set]; exact z)] at e; cases e
      rw [List.getElem?_set_self l1] at e
      cases e
      exact ⟨some v, List.getElem?_set_self (by rw [← s.len]; exact l1), v, rfl, r⟩
    · rw [List.getElem?_set_ne hj] at e ⊢
      exact s.sl j x e
  og := fun j a q => by
    rcases q.set with ⟨_, ⟨_, z⟩, _⟩ | ⟨_, q⟩
    · cases z
    · exact s.og j a q
  dj := fun j1 j2 a q1 q2 => by
    rcases q1.set with ⟨_, ⟨_, z⟩, _⟩ | ⟨_, q1⟩
    · cases z
    · rcases q2.set with ⟨_, ⟨_, z⟩, _⟩ | ⟨_, q2⟩
      · cases z
      · exact s.dj j1 j2 a q1 q2
theorem SOk.setO (s : SOk O TB G W ρ σ H) {d : D} {a : Addr} {o : HO} (i : Nat) (hw : W a = none) (ho : H a = some o) (c : Cnt O W d o) (hg : G.g a = none) (hn : ∀ j, ¬ Owns ρ σ j a) : SOk O TB G W (ρ.set i (.ow d)) (σ.set i (some (.ref a))) H where
  w := s.w
  g := s.g
  b := s.b
  len := by rw [List.length_set, List.length_set]; exact s.len
  sl := fun j x e => by
    by_cases hj : i = j
    · subst hj
      have l1 : i < ρ.length := by
        rcases Nat.lt_or_ge i ρ.length with z | z
        · exact z
        · rw [List.getElem?_eq_none (by rw [List.length_set]; exact z)] at e; cases e
      rw [List.getElem?_set_self l1] at e
      cases e
      exact ⟨some (.ref a), List.getElem?_set_self (by rw [← s.len]; exact l1), a, o, rfl, hw, ho, c⟩
    · rw [List.getElem?_set_ne hj] at e ⊢
      exact s.sl j x e
  og := fun j b q => by
    rcases q.set with ⟨_, _, z⟩ | ⟨_, q⟩
    · cases z; exact hg
    · exact s.og j b q
  dj := fun j1 j2 b q1 q2 => by
    rcases q1.set with ⟨e1, _, z1⟩ | ⟨n1, q1⟩
    · cases z1
      rcases q2.set with ⟨e2, _, _⟩ | ⟨_, q2⟩
      · rw [e1, e2]
      · exact absurd q2 (hn j2)
    · rcases q2.set with ⟨e2, _, z2⟩ | ⟨_, q2⟩
      · cases z2; exact absurd q1 (hn j1)
      · exact s.dj j1 j2 b q1 q2
theorem SOk.put (s : SOk O TB G W ρ σ H) {k : Kd} {d : D} {v : V} {i : Nat} {Q : Rho → Prop} (r : RepK O G W H ρ σ k d v) (q : TC.put i (k, d) ρ Q) : ∃ W' ρ', WLe W W' ∧ SOk O TB G W' ρ' (σ.set i (some v)) H ∧ Q ρ' := by
  cases k with
  | fz => exact ⟨W, _, WLe.refl W, s.setF i r, q⟩
  | fr =>
    obtain ⟨a, o, rfl, hw, ho, c, hg, hn⟩ := r
    exact ⟨W, _, WLe.refl W, s.setO i hw ho c hg hn, q⟩
  | sl j =>
    obtain ⟨W2, ρ2, le2, fr2, s2, r2, q2⟩ := s.settle (Q := fun d ρ' => Q (ρ'.set i (.fz d))) r q
    exact ⟨W2, _, le2, s2.setF i r2, q2⟩
  | br => exact False.elim q
theorem ds_set {i : Nat} {x : Str} {pos' : Pos} (hN : X.N.Nodup) (hi : X.N[i]? = some x) (hx : Loc X.env.scope x) (he : DE O TB X e ev) (hs : swapsWith e (some (.Name x pos')) pos.line X.env = pure false := by rfl) (hf : X.fn x = true ∨ X.env.scope.names.lookup x = some .local := by first | exact .inl rfl | exact .inr rfl | assumption) :
    DS O Y TB E X (.Assign [.Name x pos'] e pos) (sSet i ev) := by
  refine (ps_set hN hi hx he hs hf).imp ?_
  rintro D σ H ⟨G, W, ρ, Dd, s, h, n, _⟩
  refine ⟨G, W, ρ, _, s, h, fun v H' W' ρ' k d le fr s' r q => ?_⟩
  obtain ⟨W2, ρ2, le2, s2, q2⟩ := s'.put r q
  exact n _ H' W2 ρ2 (le.trans le2) s2 q2

/-! ### targets -/
abbrev GtT := D → Rho → (Rho → Prop) → Prop
/-- a frozen value goes to a target -/
def tGt (O : ObjI) (TB : List Addr) (own : List Nat) (g : GtT) : TG := fun v σ H Q => ∃ (G : Kp) (W : Wd) (ρ : Rho) (d : D) (Qd : Rho → Prop), SOk O TB G W ρ σ H ∧ Rep O W d v ∧ g d ρ Qd ∧
  ∀ σ' W' ρ', wipe σ' own = wipe σ own → WLe W W' → SOk O TB G W' ρ' σ' H → Qd ρ' → Q σ' H
abbrev DG (O : ObjI) (TB : List Addr) (X : Cx) (own : List Nat) (e : Expr) (g : GtT) : Prop := PG X e (tGt O TB own g)
abbrev GtTs := List D → Rho → (Rho → Prop) → Prop
def tGts (O : ObjI) (TB : List Addr) (own : List Nat) (g : GtTs) : TGs := fun vs σ H Q => ∃ (G : Kp) (W : Wd) (ρ : Rho) (ds : List D) (Qd : Rho → Prop), SOk O TB G W ρ σ H ∧ RepL O W ds vs ∧ g ds ρ Qd ∧
  ∀ σ' W' ρ', wipe σ' own = wipe σ own → WLe W W' → SOk O TB G W' ρ' σ' H → Qd ρ' → Q σ' H
abbrev DGs (O : ObjI) (TB : List Addr) (X : Cx) (own : List Nat) (es : List Expr) (g : GtTs) : Prop := PGs X es (tGts O TB own g)
theorem wipe_set {σ : L2.St} {i : Nat} {x : Option V} : ∀ {own : List Nat}, i ∈ own → wipe (σ.set i x) own = wipe σ own
  | v :: vs, h => by
    by_cases hi : i ∈ vs
    · unfold wipe; rw [wipe_set hi]
    · have hv : i = v := (List.mem_cons.mp h).resolve_right hi
      subst hv
      have key : ∀ {us : List Nat}, i ∉ us → wipe (σ.set i x) us = (wipe σ us).set i x := by
        intro us
        induction us with
        | nil => intro _; rfl
        | cons u us ih =>
          intro hn
          simp only [List.mem_cons, not_or] at hn
          unfold wipe
          rw [ih hn.2, List.set_comm _ _ (fun e => hn.1 e)]
      unfold wipe
      rw [key hi, List.set_set]
def gSet (i : Nat) : GtT := fun d ρ Q => Q (ρ.set i (.fz d))
def gNilD : GtTs := fun ds ρ Q => ds = [] ∧ Q ρ
def gConsD (g : GtT) (gs : GtTs) : GtTs := fun ds ρ Q => match ds with
  | d :: r => g d ρ fun ρ1 => gs r ρ1 Q
  | [] => False
def gTupD (n : Nat) (gs : GtTs) : GtT := fun d ρ Q => match d with
  | .tup l => l.length = n ∧ gs l ρ Q
  | _ => False
theorem _root_.L2.PG.imp {X : Cx} {e : Expr} {t t' : TG} (h : PG X e t) (i : ∀ v σ H Q, t' v σ H Q → t v σ H Q) : PG X e t' :=
  ⟨fun pins s σ H v u Q I r q => h.run pins s σ H v u Q I r (i v σ H Q q)⟩
theorem _root_.L2.PGs.imp {X : Cx} {e : List Expr} {t t' : TGs} (h : PGs X e t) (i : ∀ v σ H Q, t' v σ H Q → t v σ H Q) : PGs X e t' :=
  ⟨fun pins s σ H v u Q I r q => h.run pins s σ H v u Q I r (i v σ H Q q)⟩
theorem dg_name {i : Nat} {x : Str} {own : List Nat} (hN : X.N.Nodup) (hi : X.N[i]? = some x) (hx : Loc X.env.scope x) (hm : i ∈ own := by decide) (hf : X.fn x = true ∨ X.env.scope.names.lookup x = some .local := by first | exact .inl rfl | exact .inr rfl | assumption) : DG O TB X own (.Name x pos) (gSet i) := by
  refine (pg_name hN hi hx hf).imp ?_
  rintro v σ H Q ⟨G, W, ρ, d, Qd, s, r, g, fin⟩
  exact fin _ W _ (wipe_set hm) (WLe.refl W) (s.setF i r) g
theorem dgs_nil {own : List Nat} : DGs O TB X own [] gNilD := by
  refine pgs_nil.imp ?_
  rintro vs σ H Q ⟨G, W, ρ, d, Qd, s, r, g, fin⟩
  obtain ⟨rfl, q⟩ := g
  cases r
  exact ⟨rfl, fin σ W ρ rfl (WLe.refl W) s q⟩
theorem dgs_cons {e : Expr} {es : List Expr} {g : GtT} {gs : GtTs} {own : List Nat} (h1 : DG O TB X own e g) (h2 : DGs O TB X own es gs)
    (hs : (assignEach (e :: es) X.env).map (·.2) = assign e X.env :: (assignEach es X.env).map (·.2) := by rfl) : DGs O TB X own (e :: es) (gConsD g gs) := by
  refine (pgs_cons h1 h2 hs).imp ?_
  rintro vs σ H Q ⟨G, W, ρ, ds, Qd, s, r, q, fin⟩
  cases r with
  | nil => exact False.elim q
  | cons r rr =>
    refine ⟨_, _, rfl, G, W, ρ, _, _, s, r, q, fun σ' W' ρ' ew le s' q' => ?_⟩
    exact ⟨G, W', ρ', _, _, s', rr.mono le, q', fun σ2 W2 ρ2 ew2 le2 s2 q2 => fin σ2 W2 ρ2 (ew2.trans ew) (le.trans le2) s2 q2⟩
theorem dg_tup {es : List Expr} {k : Nat} {gs : GtTs} {n : Nat} {own : List Nat} (hc : X.calm = true) (h : DGs O TB X own es gs)
    (hn : (assignEach es X.env).length = n := by rfl) (hst : (assignEach es X.env).findIdx? (·.1) = none := by rfl) : DG O TB X own (.Tuple es k pos) (gTupD n gs) := by
  refine (pg_tup hc h hn hst).imp ?_
  rintro v σ H Q ⟨G, W, ρ, d, Qd, s, r, q, fin⟩
  have vw := r.view s.w
  cases vw with
  | tup hw hh rr =>
    obtain ⟨hl, q⟩ := q
    refine ⟨_, _, rfl, SqT.of hh, by rw [← rr.length]; exact hl, G, W, ρ, _, _, s, rr, q, fin⟩
  | _ => exact (show False from q).elim
/-- target = value, the value frozen -/
def sAsg (ev : EvT) (g : GtT) : StT := fun ρ D => ev ρ fun r ρ1 => settle r ρ1 fun d ρ2 => g d ρ2 D.nx
theorem ds_asg {tg e : Expr} {g : GtT} {own : List Nat} (he : DE O TB X e ev) (hg : DG O TB X own tg g) (hs : swapsWithSole [tg] e pos.line X.env = pure false := by rfl) (hw : swappedStores [tg] e X.env = pure none := by rfl)
    (h1 : (assignEach [tg] X.env).map (·.2) = [assign tg X.env] := by rfl) : DS O Y TB E X (.Assign [tg] e pos) (sAsg ev g) := by
  refine (ps_asg he hg hs hw h1).imp ?_
  rintro D σ H ⟨G, W, ρ, Dd, s, h, n, _⟩
  refine ⟨G, W, ρ, _, s, h, fun v H' W' ρ' k d le fr s' r q => ?_⟩
  obtain ⟨W2, ρ2, le2, fr2, s2, r2, q2⟩ := s'.settle r q
  exact ⟨G, W2, ρ2, d, _, s2, r2, q2, fun σ3 W3 ρ3 _ le3 s3 q3 => n σ3 H' W3 ρ3 ((le.trans le2).trans le3) s3 q3⟩

/-! ### name op= e -/
def sAug (i : Nat) (o : Op2) (ev : EvT) : StT := fun ρ D => match ρ[i]? with
  | some (.fz d) => ev ρ fun r ρ1 => o d r.2 fun z => put i z ρ1 D.nx
  | _ => False
theorem ds_aug {i : Nat} {x : Str} {op : Operator} {o : Op2} {pos' : Pos} (ho : OpR X (inplaceOp op) (rD O TB o)) (hN : X.N.Nodup) (hi : X.N[i]? = some x) (hx : Loc X.env.scope x) (he : DE O TB X e ev) (hf : X.fn x = true ∨ X.env.scope.names.lookup x = some .local := by first | exact .inl rfl | exact .inr rfl | assumption) :
    DS O Y TB E X (.AugAssign (.Name x pos') op e pos) (sAug i o ev) := by
  refine (ps_aug (ti := rD O TB o) hN hi hx he (fun pins s σ H x y v u Q I r1 r2 h => ho pins s σ H x y v u Q I r1 r2 h) hf).imp ?_
  rintro D σ H ⟨G, W, ρ, Dd, s, h, n, _⟩
  unfold sAug at h
  split at h
  · rename_i d e
    obtain ⟨ov, h1, v, rfl, r⟩ := s.sl i _ e
    refine ⟨v, h1, G, W, ρ, _, s, h, fun u H1 W1 ρ1 k d1 le fr s1 r1 q1 => ?_⟩
    refine ⟨G, W1, ρ1, σ, d, d1, _, s1, (r.mono le).view s1.w, s1.view r1, q1, fun z H' W' k' dz le' s' rz qz => ?_⟩
    obtain ⟨W2, ρ2, le2, s2, q2⟩ := s'.put rz qz
    exact n _ H' W2 ρ2 ((le.trans le').trans le2) s2 q2
  · exact h.elim
end
end TC

/-! What is walked, as a list of data; for, while. -/
namespace TC
open PySem PySem.Spec PyProof.Rows L2

abbrev IvT := Rho → (List D → Rho → Prop) → Prop
/-- the walk J hands out the items, as long as what g tells stands -/
def ItOk (O : ObjI) (TB : List Addr) (J : It) (g : Hp) (W : Wd) (items : List D) : Prop :=
  ∀ W1 H1, WLe W W1 → WOk TB W1 H1 → (∀ a o, g a = some o → H1 a = some o) →
    (∀ i, i < items.length → J.go i H1 ∧ ∀ x H2, J.yld i H1 x H2 → ∃ d W2, items[i]? = some d ∧ WLe W1 W2 ∧ WOk TB W2 H2 ∧ Kept W1 H1 W2 H2 ∧ Rep O W2 d x) ∧ (∀ i, items.length ≤ i → J.stop i H1)
/-- raw: g is what the walk leans on: kept, or owned -/
def tIt (O : ObjI) (TB : List Addr) (iv : IvT) : TI := fun σ H R => ∃ (G : Kp) (W : Wd) (ρ : Rho) (Qd : List D → Rho → Prop), SOk O TB G W ρ σ H ∧ iv ρ Qd ∧
  ∀ J H' W' ρ' items g, WLe W W' → Fro ρ ρ' → SOk O TB G W' ρ' σ H' → (∀ a o, g a = some o → H' a = some o ∧ W' a = none ∧ (G.g a = some o ∨ ∃ i, Owns ρ' σ i a)) → ItOk O TB J g W' items → Qd items ρ' → R J H'
def noG : Hp := fun _ => none
/-- settled: the walk leans on the world alone -/
def tIt0 (O : ObjI) (TB : List Addr) (iv : IvT) : TI := fun σ H R => ∃ (G : Kp) (W : Wd) (ρ : Rho) (Qd : List D → Rho → Prop), SOk O TB G W ρ σ H ∧ iv ρ Qd ∧
  ∀ J H' W' ρ' items, WLe W W' → Fro ρ ρ' → SOk O TB G W' ρ' σ H' → ItOk O TB J noG W' items → Qd items ρ' → R J H'
abbrev DI (O : ObjI) (TB : List Addr) (X : Cx) (tg e : Expr) (iv : IvT) : Prop := PI X tg e (tIt0 O TB iv)
abbrev DIr (O : ObjI) (TB : List Addr) (X : Cx) (tg e : Expr) (iv : IvT) : Prop := PI X tg e (tIt O TB iv)
theorem _root_.L2.PI.imp {X : Cx} {tg e : Expr} {t t' : TI} (h : PI X tg e t) (i : ∀ σ H R, t' σ H R → t σ H R) : PI X tg e t' :=
  ⟨fun pins s σ H R I q => h.run pins s σ H R I (i σ H R q)⟩
theorem DI.raw {O : ObjI} {TB : List Addr} {X : Cx} {tg e : Expr} {iv : IvT} (h : DI O TB X tg e iv) : DIr O TB X tg e iv := by
  refine L2.PI.imp h ?_
  rintro σ H R ⟨G, W, ρ, Qd, s, ev, fin⟩
  exact ⟨G, W, ρ, Qd, s, ev, fun J H' W' ρ' items le fr s' it q => fin J H' W' ρ' items noG le fr s' (fun _ _ e => by cases e) it q⟩

/-! ### values walked -/
def signs (s : List Nat) : List D := s.map fun c => .str [c]
def itemsD (d : D) (Q : List D → Prop) : Prop := match d with
  | .lst l => Q l
  | .tup l => Q l
  | .str s => Q (signs s)
  | _ => False
def PIv (X : Cx) (tg : Expr) (r : V → Hp → (It → Hp → Prop) → Prop) : Prop := ∀ (pins : List (Addr × Obj)) (s : Shared) (σ : L2.St) (H : Hp) (x : V) (v : Value) (R : It → Hp → Prop), Inv X pins σ H s → RelV x v → r x H R →
  wpAny (model X.prog X.w) X.A (pyIter v) (PIE X pins σ tg R) X.xe s
section
variable {X : Cx} {tg : Expr}
theorem piv_list : PIv X tg (fun x H R => ∃ a, x = .ref a ∧ (∃ xs, SqL X.K H a xs) ∧ R (Itl X.K a) H) := by
  rintro pins s1 σ H1 x v R I1 r1 ⟨a, rfl, ⟨xs, hq⟩, q⟩
  cases r1
  obtain ⟨its, rv, p, hz⟩ := I1.list hq
  refine wpAny_pyIter_list p.isList ?_
  refine ⟨s1.heap.objs.size, [s1.heap.objs.size], _, _, H1, rfl, I1.kept (t' := s1.toks) fun b o e => Heap.get?_push_of_some _ e, turn_list a _, ⟨_, Heap.get?_push_size _ rfl, rfl, rfl⟩, fun b hb => ?_, q⟩
  have e : b = s1.heap.objs.size := by simpa using hb
  subst e
  exact I1.fpOk (Nat.le_refl _) (I1.hok.fresh (Nat.le_refl _))
theorem piv_tup : PIv X tg (fun x H R => ∃ a, x = .ref a ∧ (∃ xs, SqT X.K H a xs) ∧ R (Itt X.K a) H) := by
  rintro pins s1 σ H1 x v R I1 r1 ⟨a, rfl, ⟨xs, hq⟩, q⟩
  cases r1
  obtain ⟨its, rv, p, hz⟩ := I1.tuple hq
  refine wpAny_pyIter_tuple (show s1.heap.IsTuple a its.toArray from p) ?_
  refine ⟨s1.heap.objs.size, [s1.heap.objs.size], _, _, H1, rfl, I1.kept (t' := s1.toks) fun b o e => Heap.get?_push_of_some _ e, turn_tuple a _, ⟨_, Heap.get?_push_size _ rfl, rfl, rfl⟩, fun b hb => ?_, q⟩
  have e : b = s1.heap.objs.size := by simpa using hb
  subst e
  exact I1.fpOk (Nat.le_refl _) (I1.hok.fresh (Nat.le_refl _))
theorem piv_str : PIv X tg (fun v H R => ∃ x, v = .str x ∧ R (Its x) H) := by
  rintro pins s1 σ H1 x v R I1 r1 ⟨x, rfl, q⟩
  obtain ⟨t, rfl⟩ := r1
  cases ha : x.cps.all (· < 128)
  · exact wpAny_pyIter_wide ha (pi_one (tk := s1.toks) I1 _ (turn_str _ x t "str_iterator" (.inr rfl)) ⟨_, Heap.get?_push_size _ rfl, rfl, rfl⟩ q)
  · exact wpAny_pyIter_ascii ha (pi_one (tk := s1.toks) I1 _ (turn_str _ x t "str_ascii_iterator" (.inl rfl)) ⟨_, Heap.get?_push_size _ rfl, rfl, rfl⟩ q)
theorem pi_of {r : V → Hp → (It → Hp → Prop) → Prop} {e : Expr} {te : TE} (h : PIv X tg r) (he : PE X e te) : PI X tg e (fun σ H R => te σ H fun x H1 => r x H1 R) :=
  ⟨fun pins s σ H R I q => thn (he.run pins s σ H _ I q) fun v s1 ⟨x, H1, I1, r1, q1⟩ => h pins s1 σ H1 x v R I1 r1 q1⟩
end
section
variable {O : ObjI} {TB : List Addr} {X : Cx} {tg : Expr} {G : Kp} {W W' : Wd} {ρ : Rho} {σ : L2.St} {H : Hp} {d : D} {v : V}
theorem itl_ok {a : Addr} {vs : List V} {l : List D} {g : Hp} (r : RepL O W l vs) (h : ∀ W1 H1, WLe W W1 → WOk TB W1 H1 → (∀ a o, g a = some o → H1 a = some o) → H1 a = some (.lst vs)) : ItOk O TB (Itl X.K a) g W l := by
  intro W1 H1 le w hg
  have sq : SqL X.K H1 a vs := SqL.of (h W1 H1 le w hg)
  refine ⟨fun i hi => ?_, fun i hi => ⟨vs, sq, by rw [← r.length]; exact hi⟩⟩
  obtain ⟨x, hx, rx⟩ := r.get (List.getElem?_eq_getElem hi)
  refine ⟨⟨vs, x, sq, hx⟩, fun y H2 ⟨e, z⟩ => ?_⟩
  subst e
  have e2 := z vs sq
  rw [hx] at e2; cases e2
  exact ⟨_, W1, List.getElem?_eq_getElem hi, WLe.refl W1, w, fun _ _ e1 e2 => ⟨e1, e2⟩, rx.mono le⟩
theorem itt_ok {a : Addr} {vs : List V} {l : List D} {g : Hp} (r : RepL O W l vs) (h : W a = some (Fz (.tup vs))) : ItOk O TB (Itt X.K a) g W l := by
  intro W1 H1 le w hg
  obtain ⟨o, ho, hp⟩ := w.at_ a _ (le _ _ h)
  have sq : SqT X.K H1 a vs := SqT.of (by rw [ho]; exact congrArg some hp)
  refine ⟨fun i hi => ?_, fun i hi => ⟨vs, sq, by rw [← r.length]; exact hi⟩⟩
  obtain ⟨x, hx, rx⟩ := r.get (List.getElem?_eq_getElem hi)
  refine ⟨⟨vs, x, sq, hx⟩, fun y H2 ⟨e, z⟩ => ?_⟩
  subst e
  have e2 := z vs sq
  rw [hx] at e2; cases e2
  exact ⟨_, W1, List.getElem?_eq_getElem hi, WLe.refl W1, w, fun _ _ e1 e2 => ⟨e1, e2⟩, rx.mono le⟩
theorem its_ok {s : List Nat} {g : Hp} : ItOk O TB (Its (mkS s)) g W (signs s) := by
  intro W1 H1 le w hg
  have hsz : (mkS s).cps.size = s.length := by simp [mkS]
  have hl : (signs s).length = s.length := List.length_map _
  refine ⟨fun i hi => ?_, fun i hi => ?_⟩
  · rw [hl] at hi
    refine ⟨by show i < (mkS s).cps.size; rw [hsz]; exact hi, fun y H2 ⟨e, c, hc, ey⟩ => ?_⟩
    subst e; subst ey
    have hc' : s[i]? = some c := by simpa [mkS] using hc
    refine ⟨.str [c], W1, by unfold signs; rw [List.getElem?_map, hc']; rfl, WLe.refl W1, w, fun _ _ e1 e2 => ⟨e1, e2⟩, .str (s := [c]) (by show 1 ≤ sizeLine; decide)⟩
  · rw [hl] at hi
    show (mkS s).cps.size ≤ i
    rw [hsz]; exact hi
/-- any value that may be walked, by its data (frozen) -/
theorem piv_rep : PIv X tg (fun x H R => ∃ (W : Wd) (d : D) (Qd : List D → Prop), WOk TB W H ∧ Rep O W d x ∧ itemsD d Qd ∧ ∀ J items, ItOk O TB J noG W items → Qd items → R J H) := by
  rintro pins s σ H x v R I r ⟨W, d, Qd, w, rp, q, fin⟩
  cases rp with
  | lst e rr =>
    obtain ⟨o, ho, hp⟩ := w.at_ _ _ e
    have hp : o = _ := hp
    subst hp
    exact piv_list pins s σ H _ v R I r ⟨_, rfl, ⟨_, SqL.of ho⟩, fin _ _ (itl_ok rr fun W1 H1 le w1 _ => by
      obtain ⟨o, ho, hp⟩ := w1.at_ _ _ (le _ _ e)
      rw [ho]; exact congrArg some hp) q⟩
  | tup e rr =>
    obtain ⟨o, ho, hp⟩ := w.at_ _ _ e
    have hp : o = _ := hp
    subst hp
    exact piv_tup pins s σ H _ v R I r ⟨_, rfl, ⟨_, SqT.of ho⟩, fin _ _ (itt_ok rr e) q⟩
  | str h => exact piv_str pins s σ H _ v R I r ⟨_, rfl, fin _ _ its_ok q⟩
  | _ => exact (show False from q).elim
def iVal (ev : EvT) : IvT := fun ρ Q => ev ρ fun r ρ1 => settle r ρ1 fun d ρ2 => itemsD d fun l => Q l ρ2
theorem di_val {e : Expr} {ev : EvT} (he : DE O TB X e ev) : DI O TB X tg e (iVal ev) := by
  refine L2.PI.imp (pi_of (piv_rep (O := O) (TB := TB)) he) ?_
  rintro σ H R ⟨G, W, ρ, Qd, s, ev, fin⟩
  refine ⟨G, W, ρ, _, s, ev, fun v H' W' ρ' k d le fr s' r q => ?_⟩
  obtain ⟨W2, ρ2, le2, fr2, s2, r2, q2⟩ := s'.settle r q
  exact ⟨W2, d, _, s2.w, r2, q2, fun J items it q3 => fin J H' W2 ρ2 items (le.trans le2) (fr.trans fr2) s2 it q3⟩
/-- raw: a list that a slot owns is not frozen -/
def rawI (r : Kd × D) (ρ : Rho) (Q : List D → Rho → Prop) : Prop := match r with
  | (.sl i, .lst l) => ρ[i]? = some (.ow (.lst l)) ∧ Q l ρ
  | (.br, .lst l) => Q l ρ
  | (.fz, d) => itemsD d fun l => Q l ρ
  | (.fr, d) => itemsD d fun l => Q l ρ
  | _ => False
def iRaw (ev : EvT) : IvT := fun ρ Q => ev ρ fun r ρ1 => rawI r ρ1 Q
theorem piv_raw : PIv X tg (fun x H R => (∃ (W : Wd) (d : D) (Qd : List D → Prop), WOk TB W H ∧ Rep O W d x ∧ itemsD d Qd ∧ ∀ J items, ItOk O TB J noG W items → Qd items → R J H) ∨
    ∃ (W : Wd) (a : Addr) (l : List D) (vs : List V), x = .ref a ∧ H a = some (.lst vs) ∧ RepL O W l vs ∧ ∀ J, ItOk O TB J (fun b => if b = a then some (.lst vs) else none) W l → R J H) := by
  rintro pins s σ H x v R I r (h | ⟨W, a, l, vs, rfl, ha, rr, fin⟩)
  · exact piv_rep pins s σ H x v R I r h
  · exact piv_list pins s σ H _ v R I r ⟨_, rfl, ⟨_, SqL.of ha⟩, fin _ (itl_ok rr fun W1 H1 le w1 hg => hg a _ (if_pos rfl))⟩
theorem di_raw {e : Expr} {ev : EvT} (he : DE O TB X e ev) : DIr O TB X tg e (iRaw ev) := by
  refine L2.PI.imp (pi_of (piv_raw (O := O) (TB := TB)) he) ?_
  rintro σ H R ⟨G, W, ρ, Qd, s, ev, fin⟩
  refine ⟨G, W, ρ, _, s, ev, fun v H' W' ρ' k d le fr s' r q => ?_⟩
  have set_ : (k = .fz ∨ k = .fr) → (itemsD d fun l => Qd l ρ') → (∃ (W : Wd) (d : D) (Qd : List D → Prop), WOk TB W H' ∧ Rep O W d v ∧ itemsD d Qd ∧ ∀ J items, ItOk O TB J noG W items → Qd items → R J H') := fun hk q => by
    have q0 : settle (k, d) ρ' fun d ρ2 => itemsD d fun l => Qd l ρ2 := by rcases hk with rfl | rfl <;> exact q
    obtain ⟨W2, ρ2, le2, fr2, s2, r2, q2⟩ := s'.settle r q0
    exact ⟨W2, d, _, s2.w, r2, q2, fun J items it q3 => fin J H' W2 ρ2 items noG (le.trans le2) (fr.trans fr2) s2 (fun _ _ e => by cases e) it q3⟩
  unfold rawI at q
  split at q
  · rename_i i l heq
    cases heq
    obtain ⟨e, q⟩ := q
    obtain ⟨ov, h1, h2⟩ := s'.sl _ _ e
    obtain ⟨a, o, rfl, hw, ho, c⟩ := h2
    have h3 := r.1
    rw [h1] at h3; cases h3
    cases c with
    | lst rr =>
      refine .inr ⟨W', a, l, _, rfl, ho, rr, fun J it => fin J H' W' ρ' l _ le fr s' (fun b u eb => ?_) it q⟩
      by_cases hb : b = a
      · subst hb
        rw [if_pos rfl] at eb; cases eb
        exact ⟨ho, hw, .inr ⟨_, ⟨_, e⟩, h1⟩⟩
      · rw [if_neg hb] at eb; cases eb
  · rename_i l heq
    cases heq
    obtain ⟨a, o, rfl, hb, c⟩ := r
    cases c with
    | lst rr =>
      have hg := s'.b _ _ hb
      obtain ⟨z1, z2⟩ := s'.g _ _ hg
      refine .inr ⟨W', a, l, _, rfl, z1, rr, fun J it => fin J H' W' ρ' l _ le fr s' (fun b u eb => ?_) it q⟩
      by_cases hb : b = a
      · subst hb
        rw [if_pos rfl] at eb; cases eb
        exact ⟨z1, z2, .inl hg⟩
      · rw [if_neg hb] at eb; cases eb
  · rename_i d heq
    cases heq
    exact .inl (set_ (.inl rfl) q)
  · rename_i d heq
    cases heq
    exact .inl (set_ (.inr rfl) q)
  · exact q.elim

/-! ### range -/
def rngL (lo : Int) (n : Nat) : List D := (List.range n).map fun (i : Nat) => .int (lo + i)
theorem itr_ok {lo : Int} {n : Nat} {g : Hp} : ItOk O TB (Itr lo n) g W (rngL lo n) := by
  intro W1 H1 le w hg
  have hl : (rngL lo n).length = n := by unfold rngL; rw [List.length_map, List.length_range]
  refine ⟨fun i hi => ?_, fun i hi => ?_⟩
  · rw [hl] at hi
    refine ⟨hi, fun y H2 ⟨e, ey⟩ => ?_⟩
    subst e; subst ey
    exact ⟨.int (lo + i), W1, by unfold rngL; rw [List.getElem?_map, List.getElem?_range hi]; rfl, WLe.refl W1, w, fun _ _ e1 e2 => ⟨e1, e2⟩, .int⟩
  · rw [hl] at hi; exact hi
def iRange1 (ar : ArT) : IvT := fun ρ Q => ar ρ fun rs ρ1 => match rs with
  | [(_, .int j)] => (-(2 ^ 62) ≤ j ∧ j < 2 ^ 62) ∧ Q (rngL 0 j.toNat) ρ1
  | _ => False
def iRange2 (ar : ArT) : IvT := fun ρ Q => ar ρ fun rs ρ1 => match rs with
  | [(_, .int i), (_, .int j)] => (-(2 ^ 62) ≤ i ∧ i < 2 ^ 62 ∧ -(2 ^ 62) ≤ j ∧ j < 2 ^ 62) ∧ Q (rngL i (j - i).toNat) ρ1
  | _ => False
theorem RepK.int {k : Kd} {i : Int} {v : V} (s : SOk O TB G W ρ σ H) (r : RepK O G W H ρ σ k (.int i) v) : v = .int i := by
  have vw := s.view r
  cases vw
  rfl
theorem di_range1 {a : Expr} {ar : ArT} {p pos : Pos} (hg : Gl X "range") (hm : X.mg "range" = none) (ha : DA O TB X [a] ar) (hs : starEach [a] X.env = [(false, eval a X.env)] := by rfl) : DI O TB X tg (.Call (.Name "range" p) [a] [] pos) (iRange1 ar) := by
  refine L2.PI.imp (pi_range1 hg hm ha hs) ?_
  rintro σ H R ⟨G, W, ρ, Qd, s, ev, fin⟩
  refine ⟨G, W, ρ, _, s, ev, fun vs H' W' ρ' rs le fr s' r q => ?_⟩
  split at q
  · cases r with
    | cons r1 t =>
      cases t
      have e := RepK.int s' r1
      subst e
      exact ⟨_, rfl, q.1.1, q.1.2, fin _ H' W' ρ' _ le fr s' itr_ok q.2⟩
  · exact q.elim
theorem di_range2 {a b : Expr} {ar : ArT} {p pos : Pos} (hg : Gl X "range") (hm : X.mg "range" = none) (ha : DA O TB X [a, b] ar) (hs : starEach [a, b] X.env = [(false, eval a X.env), (false, eval b X.env)] := by rfl) (hs2 : starEach [b] X.env = [(false, eval b X.env)] := by rfl) :
    DI O TB X tg (.Call (.Name "range" p) [a, b] [] pos) (iRange2 ar) := by
  refine L2.PI.imp (pi_range2 hg hm ha hs hs2) ?_
  rintro σ H R ⟨G, W, ρ, Qd, s, ev, fin⟩
  refine ⟨G, W, ρ, _, s, ev, fun vs H' W' ρ' rs le fr s' r q => ?_⟩
  split at q
  · cases r with
    | cons r1 t =>
      cases t with
      | cons r2 t =>
        cases t
        have e1 := RepK.int s' r1
        have e2 := RepK.int s' r2
        subst e1; subst e2
        exact ⟨_, _, rfl, q.1, fin _ H' W' ρ' _ le fr s' itr_ok q.2⟩
  · exact q.elim
end

/-! ### for, while -/
def forD (g : GtT) (body : StT) : List D → StT
  | [] => fun ρ D => D.nx ρ
  | x :: xs => fun ρ D => g x ρ fun ρ1 => body ρ1 { D with nx := fun ρ2 => forD g body xs ρ2 D, ct := fun ρ2 => forD g body xs ρ2 D, bk := D.nx }
def sFor (iv : IvT) (g : GtT) (body : StT) : StT := fun ρ D => iv ρ fun items ρ1 => forD g body items ρ1 D
def sWhile (c : TvT) (tb : StT) : StT := fun ρ D => ∃ I : Nat → Rho → Prop, (∃ m, I m ρ) ∧ ∀ m ρ, I m ρ → c ρ fun b ρ1 =>
  if b = true then tb ρ1 { D with nx := fun ρ2 => ∃ m', m' < m ∧ I m' ρ2, ct := fun ρ2 => ∃ m', m' < m ∧ I m' ρ2, bk := D.nx } else D.nx ρ1
section
variable {O : ObjI} {Y : ExI} {TB : List Addr} {E : XK} {X : Cx} {tg iter c : Expr} {body : List Stmt} {iv : IvT} {g : GtT} {tb : StT} {tc : TvT} {pos : Pos}
theorem ds_for {own : List Nat} (hp : PassesOwn (model X.prog X.w) X.A X.env X.xe) (hc : X.calm = true) (hi : DI O TB X tg iter iv) (hg : DG O TB X own tg g) (hb : DSs O Y TB E X body tb)
    (hs : ∀ x, foldedSetIterable iter X.env x = pure x := by intro _; rfl) : DS O Y TB E X (.For tg iter body [] pos) (sFor iv g tb) := by
  refine L2.PS.imp (ps_for hp hc hi hg hb hs) ?_
  rintro D σ H ⟨G, W, ρ, Dd, s, h, n, r, bk, ct, ex⟩
  refine ⟨G, W, ρ, _, s, h, fun J H' W' ρ' items le fr s' it q => ?_⟩
  refine ⟨fun i m σ1 H1 => m = items.length - i ∧ i ≤ items.length ∧ ∃ W1 ρ1, WLe W' W1 ∧ SOk O TB G W1 ρ1 σ1 H1 ∧ forD g tb (items.drop i) ρ1 Dd, ⟨_, rfl, Nat.zero_le _, W', ρ', WLe.refl W', s', by rw [List.drop_zero]; exact q⟩, ?_⟩
  rintro i m σ1 H1 ⟨rfl, hi, W1, ρ1, le1, s1, q1⟩
  obtain ⟨ig, is⟩ := it W1 H1 le1 s1.w (fun _ _ e => by cases e)
  by_cases hlt : i < items.length
  · obtain ⟨go, yl⟩ := ig i hlt
    rw [List.drop_eq_getElem_cons hlt] at q1
    refine .inr ⟨go, fun σ2 H2 => ∃ W2 ρ2, WLe W' W2 ∧ SOk O TB G W2 ρ2 σ2 H2 ∧ forD g tb (items.drop (i + 1)) ρ2 Dd, fun σ2 H2 ⟨W2, ρ2, le2, s2, q2⟩ => ⟨items.length - (i + 1), by omega, rfl, hlt, W2, ρ2, le2, s2, q2⟩, fun x H2 hy => ?_⟩
    obtain ⟨d, W2, ed, le2, w2, kp, rx⟩ := yl x H2 hy
    rw [List.getElem?_eq_getElem hlt] at ed
    cases ed
    have s2 := s1.after le2 w2 kp
    refine ⟨G, W2, ρ1, _, _, s2, rx, q1, fun σ3 W3 ρ3 _ le3 s3 q3 => ?_⟩
    have leB : WLe W W3 := ((le.trans le1).trans le2).trans le3
    have leC : WLe W' W3 := (le1.trans le2).trans le3
    exact ⟨G, W3, ρ3, _, s3, q3, fun σ4 H4 W4 ρ4 le4 s4 q4 => ⟨W4, ρ4, leC.trans le4, s4, q4⟩, fun v H4 W4 d le4 => r v H4 W4 d (leB.trans le4),
      fun σ4 H4 W4 ρ4 le4 s4 q4 => n σ4 H4 W4 ρ4 (leB.trans le4) s4 q4, fun σ4 H4 W4 ρ4 le4 s4 q4 => ⟨W4, ρ4, leC.trans le4, s4, q4⟩, fun n x cls dd H4 W4 le4 => ex n x cls dd H4 W4 (leB.trans le4)⟩
  · have e : items.drop i = [] := List.drop_of_length_le (by omega)
    rw [e] at q1
    exact .inl ⟨is i (by omega), n σ1 H1 W1 ρ1 (le.trans le1) s1 q1⟩
theorem ds_while (hp : PassesOwn (model X.prog X.w) X.A X.env X.xe) (hc : DT O TB X c tc) (hb : DSs O Y TB E X body tb) : DS O Y TB E X (.While c body [] pos) (sWhile tc tb) := by
  refine L2.PS.imp (ps_while hp hc hb) ?_
  rintro D σ H ⟨G, W, ρ, Dd, s, ⟨I, ⟨m0, i0⟩, turn⟩, n, r, bk, ct, ex⟩
  refine ⟨fun m σ1 H1 => ∃ W1 ρ1, WLe W W1 ∧ SOk O TB G W1 ρ1 σ1 H1 ∧ I m ρ1, ⟨m0, W, ρ, WLe.refl W, s, i0⟩, ?_⟩
  rintro m σ1 H1 ⟨W1, ρ1, le1, s1, i1⟩
  refine ⟨G, W1, ρ1, _, s1, turn m ρ1 i1, fun b H2 W2 ρ2 le2 fr2 s2 q2 => ?_⟩
  have leB : WLe W W2 := le1.trans le2
  cases b with
  | false => simp only [Bool.false_eq_true, if_false] at q2 ⊢; exact n σ1 H2 W2 ρ2 leB s2 q2
  | true =>
    simp only [if_true] at q2 ⊢
    refine ⟨fun σ3 H3 => ∃ m', m' < m ∧ ∃ W3 ρ3, WLe W W3 ∧ SOk O TB G W3 ρ3 σ3 H3 ∧ I m' ρ3, fun _ _ h => h, ?_⟩
    exact ⟨G, W2, ρ2, _, s2, q2, fun σ4 H4 W4 ρ4 le4 s4 ⟨m', hm, q4⟩ => ⟨m', hm, W4, ρ4, leB.trans le4, s4, q4⟩, fun v H4 W4 d le4 => r v H4 W4 d (leB.trans le4),
      fun σ4 H4 W4 ρ4 le4 s4 q4 => n σ4 H4 W4 ρ4 (leB.trans le4) s4 q4, fun σ4 H4 W4 ρ4 le4 s4 ⟨m', hm, q4⟩ => ⟨m', hm, W4, ρ4, leB.trans le4, s4, q4⟩, fun n x cls dd H4 W4 le4 => ex n x cls dd H4 W4 (leB.trans le4)⟩
end
end TC

/-! A def keeps what its spec says of data. -/
namespace TC
open PySem PySem.Spec PyProof.Rows L2
def st0 (n : Nat) (ds : List D) : Rho := ds.map Sl.fz ++ List.replicate (n - ds.length) .no
/-- all that stands and is not told by the world -/
def allG (W : Wd) (H : Hp) : Hp := fun a => match W a with | none => H a | some _ => none
section
variable {O : ObjI} {Y : ExI} {TB : List Addr} {P : Program} {w : World} {K : PySem.W.Frag} {mg : Str → Option Value} {base : Heap}
theorem RepL.idx {W : Wd} {ds : List D} {vs : List V} (r : RepL O W ds vs) (n : Nat) (N : List Str) (hn : N.length = n) (i : Nat) (s : Sl) (h : (st0 n ds)[i]? = some s) : ∃ ov, (L2.start N vs)[i]? = some ov ∧ ((s = .no) ∨ ∃ d v, s = .fz d ∧ ov = some v ∧ Rep O W d v) := by
  have hl := r.length
  unfold st0 at h
  unfold L2.start
  by_cases hi : i < ds.length
  · rw [List.getElem?_append_left (by simpa using hi), List.getElem?_map] at h
    rw [List.getElem?_append_left (by simpa using (by omega : i < vs.length)), List.getElem?_map]
    rw [List.getElem?_eq_getElem hi] at h
    cases h
    obtain ⟨v, hv, rv⟩ := r.get (List.getElem?_eq_getElem hi)
    rw [hv]
    exact ⟨_, rfl, .inr ⟨_, v, rfl, rfl, rv⟩⟩
  · rw [List.getElem?_append_right (by simpa using (by omega : ds.length ≤ i)), List.getElem?_replicate] at h
    rw [List.getElem?_append_right (by simpa using (by omega : vs.length ≤ i)), List.getElem?_replicate]
    simp only [List.length_map] at h ⊢
    split at h
    · rename_i hlt
      cases h
      rw [if_pos (by omega)]
      exact ⟨none, rfl, .inl rfl⟩
    · cases h
theorem SOk.start {W : Wd} {H : Hp} {ds : List D} {vs : List V} (N : List Str) (wk : WOk TB W H) (r : RepL O W ds vs) : SOk O TB ⟨noG, allG W H⟩ W (st0 N.length ds) (L2.start N vs) H where
  w := wk
  g := fun a o e => by
    have e : allG W H a = some o := e
    unfold allG at e
    split at e
    · rename_i h; exact ⟨e, h⟩
    · cases e
  b := fun a o e => by cases e
  len := by
    have hl := r.length
    unfold st0 L2.start
    simp only [List.length_append, List.length_map, List.length_replicate]
    omega
  sl := fun i s h => by
    obtain ⟨ov, h1, h2⟩ := r.idx N.length N rfl i s h
    refine ⟨ov, h1, ?_⟩
    rcases h2 with rfl | ⟨d, v, rfl, rfl, rv⟩
    · trivial
    · exact ⟨v, rfl, rv⟩
  og := fun i a ⟨⟨d, h⟩, _⟩ => by
    obtain ⟨ov, h1, h2⟩ := r.idx N.length N rfl i _ h
    rcases h2 with e | ⟨d, v, e, _⟩ <;> cases e
  dj := fun i j a ⟨⟨d, h⟩, _⟩ _ => by
    obtain ⟨ov, h1, h2⟩ := r.idx N.length N rfl i _ h
    rcases h2 with e | ⟨d, v, e, _⟩ <;> cases e
theorem kept_allG {W W' : Wd} {H H' : Hp} (h : ∀ a o, allG W H a = some o → H' a = some o ∧ W' a = none) : Kept W H W' H' := fun a o e1 e2 => h a o (by unfold allG; rw [e2]; exact e1)
/-- a def that raises nothing -/
theorem fnD {x qual : Str} {st : Stmt} {f : Addr} {fd : FuncData} {N ps : List Str} {k : Nat} {S : Spc} {e : StT} (F : Fun K x qual st f fd) (sc : FnScope N ps (defScope st)) (hlen : ∀ ds Q E, S ds Q E → ds.length = ps.length)
    (hd : ∀ (cdv : Value) (A : Around) (outer : List Env) (s : Shared) (H : Hp) (E : XK), Room k (A.deeper (envOfC qual (defScope st) s.heap.objs.size f cdv)) → DSs O Y TB E0 (cxOf CX0 P w K mg base N qual (defScope st) f cdv A outer s H E).nox (defBody st) e)
    (hp : ∀ ds Q E, S ds Q E → e (st0 N.length ds) { nx := fun _ => Q .non, rt := Q }) : FnOk P w K mg base CX0 (k + 1) f fd ps (spD O Y TB S) := by
  refine F.ok sc (fun vs H Q E ⟨W, ds, Qd, Ed, wk, r, sp, _⟩ => by rw [← r.length]; exact hlen _ _ _ sp) fun cdv A outer s H vs Q E hr h => ?_
  refine ⟨_, hd cdv A outer s H E hr, ?_⟩
  obtain ⟨W, ds, Qd, Ed, wk, r, sp, fin, _⟩ := h
  refine ⟨_, W, _, _, SOk.start N wk r, hp ds Qd Ed sp, fun σ' H' W' ρ' le s' q => ?_, fun v H' W' d le w' kp rd q => ?_, fun _ _ _ _ _ _ q => q.elim, fun _ _ _ _ _ _ q => q.elim, fun _ _ _ _ _ _ _ _ _ _ q => q.elim⟩
  · exact fin .non H' W' .non le s'.w (kept_allG s'.g) .non q
  · exact fin v H' W' d le w' (kept_allG kp) rd q
end
end TC

/-! List comprehensions over plain data. -/
namespace TC
open PySem PySem.Spec PyProof.Rows L2

/-- within a comprehension: what the def around owns is read alone; its own names are new -/
def blkSl : Sl → Sl
  | .ow d => .br d
  | s => s
def wipeD (ρ : Rho) : List Nat → Rho
  | [] => ρ
  | v :: vs => (wipeD ρ vs).set v .no
def blkR (own : List Nat) (ρ : Rho) : Rho := wipeD (ρ.map blkSl) own
/-- a clause's tests -/
def tsNil : TvT := fun ρ Q => Q true ρ
/-- one turn: the target, the tests, then what goes on -/
def lcD (g : GtT) (ts : TvT) (el : EvT) (ρ0 : Rho) : List D → List D → (List D → Prop) → Prop
  | [], acc, Q => Q acc
  | x :: xs, acc, Q => g x ρ0 fun ρ1 => ts ρ1 fun b ρ2 => if b = true then el ρ2 fun r ρ3 => settle r ρ3 fun d _ => acc.length < sizeLine ∧ lcD g ts el ρ0 xs (acc ++ [d]) Q else lcD g ts el ρ0 xs acc Q
def vLc (own : List Nat) (iv : IvT) (g : GtT) (ts : TvT) (el : EvT) : EvT := fun ρ Q => iv ρ fun items ρ1 => lcD g ts el (blkR own ρ1) items [] fun l => Q (.fr, .lst l) ρ1

section
variable {O : ObjI} {TB : List Addr} {X : Cx} {G : Kp} {W W' : Wd} {ρ : Rho} {σ : L2.St} {H H' : Hp}
theorem wipeD_length (ρ : Rho) : ∀ vs, (wipeD ρ vs).length = ρ.length
  | [] => rfl
  | v :: vs => by unfold wipeD; rw [List.length_set, wipeD_length ρ vs]
theorem wipeD_get {ρ : Rho} {i : Nat} {s : Sl} : ∀ {vs : List Nat}, (wipeD ρ vs)[i]? = some s → (s = .no ∧ i ∈ vs) ∨ (ρ[i]? = some s ∧ i ∉ vs)
  | [], h => .inr ⟨h, by simp⟩
  | v :: vs, h => by
    unfold wipeD at h
    by_cases hi : v = i
    · subst hi
      by_cases hv : v < (wipeD ρ vs).length
      · rw [List.getElem?_set_self hv] at h; cases h; exact .inl ⟨rfl, List.mem_cons_self⟩
      · rw [List.getElem?_eq_none (by simpa using hv)] at h; cases h
    · rw [List.getElem?_set_ne hi] at h
      rcases wipeD_get h with ⟨h1, h2⟩ | ⟨h1, h2⟩
      · exact .inl ⟨h1, List.mem_cons_of_mem _ h2⟩
      · exact .inr ⟨h1, by simp only [List.mem_cons, not_or]; exact ⟨fun e => hi e.symm, h2⟩⟩
theorem wipe_get {σ : L2.St} {i : Nat} {s : Option V} : ∀ {vs : List Nat}, i ∉ vs → σ[i]? = some s → (wipe σ vs)[i]? = some s
  | [], _, h => h
  | v :: vs, hn, h => by
    simp only [List.mem_cons, not_or] at hn
    unfold wipe
    rw [List.getElem?_set_ne (fun e => hn.1 e.symm)]
    exact wipe_get hn.2 h
theorem wipe_at {σ : L2.St} {i : Nat} : ∀ {vs : List Nat}, i < σ.length → ∃ ov, (wipe σ vs)[i]? = some ov
  | vs, h => ⟨_, List.getElem?_eq_getElem (by rw [wipe_length]; exact h)⟩
open Classical in
/-- what is kept within a comprehension: the kept, and all that the slots own -/
noncomputable def owG (ρ : Rho) (σ : L2.St) (H : Hp) (G : Kp) : Hp := fun a => match G.g a with
  | some o => some o
  | none => if ∃ i, Owns ρ σ i a then H a else none
theorem owG_sub {a : Addr} {o : HO} (h : G.g a = some o) : owG ρ σ H G a = some o := by unfold owG; rw [h]
theorem SOk.block (s : SOk O TB G W ρ σ H) (own : List Nat) : SOk O TB ⟨owG ρ σ H G, owG ρ σ H G⟩ W (blkR own ρ) (wipe σ own) H where
  w := s.w
  g := fun a o e => by
    have e : owG ρ σ H G a = some o := e
    unfold owG at e
    split at e
    · rename_i o' h; cases e; exact s.g a o h
    · split at e
      · rename_i hx
        obtain ⟨i, ⟨d, h1⟩, h2⟩ := hx
        obtain ⟨ov, g1, g2⟩ := s.sl i _ h1
        obtain ⟨b, u, e1, e2, e3, _⟩ := g2
        rw [h2] at g1; cases g1; cases e1
        exact ⟨e, e2⟩
      · cases e
  b := fun a o e => e
  len := by unfold blkR; rw [wipeD_length, wipe_length, List.length_map]; exact s.len
  sl := fun i x e => by
    unfold blkR at e
    rcases wipeD_get e with ⟨rfl, hi⟩ | ⟨e, hi⟩
    · obtain ⟨ov, h⟩ := wipe_at (σ := σ) (vs := own) (i := i) (by
        rw [← s.len]
        have h2 : i < (wipeD (ρ.map blkSl) own).length := by
          rcases Nat.lt_or_ge i (wipeD (ρ.map blkSl) own).length with z | z
          · exact z
          · rw [List.getElem?_eq_none z] at e; cases e
        rw [wipeD_length, List.length_map] at h2
        exact h2)
      exact ⟨ov, h, trivial⟩
    · rw [List.getElem?_map] at e
      cases q : ρ[i]? with
      | none => rw [q] at e; cases e
      | some y =>
        rw [q] at e
        cases e
        obtain ⟨ov, h1, h2⟩ := s.sl i y q
        refine ⟨ov, wipe_get hi h1, ?_⟩
        cases y with
        | no => trivial
        | fz d => exact h2
        | ow d =>
          obtain ⟨a, o, rfl, hw, ho, c⟩ := h2
          refine ⟨a, o, rfl, ?_, c⟩
          have oa : Owns ρ σ i a := ⟨⟨d, q⟩, h1⟩
          show owG ρ σ H G a = some o
          unfold owG
          rw [s.og i a oa]
          simp only
          rw [if_pos ⟨i, oa⟩]
          exact ho
        | br d =>
          obtain ⟨a, o, rfl, hb, c⟩ := h2
          exact ⟨a, o, rfl, owG_sub (s.b a o hb), c⟩
  og := fun i a ⟨⟨d, h1⟩, h2⟩ => by
    unfold blkR at h1
    rcases wipeD_get h1 with ⟨e, _⟩ | ⟨e, _⟩
    · cases e
    · rw [List.getElem?_map] at e
      cases q : ρ[i]? with
      | none => rw [q] at e; cases e
      | some y => rw [q] at e; cases y <;> cases e
  dj := fun i j a ⟨⟨d, h1⟩, h2⟩ _ => by
    unfold blkR at h1
    rcases wipeD_get h1 with ⟨e, _⟩ | ⟨e, _⟩
    · cases e
    · rw [List.getElem?_map] at e
      cases q : ρ[i]? with
      | none => rw [q] at e; cases e
      | some y => rw [q] at e; cases y <;> cases e
/-- behind the block: the state of the def around, under what has come -/
theorem SOk.unblock (s : SOk O TB G W ρ σ H) (le : WLe W W') (w' : WOk TB W' H') (k : ∀ a o, owG ρ σ H G a = some o → H' a = some o ∧ W' a = none) : SOk O TB G W' ρ σ H' :=
  s.keep le w' fun a o e1 e2 e3 => by
    refine k a o ?_
    rcases e3 with e3 | ⟨i, e3⟩
    · exact owG_sub e3
    · unfold owG
      rw [s.og i a e3]
      simp only
      rw [if_pos ⟨i, e3⟩]
      exact e1
abbrev DTs (O : ObjI) (TB : List Addr) (X : Cx) (es : List Expr) (tv : TvT) : Prop := PTs X es (tTv O TB tv)
theorem _root_.L2.PTs.imp {X : Cx} {e : List Expr} {t t' : TT} (h : PTs X e t) (i : ∀ σ H Q, t' σ H Q → t σ H Q) : PTs X e t' :=
  ⟨fun pins s σ H Q I q => h.run pins s σ H Q I (i σ H Q q)⟩
theorem dts_nil : DTs O TB X [] tsNil := by
  refine L2.PTs.imp pts_nil ?_
  rintro σ H Q ⟨G, W, ρ, Qd, s, ev, fin⟩
  exact fin true H W ρ (WLe.refl W) (Fro.refl ρ) s ev
theorem dts_one {c : Expr} {t : TvT} (h : DT O TB X c t) : DTs O TB X [c] t := pts_one h
end

section
variable {O : ObjI} {TB : List Addr} {X : Cx}
theorem wipe_wipe (σ : L2.St) : ∀ own : List Nat, wipe (wipe σ own) own = wipe σ own := by
  have key : ∀ (us own : List Nat), (∀ i ∈ us, i ∈ own) → wipe (wipe σ us) own = wipe σ own := by
    intro us
    induction us with
    | nil => intro own _; rfl
    | cons u us ih =>
      intro own h
      show wipe ((wipe σ us).set u none) own = _
      rw [wipe_set (h u List.mem_cons_self)]
      exact ih own fun i hi => h i (List.mem_cons_of_mem _ hi)
  exact fun own => key own own fun _ h => h
theorem lc_read {own : List Nat} {g : GtT} {ts : TvT} {el : EvT} {σ : L2.St} {H : Hp} {Q : VK} {R : Kd × D → Rho → Prop} {G : Kp} {W : Wd} {ρ : Rho} (s : SOk O TB G W ρ σ H) {J : It} {items : List D} {gg : Hp}
    (hg : ∀ a o, gg a = some o → H a = some o ∧ W a = none ∧ (G.g a = some o ∨ ∃ i, Owns ρ σ i a)) (it : ItOk O TB J gg W items) (q : lcD g ts el (blkR own ρ) items [] fun l => R (.fr, .lst l) ρ)
    (fin : ∀ v H' W' ρ' k d, WLe W W' → Fro ρ ρ' → SOk O TB G W' ρ' σ H' → RepK O G W' H' ρ' σ k d v → R (k, d) ρ' → Q v H') :
    ∀ D, H D = none → ∃ Wv : Nat → Nat → Hp → Prop, (∃ m, Wv 0 m (upd H D (.lst []))) ∧ ∀ i m H, Wv i m H →
      (J.stop i H ∧ Q (.ref D) H) ∨ (J.go i H ∧ ∃ Nx : Hp → Prop, (∀ H', Nx H' → ∃ m', m' < m ∧ Wv (i + 1) m' H') ∧ ∀ x H', J.yld i H x H' → tGt O TB own g x (wipe σ own) H' fun σ2 H2 => wipe σ2 own = wipe σ own ∧ tTv O TB ts σ2 H2 fun b H3 =>
        if b = true then tEv O TB el σ2 H3 fun y H4 => ∃ acc, H4 D = some (.lst acc) ∧ acc.length < sizeLine ∧ Nx (upd H4 D (.lst (acc ++ [y]))) else Nx H3) := by
  intro D hD
  have sB := s.block own
  have oD : owG ρ σ H G D = none := by
    cases e : owG ρ σ H G D with
    | none => rfl
    | some o => have z := (sB.g D o e).1; rw [hD] at z; cases z
  -- what is so at each turn
  let IV : Nat → Hp → Prop := fun i H1 => ∃ W1 acc accV, WLe W W1 ∧ SOk O TB ⟨owG ρ σ H G, upd (owG ρ σ H G) D (.lst accV)⟩ W1 (blkR own ρ) (wipe σ own) H1 ∧ RepL O W1 acc accV ∧ lcD g ts el (blkR own ρ) (items.drop i) acc fun l => R (.fr, .lst l) ρ
  refine ⟨fun i m H1 => m = items.length - i ∧ i ≤ items.length ∧ IV i H1, ⟨_, rfl, Nat.zero_le _, W, [], [], WLe.refl W, ?_, .nil, by rw [List.drop_zero]; exact q⟩, ?_⟩
  · have s2 := sB.new (o := .lst []) hD
    exact s2.guard upd_same (s.w.none_of hD) (sB.newOwn hD).2
  · rintro i m H1 ⟨rfl, hi, W1, acc, accV, le1, s1, r1, q1⟩
    have kG : ∀ a o, owG ρ σ H G a = some o → H1 a = some o ∧ W1 a = none := fun a o e => s1.g a o (s1.b a o e)
    have ogg : ∀ a o, gg a = some o → owG ρ σ H G a = some o := fun a o e => by
      obtain ⟨z1, z2, z3⟩ := hg a o e
      rcases z3 with z3 | ⟨j, z3⟩
      · exact owG_sub z3
      · unfold owG
        rw [s.og j a z3]
        simp only
        rw [if_pos ⟨j, z3⟩]
        exact z1
    obtain ⟨ig, is⟩ := it W1 H1 le1 s1.w (fun a o e => (kG a o (ogg a o e)).1)
    obtain ⟨hD1, hW1⟩ := s1.g D (.lst accV) upd_same
    by_cases hlt : i < items.length
    · obtain ⟨go, yl⟩ := ig i hlt
      rw [List.drop_eq_getElem_cons hlt] at q1
      refine .inr ⟨go, fun H' => IV (i + 1) H', fun H' h => ⟨items.length - (i + 1), by omega, rfl, hlt, h⟩, fun x H2 hy => ?_⟩
      obtain ⟨d, W2, ed, le2, w2, kp, rx⟩ := yl x H2 hy
      rw [List.getElem?_eq_getElem hlt] at ed
      cases ed
      have s2 := s1.after le2 w2 kp
      refine ⟨_, W2, _, _, _, s2, rx, q1, fun σ3 W3 ρ3 ew3 le3 s3 q3 => ⟨by rw [ew3, wipe_wipe], ?_⟩⟩
      refine ⟨_, W3, ρ3, _, s3, q3, fun b H4 W4 ρ4 le4 fr4 s4 q4 => ?_⟩
      -- back to the turn's start
      have back : ∀ {H5 : Hp} {W5 : Wd} {ρ5 : Rho} {aV : List V}, WLe W3 W5 → SOk O TB ⟨owG ρ σ H G, upd (owG ρ σ H G) D (.lst aV)⟩ W5 ρ5 σ3 H5 → SOk O TB ⟨owG ρ σ H G, upd (owG ρ σ H G) D (.lst aV)⟩ W5 (blkR own ρ) (wipe σ own) H5 := fun {H5 W5 ρ5 aV} le5 s5 => by
        have s6 := sB.keep (le1.trans (le2.trans (le3.trans le5))) s5.w fun a o e1 e2 e3 => by
          rcases e3 with e3 | ⟨j, e3⟩
          · exact s5.g a o (s5.b a o e3)
          · obtain ⟨⟨d, h1⟩, _⟩ := e3
            unfold blkR at h1
            rcases wipeD_get h1 with ⟨e, _⟩ | ⟨e, _⟩
            · cases e
            · rw [List.getElem?_map] at e
              cases q : ρ[j]? with
              | none => rw [q] at e; cases e
              | some y => rw [q] at e; cases y <;> cases e
        obtain ⟨z1, z2⟩ := s5.g D (.lst aV) upd_same
        refine s6.guard z1 z2 fun j e3 => ?_
        obtain ⟨⟨d, h1⟩, _⟩ := e3
        unfold blkR at h1
        rcases wipeD_get h1 with ⟨e, _⟩ | ⟨e, _⟩
        · cases e
        · rw [List.getElem?_map] at e
          cases q : ρ[j]? with
          | none => rw [q] at e; cases e
          | some y => rw [q] at e; cases y <;> cases e
      have leA : WLe W1 W4 := le2.trans (le3.trans le4)
      cases b with
      | false =>
        simp only [Bool.false_eq_true, if_false] at q4 ⊢
        exact ⟨W4, acc, accV, le1.trans leA, back le4 s4, r1.mono leA, q4⟩
      | true =>
        simp only [if_true] at q4 ⊢
        refine ⟨_, W4, ρ4, _, s4, q4, fun y H5 W5 ρ5 k5 d5 le5 fr5 s5 r5 q5 => ?_⟩
        obtain ⟨W6, ρ6, le6, fr6, s6, r6, q6⟩ := s5.settle r5 q5
        obtain ⟨z1, z2⟩ := s6.g D (.lst accV) upd_same
        refine ⟨accV, z1, by rw [← r1.length]; exact q6.1, W6, acc ++ [d5], accV ++ [y], le1.trans (leA.trans (le5.trans le6)), ?_, (r1.mono (leA.trans (le5.trans le6))).append (.cons r6 .nil), q6.2⟩
        have s7 := back (le4.trans (le5.trans le6)) s6
        -- the list at D has grown
        refine ⟨s7.w.upd z2, fun a o e => ?_, fun a o e => ?_, s7.len, fun j x e => ?_, fun j a oa => ?_, s7.dj⟩
        · have e : upd (owG ρ σ H G) D (.lst (accV ++ [y])) a = some o := e
          by_cases ha : a = D
          · subst ha
            rw [upd_same] at e; cases e
            exact ⟨upd_same, z2⟩
          · rw [upd_ne ha] at e
            rw [upd_ne ha]
            exact s7.g a o (s7.b a o e)
        · have e1 : owG ρ σ H G a = some o := e
          have na : a ≠ D := fun z => by rw [z, oD] at e1; cases e1
          show upd (owG ρ σ H G) D (.lst (accV ++ [y])) a = some o
          rw [upd_ne na]
          exact e1
        · obtain ⟨ov, h1, h2⟩ := s7.sl j x e
          refine ⟨ov, h1, ?_⟩
          cases x with
          | ow d =>
            unfold blkR at e
            rcases wipeD_get e with ⟨e', _⟩ | ⟨e', _⟩
            · cases e'
            · rw [List.getElem?_map] at e'
              cases q : ρ[j]? with
              | none => rw [q] at e'; cases e'
              | some y => rw [q] at e'; cases y <;> cases e'
          | _ => exact h2
        · obtain ⟨⟨d, h1⟩, _⟩ := oa
          unfold blkR at h1
          rcases wipeD_get h1 with ⟨e, _⟩ | ⟨e, _⟩
          · cases e
          · rw [List.getElem?_map] at e
            cases q : ρ[j]? with
            | none => rw [q] at e; cases e
            | some y => rw [q] at e; cases y <;> cases e
    · have e : items.drop i = [] := List.drop_of_length_le (by omega)
      rw [e] at q1
      have sF := s.unblock le1 s1.w kG
      refine .inl ⟨is i (by omega), fin (.ref D) H1 W1 ρ .fr (.lst acc) le1 (Fro.refl ρ) sF ⟨D, _, rfl, hW1, hD1, .lst r1, ?_, fun j oj => ?_⟩ q1⟩
      · cases eg : G.g D with
        | none => rfl
        | some u => have z := (s.g D u eg).1; rw [hD] at z; cases z
      · exact (s.newOwn hD).2 j oj
variable {elt tg iter : Expr} {ifs : List Expr} {scope : Scope} {own : List (Str × Nat)} {pos : Pos} {iv : IvT} {g : GtT} {ts : TvT} {el : EvT}
theorem tLc_of {σ : L2.St} {H : Hp} {Q : VK} (h : tEv O TB (vLc (own.map (·.2)) iv g ts el) σ H Q) : tLc (tIt O TB iv) (tGt O TB (own.map (·.2)) g) (tTv O TB ts) (tEv O TB el) (own.map (·.2)) σ H Q := by
  obtain ⟨G, W, ρ, Qd, s, ev, fin⟩ := h
  refine ⟨G, W, ρ, _, s, ev, fun J H' W' ρ' items gg le fr s' hg it q => ?_⟩
  exact lc_read s' hg it q fun v H2 W2 ρ2 k d le2 fr2 s2 r2 q2 => fin v H2 W2 ρ2 k d (le.trans le2) (fr.trans fr2) s2 r2 q2
theorem de_lc (hc : X.calm = true) (hN : X.N.Nodup) (hi : DIr O TB X tg iter iv) (ok : BlkOk X.N X.env.scope scope own)
    (hg : ∀ (s : Shared) (H : Hp) (C : Addr) (cl : List (Str × Addr)) (fp : List Addr), DG O TB (X.blk s H scope (compEnvC scope cl C X.env) fp) (own.map (·.2)) tg g) (ht : ∀ (s : Shared) (H : Hp) (C : Addr) (cl : List (Str × Addr)) (fp : List Addr), DTs O TB (X.blk s H scope (compEnvC scope cl C X.env) fp) ifs ts)
    (he : ∀ (s : Shared) (H : Hp) (C : Addr) (cl : List (Str × Addr)) (fp : List Addr), DE O TB (X.blk s H scope (compEnvC scope cl C X.env) fp) elt el) (hs : ∀ x, foldedSetIterable iter X.env x = pure x := by intro _; rfl) :
    DE O TB X (.ListComp elt [⟨tg, iter, ifs, 0⟩] scope pos) (vLc (own.map (·.2)) iv g ts el) :=
  (pe_lc hc hN hi ok hg ht he hs).imp fun _ _ _ h => tLc_of h
/-- name = [..] on one line, the name a local -/
theorem ds_setLc {Y : ExI} {E : XK} {i : Nat} {y : Str} {py : Pos} {spos : Pos} (hc : X.calm = true) (hN : X.N.Nodup) (hy : X.N[i]? = some y) (hyl : X.env.scope.names.lookup y = some .local)
    (hsw : swapsWith (.ListComp elt [⟨tg, iter, ifs, 0⟩] scope pos) (some (.Name y py)) spos.line X.env = pure true) (hi : DIr O TB X tg iter iv) (ok : BlkOk X.N X.env.scope scope own)
    (hg : ∀ (s : Shared) (H : Hp) (C : Addr) (cl : List (Str × Addr)) (fp : List Addr), DG O TB (X.blk s H scope (compEnvC scope cl C X.env) fp) (own.map (·.2)) tg g) (ht : ∀ (s : Shared) (H : Hp) (C : Addr) (cl : List (Str × Addr)) (fp : List Addr), DTs O TB (X.blk s H scope (compEnvC scope cl C X.env) fp) ifs ts)
    (he : ∀ (s : Shared) (H : Hp) (C : Addr) (cl : List (Str × Addr)) (fp : List Addr), DE O TB (X.blk s H scope (compEnvC scope cl C X.env) fp) elt el) (hs : ∀ x, foldedSetIterable iter X.env x = pure x := by intro _; rfl) :
    DS O Y TB E X (.Assign [.Name y py] (.ListComp elt [⟨tg, iter, ifs, 0⟩] scope pos) spos) (sSet i (vLc (own.map (·.2)) iv g ts el)) := by
  refine L2.PS.imp (ps_setLc hc hN hy hyl hsw hi ok hg ht he hs) ?_
  rintro D σ H ⟨G, W, ρ, Dd, s, h, n, _⟩
  refine tLc_of ⟨G, W, ρ, _, s, h, fun v H' W' ρ' k d le fr s' r q => ?_⟩
  obtain ⟨W2, ρ2, le2, s2, q2⟩ := s'.put r q
  exact n _ H' W2 ρ2 (le.trans le2) s2 q2
end
end TC

/-! Generator expressions: how one is made, and the context of its code. -/
namespace TC
open PySem PySem.Spec PyProof.Rows L2 GenW

/-- the frame of a generator expression's code -/
def gEnv (scope : Scope) (cl : List (Str × Addr)) (C : Addr) (code : Value) (bi : Addr) (env : Env) : Env :=
  { scope, locals := C, globals := env.globals, cells := cl, qual := env.qual ++ "<genexpr>.", func := none, code, frame := some C, builtins := bi }
theorem gEnv_make {M : Model} {A : Around} {E : Value → Shared → Prop} {s : Shared} {scope : Scope} {cl : List (Str × Addr)} {it code : Value} {bi : Addr} {env : Env} {Q : Env → Shared → Prop}
    (h0 : scope.names.lookup (".0" : Str) = some NameKind.local) (hk : scope.kind = .function)
    (h : ∀ h', h'.Ns s.heap.objs.size (fun y => if y = ".0" then some it else none) → Heap.SameBut s.heap.objs.size (pushCells (s.heap.push { cls := .type "frame", data := .dict #[] }) scope.names) h' →
      ∀ tk, Q (gEnv scope (cellsFrom (s.heap.objs.size + 1) scope.names cl) s.heap.objs.size code bi env) { s with heap := h', toks := tk }) :
    wpAny M A (newFunctionEnv scope env.globals cl [(".0", it)] (env.qual ++ "<genexpr>.") none code none bi) Q E s := by
  simp only [newFunctionEnv, Option.isSome_none, Bool.false_eq_true, if_false]
  refine wpAny_bind (wpAny_alloc ?_)
  refine wpAny_bind (wpAny_layCells _ (fun n k c => rfl) scope.names cl _ _ ?_)
  rw [show ({ s with heap := s.heap.push { cls := .type "frame", data := .dict #[] } } : Shared).heap.objs.size = s.heap.objs.size + 1 from Heap.size_push ..]
  simp only [List.forIn_cons, List.forIn_nil]
  have hn : (pushCells (s.heap.push { cls := .type "frame", data := .dict #[] }) scope.names).Ns s.heap.objs.size (fun _ => none) := (Heap.Ns.new s.heap (.type "frame")).keeps (pushCells_keeps _ _)
  refine wpAny_bind ?_
  refine wpAny_bind (wpAny_bind (wpAny_storeName_local (s := { s with heap := pushCells (s.heap.push { cls := .type "frame", data := .dict #[] }) scope.names }) (env := gEnv scope (cellsFrom (s.heap.objs.size + 1) scope.names cl) s.heap.objs.size code bi env) h0 hn (fun h₂ hn₂ hs₂ => ?_) ?_))
  · refine wpAny_pure (wpAny_pure (wpAny_pure ?_))
    refine h h₂ ?_ hs₂ _
    exact hn₂
  · show (scope.kind == .class || (scope.kind == .module && _)) = false
    rw [hk]
    rfl

/-- the context of the code of a generator expression: s, H: as things stood ahead of its frame; Aw: around it when it is woken; its iterator's objects at fp; pn: its own object -/
abbrev gCx (X : Cx) (s : Shared) (H : Hp) (scope : Scope) (cenv : Env) (fp : List Addr) (Aw : Around) (pn : List (Addr × Obj)) : Cx :=
  { X with s_0 := s, H_0 := H, env := cenv, A := Aw.deeper cenv, outer := X.stack, stack := cenv :: X.stack, ex := fp, fn := fun x => scope.names.lookup x == some .cell, pn := pn, xe := fun _ _ => False }
section
variable {X : Cx} {pins : List (Addr × Obj)} {σ : L2.St} {H : Hp} {s : Shared}
/-- the frame's Inv at its start (.0 in it) -/
theorem gblock {scope : Scope} {own : List (Str × Nat)} {fp : List Addr} {Aw : Around} {code itv : Value} {bi : Addr} {h' : Heap} {tk : Nat} (I : Inv X pins σ H s) (ok : BlkOk X.N X.env.scope scope own) (hN : X.N.Nodup) (hfp : ∀ b ∈ fp, FpOk X pins H b ∧ b < s.heap.objs.size)
    (hbi : bi = builtinsNs) (hAw : Aw.frames = some X.stack) (hAh : Aw.handled = none) (h0n : (".0" : Str) ∉ X.N)
    (hns : h'.Ns s.heap.objs.size (fun y => if y = ".0" then some itv else none)) (hsb : Heap.SameBut s.heap.objs.size (pushCells (s.heap.push { cls := .type "frame", data := .dict #[] }) scope.names) h') :
    Inv (gCx X s H scope (gEnv scope (cellsFrom (s.heap.objs.size + 1) scope.names (cloFrom X.env.cells scope.names [])) s.heap.objs.size code bi X.env) fp Aw []) [] (wipe σ (own.map (·.2))) H { s with heap := h', toks := tk } := by
  have hfree : ∀ y ∈ scope.names, y.2 = .free → ∃ c, X.env.cells.lookup y.1 = some c := fun y hy e => by
    rcases ok.free y hy e with k | k
    · exact I.ok.has _ (.inl k)
    · exact I.ok.has _ (.inr k)
  generalize hcenv : gEnv scope (cellsFrom (s.heap.objs.size + 1) scope.names (cloFrom X.env.cells scope.names [])) s.heap.objs.size code bi X.env = cenv
  have kp0 : ∀ b o, s.heap.get? b = some o → (pushCells (s.heap.push { cls := .type "frame", data := .dict #[] }) scope.names).get? b = some o := fun b o e => pushCells_keeps _ _ _ _ (Heap.get?_push_of_some _ e)
  have kp : ∀ b o, s.heap.get? b = some o → h'.get? b = some o := fun b o e => (hsb.2 b (Nat.ne_of_lt (Heap.lt_size e))).trans (kp0 b o e)
  have hL : cenv.locals = s.heap.objs.size := by rw [← hcenv]; rfl
  have hcl : cenv.cells = cellsFrom (s.heap.objs.size + 1) scope.names (cloFrom X.env.cells scope.names []) := by rw [← hcenv]; rfl
  have hsc : cenv.scope = scope := by rw [← hcenv]; rfl
  rw [← Heap.size_push s.heap { cls := .type "frame", data := .dict #[] }] at hcl
  have cm : ∀ {y c}, (y, c) ∈ cloFrom X.env.cells scope.names [] → X.env.cells.lookup y = some c ∧ c < s.heap.objs.size := fun {y c} hm => by
    rcases cloFrom_mem hm with hm | ⟨h1, rfl⟩
    · cases hm
    · obtain ⟨c, hc⟩ := hfree _ h1 rfl
      rw [hc]
      obtain ⟨w, z⟩ := I.cell _ _ hc
      exact ⟨rfl, z.lt⟩
  have mem : ∀ {y c}, cenv.cells.lookup y = some c → (X.env.cells.lookup y = some c ∧ c < s.heap.objs.size) ∨ (s.heap.objs.size + 1 ≤ c ∧ CellAt h' c none) := fun {y c} e => by
    rw [hcl] at e
    rcases cells_mem (PySem.mem_of_lookup e) with hm | ⟨_, h2, h3⟩
    · exact .inl (cm hm)
    · rw [Heap.size_push] at h2
      exact .inr ⟨h2, h3.sameBut hsb (Nat.ne_of_gt h2)⟩
  have look : ∀ {y}, scope.names.lookup y = some .free → ∃ c, cenv.cells.lookup y = some c ∧ X.env.cells.lookup y = some c := fun {y} hl => by
    have hy : (y, NameKind.free) ∈ scope.names := PySem.mem_of_lookup hl
    obtain ⟨c', e'⟩ := mem_lookup (cells_acc (names := scope.names) (n := (s.heap.push { cls := .type "frame", data := .dict #[] }).objs.size) (cloFrom_has (cells := X.env.cells) (acc := []) hy))
    rw [← hcl] at e'
    refine ⟨c', e', ?_⟩
    rw [hcl] at e'
    rcases cells_mem (PySem.mem_of_lookup e') with hm | ⟨h1, _, _⟩
    · exact (cm hm).1
    · have := ok.uniq _ h1
      rw [hl] at this; cases this
  have okB : (gCx X s H scope cenv fp Aw []).Ok := by
    refine ⟨I.ok.mod, by show cenv.scope.kind = _; rw [hsc]; exact ok.kind, by show cenv.globals = _; rw [← hcenv]; exact I.ok.glob, by show cenv.builtins = _; rw [← hcenv]; exact hbi, by show s.heap.objs.size ≤ cenv.locals; rw [hL]; exact Nat.le_refl _,
      fun y z c e1 e2 => ?_, fun y hy => ?_, fun y c z e => ?_, fun _ => hAh, Around.frames_deeper hAw, .inr ⟨rfl, by show cenv.frame = some cenv.locals; rw [← hcenv]; rfl⟩, fun b hb => ⟨?_, fun y c e z => ?_⟩, I.bs, Nat.le_trans I.ok.bsz I.sz, fun b o e hb => ?_, fun b hb z => ?_, I.stack, I.stkFree⟩
    · have e1 : cenv.cells.lookup y = some c := e1
      have e2 : cenv.cells.lookup z = some c := e2
      rw [hcl] at e1 e2
      refine cells_inj (fun p hp => ?_) (fun y z c a b => I.ok.inj y z c (cm a).1 (cm b).1) (PySem.mem_of_lookup e1) (PySem.mem_of_lookup e2)
      rw [Heap.size_push]
      exact Nat.lt_succ_of_lt (cm (y := p.1) (c := p.2) hp).2
    · show ∃ c, cenv.cells.lookup y = some c
      have key : ∀ k, cenv.kindOf y = some k → (k = .cell ∨ k = .free) → ∃ c, cenv.cells.lookup y = some c := fun k hk hk' => by
        unfold Env.kindOf at hk
        rw [hsc] at hk
        rcases hk' with rfl | rfl
        · obtain ⟨c, hm⟩ := cells_has (n := (s.heap.push { cls := .type "frame", data := .dict #[] }).objs.size) (acc := cloFrom X.env.cells scope.names []) (PySem.mem_of_lookup hk)
          obtain ⟨c', e'⟩ := mem_lookup hm
          exact ⟨c', by rw [hcl]; exact e'⟩
        · obtain ⟨c, h1, _⟩ := look hk
          exact ⟨c, h1⟩
      rcases hy with hy | hy
      · exact key _ hy (.inl rfl)
      · exact key _ hy (.inr rfl)
    · have z : (scope.names.lookup y == some NameKind.cell) = true := z
      have z : scope.names.lookup y = some .cell := by simpa using z
      have e : cenv.cells.lookup y = some c := e
      rw [hcl] at e
      rcases cells_mem (PySem.mem_of_lookup e) with hm | ⟨_, h2, _⟩
      · rcases cloFrom_mem hm with hm | ⟨h1, _⟩
        · cases hm
        · have q := ok.uniq _ h1
          rw [z] at q; cases q
      · rw [Heap.size_push] at h2
        exact Nat.le_of_succ_le h2
    · show b ≠ cenv.locals
      rw [hL]; exact Nat.ne_of_lt (hfp b hb).2
    · have e : cenv.cells.lookup y = some c := e
      rcases mem e with ⟨h1, _⟩ | ⟨h1, _⟩
      · exact (hfp b hb).1.2.2.2.2.1 y c h1 z
      · have h2 : s.heap.objs.size + 1 ≤ b := by rw [← z]; exact h1
        exact absurd (Nat.lt_of_lt_of_le (hfp b hb).2 (Nat.le_of_succ_le h2)) (Nat.lt_irrefl _)
    · rcases (hfp b hb).1.2.2.2.1 with z | z
      · exact I.ok.noex b o e z
      · exact absurd (Nat.lt_of_lt_of_le (Heap.lt_size e) (Nat.le_trans I.ok.bsz z)) (Nat.lt_irrefl _)
    · rcases List.mem_cons.mp (I.stkSub b z) with z | z
      · exact (hfp b hb).1.2.1 z
      · exact (hfp b hb).1.2.2.1 z
  refine ⟨okB, rfl, I.bare, Un.kept kp, ⟨_, by show Heap.Ns _ cenv.locals _; rw [hL]; exact hns, fun i y av e1 e2 e3 => ?_⟩, fun y c e => ?_, ?_, fun y c e => ?_, fun p hp => ?_, I.hok.kept kp, by rw [wipe_length]; exact I.len⟩
  · obtain ⟨e2, hne⟩ := wipe_some e2
    have hfr : scope.names.lookup y = some .free ∧ (cenv.kindOf y = some .cell ∨ cenv.kindOf y = some .free) := by
      have key : ∀ k, cenv.scope.names.lookup y = some k → k = .local ∨ k = .cell ∨ k = .free → scope.names.lookup y = some .free ∧ (cenv.kindOf y = some .cell ∨ cenv.kindOf y = some .free) := fun k hk hk' => by
        have hk0 := hk
        rw [hsc] at hk
        have no : ¬ (k = .local ∨ k = .cell) := fun hh => by
          rcases ok.own _ (PySem.mem_of_lookup hk) hh with e' | e'
          · obtain ⟨p, hp, hpy⟩ := List.mem_map.mp e'
            have e3 := ok.ix p hp
            have : p.1 = y := hpy
            rw [this] at e3
            exact hne (List.mem_map.mpr ⟨p, hp, nodup_ix hN e3 e1⟩)
          · exact e' (List.mem_of_getElem? e1)
        rcases hk' with rfl | rfl | rfl
        · exact absurd (.inl rfl) no
        · exact absurd (.inr rfl) no
        · exact ⟨hk, .inr hk0⟩
      have e3 : Vis cenv.scope y := e3
      rcases e3 with e3 | e3 | e3
      · exact key _ e3 (.inl rfl)
      · exact key _ e3 (.inr (.inl rfl))
      · exact key _ e3 (.inr (.inr rfl))
    obtain ⟨m, hn, hl⟩ := I.loc
    have hvis : Vis X.env.scope y := (ok.free _ (PySem.mem_of_lookup hfr.1) rfl).elim (fun k => .inr (.inl k)) (fun k => .inr (.inr k))
    obtain ⟨w, r, q⟩ := hl i y av e1 e2 hvis
    refine ⟨w, r, .inr ⟨hfr.2, ?_⟩⟩
    obtain ⟨c, h1, h2⟩ := look hfr.1
    rcases q with ⟨k, _⟩ | ⟨_, c', e', z⟩
    · have k : X.env.scope.names.lookup y = some .local := k
      rcases ok.free _ (PySem.mem_of_lookup hfr.1) rfl with k' | k' <;> rw [show X.env.scope.names.lookup y = _ from k'] at k <;> cases k
    · rw [h2] at e'; cases e'
      exact ⟨c, h1, z.keeps kp⟩
  · have e : cenv.cells.lookup y = some c := e
    rcases mem e with ⟨h1, _⟩ | ⟨_, z⟩
    · obtain ⟨w, z⟩ := I.cell y c h1
      exact ⟨w, z.keeps kp⟩
    · exact ⟨_, z⟩
  · show H cenv.locals = none
    rw [hL]; exact I.hok.fresh (Nat.le_refl _)
  · have e : cenv.cells.lookup y = some c := e
    rcases mem e with ⟨h1, _⟩ | ⟨h1, _⟩
    · exact I.freeC y c h1
    · exact I.hok.fresh (Nat.le_of_succ_le h1)
  · exact absurd (show p ∈ ([] : List (Addr × Obj)) ++ [] from hp) (by simp)
end
end TC

/-! Generator expressions: their code runs, hands out, is woken. -/
namespace TC
open PySem PySem.Spec PyProof.Rows L2 GenW

/-- a consumer: what it keeps stands in its own objects; what it does with an item; what it wants at the end -/
structure Con (α : Type) where
  coh : α → List (Addr × Obj) → Wd → Prop
  em : α → D → (α → Prop) → Prop
  dn : α → Prop
  mono : ∀ {st : α} {cp : List (Addr × Obj)} {W W' : Wd}, WLe W W' → coh st cp W → coh st cp W'
/-- while the generator sleeps its consumer turns its own objects -/
structure Woke (cp cp' : List (Addr × Obj)) (s s' : Shared) : Prop where
  os : s'.os = s.os
  bare : AllBare s'.gens
  adr : cp'.map (·.1) = cp.map (·.1)
  keep : ∀ b o, b ∉ cp.map (·.1) → s.heap.get? b = some o → s'.heap.get? b = some o
  own : ∀ p ∈ cp', s'.heap.get? p.1 = some p.2 ∧ ∀ v, p.2.data ≠ .cell v
/-- so they stood when the generator was woken -/
def At (cp : List (Addr × Obj)) (s₀ : Shared) : Prop := ∀ p ∈ cp, s₀.heap.get? p.1 = some p.2
/-- the consumer's objects are none of the generator's -/
structure CaOk (Z : Cx) (ca : List Addr) : Prop where
  yg : ∀ b ∈ ca, Z.s_0.heap.objs.size ≤ b
  lo : ∀ b ∈ ca, b ≠ Z.env.locals
  ce : ∀ b ∈ ca, ∀ x c, Z.env.cells.lookup x = some c → c ≠ b
  pn : ∀ b ∈ ca, ∀ p ∈ Z.pn, p.1 ≠ b
theorem Inv.woke {Z : Cx} {cp cp' ip : List (Addr × Obj)} {σ : L2.St} {H : Hp} {s s' : Shared} (I : Inv Z (cp ++ ip) σ H s) (ok : CaOk Z (cp.map (·.1))) (hip : ∀ p ∈ ip, p.1 ∉ cp.map (·.1)) (z : Woke cp cp' s s') : Inv Z (cp' ++ ip) σ H s' := by
  have nt : ∀ b, b ∈ cp.map (·.1) → H b = none ∧ b ∉ Z.fs := fun b hb => by
    obtain ⟨p, hp, e⟩ := List.mem_map.mp hb
    have q := I.pin p (List.mem_append_right _ (List.mem_append_left _ hp))
    rw [← e]
    exact ⟨q.2.1, q.2.2.2.1⟩
  have tr : ∀ b u, H b = some u → b ∉ cp.map (·.1) := fun b u q hb => by rw [(nt b hb).1] at q; cases q
  have I0 : Inv Z ip σ H s := I.pins_of fun p hp => I.pin p (List.mem_append_right _ (List.mem_append_right _ hp))
  obtain ⟨z1, z2, z3, z4, z5⟩ := z
  obtain ⟨hh, g, d, t, o⟩ := s'
  have ho : o = s.os := z1
  subst ho
  have J : Inv Z ip σ H { s with heap := hh, gens := g, drawn := d, toks := t } := by
    refine I0.step (g' := g) (t' := t) (d' := d) (ch := cp.map (·.1)) (fun b hb => ?_)
      (fun b ob _ _ hc q _ => z4 b ob hc q) (fun b ob _ _ hc q _ => ⟨ob.slots, z4 b ob hc q⟩) (fun _ _ _ _ n => n) (fun b ob hc q => ⟨ob, z4 b ob hc q⟩)
      (fun _ _ q => q) (fun _ _ _ q => q) (fun b ps q => ⟨#[], by rw [q]; simp⟩) (fun m hm => ?_) (fun b u q => ?_) z2
    · refine ⟨.inr (ok.yg b hb), ok.lo b hb, ok.ce b hb, fun p hp => ?_⟩
      rcases List.mem_append.mp hp with hp | hp
      · exact ok.pn b hb p hp
      · intro e; exact hip p hp (by rw [e]; exact hb)
    · obtain ⟨ob, es, ep, ho, r⟩ := hm
      exact ⟨ob, es, ep, z4 _ ob (fun e => ok.lo _ e rfl) ho, r⟩
    · refine (I0.hok b u q).stay (fun c v hc y => z4 c v ?_ y) (fun _ y => y) fun _ _ y => y
      rcases hc with y | y
      · rw [y]; exact tr b u q
      · exact tr c _ y
  refine J.pins_of fun p hp => ?_
  rcases List.mem_append.mp hp with hp | hp
  · have ha : p.1 ∈ cp.map (·.1) := by rw [← z3]; exact List.mem_map.mpr ⟨p, hp, rfl⟩
    exact ⟨(z5 p hp).1, (nt _ ha).1, ok.lo _ ha, (nt _ ha).2, (z5 p hp).2⟩
  · exact J.pin p (List.mem_append_right _ hp)

section
variable {α : Type} (O : ObjI) (TB : List Addr)
/-- how things stand within the generator -/
structure GSt (Z : Cx) (G : Kp) (W0 : Wd) (ca : List Addr) (C : Con α) (cp ip : List (Addr × Obj)) (σ : L2.St) (H : Hp) (W : Wd) (ρ : Rho) (st : α) (s : Shared) : Prop where
  ad : cp.map (·.1) = ca
  inv : Inv Z (cp ++ ip) σ H s
  sok : SOk O TB G W ρ σ H
  le : WLe W0 W
  coh : C.coh st cp W
def gY (Z : Cx) (G : Kp) (W0 : Wd) (ca : List Addr) (C : Con α) : Protocol := fun _ s₀ v s kap =>
  ∃ cp ip σ H W ρ st d k x, At cp s₀ ∧ GSt O TB Z G W0 ca C cp ip σ H W ρ st s ∧ RelV x v ∧ Rep O W d x ∧ C.em st d k ∧ ∀ cp' st' s', Woke cp cp' s s' → C.coh st' cp' W → k st' → kap (.send .none) s'
def gF (Z : Cx) (G : Kp) (W0 : Wd) (ca : List Addr) (C : Con α) : Nat → Shared → Shared → Prop := fun _ s₀ s => ∃ cp σ H W ρ st, At cp s₀ ∧ GSt O TB Z G W0 ca C cp [] σ H W ρ st s ∧ C.dn st
def gE (Z : Cx) (G : Kp) (W0 : Wd) (ca : List Addr) (C : Con α) : GenEnd := fun n s₀ r s₁ => ((r = .ok (.ret .none) ∨ r = .ok .next) ∧ gF O TB Z G W0 ca C n s₀ s₁) ∨ ∃ e, r = .error e ∧ (fun _ _ => False : Value → Shared → Prop) e s₁
end
/-- where the generator's code stands -/
structure GCc (Z : Cx) (A : Around) (c : Code) (fs : List Frame) (gd : Bool → Bool) : Prop where
  over : A.over c fs = Z.A
  split : splitAtGen fs = none
  guard : fs.any Frame.guarded = false
  gd : gd false = false
/-- what a clause's turn does, on data -/
abbrev BdT (α : Type) := Rho → α → (α → Prop) → Prop
def noOw (ρ : Rho) : Prop := ∀ (i : Nat) (d : D), ρ[i]? ≠ some (.ow d)
def noOwB : Rho → Bool
  | [] => true
  | .ow _ :: _ => false
  | _ :: r => noOwB r
theorem noOw_of : ∀ {ρ : Rho}, noOwB ρ = true → noOw ρ
  | [], _ => fun i d e => by simp at e
  | .ow _ :: _, h => by cases h
  | .no :: r, h => fun i d e => by
    cases i with
    | zero => simp at e
    | succ i => exact noOw_of (ρ := r) h i d (by simpa using e)
  | .fz _ :: r, h => fun i d e => by
    cases i with
    | zero => simp at e
    | succ i => exact noOw_of (ρ := r) h i d (by simpa using e)
  | .br _ :: r, h => fun i d e => by
    cases i with
    | zero => simp at e
    | succ i => exact noOw_of (ρ := r) h i d (by simpa using e)
theorem noOw_blk {ρ : Rho} {own : List Nat} : noOw (blkR own ρ) := fun i d h1 => by
  unfold blkR at h1
  rcases wipeD_get h1 with ⟨e, _⟩ | ⟨e, _⟩
  · cases e
  · rw [List.getElem?_map] at e
    cases q : ρ[i]? with
    | none => rw [q] at e; cases e
    | some y => rw [q] at e; cases y <;> cases e
section
variable {O : ObjI} {TB : List Addr} {G : Kp} {W W' : Wd} {ρ : Rho} {σ : L2.St} {H H' : Hp}
theorem SOk.wiped (s : SOk O TB G W ρ σ H) (no : noOw ρ) (own : List Nat) : SOk O TB G W (wipeD ρ own) (wipe σ own) H where
  w := s.w
  g := s.g
  b := s.b
  len := by rw [wipeD_length, wipe_length]; exact s.len
  sl := fun i x e => by
    rcases wipeD_get e with ⟨rfl, hi⟩ | ⟨e1, hi⟩
    · obtain ⟨ov, h⟩ := wipe_at (σ := σ) (vs := own) (i := i) (by
        rw [← s.len]
        have h2 : i < (wipeD ρ own).length := by
          rcases Nat.lt_or_ge i (wipeD ρ own).length with z | z
          · exact z
          · rw [List.getElem?_eq_none z] at e; cases e
        rw [wipeD_length] at h2
        exact h2)
      exact ⟨ov, h, trivial⟩
    · obtain ⟨ov, h1, h2⟩ := s.sl i x e1
      exact ⟨ov, wipe_get hi h1, h2⟩
  og := fun i a ⟨⟨d, h1⟩, _⟩ => by
    rcases wipeD_get h1 with ⟨e, _⟩ | ⟨e, _⟩
    · cases e
    · exact absurd e (no i d)
  dj := fun i j a ⟨⟨d, h1⟩, _⟩ _ => by
    rcases wipeD_get h1 with ⟨e, _⟩ | ⟨e, _⟩
    · cases e
    · exact absurd e (no i d)
/-- the state of a turn's start, later -/
theorem SOk.later (s : SOk O TB G W ρ σ H) (no : noOw ρ) {ρ' : Rho} {σ' : L2.St} (s' : SOk O TB G W' ρ' σ' H') (le : WLe W W') : SOk O TB G W' ρ σ H' :=
  s.keep le s'.w fun a o e1 e2 e3 => by
    rcases e3 with e3 | ⟨j, ⟨d, h1⟩, _⟩
    · exact s'.g a o e3
    · exact absurd h1 (no j d)
end
theorem wipe_sub (σ : L2.St) : ∀ (us own : List Nat), (∀ i ∈ us, i ∈ own) → wipe (wipe σ us) own = wipe σ own := by
  intro us
  induction us with
  | nil => intro own _; rfl
  | cons u us ih =>
    intro own h
    show wipe ((wipe σ us).set u none) own = _
    rw [wipe_set (h u List.mem_cons_self)]
    exact ih own fun i hi => h i (List.mem_cons_of_mem _ hi)
/-- the code of a turn behind its tests, rest: what goes on -/
def GB {α : Type} (O : ObjI) (TB : List Addr) (Z : Cx) (C : Con α) (own : List Nat) (tl : Sem PySem.Fin → Sem PySem.Fin) (bd : BdT α) (m : Nat) : Prop :=
  ∀ (G : Kp) (W0 : Wd) (ca : List Addr) (A : Around) (c : Code) (fs : List Frame) (K : PySem.Fin → Sem PySem.Fin) (J : Value → Sem PySem.Fin) (gd : Bool → Bool) (lv : List Value → List Value) (rest : Sem PySem.Fin) (m' n : Nat) (s₀ s : Shared)
    (cp ip : List (Addr × Obj)) (σ : L2.St) (H : Hp) (W : Wd) (ρ : Rho) (st : α) (Q : α → Prop), GCc Z A c fs gd → CaOk Z ca → (∀ p ∈ ip, p.1 ∉ ca) → At cp s₀ → GSt O TB Z G W0 ca C cp ip σ H W ρ st s → m' + m ≤ n → bd ρ st Q →
    (∀ (n' : Nat) (s₀' s' : Shared) (cp' : List (Addr × Obj)) (σ' : L2.St) (H' : Hp) (W' : Wd) (ρ' : Rho) (st' : α), m' ≤ n' → wipe σ' own = wipe σ own → At cp' s₀' → GSt O TB Z G W0 ca C cp' ip σ' H' W' ρ' st' s' → WLe W W' → Q st' → Seg (model Z.prog Z.w) A (gE O TB Z G W0 ca C) (gY O TB Z G W0 ca C) n' s₀' c (rest.wrap K J gd lv) fs s') →
    Seg (model Z.prog Z.w) A (gE O TB Z G W0 ca C) (gY O TB Z G W0 ca C) n s₀ c ((tl rest).wrap K J gd lv) fs s

section
variable {α : Type} {O : ObjI} {TB : List Addr} {Z : Cx} {C : Con α}
/-- an item goes out -/
def bdEl (C : Con α) (el : EvT) : BdT α := fun ρ st Q => el ρ fun r ρ3 => settle r ρ3 fun d _ => C.em st d Q
def tlEl (elt : Expr) (env : Env) : Sem PySem.Fin → Sem PySem.Fin := fun rest => (eval elt env >>= fun v => standAt elt.pos >>= fun _ => yieldOut env v >>= fun _ => (pure PUnit.unit : Sem Unit)) >>= fun _ => rest
theorem gb_el {elt : Expr} {el : EvT} {own : List Nat} (he : DE O TB Z elt el) (hx : ∀ e s, ¬ Z.xe e s) (hco : Z.env.scope.isCoroutine = false) : GB O TB Z C own (tlEl elt Z.env) (bdEl C el) 1 := by
  intro G W0 ca A c fs K J gd lv rest m' n s₀ s cp ip σ H W ρ st Q g hca hip hat hs hn hb hk
  obtain ⟨n, rfl⟩ : ∃ k, n = k + 1 := ⟨n - 1, by omega⟩
  unfold tlEl
  rw [Sem.bind_eq_wrap' _ (fun _ => rest), Sem.wrap_wrap]
  refine seg_bind_wrap ?_
  rw [g.over]
  refine wpAny_mono (he.run _ s σ H (fun v H' => ∃ W' ρ' d k, WLe W W' ∧ SOk O TB G W' ρ' σ H' ∧ Rep O W' d v ∧ C.em st d k ∧ ∀ st', k st' → Q st') hs.inv ?_) (fun v s1 hv => ?_) fun e s1 hx' => absurd hx' (hx e s1)
  · refine ⟨G, W, ρ, _, hs.sok, hb, fun v H' W' ρ' k d le fr s' r q => ?_⟩
    obtain ⟨W2, ρ2, le2, fr2, s2, rp, q2⟩ := s'.settle r q
    exact ⟨W2, ρ2, d, Q, le.trans le2, s2, rp, q2, fun _ h => h⟩
  · obtain ⟨x, H1, I1, rv, W1, ρ1, d, k, le1, s1ok, rp, q, hkq⟩ := hv
    have gs1 : GSt O TB Z G W0 ca C cp ip σ H1 W1 ρ1 st s1 := ⟨hs.ad, I1, s1ok, hs.le.trans le1, C.mono le1 hs.coh⟩
    refine seg_bind_wrap (wpAny_standAt ?_)
    have hy : ∀ v, yieldOut Z.env v = yieldValue v := fun v => by simp only [yieldOut, hco, Bool.false_eq_true, if_false]
    rw [hy, Sem.bind_eq_wrap', Sem.wrap_wrap]
    refine seg_yield g.split g.gd g.guard ⟨cp, ip, σ, H1, W1, ρ1, st, d, k, x, hat, gs1, rv, rp, q, fun cp' st' s' wk hc hst => ?_⟩
    have I2 : Inv Z (cp' ++ ip) σ H1 s' := Inv.woke I1 (by rw [hs.ad]; exact hca) (by rw [hs.ad]; exact hip) wk
    exact hk n s' s' cp' σ H1 W1 ρ1 st' (by omega) rfl (fun p hp => (wk.own p hp).1) ⟨wk.adr.trans hs.ad, I2, s1ok, gs1.le, hc⟩ le1 (hkq st' hst)

/-! ### the loop of a clause -/
def loopD (g : GtT) (ts : TvT) (bd : BdT α) (ρ0 : Rho) : List D → α → (α → Prop) → Prop
  | [], st, Q => Q st
  | x :: xs, st, Q => g x ρ0 fun ρ1 => ts ρ1 fun b ρ2 => if b = true then bd ρ2 st fun st' => loopD g ts bd ρ0 xs st' Q else loopD g ts bd ρ0 xs st Q
/-- the code of a turn -/
def turnC (p0 : Pos) (it : Addr) (tg : Expr) (ifs : List Expr) (env : Env) (tl : Sem PySem.Fin → Sem PySem.Fin) (rest : Sem PySem.Fin) : Sem PySem.Fin :=
  standAt p0 >>= fun _ => pyNext (.ref it) >>= fun r => match r with
    | none => pure (.done .next)
    | some v => letOwnedTupleGo tg (.ref it) v >>= fun _ => assign tg env v >>= fun _ =>
      (forIn ifs true fun c r => if r = true then do let ok ← isTrue c env (eval c env); pure (ForInStep.yield ok) else pure (ForInStep.yield r)) >>= fun ok => if ok = true then tl rest else rest
theorem gl_loop {e : Expr} {dp : Nat} {it : Addr} {tg : Expr} {ifs : List Expr} {p0 : Pos} {tl : Sem PySem.Fin → Sem PySem.Fin} {Jx : Value → Sem Unit} {own : List Nat} {g : GtT} {ts : TvT} {bd : BdT α} {m m0 : Nat} {J : It} {fp : List Addr} {tn : Nat → Heap → Prop} {items : List D} {gg : Hp} {Wi : Wd}
    {A : Around} {fs : List Frame} {G : Kp} {W0 WL : Wd} {ca : List Addr} {ip : List (Addr × Obj)} {ρL : Rho} {σL : L2.St} {HL : Hp} {Q : α → Prop}
    (hden : (model Z.prog Z.w).den (.compLoop e dp (.ref it) .none Z.env) = (turnC p0 it tg ifs Z.env tl (.pure (.again (.compLoop e dp (.ref it) .none Z.env)))).wrap .pure (fun x => (Jx x).bind fun _ => (Sem.raise x : Sem PySem.Fin)) id id)
    (hq : (Code.compLoop e dp (.ref it) .none Z.env).quiet = true) (hc : Z.calm = true) (hx : ∀ e s, ¬ Z.xe e s) (hg : DG O TB Z own tg g) (ht : DTs O TB Z ifs ts) (hb : GB O TB Z C own tl bd m) (T : Turn Z.prog Z.w Z.K tg J fp it tn)
    (gc : GCc Z A (.compLoop e dp (.ref it) .none Z.env) fs id) (hca : CaOk Z ca) (hip : ∀ p ∈ ip, p.1 ∉ ca) (hfa : ∀ b ∈ fp, b ∉ ca) (hfi : ∀ b ∈ fp, ∀ p ∈ ip, p.1 ≠ b) (hfz : ∀ b ∈ fp, (b ∈ Z.ex ∨ Z.s_0.heap.objs.size ≤ b) ∧ b ≠ Z.env.locals ∧ b ∉ Z.fs ∧ (∀ x c, Z.env.cells.lookup x = some c → c ≠ b) ∧ ∀ p ∈ Z.pn, p.1 ≠ b)
    (hgg : ∀ a o, gg a = some o → G.g a = some o) (itk : ItOk O TB J gg Wi items) (leI : WLe Wi WL) (sL : SOk O TB G WL ρL σL HL) (no : noOw ρL) (hw : wipe σL own = σL)
    (hend : ∀ (n' : Nat) (s₀' s' : Shared) (cp' : List (Addr × Obj)) (H' : Hp) (W' : Wd) (st' : α), m0 ≤ n' → At cp' s₀' → GSt O TB Z G W0 ca C cp' ip σL H' W' ρL st' s' → WLe WL W' → Q st' → Seg (model Z.prog Z.w) A (gE O TB Z G W0 ca C) (gY O TB Z G W0 ca C) n' s₀' (.compLoop e dp (.ref it) .none Z.env) (.pure (.done .next)) fs s') :
    ∀ (xs : List D) (i n : Nat) (s₀ s : Shared) (cp : List (Addr × Obj)) (H : Hp) (W : Wd) (st : α), items.drop i = xs → i ≤ items.length → xs.length * m + m0 ≤ n → At cp s₀ → GSt O TB Z G W0 ca C cp ip σL H W ρL st s → WLe WL W → tn i s.heap → (∀ b ∈ fp, H b = none) → loopD g ts bd ρL xs st Q →
      Seg (model Z.prog Z.w) A (gE O TB Z G W0 ca C) (gY O TB Z G W0 ca C) n s₀ (.compLoop e dp (.ref it) .none Z.env) ((model Z.prog Z.w).den (.compLoop e dp (.ref it) .none Z.env)) fs s := by
  have fpk : ∀ {cp : List (Addr × Obj)} {H : Hp}, cp.map (·.1) = ca → (∀ b ∈ fp, H b = none) → ∀ b ∈ fp, FpOk Z (cp ++ ip) H b := fun {cp H} had hn b hb => by
    obtain ⟨z1, z2, z3, z4, z5⟩ := hfz b hb
    refine ⟨hn b hb, z2, z3, z1, z4, fun p hp => ?_⟩
    rcases List.mem_append.mp hp with hp | hp
    · exact z5 p hp
    · rcases List.mem_append.mp hp with hp | hp
      · intro e; exact hfa b hb (by rw [← had, ← e]; exact List.mem_map.mpr ⟨p, hp, rfl⟩)
      · exact hfi b hb p hp
  intro xs
  induction xs with
  | nil =>
    intro i n s₀ s cp H W st hd hi hn hat hs le htn hfn hl
    have hi2 : items.length ≤ i := by
      rcases Nat.lt_or_ge i items.length with z | z
      · rw [List.drop_eq_getElem_cons z] at hd; cases hd
      · exact z
    obtain ⟨_, is⟩ := itk W H (leI.trans le) hs.sok.w (fun a o e => (hs.sok.g a o (hgg a o e)).1)
    rw [hden]
    unfold turnC
    refine seg_bind_wrap (wpAny_standAt ?_)
    refine seg_bind_wrap ?_
    rw [gc.over]
    refine wpAny_mono (T.done Z rfl rfl rfl hc i (cp ++ ip) s σL H (fun _ _ => False) hs.inv (fpk hs.ad hfn) htn (is i hi2)) (fun r s1 hr => ?_) fun _ _ z => z.elim
    obtain ⟨rfl, I1⟩ := hr
    exact hend n s₀ s1 cp H W st (by omega) hat ⟨hs.ad, I1, hs.sok, hs.le, hs.coh⟩ le hl
  | cons x xs ih =>
    intro i n s₀ s cp H W st hd hi hn hat hs le htn hfn hl
    have hlt : i < items.length := by
      rcases Nat.lt_or_ge i items.length with z | z
      · exact z
      · rw [List.drop_of_length_le z] at hd; cases hd
    rw [List.drop_eq_getElem_cons hlt] at hd
    injection hd with hd1 hd2
    obtain ⟨ig, _⟩ := itk W H (leI.trans le) hs.sok.w (fun a o e => (hs.sok.g a o (hgg a o e)).1)
    obtain ⟨go, yl⟩ := ig i hlt
    rw [hden]
    unfold turnC
    refine seg_bind_wrap (wpAny_standAt ?_)
    refine seg_bind_wrap ?_
    rw [gc.over]
    refine wpAny_mono (T.item Z rfl rfl rfl hc i (cp ++ ip) s σL H (fun _ _ => False) hs.inv (fpk hs.ad hfn) htn go) (fun r s1 hr => ?_) fun _ _ z => z.elim
    obtain ⟨u, rfl, h1⟩ := hr
    refine seg_bind_wrap ?_
    rw [gc.over]
    refine wpAny_mono h1 (fun _ s2 h2 => ?_) fun _ _ z => z.elim
    obtain ⟨y, H2, I2, ry, hy, tn2, n2⟩ := h2
    obtain ⟨d, W2, ed, le2, w2, kp2, rx⟩ := yl y H2 hy
    rw [List.getElem?_eq_getElem hlt, hd1] at ed
    cases ed
    have sok2 := hs.sok.after le2 w2 kp2
    have I2' := I2.pinned (fpk hs.ad n2) (T.obj _ _ tn2)
    rw [List.append_assoc] at I2'
    refine seg_bind_wrap ?_
    rw [gc.over]
    refine wpAny_mono (hg.run _ s2 σL H2 y u (fun σ3 H3 => wipe σ3 own = σL ∧ ∃ W3 ρ3, WLe W2 W3 ∧ SOk O TB G W3 ρ3 σ3 H3 ∧ ts ρ3 fun b ρ2 => if b = true then bd ρ2 st fun st' => loopD g ts bd ρL xs st' Q else loopD g ts bd ρL xs st Q) I2' ry ⟨G, W2, ρL, x, _, sok2, rx, hl, fun σ3 W3 ρ3 ew le3 s3 q3 => ⟨ew.trans hw, W3, ρ3, le3, s3, q3⟩⟩) (fun _ s3 h3 => ?_) fun e s3 z => absurd z (hx e s3)
    obtain ⟨σ3, H3, I3, ew, W3, ρ3, le3, sok3, q3⟩ := h3
    refine seg_bind_wrap ?_
    rw [gc.over]
    refine wpAny_mono (ht.run _ s3 σ3 H3 (fun b H4 => ∃ W4 ρ4, WLe W3 W4 ∧ SOk O TB G W4 ρ4 σ3 H4 ∧ if b = true then bd ρ4 st fun st' => loopD g ts bd ρL xs st' Q else loopD g ts bd ρL xs st Q) I3 ⟨G, W3, ρ3, _, sok3, q3, fun b H4 W4 ρ4 le4 fr4 s4 q4 => ⟨W4, ρ4, le4, s4, q4⟩⟩) (fun b s4 h4 => ?_) fun e s4 z => absurd z (hx e s4)
    obtain ⟨H4, I4, W4, ρ4, le4, sok4, q4⟩ := h4
    have le14 : WLe W W4 := le2.trans (le3.trans le4)
    have wk : ∀ {σ' : L2.St}, wipe σ' own = wipe σ3 own → σL.length = σ'.length ∧ ∀ (j : Nat) v, σL[j]? = some (some v) → σ'[j]? = some (some v) := fun {σ'} e => by
      have e2 : wipe σ' own = σL := e.trans ew
      refine ⟨by rw [← e2, wipe_length], fun j v ej => ?_⟩
      rw [← e2] at ej
      exact (wipe_some ej).1
    -- the turn's end
    have fin : ∀ {n' : Nat} {s₀' s' : Shared} {cp' : List (Addr × Obj)} {σ' : L2.St} {H' : Hp} {W' : Wd} {ρ' : Rho} {st' : α}, xs.length * m + m0 ≤ n' → wipe σ' own = wipe σ3 own → At cp' s₀' → GSt O TB Z G W0 ca C cp' (ip ++ pinsAt fp s2.heap) σ' H' W' ρ' st' s' → WLe W4 W' → loopD g ts bd ρL xs st' Q →
        Seg (model Z.prog Z.w) A (gE O TB Z G W0 ca C) (gY O TB Z G W0 ca C) n' s₀' (.compLoop e dp (.ref it) .none Z.env) (.pure (.again (.compLoop e dp (.ref it) .none Z.env))) fs s' := fun {n' s₀' s' cp' σ' H' W' ρ' st'} hn' ew' hat' hs' le' hl' => by
      have pin' : ∀ b ∈ fp, ∀ o, s2.heap.get? b = some o → s'.heap.get? b = some o ∧ H' b = none := fun b hb o e =>
        let z := hs'.inv.pin (b, o) (List.mem_append_right _ (List.mem_append_right _ (List.mem_append_right _ (mem_pinsAt hb e))))
        ⟨z.1, z.2.1⟩
      have I5 : Inv Z (cp' ++ ip) σ' H' s' := by
        have z := hs'.inv
        rw [← List.append_assoc] at z
        exact z.unpinned
      obtain ⟨k1, k2⟩ := wk ew'
      have leW : WLe WL W' := le.trans (le14.trans le')
      refine seg_again hq (ih (i + 1) n' s₀' s' cp' H' W' st' hd2 hlt hn' hat' ⟨hs'.ad, I5.weak k1 k2, sL.later no hs'.sok leW, hs'.le, hs'.coh⟩ leW (T.keep _ _ _ tn2 fun b hb o e => (pin' b hb o e).1) (fun b hb => ?_) hl')
      obtain ⟨o, e, _⟩ := T.obj _ _ tn2 b hb
      exact (pin' b hb o e).2
    have gs4 : GSt O TB Z G W0 ca C cp (ip ++ pinsAt fp s2.heap) σ3 H4 W4 ρ4 st s4 := ⟨hs.ad, I4, sok4, hs.le.trans le14, C.mono le14 hs.coh⟩
    have hlen : (x :: xs).length * m + m0 = xs.length * m + m0 + m := by rw [List.length_cons, Nat.succ_mul]; omega
    cases b with
    | false =>
      simp only [Bool.false_eq_true, if_false] at q4 ⊢
      exact fin (by omega) rfl hat gs4 (WLe.refl _) q4
    | true =>
      simp only [if_true] at q4 ⊢
      refine hb G W0 ca A _ fs _ _ id id _ (xs.length * m + m0) n s₀ s4 cp (ip ++ pinsAt fp s2.heap) σ3 H4 W4 ρ4 st _ gc hca (fun p hp => ?_) hat gs4 (by omega) q4 fun n' s₀' s' cp' σ' H' W' ρ' st' hn' ew' hat' hs' le' q' => fin hn' ew' hat' hs' le' q'
      rcases List.mem_append.mp hp with hp | hp
      · exact hip p hp
      · exact hfa p.1 (of_pinsAt hp).1
end
end TC

/-! Generator expressions: the code of one and of two clauses. -/
namespace TC
open PySem PySem.Spec PyProof.Rows L2 GenW

section
variable {P : Program} {w : World}
theorem den_1 {elt tg iter : Expr} {ifs : List Expr} {scope : Scope} {pos : Pos} {it : Addr} {env : Env} :
    (model P w).den (.compLoop (.GeneratorExp elt [⟨tg, iter, ifs, 0⟩] scope pos) 0 (.ref it) .none env) =
      (turnC iter.pos it tg ifs env (tlEl elt env) (.pure (.again (.compLoop (.GeneratorExp elt [⟨tg, iter, ifs, 0⟩] scope pos) 0 (.ref it) .none env)))).wrap .pure (fun x => (leaving env x).bind fun _ => (Sem.raise x : Sem PySem.Fin)) id id := by
  show (compTurn (.GeneratorExp elt [⟨tg, iter, ifs, 0⟩] scope pos) 0 (.ref it) .none env).onRaise (leaving env) = _
  rw [show compTurn (.GeneratorExp elt [⟨tg, iter, ifs, 0⟩] scope pos) 0 (.ref it) .none env = turnC iter.pos it tg ifs env (tlEl elt env) (.pure (.again (.compLoop (.GeneratorExp elt [⟨tg, iter, ifs, 0⟩] scope pos) 0 (.ref it) .none env))) from rfl, Sem.onRaise_eq_wrap]
def tlIn (e : Expr) (iter : Expr) (env : Env) : Sem PySem.Fin → Sem PySem.Fin := fun rest =>
  eval iter env >>= fun x => standAt iter.pos >>= fun _ => foldedSetIterable iter env x >>= fun x => holding [x] (pyIter x) >>= fun i => runOwn (.compStart e 1 i .none env) env >>= fun _ => rest
theorem den_20 {elt tg iter tg2 iter2 : Expr} {ifs ifs2 : List Expr} {scope : Scope} {pos : Pos} {it : Addr} {env : Env} :
    (model P w).den (.compLoop (.GeneratorExp elt [⟨tg, iter, ifs, 0⟩, ⟨tg2, iter2, ifs2, 0⟩] scope pos) 0 (.ref it) .none env) =
      (turnC iter.pos it tg ifs env (tlIn (.GeneratorExp elt [⟨tg, iter, ifs, 0⟩, ⟨tg2, iter2, ifs2, 0⟩] scope pos) iter2 env) (.pure (.again (.compLoop (.GeneratorExp elt [⟨tg, iter, ifs, 0⟩, ⟨tg2, iter2, ifs2, 0⟩] scope pos) 0 (.ref it) .none env)))).wrap .pure (fun x => (leaving env x).bind fun _ => (Sem.raise x : Sem PySem.Fin)) id id := by
  show (compTurn (.GeneratorExp elt [⟨tg, iter, ifs, 0⟩, ⟨tg2, iter2, ifs2, 0⟩] scope pos) 0 (.ref it) .none env).onRaise (leaving env) = _
  rw [show compTurn (.GeneratorExp elt [⟨tg, iter, ifs, 0⟩, ⟨tg2, iter2, ifs2, 0⟩] scope pos) 0 (.ref it) .none env = turnC iter.pos it tg ifs env (tlIn (.GeneratorExp elt [⟨tg, iter, ifs, 0⟩, ⟨tg2, iter2, ifs2, 0⟩] scope pos) iter2 env) (.pure (.again (.compLoop (.GeneratorExp elt [⟨tg, iter, ifs, 0⟩, ⟨tg2, iter2, ifs2, 0⟩] scope pos) 0 (.ref it) .none env))) from rfl, Sem.onRaise_eq_wrap]
theorem den_21 {elt tg iter tg2 iter2 : Expr} {ifs ifs2 : List Expr} {scope : Scope} {pos : Pos} {it : Addr} {env : Env} :
    (model P w).den (.compLoop (.GeneratorExp elt [⟨tg, iter, ifs, 0⟩, ⟨tg2, iter2, ifs2, 0⟩] scope pos) 1 (.ref it) .none env) =
      (turnC iter2.pos it tg2 ifs2 env (tlEl elt env) (.pure (.again (.compLoop (.GeneratorExp elt [⟨tg, iter, ifs, 0⟩, ⟨tg2, iter2, ifs2, 0⟩] scope pos) 1 (.ref it) .none env)))).wrap .pure (fun x => (do noteFrame x env; theTreesLotGoes x : Sem Unit).bind fun _ => (Sem.raise x : Sem PySem.Fin)) id id := by
  show (compTurn (.GeneratorExp elt [⟨tg, iter, ifs, 0⟩, ⟨tg2, iter2, ifs2, 0⟩] scope pos) 1 (.ref it) .none env).onRaise (fun x => do noteFrame x env; theTreesLotGoes x) = _
  rw [show compTurn (.GeneratorExp elt [⟨tg, iter, ifs, 0⟩, ⟨tg2, iter2, ifs2, 0⟩] scope pos) 1 (.ref it) .none env = turnC iter2.pos it tg2 ifs2 env (tlEl elt env) (.pure (.again (.compLoop (.GeneratorExp elt [⟨tg, iter, ifs, 0⟩, ⟨tg2, iter2, ifs2, 0⟩] scope pos) 1 (.ref it) .none env))) from rfl, Sem.onRaise_eq_wrap]
variable {A : Around} {R : GenEnd} {Y : Protocol} {n : Nat} {s₀ s : Shared} {fs : List Frame}
theorem seg_start1 {elt tg iter : Expr} {ifs : List Expr} {scope : Scope} {pos : Pos} {it : Addr} {env : Env}
    (hs : ∀ (A : Around) (Q : Value → Shared → Prop) (E : Value → Shared → Prop), Q (.ref it) s → wpAny (model P w) A (pyIter (.ref it)) Q E s)
    (loop : Seg (model P w) A R Y n s₀ (.compLoop (.GeneratorExp elt [⟨tg, iter, ifs, 0⟩] scope pos) 0 (.ref it) .none env) ((model P w).den (.compLoop (.GeneratorExp elt [⟨tg, iter, ifs, 0⟩] scope pos) 0 (.ref it) .none env)) fs s) :
    Seg (model P w) A R Y n s₀ (.compStart (.GeneratorExp elt [⟨tg, iter, ifs, 0⟩] scope pos) 0 (.ref it) .none env) ((model P w).den (.compStart (.GeneratorExp elt [⟨tg, iter, ifs, 0⟩] scope pos) 0 (.ref it) .none env)) fs s := by
  show Seg _ A _ _ _ s₀ _ ((compStart (.GeneratorExp elt [⟨tg, iter, ifs, 0⟩] scope pos) 0 (.ref it) .none env).onRaise (leaving env)) fs s
  unfold compStart
  rw [Sem.onRaise_eq_wrap]
  show Seg _ A _ _ _ s₀ _ ((ask >>= _).wrap _ _ _ _) fs s
  refine seg_bind_wrap (wpAny_askSetting ?_)
  split
  · exact seg_again rfl loop
  · first
      | exact seg_bind_wrap (wpAny_rule (seg_bind_wrap (wpAny_standAt (seg_bind_wrap (hs _ _ _ (seg_again rfl loop))))))
      | (refine seg_bind_wrap (wpAny_rule ?_); show Seg _ A _ _ _ s₀ _ ((standAt iter.pos >>= _).wrap _ _ _ _) fs s; exact seg_bind_wrap (wpAny_standAt (seg_bind_wrap (hs _ _ _ (seg_again rfl loop)))))
theorem seg_start20 {elt tg iter tg2 iter2 : Expr} {ifs ifs2 : List Expr} {scope : Scope} {pos : Pos} {it : Addr} {env : Env}
    (hs : ∀ (A : Around) (Q : Value → Shared → Prop) (E : Value → Shared → Prop), Q (.ref it) s → wpAny (model P w) A (pyIter (.ref it)) Q E s)
    (loop : Seg (model P w) A R Y n s₀ (.compLoop (.GeneratorExp elt [⟨tg, iter, ifs, 0⟩, ⟨tg2, iter2, ifs2, 0⟩] scope pos) 0 (.ref it) .none env) ((model P w).den (.compLoop (.GeneratorExp elt [⟨tg, iter, ifs, 0⟩, ⟨tg2, iter2, ifs2, 0⟩] scope pos) 0 (.ref it) .none env)) fs s) :
    Seg (model P w) A R Y n s₀ (.compStart (.GeneratorExp elt [⟨tg, iter, ifs, 0⟩, ⟨tg2, iter2, ifs2, 0⟩] scope pos) 0 (.ref it) .none env) ((model P w).den (.compStart (.GeneratorExp elt [⟨tg, iter, ifs, 0⟩, ⟨tg2, iter2, ifs2, 0⟩] scope pos) 0 (.ref it) .none env)) fs s := by
  show Seg _ A _ _ _ s₀ _ ((compStart (.GeneratorExp elt [⟨tg, iter, ifs, 0⟩, ⟨tg2, iter2, ifs2, 0⟩] scope pos) 0 (.ref it) .none env).onRaise (leaving env)) fs s
  unfold compStart
  rw [Sem.onRaise_eq_wrap]
  show Seg _ A _ _ _ s₀ _ ((ask >>= _).wrap _ _ _ _) fs s
  refine seg_bind_wrap (wpAny_askSetting ?_)
  split
  · exact seg_again rfl loop
  · first
      | exact seg_bind_wrap (wpAny_rule (seg_bind_wrap (wpAny_standAt (seg_bind_wrap (hs _ _ _ (seg_again rfl loop))))))
      | (refine seg_bind_wrap (wpAny_rule ?_); show Seg _ A _ _ _ s₀ _ ((standAt iter.pos >>= _).wrap _ _ _ _) fs s; exact seg_bind_wrap (wpAny_standAt (seg_bind_wrap (hs _ _ _ (seg_again rfl loop)))))
theorem seg_start21 {elt tg iter tg2 iter2 : Expr} {ifs ifs2 : List Expr} {scope : Scope} {pos : Pos} {it : Addr} {env : Env}
    (hs : ∀ (A : Around) (Q : Value → Shared → Prop) (E : Value → Shared → Prop), Q (.ref it) s → wpAny (model P w) A (pyIter (.ref it)) Q E s)
    (loop : Seg (model P w) A R Y n s₀ (.compLoop (.GeneratorExp elt [⟨tg, iter, ifs, 0⟩, ⟨tg2, iter2, ifs2, 0⟩] scope pos) 1 (.ref it) .none env) ((model P w).den (.compLoop (.GeneratorExp elt [⟨tg, iter, ifs, 0⟩, ⟨tg2, iter2, ifs2, 0⟩] scope pos) 1 (.ref it) .none env)) fs s) :
    Seg (model P w) A R Y n s₀ (.compStart (.GeneratorExp elt [⟨tg, iter, ifs, 0⟩, ⟨tg2, iter2, ifs2, 0⟩] scope pos) 1 (.ref it) .none env) ((model P w).den (.compStart (.GeneratorExp elt [⟨tg, iter, ifs, 0⟩, ⟨tg2, iter2, ifs2, 0⟩] scope pos) 1 (.ref it) .none env)) fs s := by
  show Seg _ A _ _ _ s₀ _ ((compStart (.GeneratorExp elt [⟨tg, iter, ifs, 0⟩, ⟨tg2, iter2, ifs2, 0⟩] scope pos) 1 (.ref it) .none env).onRaise (fun x => do noteFrame x env; standAt theWindowsPlace)) fs s
  unfold compStart
  rw [Sem.onRaise_eq_wrap]
  show Seg _ A _ _ _ s₀ _ ((ask >>= _).wrap _ _ _ _) fs s
  refine seg_bind_wrap (wpAny_askSetting ?_)
  split
  · exact seg_again rfl loop
  · first
      | exact seg_bind_wrap (wpAny_rule (seg_bind_wrap (wpAny_standAt (seg_bind_wrap (hs _ _ _ (seg_again rfl loop))))))
      | (refine seg_bind_wrap (wpAny_rule ?_); show Seg _ A _ _ _ s₀ _ ((standAt iter2.pos >>= _).wrap _ _ _ _) fs s; exact seg_bind_wrap (wpAny_standAt (seg_bind_wrap (hs _ _ _ (seg_again rfl loop)))))
theorem seg_runOwn {c c' : Code} {env : Env} {K : Flow → Sem PySem.Fin} {J : Value → Sem PySem.Fin} {gd : Bool → Bool} {lv : List Value → List Value}
    (h : ∀ p, Seg (model P w) A R Y n s₀ c' ((model P w).den c') (.ret (fun r => ((match r with | .ok f => (.pure f : Sem Flow) | .error e => .raise e).onRaise (cameBack env)).wrap K J gd lv) none (gd false) (lv []) c p [] :: fs) s) :
    Seg (model P w) A R Y n s₀ c ((runOwn c' env).wrap K J gd lv) fs s := seg_call h
end

section
variable {α : Type} {O : ObjI} {TB : List Addr} {Z : Cx} {C : Con α}
/-- a clause within a clause -/
def bdIn (own : List Nat) (iv : IvT) (g : GtT) (ts : TvT) (bd : BdT α) : BdT α := fun ρ st Q => iv ρ fun items ρ1 => items.length ≤ sizeLine ∧ noOwB ρ1 = true ∧ loopD g ts bd (wipeD ρ1 own) items st Q
theorem gb_in {elt tg iter tg2 iter2 : Expr} {ifs ifs2 : List Expr} {scope : Scope} {pos : Pos} {own own2 : List Nat} {iv : IvT} {g : GtT} {ts : TvT} {el : EvT} (hc : Z.calm = true) (hx : ∀ e s, ¬ Z.xe e s) (hco : Z.env.scope.isCoroutine = false) (hsub : ∀ i ∈ own2, i ∈ own)
    (hi : DI O TB Z tg2 iter2 iv) (hg : DG O TB Z own2 tg2 g) (ht : DTs O TB Z ifs2 ts) (he : DE O TB Z elt el) (hfo : ∀ x, foldedSetIterable iter2 Z.env x = pure x) :
    GB O TB Z C own (tlIn (.GeneratorExp elt [⟨tg, iter, ifs, 0⟩, ⟨tg2, iter2, ifs2, 0⟩] scope pos) iter2 Z.env) (bdIn own2 iv g ts (bdEl C el)) sizeLine := by
  intro G W0 ca A c fs K J gd lv rest m' n s₀ s cp ip σ H W ρ st Q gc hca hip hat hs hn hb hk
  unfold tlIn
  refine seg_bind_wrap ?_
  rw [gc.over]
  refine wpAny_mono (hi.run (cp ++ ip) s σ H (fun Jt H' => ∃ W' ρ' items, WLe W W' ∧ SOk O TB G W' ρ' σ H' ∧ ItOk O TB Jt noG W' items ∧ items.length ≤ sizeLine ∧ noOwB ρ' = true ∧ loopD g ts (bdEl C el) (wipeD ρ' own2) items st Q) hs.inv ?_) (fun v s1 hv => ?_) fun e s1 hx' => absurd hx' (hx e s1)
  · exact ⟨G, W, ρ, _, hs.sok, hb, fun Jt H' W' ρ' items le fr s' it q => ⟨W', ρ', items, le, s', it, q⟩⟩
  refine seg_bind_wrap (wpAny_standAt ?_)
  rw [hfo]
  refine seg_bind_wrap (wpAny_pure ?_)
  refine seg_bind_wrap (wpAny_holding ?_)
  rw [gc.over]
  refine wpAny_mono hv (fun itv s2 h2 => ?_) fun e s1 hx' => absurd hx' (hx e s1)
  obtain ⟨it, fp, tn, Jt, H2, rfl, I2, T, st2, f2, W2, ρ2, items, le2, sok2, itk, hlen, hno, hl⟩ := h2
  rw [Sem.bind_eq_wrap', Sem.wrap_wrap]
  refine seg_runOwn fun p => ?_
  have gl : ∀ c', c'.weight = 0 → c'.cUnits = 0 → ∀ k l kp, GCc Z A c' (.ret k none (gd false) l c p kp :: fs) id := fun c' hw hu k l kp => ⟨(over_loop hw hu).trans gc.over, by
      show (splitAtGen fs).map _ = none
      rw [gc.split]; rfl, by
      show (gd false || fs.any Frame.guarded) = false
      rw [gc.gd, gc.guard]; rfl, rfl⟩
  have no := noOw_of hno
  have gs2 : GSt O TB Z G W0 ca C cp ip (wipe σ own2) H2 W2 (wipeD ρ2 own2) st s2 := ⟨hs.ad, I2.weak (wipe_length σ own2) fun j v e => (wipe_some e).1, sok2.wiped no own2, hs.le.trans le2, C.mono le2 hs.coh⟩
  have noW : noOw (wipeD ρ2 own2) := fun i d e => by
    rcases wipeD_get e with ⟨z, _⟩ | ⟨z, _⟩
    · cases z
    · exact no i d z
  refine seg_start21 (fun A Q E h => T.self A 0 s2 Q E st2 h) ?_
  refine gl_loop (m0 := m') (J := Jt) (Q := Q) (G := G) (W0 := W0) (WL := W2) (ca := ca) (ip := ip) (ρL := wipeD ρ2 own2) (σL := wipe σ own2) (HL := H2) (own := own2) (bd := bdEl C el) den_21 rfl hc hx hg ht (gb_el he hx hco) T
    (gl _ rfl rfl _ _ _) hca hip (fun b hb hm => ?_) (fun b hb p hp => (f2 b hb).2.2.2.2.2 p (List.mem_append_right _ (List.mem_append_right _ hp))) (fun b hb => ⟨(f2 b hb).2.2.2.1, (f2 b hb).2.1, (f2 b hb).2.2.1, (f2 b hb).2.2.2.2.1, fun p hp => (f2 b hb).2.2.2.2.2 p (List.mem_append_left _ hp)⟩)
    (fun a o e => by cases e) itk (WLe.refl _) (sok2.wiped no own2) noW (wipe_wipe σ own2) (fun n' s₀' s' cp' H' W' st' hn' hat' hs' le' q' => ?_) items 0 n s₀ s2 cp H2 W2 st (List.drop_zero) (Nat.zero_le _) (by rw [Nat.mul_one]; omega) hat gs2 (WLe.refl _) st2 (fun b hb => (f2 b hb).1) hl
  · rw [← hs.ad] at hm
    obtain ⟨p, hp, e⟩ := List.mem_map.mp hm
    exact (f2 b hb).2.2.2.2.2 p (List.mem_append_right _ (List.mem_append_left _ hp)) e
  · exact seg_leaf (.ok .next) (hk n' s₀' s' cp' _ H' W' _ st' hn' (wipe_sub σ own2 own hsub) hat' hs' (le2.trans le') q')
end
end TC

/-! Generator expressions: one is made. -/
namespace TC
open PySem PySem.Spec PyProof.Rows L2 GenW

theorem eval_Gen (elt target iter : Expr) (ifs : List Expr) (gs : List Comprehension) (scope : Scope) (pos : Pos) (env : Env) (hco : scope.isCoroutine = false) :
    eval (.GeneratorExp elt (⟨target, iter, ifs, 0⟩ :: gs) scope pos) env = (do
      let x ← eval iter env
      standAt iter.pos
      let x ← genFold iter env x
      let it ← holding [x] (pyIter x)
      enterFrame
      let cl ← closureFor scope env
      let code ← genexprCode env pos (env.qual ++ "<genexpr>") scope
      let bi ← builtinsFor env.globals env.builtins
      let cenv ← newFunctionEnv scope env.globals cl [(".0", it)] (env.qual ++ "<genexpr>.") none code none bi
      newGenerator (.compStart (.GeneratorExp elt (⟨target, iter, ifs, 0⟩ :: gs) scope pos) 0 it .none cenv) "<genexpr>" (env.qual ++ "<genexpr>")) := by
  rw [arm_eval_GeneratorExp]
  simp only [hco, Bool.false_eq_true, if_false]
  cases iter <;> rfl

/-- what a clause's turn does, for any consumer -/
abbrev BdG := (α : Type) → (α → D → (α → Prop) → Prop) → BdT α
def bdE (el : EvT) : BdG := fun α em ρ st Q => el ρ fun r ρ3 => settle r ρ3 fun d _ => em st d Q
def bdN (own : List Nat) (iv : IvT) (g : GtT) (ts : TvT) (bd : BdG) : BdG := fun α em => bdIn own iv g ts (bd α em)

/-- the loop of a generator expression's code starts: by the form of its clauses -/
structure GForm (O : ObjI) (TB : List Addr) (Z : Cx) (e : Expr) (it : Addr) (own : List Nat) (tg : Expr) (g : GtT) (ts : TvT) (bd : BdG) (m : Nat) : Prop where
  run : ∀ {α : Type} (C : Con α) {J : It} {fp : List Addr} {tn : Nat → Heap → Prop} {items : List D} {gg : Hp} {Wi : Wd} {A : Around} {G : Kp} {W0 WL : Wd} {ca : List Addr} {ρL : Rho} {σL : L2.St} {HL : Hp} {n : Nat} {s₀ s : Shared} {cp : List (Addr × Obj)} {st : α},
    Turn Z.prog Z.w Z.K tg J fp it tn → A.deeper Z.env = Z.A → CaOk Z ca → (∀ b ∈ fp, b ∉ ca) → (∀ b ∈ fp, (b ∈ Z.ex ∨ Z.s_0.heap.objs.size ≤ b) ∧ b ≠ Z.env.locals ∧ b ∉ Z.fs ∧ (∀ x c, Z.env.cells.lookup x = some c → c ≠ b) ∧ ∀ p ∈ Z.pn, p.1 ≠ b) →
    (∀ a o, gg a = some o → G.g a = some o) → ItOk O TB J gg Wi items → WLe Wi WL → noOw ρL → wipe σL own = σL → items.length * m ≤ n → At cp s₀ → GSt O TB Z G W0 ca C cp [] σL HL WL ρL st s → tn 0 s.heap → (∀ b ∈ fp, HL b = none) → loopD g ts (bd α C.em) ρL items st C.dn →
    Seg (model Z.prog Z.w) A (gE O TB Z G W0 ca C) (gY O TB Z G W0 ca C) n s₀ (.compStart e 0 (.ref it) .none Z.env) ((model Z.prog Z.w).den (.compStart e 0 (.ref it) .none Z.env)) [] s
section
variable {O : ObjI} {TB : List Addr} {Z : Cx} {own own2 : List Nat} {tg iter elt : Expr} {ifs : List Expr} {scope : Scope} {pos : Pos} {it : Addr} {g g2 : GtT} {ts ts2 : TvT} {el : EvT} {iv2 : IvT}
theorem gform1 (hc : Z.calm = true) (hx : ∀ e s, ¬ Z.xe e s) (hco : Z.env.scope.isCoroutine = false) (hg : DG O TB Z own tg g) (ht : DTs O TB Z ifs ts) (he : DE O TB Z elt el) :
    GForm O TB Z (.GeneratorExp elt [⟨tg, iter, ifs, 0⟩] scope pos) it own tg g ts (bdE el) 1 := by
  refine ⟨fun {α} C {J fp tn items gg Wi A G W0 WL ca ρL σL HL n s₀ s cp st} T hA hca hfa hfz hgg itk leI no hw hn hat gs htn hfn hl => ?_⟩
  refine seg_start1 (fun A Q E h => T.self A 0 s Q E htn h) ?_
  refine gl_loop (C := C) (A := A) (fs := []) (m0 := 0) (Q := C.dn) (ip := []) (own := own) (bd := bdEl C el) den_1 rfl hc hx hg ht (gb_el he hx hco) T ⟨hA, rfl, rfl, rfl⟩ hca (fun p hp => by cases hp) hfa (fun b hb p hp => by cases hp) hfz hgg itk leI gs.sok no hw
    (fun n' s₀' s' cp' H' W' st' hn' hat' hs' le' q' => ?_) items 0 n s₀ s cp HL WL st List.drop_zero (Nat.zero_le _) (Nat.le_trans (Nat.le_of_eq (Nat.add_zero _)) hn) hat gs (WLe.refl _) htn hfn hl
  exact seg_end (.ok .next) (.inl ⟨.inr rfl, cp', σL, H', W', ρL, st', hat', hs', q'⟩)
theorem gform2 {tg2 iter2 : Expr} {ifs2 : List Expr} (hc : Z.calm = true) (hx : ∀ e s, ¬ Z.xe e s) (hco : Z.env.scope.isCoroutine = false) (hsub : ∀ i ∈ own2, i ∈ own) (hg : DG O TB Z own tg g) (ht : DTs O TB Z ifs ts) (hi : DI O TB Z tg2 iter2 iv2) (hg2 : DG O TB Z own2 tg2 g2) (ht2 : DTs O TB Z ifs2 ts2) (he : DE O TB Z elt el)
    (hfo : ∀ x, foldedSetIterable iter2 Z.env x = pure x) :
    GForm O TB Z (.GeneratorExp elt [⟨tg, iter, ifs, 0⟩, ⟨tg2, iter2, ifs2, 0⟩] scope pos) it own tg g ts (bdN own2 iv2 g2 ts2 (bdE el)) sizeLine := by
  refine ⟨fun {α} C {J fp tn items gg Wi A G W0 WL ca ρL σL HL n s₀ s cp st} T hA hca hfa hfz hgg itk leI no hw hn hat gs htn hfn hl => ?_⟩
  refine seg_start20 (fun A Q E h => T.self A 0 s Q E htn h) ?_
  refine gl_loop (C := C) (A := A) (fs := []) (m0 := 0) (Q := C.dn) (ip := []) (own := own) (bd := bdIn own2 iv2 g2 ts2 (bdEl C el)) den_20 rfl hc hx hg ht (gb_in hc hx hco hsub hi hg2 ht2 he hfo) T ⟨hA, rfl, rfl, rfl⟩ hca (fun p hp => by cases hp) hfa (fun b hb p hp => by cases hp) hfz hgg itk leI gs.sok no hw
    (fun n' s₀' s' cp' H' W' st' hn' hat' hs' le' q' => ?_) items 0 n s₀ s cp HL WL st List.drop_zero (Nat.zero_le _) (Nat.le_trans (Nat.le_of_eq (Nat.add_zero _)) hn) hat gs (WLe.refl _) htn hfn hl
  exact seg_end (.ok .next) (.inl ⟨.inr rfl, cp', σL, H', W', ρL, st', hat', hs', q'⟩)
end

/-- a generator has been made: as it may be woken, and what is known when it sleeps or is through -/
structure GRdy (O : ObjI) (TB : List Addr) (X : Cx) (pins : List (Addr × Obj)) (σ : L2.St) (k : Nat) (G : Kp) (own : List Nat) (g : GtT) (ts : TvT) (bd : BdG) (m : Nat) (a gn : Nat) (items : List D) (W3 : Wd) (ρ3 : Rho) (s5 : Shared) (Zf : Around → Cx) (G' : Kp) (oa : Obj) : Prop where
  obj : s5.heap.get? a = some oa
  isg : ∀ (h : Heap), h.get? a = some oa → h.IsGen a gn
  pw : ∀ Aw, (Zf Aw).prog = X.prog ∧ (Zf Aw).w = X.w ∧ (Zf Aw).pn = [(a, oa)]
  ca : ∀ Aw ca, (∀ b ∈ ca, s5.heap.objs.size ≤ b) → CaOk (Zf Aw) ca
  back : ∀ {α : Type} (C : Con α) (Aw : Around) (ca : List Addr) (cp ip : List (Addr × Obj)) (σ' : L2.St) (H' : Hp) (W' : Wd) (ρ' : Rho) (st : α) (s' : Shared), GSt O TB (Zf Aw) G' W3 ca C cp ip σ' H' W' ρ' st s' → Inv X pins σ H' s' ∧ SOk O TB G W' ρ3 σ H'
  wake : ∃ gs, s5.gens[gn]? = some gs ∧ ∀ {α : Type} (C : Con α) (Aw : Around) (s'' : Shared) (cp : List (Addr × Obj)) (st : α) (n : Nat), Room (k + 1) Aw → Aw.frames = some X.stack → s''.os = s5.os → AllBare s''.gens → (∀ b o, s5.heap.get? b = some o → s''.heap.get? b = some o) →
    (∀ p ∈ cp, s5.heap.objs.size ≤ p.1 ∧ s''.heap.get? p.1 = some p.2 ∧ ∀ v, p.2.data ≠ .cell v) → C.coh st cp W3 → items.length * m ≤ n → loopD g ts (bd α C.em) (blkR own ρ3) items st C.dn →
    gs.Goes (model X.prog X.w) Aw (gE O TB (Zf Aw) G' W3 (cp.map (·.1)) C) (gY O TB (Zf Aw) G' W3 (cp.map (·.1)) C) n (.send .none) s''
theorem okPn {Z : Cx} {p : List (Addr × Obj)} (h : Z.Ok) : ({ Z with pn := p } : Cx).Ok :=
  ⟨h.mod, h.kind, h.glob, h.blt, h.above, h.inj, h.has, h.cab, h.hd, h.frames, h.stk, h.exf, h.bs, h.bsz, h.noex, h.exfs, h.funs, h.frf⟩
theorem gen_make {O : ObjI} {TB : List Addr} {X : Cx} {c Pt : Addr} {k m : Nat} {elt tg iter : Expr} {ifs : List Expr} {gs : List Comprehension} {scope : Scope} {pos : Pos} {own : List (Str × Nat)} {iv : IvT} {g : GtT} {ts : TvT} {bd : BdG}
    (hr : Room k X.A) (hT : GxR.TabB X.base X.mg c Pt) (hP : Pt ∈ TB) (hcode : X.env.code = .ref c) (hco : scope.isCoroutine = false) (h0 : scope.names.lookup (".0" : Str) = some NameKind.local) (h0n : (".0" : Str) ∉ X.N) (hN : X.N.Nodup) (ok : BlkOk X.N X.env.scope scope own)
    (hi : DIr O TB X tg iter iv) (hs : ∀ x, genFold iter X.env x = pure x)
    (hf : ∀ (s : Shared) (H : Hp) (cl : List (Str × Addr)) (C : Addr) (code : Value) (bi : Addr) (fp : List Addr) (Aw : Around) (pn : List (Addr × Obj)) (it : Addr), Room k (Aw.deeper (gEnv scope cl C code bi X.env)) →
      GForm O TB (gCx X s H scope (gEnv scope cl C code bi X.env) fp Aw pn) (.GeneratorExp elt (⟨tg, iter, ifs, 0⟩ :: gs) scope pos) it (own.map (·.2)) tg g ts bd m)
    {pins : List (Addr × Obj)} {s : Shared} {σ : L2.St} {H : Hp} {G : Kp} {W : Wd} {ρ : Rho} {Qd : List D → Rho → Prop} {Q : Value → Shared → Prop} (I : Inv X pins σ H s) (so : SOk O TB G W ρ σ H) (hq : iv ρ Qd)
    (hQ : ∀ a gn s5 H3 W3 ρ3 items Zf G' oa, Inv X pins σ H3 s5 → SOk O TB G W3 ρ3 σ H3 → WLe W W3 → Fro ρ ρ3 → Qd items ρ3 → GRdy O TB X pins σ k G (own.map (·.2)) g ts bd m a gn items W3 ρ3 s5 Zf G' oa → Q (.ref a) s5) :
    wpAny (model X.prog X.w) X.A (eval (.GeneratorExp elt (⟨tg, iter, ifs, 0⟩ :: gs) scope pos) X.env) Q X.xe s := by
  have hfree : ∀ y ∈ scope.names, y.2 = .free → ∃ c, X.env.cells.lookup y.1 = some c := fun y hy e => by
    rcases ok.free y hy e with k | k
    · exact I.ok.has _ (.inl k)
    · exact I.ok.has _ (.inr k)
  rw [eval_Gen _ _ _ _ _ _ _ _ hco, closure_ok hfree]
  refine wpAny_bind (thn (hi.run pins s σ H (fun J H' => ∃ W' ρ' items gg, WLe W W' ∧ Fro ρ ρ' ∧ SOk O TB G W' ρ' σ H' ∧ (∀ a o, gg a = some o → H' a = some o ∧ W' a = none ∧ (G.g a = some o ∨ ∃ i, Owns ρ' σ i a)) ∧ ItOk O TB J gg W' items ∧ Qd items ρ') I
    ⟨G, W, ρ, Qd, so, hq, fun J H' W' ρ' items gg le fr s' hg it q => ⟨W', ρ', items, gg, le, fr, s', hg, it, q⟩⟩) fun xv s1 hx => ?_)
  refine wpAny_bind (wpAny_standAt (wpAny_bind (wpAny_of_eq (hs xv) (wpAny_bind (wpAny_holding (thn hx fun itv s2 h2 => ?_))))))
  obtain ⟨it, fp, tn, J, H2, rfl, I2, T, st2, f2, W2, ρ2, items, gg, le2, fr2, sok2, hgg, itk, q2⟩ := h2
  refine wpAny_bind (wpAny_enterFrame I2.nolimit (by have := hr.dp; omega) (wpAny_bind (wpAny_pure (wpAny_bind ?_))))
  have hWP : W2 Pt = some TblP := sok2.w.tb Pt hP
  obtain ⟨_, hHP, ps, rfl, ht⟩ := sok2.w.at_ Pt _ hWP
  have hPs : s2.heap.get? Pt = some { cls := .none, data := .fields ps } := I2.hok Pt _ hHP
  have hPlt : Pt < s2.heap.objs.size := Heap.lt_size hPs
  have cd : PySem.W.CodeHd s2.heap c Pt := hT.code.keeps fun b u e => I2.bk b u e
  have ltH : ∀ b o, H2 b = some o → b < s2.heap.objs.size := fun b o e => Nat.lt_of_not_le fun z => by rw [I2.hok.fresh z] at e; cases e
  have cont : ∀ (code : Value) (h3 : Heap) (tk : Nat) (H3 : Hp) (W3 : Wd), Heap.ExtBut Pt s2.heap h3 → s2.heap.objs.size ≤ h3.objs.size → Inv X pins σ H3 { s2 with heap := h3, toks := tk } → WOk TB W3 H3 → WLe W2 W3 → (∀ b, b ≠ Pt → b < s2.heap.objs.size → H3 b = H2 b) → (∀ b o, H2 b = some o → W2 b = none → W3 b = none) →
      wpAny (model X.prog X.w) X.A (builtinsFor X.env.globals X.env.builtins >>= fun bi => newFunctionEnv scope X.env.globals (cloFrom X.env.cells scope.names []) [(".0", .ref it)] (X.env.qual ++ "<genexpr>.") none code none bi >>= fun cenv =>
        newGenerator (.compStart (.GeneratorExp elt (⟨tg, iter, ifs, 0⟩ :: gs) scope pos) 0 (.ref it) .none cenv) "<genexpr>" (X.env.qual ++ "<genexpr>")) Q X.xe { s2 with heap := h3, toks := tk } := by
    intro code h3 tk H3 W3 hx hsz I3 wok3 le23 H3ne W3n
    obtain ⟨bm, ob, e1, e2, e3, e4, e5, e6, e7, e8⟩ := hT.bm
    have keep3 : ∀ b u, b ≠ Pt → s2.heap.get? b = some u → h3.get? b = some u := fun b u hb e => hx b u hb e
    refine wpAny_bind (wpAny_builtinsFor (m := X.mg) (by rw [I2.ok.glob]; exact (I2.mod.glob.keeps I2.bk).extBut hx hT.gP) e1 e2 (keep3 _ _ e4 (I2.bk _ _ e5)) e6 e7 e8 ?_)
    have nW : ∀ b, W2 b = none → b ≠ Pt := fun b e z => by rw [z, hWP] at e; cases e
    have sok3 : SOk O TB G W3 ρ2 σ H3 := sok2.keep le23 wok3 fun b o e1 e2 _ => ⟨by rw [H3ne b (nW b e2) (ltH b o e1)]; exact e1, W3n b o e1 e2⟩
    generalize hs3 : ({ s2 with heap := h3, toks := tk } : Shared) = s3 at I3
    have h3e : s3.heap = h3 := by rw [← hs3]
    have sz : ∀ b ∈ fp, b < s2.heap.objs.size := fun b hb => by
      obtain ⟨o, e, _⟩ := T.obj _ _ st2 b hb
      exact Heap.lt_size e
    have fpP : ∀ b ∈ fp, b ≠ Pt := fun b hb z => by
      have := (f2 b hb).1
      rw [z, hHP] at this; cases this
    have f3 : ∀ b ∈ fp, FpOk X pins H3 b ∧ b < s3.heap.objs.size := fun b hb => ⟨⟨by rw [H3ne b (fpP b hb) (sz b hb)]; exact (f2 b hb).1, (f2 b hb).2⟩, by rw [h3e]; exact Nat.lt_of_lt_of_le (sz b hb) hsz⟩
    have st3 : tn 0 s3.heap := T.keep _ _ _ st2 fun b hb o e => by rw [h3e]; exact keep3 b o (fpP b hb) e
    refine wpAny_bind (gEnv_make h0 ok.kind fun h' hns hsb tk' => ?_)
    generalize hce : gEnv scope (cellsFrom (s3.heap.objs.size + 1) scope.names (cloFrom X.env.cells scope.names [])) s3.heap.objs.size code builtinsNs X.env = cenv
    have mk : ∀ Aw : Around, Aw.frames = some X.stack → Aw.handled = none → Inv (gCx X s3 H3 scope cenv fp Aw []) [] (wipe σ (own.map (·.2))) H3 { s3 with heap := h', toks := tk' } := fun Aw hA hh => by
      rw [← hce]
      exact gblock I3 ok hN f3 rfl hA hh h0n hns hsb
    generalize hs4 : ({ s3 with heap := h', toks := tk' } : Shared) = s4 at mk
    have h4e : s4.heap = h' := by rw [← hs4]
    have I4 := mk X.A I2.ok.frames hr.hd
    have s34 : s3.heap.objs.size < s4.heap.objs.size := by
      have : s3.heap.objs.size = cenv.locals := by rw [← hce]; rfl
      have l := I4.lt
      exact Nat.lt_of_le_of_lt (Nat.le_of_eq this) l
    have k34 : ∀ b o, s3.heap.get? b = some o → s4.heap.get? b = some o := fun b o e => by
      rw [h4e]
      exact (hsb.2 b (Nat.ne_of_lt (Heap.lt_size e))).trans (pushCells_keeps _ _ _ _ (Heap.get?_push_of_some _ e))
    show wpAny _ _ (newGenerator (.compStart (.GeneratorExp elt (⟨tg, iter, ifs, 0⟩ :: gs) scope pos) 0 (.ref it) .none _) "<genexpr>" (X.env.qual ++ "<genexpr>")) _ _ _
    simp only [newGenerator, newFields]
    refine wpAny_bind (wpAny_newGen (wpAny_bind (wpAny_mkText (wpAny_bind (wpAny_mkText (wpAny_newObj_type ?_ (by size_fits)))))))
    have sfin : ∀ s5 : Shared, s5.os = s4.os → s5.gens = s4.gens.push (.fresh (.compStart (.GeneratorExp elt (⟨tg, iter, ifs, 0⟩ :: gs) scope pos) 0 (.ref it) .none cenv)) → (∃ n1 n2 t1 t2, s5.heap = s4.heap.push { cls := .type "generator", data := .fields #[.int s4.gens.size 0, .str n1 t1, .str n2 t2] }) → Q (.ref s4.heap.objs.size) s5 := by
      intro s5 hos hge ⟨n1, n2, t1, t2, hhe⟩
      have k45 : ∀ b o, s4.heap.get? b = some o → s5.heap.get? b = some o := fun b o e => by rw [hhe]; exact Heap.get?_push_of_some _ e
      have hb5 : AllBare s5.gens := by rw [hge]; exact I4.bare.push rfl
      have sz5 : s5.heap.objs.size = s4.heap.objs.size + 1 := by rw [hhe]; exact Heap.size_push ..
      have hoa : s5.heap.get? s4.heap.objs.size = some { cls := .type "generator", data := .fields #[.int s4.gens.size 0, .str n1 t1, .str n2 t2] } := by rw [hhe]; exact Heap.get?_push_size _ rfl
      have I5 : Inv X pins σ H3 s5 := by
        have z := Inv.woke (Z := X) (cp := []) (cp' := []) (ip := pins) (s' := s5) I3 ⟨by simp, by simp, by simp, by simp⟩ (by simp) ⟨by rw [hos, ← hs4], hb5, rfl, fun b o _ e => k45 b o (k34 b o e), by simp⟩
        exact z
      refine hQ _ s4.gens.size s5 H3 W3 ρ2 items (fun Aw => gCx X s3 H3 scope cenv fp Aw [(s4.heap.objs.size, { cls := .type "generator", data := .fields #[.int s4.gens.size 0, .str n1 t1, .str n2 t2] })]) ⟨owG ρ2 σ H3 G, owG ρ2 σ H3 G⟩ { cls := .type "generator", data := .fields #[.int s4.gens.size 0, .str n1 t1, .str n2 t2] } I5 sok3 (le2.trans le23) fr2 q2 ?_
      have caok : ∀ Aw ca, (∀ b ∈ ca, s5.heap.objs.size ≤ b) → CaOk (gCx X s3 H3 scope cenv fp Aw [(s4.heap.objs.size, { cls := .type "generator", data := .fields #[.int s4.gens.size 0, .str n1 t1, .str n2 t2] })]) ca := fun Aw ca h => by
        refine ⟨fun b hb => ?_, fun b hb => ?_, fun b hb x c' e => ?_, fun b hb p hp => ?_⟩
        · have := h b hb
          show s3.heap.objs.size ≤ b
          omega
        · have l : cenv.locals < s4.heap.objs.size := I4.lt
          exact Nat.ne_of_gt (Nat.lt_of_lt_of_le l (Nat.le_trans (by omega : s4.heap.objs.size ≤ s5.heap.objs.size) (h b hb)))
        · have e : cenv.cells.lookup x = some c' := e
          obtain ⟨v, z⟩ := I4.cell x c' e
          exact Nat.ne_of_lt (Nat.lt_of_lt_of_le z.lt (Nat.le_trans (by omega : s4.heap.objs.size ≤ s5.heap.objs.size) (h b hb)))
        · have e : p = (s4.heap.objs.size, _) := List.mem_singleton.mp hp
          rw [e]
          have := h b hb
          show s4.heap.objs.size ≠ b
          omega
      refine ⟨hoa, fun h e => ⟨_, _, _, e, rfl, rfl, rfl⟩, fun Aw => ⟨rfl, rfl, rfl⟩, caok, ?_, ?_⟩
      · intro α C Aw ca cp ip σ' H' W' ρ' st s' gs'
        have J := gs'.inv
        have I6 : Inv X pins σ H' s' := I3.call' (ch := fp) J.os J.base J.hok J.bare fun b hb => ⟨(f3 b hb).1.2.2.2.1, (f3 b hb).1.2.1, (f3 b hb).1.2.2.2.2.1, (f3 b hb).1.2.2.2.2.2⟩
        exact ⟨I6, sok3.unblock gs'.le gs'.sok.w fun a o e => gs'.sok.g a o e⟩
      · refine ⟨_, by rw [hge]; exact Array.getElem?_push_size .., ?_⟩
        intro α C Aw s'' cp st n hrA hfA hos'' hb'' hk'' hcp hcoh hn hl
        refine ⟨rfl, ?_⟩
        have I4' := mk Aw hfA hrA.hd
        have J0 : Inv (gCx X s3 H3 scope cenv fp Aw []) [] (wipe σ (own.map (·.2))) H3 s'' := by
          have z := Inv.woke (cp := []) (cp' := []) (ip := []) (s' := s'') I4' ⟨by simp, by simp, by simp, by simp⟩ (by simp) ⟨by rw [hos'', hos], hb'', rfl, fun b o _ e => hk'' b o (k45 b o e), by simp⟩
          exact z
        have fresh : ∀ b, s4.heap.objs.size ≤ b → H3 b = none ∧ b ≠ cenv.locals ∧ b ∉ frs X.stack := fun b hb => ⟨I4'.hok.fresh hb, fun e => by
          have l : cenv.locals < s4.heap.objs.size := I4'.lt
          rw [e] at hb
          exact absurd (Nat.lt_of_lt_of_le l hb) (Nat.lt_irrefl _), I4'.nofs hb⟩
        have J1 : Inv (gCx X s3 H3 scope cenv fp Aw [(s4.heap.objs.size, { cls := .type "generator", data := .fields #[.int s4.gens.size 0, .str n1 t1, .str n2 t2] })]) (cp ++ []) (wipe σ (own.map (·.2))) H3 s'' := by
          refine ⟨okPn J0.ok, J0.os, J0.bare, J0.base, J0.loc, J0.cell, J0.free, J0.freeC, fun p hp => ?_, J0.hok, J0.len⟩
          rcases List.mem_append.mp hp with hp | hp
          · have e : p = (s4.heap.objs.size, _) := List.mem_singleton.mp hp
            subst e
            obtain ⟨z1, z2, z3⟩ := fresh s4.heap.objs.size (Nat.le_refl _)
            exact ⟨hk'' _ _ hoa, z1, z2, z3, fun v z => by cases z⟩
          · rw [List.append_nil] at hp
            obtain ⟨y1, y2, y3⟩ := hcp p hp
            obtain ⟨z1, z2, z3⟩ := fresh p.1 (by omega)
            exact ⟨y2, z1, z2, z3, y3⟩
        have hca := caok Aw (cp.map (·.1)) (fun b hb => by
          obtain ⟨p, hp, e⟩ := List.mem_map.mp hb
          rw [← e]; exact (hcp p hp).1)
        have fpl : ∀ b ∈ fp, b < s3.heap.objs.size := fun b hb => (f3 b hb).2
        have form := hf s3 H3 (cellsFrom (s3.heap.objs.size + 1) scope.names (cloFrom X.env.cells scope.names [])) s3.heap.objs.size code builtinsNs fp Aw [(s4.heap.objs.size, { cls := .type "generator", data := .fields #[.int s4.gens.size 0, .str n1 t1, .str n2 t2] })] it (hrA.deeper _)
        rw [hce] at form
        refine form.run C (J := J) (fp := fp) (tn := tn) (items := items) (gg := gg) (Wi := W2) T rfl hca (fun b hb hm => ?_) (fun b hb => ?_) (fun a o e => ?_) itk le23 noOw_blk (wipe_wipe σ _) hn (fun p hp => (hcp p hp).2.1) ⟨rfl, J1, sok3.block _, WLe.refl _, hcoh⟩ (T.keep _ _ _ st3 fun b hb o e => hk'' b o (k45 b o (k34 b o e))) (fun b hb => (f3 b hb).1.1) hl
        · have h9 : s3.heap.objs.size ≤ b := hca.yg b hm
          exact absurd (Nat.lt_of_lt_of_le (fpl b hb) h9) (Nat.lt_irrefl _)
        · refine ⟨.inl hb, (J0.ok.exf b hb).1, J0.ok.exfs b hb, fun x c' e => (J0.ok.exf b hb).2 x c' e, fun p hp => ?_⟩
          have e : p = (s4.heap.objs.size, _) := List.mem_singleton.mp hp
          rw [e]
          exact Nat.ne_of_gt (Nat.lt_trans (fpl b hb) s34)
        · obtain ⟨y1, y2, y3⟩ := hgg a o e
          show owG ρ2 σ H3 G a = some o
          rcases y3 with y3 | ⟨j, y3⟩
          · exact owG_sub y3
          · unfold owG
            rw [sok3.og j a y3]
            simp only
            rw [if_pos ⟨j, y3⟩, H3ne a (nW a y2) (ltH a o y1)]
            exact y1
    exact sfin _ rfl rfl ⟨_, _, _, _, rfl⟩
  cases hfc : codeAmong pos ps.toList with
  | none =>
    refine wpAny_genexprCodeX hcode (cd.code hPs ht) (cd.tab hPs) hfc fun c' h' tk hx hge hlt hco' hrec' htab' _ => ?_
    obtain ⟨o1, vs, f1, tf, fl, tgx, inF, tx, tt, op, _, _, _, _, _, _, _, _, _, htr, _⟩ := hco'
    obtain ⟨c2, oc, vs2, t2, e2, hoc, hdc, hvc⟩ := hrec'
    cases e2
    have I3 := LamX.inv_table (t' := tk) (more := #[rawInt pos.line, rawInt pos.col, .ref c']) I2 hHP (fun b o hb e => hx b o hb e) htab'.2 hge ⟨oc, vs2, t2, hoc, hdc, hvc⟩
    have nC : H2 c' = none := I2.hok.fresh hge
    have nWc : W2 c' = none := sok2.w.none_of nC
    have nPc : Pt ≠ c' := ne_of_none hHP nC
    refine cont _ h' tk _ (wup W2 c' (CdP c')) hx (Nat.le_trans hge (Nat.le_of_lt hlt)) I3 ⟨fun b P e => ?_, fun P hP' => ?_, fun P hP' ps'' e pos' cv hc => ?_⟩ (fun b P e => ?_) (fun b hb hl => ?_) (fun b o e1 e2 => ?_)
    · by_cases hb : b = c'
      · subst hb
        rw [wup_same] at e; cases e
        exact ⟨_, upd_same, _, rfl⟩
      · rw [wup_ne hb] at e
        rw [upd_ne hb]
        by_cases hb2 : b = Pt
        · subst hb2
          rw [hWP] at e; cases e
          exact ⟨_, upd_same, _, rfl, htr⟩
        · rw [upd_ne hb2]; exact sok2.w.at_ b P e
    · have z := sok2.w.tb P hP'
      rw [wup_ne (fun q => by subst q; rw [nWc] at z; cases z)]; exact z
    · have z := sok2.w.tb P hP'
      have n1 : P ≠ c' := fun q => by subst q; rw [nWc] at z; cases z
      rw [upd_ne n1] at e
      have old : (∃ ps0, H2 P = some (.tbl ps0) ∧ codeAmong pos' ps0.toList = some cv) → ∃ c, cv = .ref c ∧ wup W2 c' (CdP c') c = some (CdP c) := fun ⟨ps0, h1, h2⟩ => by
        obtain ⟨c, k1, k2⟩ := sok2.w.cd P hP' ps0 h1 pos' cv h2
        exact ⟨c, k1, by rw [wup_ne (fun q => by subst q; rw [nWc] at k2; cases k2)]; exact k2⟩
      by_cases hb : P = Pt
      · subst hb
        rw [upd_same] at e; cases e
        rw [show (ps ++ #[rawInt pos.line, rawInt pos.col, .ref c']).toList = ps.toList ++ [rawInt pos.line, rawInt pos.col, .ref c'] by simp] at hc
        rcases LamX.among_app _ ht hc with h | h
        · exact old ⟨ps, hHP, h⟩
        · exact ⟨c', h, wup_same⟩
      · rw [upd_ne hb] at e
        exact old ⟨ps'', e, hc⟩
    · by_cases hb : b = c'
      · subst hb; rw [nWc] at e; cases e
      · rw [wup_ne hb]; exact e
    · rw [upd_ne (Nat.ne_of_lt (Nat.lt_of_lt_of_le hl hge)), upd_ne hb]
    · rw [wup_ne (ne_of_none e1 nC)]; exact e2
  | some cv =>
    refine wpAny_genexprCode_hit hcode (cd.code hPs ht) hfc ?_
    exact cont cv s2.heap s2.toks H2 W2 (Heap.ExtBut.refl _ _) (Nat.le_refl _) I2 sok2.w (WLe.refl _) (fun _ _ _ => rfl) (fun _ _ _ e => e)
end TC

/-! Generators are drained: next, all, any. -/
namespace TC
open PySem PySem.Spec PyProof.Rows L2 GenW

section
variable {α : Type} (O : ObjI) (TB : List Addr) (P : Program) (w : World) (Aw : Around) (Z : Cx) (G : Kp) (W0 : Wd) (ca : List Addr) (C : Con α) (a gn : Nat) (oa : Obj)
/-- the generator sleeps, n items at most to come -/
def Susp (n : Nat) (s : Shared) : Prop := s.heap.NoLimit ∧ s.heap.get? a = some oa ∧ AllBare s.gens ∧ ∃ gs, s.gens[gn]? = some gs ∧ gs.Goes (model P w) Aw (gE O TB Z G W0 ca C) (gY O TB Z G W0 ca C) n (.send .none) (s.setGen gn .running)
end
section
variable {α : Type} {O : ObjI} {TB : List Addr} {P : Program} {w : World} {Z : Cx} {G : Kp} {W0 : Wd} {ca : List Addr} {C : Con α} {a gn : Nat} {oa : Obj}
theorem gnext {B : Around} {n : Nat} {s : Shared} {Q : Option Value → Shared → Prop} {E : Value → Shared → Prop} (hh : B.handled = none) (hd : B.depth < recursionLimit) (isg : ∀ h : Heap, h.get? a = some oa → h.IsGen a gn) (hpn : Z.pn = [(a, oa)]) (hca : CaOk Z ca)
    (hS : Susp O TB P w B.in1 Z G W0 ca C a gn oa n s)
    (hY : ∀ v s1 cp ip σ H W ρ st d kk x, At cp s → GSt O TB Z G W0 ca C cp ip σ H W ρ st s1 → RelV x v → Rep O W d x → C.em st d kk →
      (∀ cp' st' s', Woke cp cp' s1 s' → s'.gens = s1.gens → C.coh st' cp' W → kk st' → match n with | 0 => False | m + 1 => Susp O TB P w B.in1 Z G W0 ca C a gn oa m s') → Q (some v) s1)
    (hN : ∀ s1 cp σ H W ρ st, At cp s → GSt O TB Z G W0 ca C cp [] σ H W ρ st s1 → C.dn st → Q none s1) : wpAny (model P w) B (pyNext (.ref a)) Q E s := by
  obtain ⟨hl, hoa, hb, gs, hgs, hgo⟩ := hS
  have hgl : gn < s.gens.size := (Array.getElem?_eq_some_iff.mp hgs).1
  refine wpAny_gsz (n := gn + 1) hgl (next_genG (A := B) (Er := fun _ _ => False) hh hl hd (isg _ hoa) hgs hgo (fun v s₁ gs' hbare hv => ?_) (fun s₁ hp h' hk => ?_) fun e s₁ he => he.elim)
  · intro hsz
    obtain ⟨cp, ip, σ, H, W, ρ, st, d, kk, x, hat, gst, rv, rp, em, kap⟩ := hv
    have hsz1 : gn < s₁.gens.size := by
      have q : (s₁.setGen gn gs').gens.size = s₁.gens.size := setGen_size _ _ _
      omega
    have own : ∀ p ∈ cp, s₁.heap.get? p.1 = some p.2 ∧ ∀ v, p.2.data ≠ .cell v := fun p hp => by
      have z := gst.inv.pin p (List.mem_append_right _ (List.mem_append_left _ hp))
      exact ⟨z.1, z.2.2.2.2⟩
    have hipca : ∀ p ∈ ip, p.1 ∉ cp.map (·.1) → True := fun _ _ _ => trivial
    have J : Inv Z (cp ++ ip) σ H (s₁.setGen gn gs') := by
      have z := gst.inv
      have y := Inv.woke (cp := []) (cp' := []) (ip := cp ++ ip) (s' := s₁.setGen gn gs') z ⟨by simp, by simp, by simp, by simp⟩ (by simp) ⟨rfl, allBare_setGen z.bare hbare, rfl, fun b o _ e => e, by simp⟩
      exact y
    refine hY v _ cp ip σ H W ρ st d kk x hat ⟨gst.ad, J, gst.sok, gst.le, gst.coh⟩ rv rp em fun cp' st' s' wk hge hc hst => ?_
    have K := kap cp' st' (s'.setGen gn .running) ⟨wk.os, allBare_setGen wk.bare rfl, wk.adr, wk.keep, wk.own⟩ hc hst
    cases n with
    | zero => exact K
    | succ m =>
      have hpin := J.pin (a, oa) (List.mem_append_left _ (by rw [hpn]; exact List.mem_singleton.mpr rfl))
      have hna : a ∉ cp.map (·.1) := fun hm => by
        rw [gst.ad] at hm
        exact hca.pn a hm (a, oa) (by rw [hpn]; exact List.mem_singleton.mpr rfl) rfl
      have hnc : ∀ o, (s₁.setGen gn gs').heap.get? cStatics = some o → s'.heap.get? cStatics = some o := fun o e => by
        refine wk.keep _ o (fun hm => ?_) e
        rw [gst.ad] at hm
        have h1 := hca.yg _ hm
        obtain ⟨mc, hns, _⟩ := J.ok.mod.nolimit
        have h2 := Nat.lt_of_lt_of_le hns.lt J.ok.bsz
        exact absurd (Nat.lt_of_lt_of_le h2 h1) (Nat.lt_irrefl _)
      refine ⟨?_, wk.keep _ _ hna hpin.1, wk.bare, gs', ?_, K⟩
      · obtain ⟨mc, hns, hnn⟩ := J.nolimit
        exact ⟨mc, hns.at' hnc, hnn⟩
      · rw [hge]
        exact setGen_at hsz1
  · intro hsz
    obtain ⟨cp, σ, H, W, ρ, st, hat, gst, dn⟩ := hp
    have J : Inv Z (cp ++ []) σ H { s₁.setGen gn .finished with heap := h' } := by
      have z := gst.inv
      have y := Inv.woke (cp := []) (cp' := []) (ip := cp ++ []) (s := s₁) (s' := { s₁.setGen gn .finished with heap := h' }) z ⟨by simp, by simp, by simp, by simp⟩ (by simp) ⟨rfl, allBare_setGen z.bare rfl, rfl, fun b o _ e => hk b o e, by simp⟩
      exact y
    exact hN _ cp σ H W ρ st hat ⟨gst.ad, J, gst.sok, gst.le, gst.coh⟩ dn

/-! ### all, any -/
def bEm (q : Bool) (Qq : Prop) : Unit → D → (Unit → Prop) → Prop := fun _ d k => match d with
  | .bl b => if b = q then Qq else k ()
  | _ => False
/-- q: the answer that ends it -/
def bCon (q : Bool) (Qq Qn : Prop) : Con Unit where
  coh := fun _ cp _ => cp = []
  em := bEm q Qq
  dn := fun _ => Qn
  mono := fun _ h => h
theorem all_loop {A : Around} {R : Result → Shared → Prop} {Qf Qt : Prop} (hh : A.handled = none) (hd : A.in1.depth < recursionLimit) (isg : ∀ h : Heap, h.get? a = some oa → h.IsGen a gn) (hpn : Z.pn = [(a, oa)]) (hca : CaOk Z ca)
    (hR : ∀ b cp ip σ H W ρ s1, GSt O TB Z G W0 ca (bCon false Qf Qt) cp ip σ H W ρ () s1 → (if b = true then Qt else Qf) → R (.ok (.ret (.bool b))) s1) :
    ∀ (n : Nat) (s : Shared), Susp O TB P w A.in1.in1 Z G W0 ca (bCon false Qf Qt) a gn oa n s → codeAny (model P w) A (.builtin "all.loop" ⟨[.ref a], []⟩) R s := by
  intro n
  induction n with
  | zero =>
    intro s hS
    refine codeAny_builtin F.entry_all_loop ?_
    rw [Around.under_plainId F.plain_all_loop _]
    show wpAny _ A.in1 (pyNext (.ref a) >>= _) _ _ s
    refine wpAny_bind (gnext hh hd isg hpn hca hS (fun v s1 cp ip σ H W ρ st d kk x _ gst rv rp em next => ?_) fun s1 cp σ H W ρ st _ gst dn => ?_)
    · cases d with
      | bl b =>
        cases rp
        obtain rfl : v = .bool b := rv
        refine wpAny_bind (wpAny_holding (wpAny_truthy_bool ?_))
        refine wpAny_bind (wpAny_letGo ?_)
        cases b with
        | true => exact (next cp () s1 ⟨rfl, gst.inv.bare, rfl, fun _ _ _ e => e, fun p hp => by
            have z := gst.inv.pin p (List.mem_append_right _ (List.mem_append_left _ hp))
            exact ⟨z.1, z.2.2.2.2⟩⟩ rfl gst.coh em).elim
        | false =>
          simp only [Bool.false_eq_true, if_false]
          refine wpAny_bind (wpAny_rule (wpAny_pure ?_))
          exact hR false cp ip σ H W ρ s1 gst em
      | _ => exact em.elim
    · refine wpAny_bind (wpAny_rule (wpAny_pure ?_))
      exact hR true cp [] σ H W ρ s1 gst dn
  | succ n ih =>
    intro s hS
    refine codeAny_builtin F.entry_all_loop ?_
    rw [Around.under_plainId F.plain_all_loop _]
    show wpAny _ A.in1 (pyNext (.ref a) >>= _) _ _ s
    refine wpAny_bind (gnext hh hd isg hpn hca hS (fun v s1 cp ip σ H W ρ st d kk x _ gst rv rp em next => ?_) fun s1 cp σ H W ρ st _ gst dn => ?_)
    · cases d with
      | bl b =>
        cases rp
        obtain rfl : v = .bool b := rv
        refine wpAny_bind (wpAny_holding (wpAny_truthy_bool ?_))
        refine wpAny_bind (wpAny_letGo ?_)
        cases b with
        | true =>
          simp only [if_true]
          refine wpAny_pure ⟨plainId_quiet F.plain_all_loop _, ih s1 ?_⟩
          exact next cp () s1 ⟨rfl, gst.inv.bare, rfl, fun _ _ _ e => e, fun p hp => by
            have z := gst.inv.pin p (List.mem_append_right _ (List.mem_append_left _ hp))
            exact ⟨z.1, z.2.2.2.2⟩⟩ rfl gst.coh em
        | false =>
          simp only [Bool.false_eq_true, if_false]
          refine wpAny_bind (wpAny_rule (wpAny_pure ?_))
          exact hR false cp ip σ H W ρ s1 gst em
      | _ => exact em.elim
    · refine wpAny_bind (wpAny_rule (wpAny_pure ?_))
      exact hR true cp [] σ H W ρ s1 gst dn
theorem any_loop {A : Around} {R : Result → Shared → Prop} {Qf Qt : Prop} (hh : A.handled = none) (hd : A.in1.depth < recursionLimit) (isg : ∀ h : Heap, h.get? a = some oa → h.IsGen a gn) (hpn : Z.pn = [(a, oa)]) (hca : CaOk Z ca)
    (hR : ∀ b cp ip σ H W ρ s1, GSt O TB Z G W0 ca (bCon true Qt Qf) cp ip σ H W ρ () s1 → (if b = true then Qt else Qf) → R (.ok (.ret (.bool b))) s1) :
    ∀ (n : Nat) (s : Shared), Susp O TB P w A.in1.in1 Z G W0 ca (bCon true Qt Qf) a gn oa n s → codeAny (model P w) A (.builtin "any.loop" ⟨[.ref a], []⟩) R s := by
  intro n
  induction n with
  | zero =>
    intro s hS
    refine codeAny_builtin F.entry_any_loop ?_
    rw [Around.under_plainId F.plain_any_loop _]
    show wpAny _ A.in1 (pyNext (.ref a) >>= _) _ _ s
    refine wpAny_bind (gnext hh hd isg hpn hca hS (fun v s1 cp ip σ H W ρ st d kk x _ gst rv rp em next => ?_) fun s1 cp σ H W ρ st _ gst dn => ?_)
    · cases d with
      | bl b =>
        cases rp
        obtain rfl : v = .bool b := rv
        refine wpAny_bind (wpAny_holding (wpAny_truthy_bool ?_))
        refine wpAny_bind (wpAny_letGo ?_)
        cases b with
        | false => exact (next cp () s1 ⟨rfl, gst.inv.bare, rfl, fun _ _ _ e => e, fun p hp => by
            have z := gst.inv.pin p (List.mem_append_right _ (List.mem_append_left _ hp))
            exact ⟨z.1, z.2.2.2.2⟩⟩ rfl gst.coh em).elim
        | true =>
          simp only [if_true]
          refine wpAny_bind (wpAny_rule (wpAny_pure ?_))
          exact hR true cp ip σ H W ρ s1 gst em
      | _ => exact em.elim
    · refine wpAny_bind (wpAny_rule (wpAny_pure ?_))
      exact hR false cp [] σ H W ρ s1 gst dn
  | succ n ih =>
    intro s hS
    refine codeAny_builtin F.entry_any_loop ?_
    rw [Around.under_plainId F.plain_any_loop _]
    show wpAny _ A.in1 (pyNext (.ref a) >>= _) _ _ s
    refine wpAny_bind (gnext hh hd isg hpn hca hS (fun v s1 cp ip σ H W ρ st d kk x _ gst rv rp em next => ?_) fun s1 cp σ H W ρ st _ gst dn => ?_)
    · cases d with
      | bl b =>
        cases rp
        obtain rfl : v = .bool b := rv
        refine wpAny_bind (wpAny_holding (wpAny_truthy_bool ?_))
        refine wpAny_bind (wpAny_letGo ?_)
        cases b with
        | false =>
          simp only [Bool.false_eq_true, if_false]
          refine wpAny_pure ⟨plainId_quiet F.plain_any_loop _, ih s1 ?_⟩
          exact next cp () s1 ⟨rfl, gst.inv.bare, rfl, fun _ _ _ e => e, fun p hp => by
            have z := gst.inv.pin p (List.mem_append_right _ (List.mem_append_left _ hp))
            exact ⟨z.1, z.2.2.2.2⟩⟩ rfl gst.coh em
        | true =>
          simp only [if_true]
          refine wpAny_bind (wpAny_rule (wpAny_pure ?_))
          exact hR true cp ip σ H W ρ s1 gst em
      | _ => exact em.elim
    · refine wpAny_bind (wpAny_rule (wpAny_pure ?_))
      exact hR false cp [] σ H W ρ s1 gst dn
end

/-- a generator expression: made from X's state -/
def GExp (O : ObjI) (TB : List Addr) (X : Cx) (k : Nat) (e : Expr) (iv : IvT) (own : List Nat) (g : GtT) (ts : TvT) (bd : BdG) (m : Nat) : Prop :=
  ∀ {pins : List (Addr × Obj)} {s : Shared} {σ : L2.St} {H : Hp} {G : Kp} {W : Wd} {ρ : Rho} {Qd : List D → Rho → Prop} {Q : Value → Shared → Prop}, Inv X pins σ H s → SOk O TB G W ρ σ H → iv ρ Qd →
    (∀ a gn s5 H3 W3 ρ3 items Zf G' oa, Inv X pins σ H3 s5 → SOk O TB G W3 ρ3 σ H3 → WLe W W3 → Fro ρ ρ3 → Qd items ρ3 → GRdy O TB X pins σ k G own g ts bd m a gn items W3 ρ3 s5 Zf G' oa → Q (.ref a) s5) → wpAny (model X.prog X.w) X.A (eval e X.env) Q X.xe s
/-- all (q = false), any (q = true) -/
def vAllAny (q : Bool) (iv : IvT) (own : List Nat) (g : GtT) (ts : TvT) (bd : BdG) : EvT := fun ρ Q => iv ρ fun items ρ1 => loopD g ts (bd Unit (bEm q (Q (.fz, .bl q) ρ1))) (blkR own ρ1) items () fun _ => Q (.fz, .bl !q) ρ1
section
variable {O : ObjI} {TB : List Addr} {X : Cx} {k m : Nat} {e : Expr} {iv : IvT} {own : List Nat} {g : GtT} {ts : TvT} {bd : BdG} {p pos : Pos}
theorem susp0 {α : Type} {pins : List (Addr × Obj)} {σ : L2.St} {G : Kp} {a gn : Nat} {items : List D} {W3 : Wd} {ρ3 : Rho} {s5 s6 : Shared} {Zf : Around → Cx} {G' : Kp} {oa : Obj} (C : Con α) (R : GRdy O TB X pins σ k G own g ts bd m a gn items W3 ρ3 s5 Zf G' oa) {Aw : Around} {cp : List (Addr × Obj)} {st : α}
    (hA : Room (k + 1) Aw) (hF : Aw.frames = some X.stack) (os : s6.os = s5.os) (hg : s6.gens = s5.gens) (hb : AllBare s5.gens) (hl : s5.heap.NoLimit) (kp : ∀ b o, s5.heap.get? b = some o → s6.heap.get? b = some o) (hcp : ∀ p ∈ cp, s5.heap.objs.size ≤ p.1 ∧ s6.heap.get? p.1 = some p.2 ∧ ∀ v, p.2.data ≠ .cell v)
    (hc : C.coh st cp W3) (hq : loopD g ts (bd α C.em) (blkR own ρ3) items st C.dn) : Susp O TB X.prog X.w Aw (Zf Aw) G' W3 (cp.map (·.1)) C a gn oa (items.length * m) s6 := by
  obtain ⟨gs, e1, wk⟩ := R.wake
  refine ⟨hl.keeps kp, kp _ _ R.obj, by rw [hg]; exact hb, gs, by rw [hg]; exact e1, ?_⟩
  exact wk C Aw (s6.setGen gn .running) cp st _ hA hF os (allBare_setGen (by rw [hg]; exact hb) rfl) kp hcp hc (Nat.le_refl _) hq
theorem de_all (hr : Room (k + 3) X.A) (hg : Gl X "all") (hm : X.mg "all" = none) (hb : bootBuiltins "all" = some (.builtin "all")) (hG : GExp O TB X k e iv own g ts bd m)
    (he : starEach [e] X.env = (false, eval e X.env) :: starEach [] X.env := by rfl) : DE O TB X (.Call (.Name "all" p) [e] [] pos) (vAllAny false iv own g ts bd) := by
  refine ⟨fun pins s σ H Q I h => ?_⟩
  obtain ⟨G, W, ρ, Qd, so, hq, fin⟩ := h
  refine wpAny_Call_Name_kw (ld_blt I hg hm hb ?_)
  refine PyProof.Rows.callWith_builtin1 ?_ he (by rfl)
  rw [he]
  show wpAny _ _ (spliced ((false, eval e X.env) :: backTo pos (starEach [] X.env))) _ _ s
  refine Calls.spliced_cons (hG I so hq fun a gn s5 H3 W3 ρ3 items Zf G' oa I5 so5 le5 fr5 q5 R => ?_)
  refine Calls.spliced_nil ?_
  refine call_function_tree F.kind_all F.plain_all F.entry_all (F.args_all1 _) ?_
  unfold Builtin.«all»
  refine wpAny_bind (m := oneArg "all" _) (wpAny_pure ?_)
  refine wpAny_bind (wpAny_pyIter_gen (R.isg _ R.obj) ?_)
  have r1 : Room (k + 1) X.A.in1.in1 := (Room.in1 (Room.in1 hr))
  refine wpAny_pure ⟨plainId_quiet F.plain_all_loop _, all_loop (A := X.A) (Z := Zf X.A.in1.in1) (G := G') (W0 := W3) (ca := []) (Qf := Qd (.fz, .bl false) ρ3) (Qt := Qd (.fz, .bl true) ρ3) hr.hd (by have := hr.dp; show X.A.depth < _; omega) R.isg (R.pw _).2.2 (R.ca _ [] (by simp)) (fun b cp ip σ1 H1 W1 ρ1 s1 gst q1 => ?_) (items.length * m) s5
    (susp0 (bCon false (Qd (.fz, .bl false) ρ3) (Qd (.fz, .bl true) ρ3)) R (cp := []) (st := ()) r1 I5.ok.frames rfl rfl I5.bare I5.nolimit (fun _ _ e => e) (by simp) rfl q5)⟩
  obtain ⟨I6, so6⟩ := R.back _ _ _ _ _ _ _ _ _ _ _ gst
  refine ⟨.bl b, H1, I6, rfl, fin _ _ W1 ρ3 .fz (.bl b) (le5.trans gst.le) fr5 so6 .bl ?_⟩
  cases b with
  | true => exact q1
  | false => exact q1
theorem de_any (hr : Room (k + 3) X.A) (hg : Gl X "any") (hm : X.mg "any" = none) (hb : bootBuiltins "any" = some (.builtin "any")) (hG : GExp O TB X k e iv own g ts bd m)
    (he : starEach [e] X.env = (false, eval e X.env) :: starEach [] X.env := by rfl) : DE O TB X (.Call (.Name "any" p) [e] [] pos) (vAllAny true iv own g ts bd) := by
  refine ⟨fun pins s σ H Q I h => ?_⟩
  obtain ⟨G, W, ρ, Qd, so, hq, fin⟩ := h
  refine wpAny_Call_Name_kw (ld_blt I hg hm hb ?_)
  refine PyProof.Rows.callWith_builtin1 ?_ he (by rfl)
  rw [he]
  show wpAny _ _ (spliced ((false, eval e X.env) :: backTo pos (starEach [] X.env))) _ _ s
  refine Calls.spliced_cons (hG I so hq fun a gn s5 H3 W3 ρ3 items Zf G' oa I5 so5 le5 fr5 q5 R => ?_)
  refine Calls.spliced_nil ?_
  refine call_function_tree F.kind_any F.plain_any F.entry_any (F.args_any1 _) ?_
  unfold Builtin.«any»
  refine wpAny_bind (m := oneArg "any" _) (wpAny_pure ?_)
  refine wpAny_bind (wpAny_pyIter_gen (R.isg _ R.obj) ?_)
  have r1 : Room (k + 1) X.A.in1.in1 := (Room.in1 (Room.in1 hr))
  refine wpAny_pure ⟨plainId_quiet F.plain_any_loop _, any_loop (A := X.A) (Z := Zf X.A.in1.in1) (G := G') (W0 := W3) (ca := []) (Qf := Qd (.fz, .bl false) ρ3) (Qt := Qd (.fz, .bl true) ρ3) hr.hd (by have := hr.dp; show X.A.depth < _; omega) R.isg (R.pw _).2.2 (R.ca _ [] (by simp)) (fun b cp ip σ1 H1 W1 ρ1 s1 gst q1 => ?_) (items.length * m) s5
    (susp0 (bCon true (Qd (.fz, .bl true) ρ3) (Qd (.fz, .bl false) ρ3)) R (cp := []) (st := ()) r1 I5.ok.frames rfl rfl I5.bare I5.nolimit (fun _ _ e => e) (by simp) rfl q5)⟩
  obtain ⟨I6, so6⟩ := R.back _ _ _ _ _ _ _ _ _ _ _ gst
  refine ⟨.bl b, H1, I6, rfl, fin _ _ W1 ρ3 .fz (.bl b) (le5.trans gst.le) fr5 so6 .bl ?_⟩
  cases b with
  | true => exact q1
  | false => exact q1
end
end TC

/-! Generators are collected: tuple, join. -/
namespace TC
open PySem PySem.Spec PyProof.Rows L2 GenW

def lEm : List D → D → (List D → Prop) → Prop := fun st d k => st.length < sizeLine ∧ k (st ++ [d])
def lCon (O : ObjI) (Qn : List D → Prop) : Con (List D) where
  coh := fun st cp W => ∃ S acc c vs, cp = [(S, lstObj acc c)] ∧ Vals vs acc.toList ∧ RepL O W st vs
  em := lEm
  dn := Qn
  mono := fun le ⟨S, acc, c, vs, e, v, r⟩ => ⟨S, acc, c, vs, e, v, r.mono le⟩
section
variable {O : ObjI} {TB : List Addr} {P : Program} {w : World} {Z : Cx} {G : Kp} {W0 : Wd} {a gn S : Nat} {oa : Obj}
theorem lst_step {Qn : List D → Prop} {cp ip : List (Addr × Obj)} {σ : L2.St} {H : Hp} {W : Wd} {ρ : Rho} {st : List D} {s1 : Shared} {v : Value} {x : V} {d : D} (gst : GSt O TB Z G W0 [S] (lCon O Qn) cp ip σ H W ρ st s1) (rv : RelV x v) (rp : Rep O W d x) :
    ∃ acc c, s1.heap.get? S = some (lstObj acc c) ∧ acc.size = st.length ∧ ∃ c', Woke cp [(S, lstObj (acc.push v) c')] s1 { s1 with heap := s1.heap.update S (Obj.mapSeq (·.push v)) } ∧ (lCon O Qn).coh (st ++ [d]) [(S, lstObj (acc.push v) c')] W := by
  obtain ⟨S', acc, c, vs, e, hv, r⟩ := gst.coh
  have ad := gst.ad
  subst e
  obtain rfl : S' = S := by simpa using ad
  have hp := gst.inv.pin (S', lstObj acc c) (List.mem_append_right _ (List.mem_append_left _ (List.mem_singleton.mpr rfl)))
  refine ⟨acc, c, hp.1, ?_, ?_⟩
  · have h1 := hv.length
    have h2 := r.length
    rw [← Array.length_toList, ← h1, ← h2]
  · obtain ⟨c', hu⟩ : ∃ c', (s1.heap.update S' (Obj.mapSeq (·.push v))).get? S' = some (lstObj (acc.push v) c') := ⟨_, Heap.get?_update_self _ hp.1 rfl⟩
    refine ⟨c', ⟨rfl, gst.inv.bare, rfl, fun b o hb e => ?_, fun p hp' => ?_⟩, S', acc.push v, _, vs ++ [x], rfl, ?_, r.append (.cons rp .nil)⟩
    · exact (Heap.get?_update_other _ _ (fun z => hb (by rw [← z]; simp))).trans e
    · have e : p = _ := List.mem_singleton.mp hp'
      subst e
      exact ⟨hu, fun v z => by cases z⟩
    · rw [Array.toList_push]
      exact hv.append (.cons rv .nil)
theorem extend_loop {A : Around} {R : Result → Shared → Prop} {Qn : List D → Prop} {res : Value} (hh : A.handled = none) (hd : A.in1.depth < recursionLimit) (isg : ∀ h : Heap, h.get? a = some oa → h.IsGen a gn) (hpn : Z.pn = [(a, oa)]) (hca : CaOk Z [S])
    (hR : ∀ cp σ H W ρ st s1 acc c vs, GSt O TB Z G W0 [S] (lCon O Qn) cp [] σ H W ρ st s1 → s1.heap.get? S = some (lstObj acc c) → Vals vs acc.toList → RepL O W st vs → Qn st → R (.ok (.ret res)) s1) :
    ∀ (n : Nat) (s : Shared), Susp O TB P w A.in1.in1 Z G W0 [S] (lCon O Qn) a gn oa n s → codeAny (model P w) A (.builtin "list.extend.loop" ⟨[.ref S, .ref a, res], []⟩) R s := by
  intro n
  induction n with
  | zero =>
    intro s hS
    refine codeAny_builtin F.entry_extend_loop ?_
    rw [Around.under_plainId F.plain_extend_loop _]
    show wpAny _ A.in1 (pyNext (.ref a) >>= _) _ _ s
    refine wpAny_bind (gnext hh hd isg hpn hca hS (fun v s1 cp ip σ H W ρ st d kk x _ gst rv rp em next => ?_) fun s1 cp σ H W ρ st _ gst dn => ?_)
    · obtain ⟨acc, c, hS1, hsz, c', wk, co⟩ := lst_step gst rv rp
      exact (next _ (st ++ [d]) _ wk rfl co em.2).elim
    · obtain ⟨S', acc, c, vs, e, hv, r⟩ := gst.coh
      have ad := gst.ad
      subst e
      obtain rfl : S' = S := by simpa using ad
      have hp := gst.inv.pin (S', lstObj acc c) (List.mem_append_right _ (List.mem_append_left _ (List.mem_singleton.mpr rfl)))
      exact wpAny_pure (hR _ σ H W ρ st s1 acc c vs gst hp.1 hv r dn)
  | succ n ih =>
    intro s hS
    refine codeAny_builtin F.entry_extend_loop ?_
    rw [Around.under_plainId F.plain_extend_loop _]
    show wpAny _ A.in1 (pyNext (.ref a) >>= _) _ _ s
    refine wpAny_bind (gnext hh hd isg hpn hca hS (fun v s1 cp ip σ H W ρ st d kk x _ gst rv rp em next => ?_) fun s1 cp σ H W ρ st _ gst dn => ?_)
    · obtain ⟨acc, c, hS1, hsz, c', wk, co⟩ := lst_step gst rv rp
      have hlt : acc.size < sizeLine := by rw [hsz]; exact em.1
      show wpAny _ A.in1 (updateSeq S (·.push v) >>= _) _ _ _
      refine wpAny_bind ?_
      refine wpAny_updateSeq hS1 rfl (wpAny_pure ⟨plainId_quiet F.plain_extend_loop _, ?_⟩) (Nat.le_of_lt hlt) (by show (acc.push v).size ≤ sizeLine + 1; rw [Array.size_push]; omega)
      exact ih _ (next _ (st ++ [d]) _ wk rfl co em.2)
    · obtain ⟨S', acc, c, vs, e, hv, r⟩ := gst.coh
      have ad := gst.ad
      subst e
      obtain rfl : S' = S := by simpa using ad
      have hp := gst.inv.pin (S', lstObj acc c) (List.mem_append_right _ (List.mem_append_left _ (List.mem_singleton.mpr rfl)))
      exact wpAny_pure (hR _ σ H W ρ st s1 acc c vs gst hp.1 hv r dn)
end
section
variable {O : ObjI} {TB : List Addr} {X : Cx} {k m : Nat} {own : List Nat} {g : GtT} {ts : TvT} {bd : BdG}
/-- all the items, as a list -/
theorem gcollect {A : Around} {pins : List (Addr × Obj)} {σ : L2.St} {H3 : Hp} {G G' : Kp} {a gn : Nat} {items : List D} {W3 : Wd} {ρ3 : Rho} {s5 : Shared} {Zf : Around → Cx} {oa : Obj} {Qn : List D → Prop} {Q : List Value → Shared → Prop} {E : Value → Shared → Prop}
    (hr : Room (k + 3) A) (hF : A.frames = some X.stack) (I5 : Inv X pins σ H3 s5) (R : GRdy O TB X pins σ k G own g ts bd m a gn items W3 ρ3 s5 Zf G' oa) (q5 : loopD g ts (bd _ lEm) (blkR own ρ3) items [] Qn)
    (hQ : ∀ l acc vs s1 H1 W1, Inv X pins σ H1 s1 → SOk O TB G W1 ρ3 σ H1 → WLe W3 W1 → Vals vs acc → RepL O W1 l vs → Qn l → Q acc s1) : wpAny (model X.prog X.w) A (collect (.ref a)) Q E s5 := by
  have hal : a < s5.heap.objs.size := Heap.lt_size R.obj
  have hSa : s5.heap.objs.size ≠ a := Nat.ne_of_gt hal
  unfold collect
  refine wpAny_bind (wpAny_runValue (codeAny_builtin F.entry_proto_collect ?_))
  rw [Around.under_plainId F.plain_proto_collect _]
  show wpAny _ A.in1 (newList [] >>= fun l => again (.builtin "list.__iadd__" ⟨[l, .ref a], []⟩)) _ _ s5
  refine wpAny_bind (wpAny_newObj_type ?_)
  refine wpAny_pure ⟨plainId_quiet F.plain_list_iadd _, codeAny_builtin F.entry_list_iadd ?_⟩
  rw [Around.under_plainId F.plain_list_iadd _]
  have k1 : ∀ b o, s5.heap.get? b = some o → (s5.heap.push { cls := .type "list", data := .seq ([] : List Value).toArray }).get? b = some o := fun b o e => Heap.get?_push_of_some _ e
  have hS1 : (s5.heap.push { cls := .type "list", data := .seq ([] : List Value).toArray }).get? s5.heap.objs.size = some { cls := .type "list", data := .seq ([] : List Value).toArray } := Heap.get?_push_size _ rfl
  have gi : Heap.IsGen (s5.heap.push { cls := .type "list", data := .seq ([] : List Value).toArray }) a gn := R.isg _ (k1 _ _ R.obj)
  show wpAny _ A.in1 (Builtin.List.listExtendWith (.ref s5.heap.objs.size) (.ref a) (.ref s5.heap.objs.size)) _ _ _
  unfold Builtin.List.listExtendWith
  refine wpAny_bind (wpAny_typeOf (Heap.IsGen.typeIs (s := { s5 with heap := _ }) gi) ?_)
  have h1 : Builtin.List.listSameRef (.ref s5.heap.objs.size) (.ref a) = false := by simp [Builtin.List.listSameRef, hSa]
  have h2 : (Value.type "generator" == Value.type "list") = false := by decide
  have h3 : (Value.type "generator" == Value.type "tuple") = false := by decide
  simp only [h1, h2, h3, Bool.or_false, Bool.false_eq_true, if_false]
  refine wpAny_bind (wpAny_pyIter_gen (s := { s5 with heap := _ }) gi ?_)
  refine wpAny_bind (wpAny_holding ?_)
  unfold Builtin.List.listLengthHint
  refine wpAny_bind (wpAny_specialOf (Heap.IsGen.typeIs (s := { s5 with heap := _ }) gi) F.gen_no_len ?_)
  show wpAny _ A.in1 (specialOf (Value.ref a) (Str.ofString "__length_hint__") >>= _) _ _ _
  refine wpAny_bind (wpAny_specialOf (Heap.IsGen.typeIs (s := { s5 with heap := _ }) gi) F.gen_no_hint ?_)
  refine wpAny_pure ?_
  show wpAny _ A.in1 (rule "list.extend.makes-room" >>= fun _ => Builtin.List.listTouch (.ref s5.heap.objs.size) >>= fun _ =>
    again (.builtin "list.extend.loop" ⟨[.ref s5.heap.objs.size, .ref a, .ref s5.heap.objs.size], []⟩)) _ _ _
  refine wpAny_bind (wpAny_rule ?_)
  refine wpAny_bind ?_
  show wpAny _ A.in1 (updateSeq s5.heap.objs.size (·.push .none) >>= fun _ => updateSeq s5.heap.objs.size (·.pop)) _ _ _
  refine wpAny_bind (wpAny_updateSeq hS1 rfl ?_)
  have hS2 := Heap.get?_update_self (Obj.mapSeq (·.push Value.none)) hS1 rfl
  refine wpAny_updateSeq (hz := by seq_fits) hS2 rfl ?_
  have up : ∀ (h : Heap) (f : Obj → Obj), (∀ b o, s5.heap.get? b = some o → h.get? b = some o) → ∀ b o, s5.heap.get? b = some o → (h.update s5.heap.objs.size f).get? b = some o := fun h f q b o e =>
    (Heap.get?_update_other _ _ (Ne.symm (Nat.ne_of_lt (Heap.lt_size e)))).trans (q b o e)
  obtain ⟨c3, hS3⟩ : ∃ c3, (((s5.heap.push { cls := .type "list", data := .seq ([] : List Value).toArray }).update s5.heap.objs.size (Obj.mapSeq (·.push Value.none))).update s5.heap.objs.size (Obj.mapSeq (·.pop))).get? s5.heap.objs.size = some (lstObj #[] c3) := ⟨_, Heap.get?_update_self (Obj.mapSeq (·.pop)) hS2 rfl⟩
  have k3 := up _ (Obj.mapSeq (·.pop)) (up _ (Obj.mapSeq (·.push Value.none)) k1)
  have r1 : Room (k + 1) A.in1.in1 := (Room.in1 (Room.in1 hr))
  refine wpAny_pure ⟨plainId_quiet F.plain_extend_loop _, extend_loop (O := O) (TB := TB) (A := A) (Z := Zf A.in1.in1) (G := G') (W0 := W3) (Qn := Qn) hr.hd (by have := hr.dp; show A.depth < _; omega) R.isg (R.pw _).2.2 (R.ca _ [s5.heap.objs.size] (by simp)) (fun cp σ1 H1 W1 ρ1 st s1 acc c vs gst hS hv r qn => ?_) (items.length * m) _
    (susp0 (lCon O Qn) R (cp := [(s5.heap.objs.size, lstObj #[] c3)]) (st := []) r1 hF rfl rfl I5.bare I5.nolimit k3 (fun p hp => ?_) ⟨_, _, _, [], rfl, .nil, .nil⟩ q5)⟩
  · obtain ⟨I6, so6⟩ := R.back _ _ _ _ _ _ _ _ _ _ _ gst
    show wpAny _ A (load s5.heap.objs.size >>= _) _ _ s1
    refine wpAny_bind (wpAny_load hS ?_)
    exact wpAny_pure (hQ st acc.toList vs s1 H1 W1 I6 so6 gst.le hv r qn)
  · have e : p = _ := List.mem_singleton.mp hp
    subst e
    exact ⟨Nat.le_refl _, hS3, fun v z => by cases z⟩
end

/-- a new tuple of values that are known -/
theorem Inv.newTup {X : Cx} {pins : List (Addr × Obj)} {σ : L2.St} {H : Hp} {s : Shared} {vs : List V} {acc : List Value} (I : Inv X pins σ H s) (hv : Vals vs acc) (hz : vs.length ≤ sizeLine) :
    Inv X pins σ (upd H s.heap.objs.size (.tup vs)) { s with heap := s.heap.push { cls := .type "tuple", data := .seq acc.toArray } } := by
  refine I.laid (t' := s.toks) (fun b o e => Heap.get?_push_of_some _ e) (Nat.le_refl _) ?_
  exact ⟨hz, acc, hv, IsTup.new _ _⟩
def vTupG (iv : IvT) (own : List Nat) (g : GtT) (ts : TvT) (bd : BdG) : EvT := fun ρ Q => iv ρ fun items ρ1 => loopD g ts (bd _ lEm) (blkR own ρ1) items [] fun l => l.length ≤ sizeLine ∧ Q (.fz, .tup l) ρ1
def vJoinG (ev : EvT) (iv : IvT) (own : List Nat) (g : GtT) (ts : TvT) (bd : BdG) : EvT := fun ρ Q => ev ρ fun r ρ0 => ∃ k sep, r = (k, .str sep) ∧ iv ρ0 fun items ρ1 => loopD g ts (bd _ lEm) (blkR own ρ1) items [] fun l =>
  ∃ ys : List (List Nat), l = ys.map D.str ∧ (ys.map (·.length)).sum + ys.length * sep.length ≤ 16777216 ∧ Q (.fz, .str (TL.joinL sep ys)) ρ1
theorem joinL_len (sep : List Nat) : ∀ ys : List (List Nat), (TL.joinL sep ys).length ≤ (ys.map (·.length)).sum + ys.length * sep.length
  | [] => by simp [TL.joinL]
  | [p] => by simp [TL.joinL]
  | p :: q :: r => by
    have := joinL_len sep (q :: r)
    simp only [TL.joinL, List.length_append, List.map_cons, List.sum_cons, List.length_cons, Nat.succ_mul] at this ⊢
    omega
section
variable {O : ObjI} {TB : List Addr} {X : Cx} {k m : Nat} {e o : Expr} {iv : IvT} {own : List Nat} {g : GtT} {ts : TvT} {bd : BdG} {p pos apos : Pos} {ev : EvT}
theorem tupnew_gen {P : Program} {w : World} {A : Around} {R : Result → Shared → Prop} {a : Addr} {s : Shared} (hT : s.TypeIs (.ref a) "generator")
    (hc : wpAny (model P w) A.in1 (collect (.ref a)) (fun acc s1 => acc.length ≤ sizeLine ∧ R (.ok (.ret (.ref s1.heap.objs.size))) { s1 with heap := s1.heap.push { cls := .type "tuple", data := .seq acc.toArray } }) (fun e s' => R (.error e) s') s) :
    codeAny (model P w) A (.call (.builtin "tuple.__new__") ⟨[.type "tuple", .ref a], []⟩) R s := by
  refine codeAny_call_builtin F.called_tuple.plain F.entry_tuple_new (wpAny_of_eq (F.newCall_tuple_1 _) ?_)
  obtain ⟨hp, g, d, tk, os⟩ := s
  obtain ⟨ob, ht, hcl⟩ := id hT
  have hsub := sub_tuple_self
  have hinit := init_tuple_lookup
  have hmh := madeHere_tuple
  have hT : Shared.TypeIs ⟨hp, g, d, tk, os⟩ (.ref a) "generator" := ⟨ob, ht, hcl⟩
  have hcol : ∀ {Q : List Value → Shared → Prop}, (∀ acc s1, (acc.length ≤ sizeLine ∧ R (.ok (.ret (.ref s1.heap.objs.size))) { s1 with heap := s1.heap.push { cls := .type "tuple", data := .seq acc.toArray } }) → Q acc s1) →
      wpAny (model P w) A.in1 (collect (.ref a)) Q (fun e s' => R (.error e) s') ⟨hp, g, d, tk, os⟩ := fun hQ => wpAny_mono hc hQ fun _ _ h => h
  wp_walk using AutoSeq1.wpAny_loadPart' ht, wpAny_typeOf hT, hcol
  intro acc s1 ⟨hz, hR⟩
  show wpAny _ _ (Builtin.Tuple.tupleExact acc.toArray >>= fun v => ret v) _ _ _
  unfold Builtin.Tuple.tupleExact
  refine wpAny_bind (wpAny_newObj_type ?_ (by show acc.toArray.size ≤ sizeLine; simpa using hz))
  exact wpAny_pure hR
theorem de_tupG (hr : Room (k + 5) X.A) (hg : Gl X "tuple") (hm : X.mg "tuple" = none) (hG : GExp O TB X k e iv own g ts bd m)
    (he : starEach [e] X.env = (false, eval e X.env) :: starEach [] X.env := by rfl) : DE O TB X (.Call (.Name "tuple" p) [e] [] pos) (vTupG iv own g ts bd) := by
  refine ⟨fun pins s σ H Q I h => ?_⟩
  obtain ⟨G, W, ρ, Qd, so, hq, fin⟩ := h
  refine wpAny_Call_Name_kw (ld_blt I hg hm boot_tuple ?_)
  refine PyProof.Rows.callWith_type1 ?_ he rfl
  rw [he]
  show wpAny _ _ (spliced ((false, eval e X.env) :: backTo pos (starEach [] X.env))) _ _ s
  refine Calls.spliced_cons (hG I so hq fun a gn s5 H3 W3 ρ3 items Zf G' oa I5 so5 le5 fr5 q5 R => ?_)
  refine Calls.spliced_nil ?_
  have r1 : Room (k + 3) X.A.in1.in1 := (Room.in1 (Room.in1 hr))
  refine callType_codes (Q₁ := fun obj s1 => s1.TypeIs obj "tuple" ∧ EP X pins σ Q obj s1) F.called_tuple (F.typeCall_tuple_1 _) F.entry_object_init (tupnew_gen (Heap.IsGen.typeIs (R.isg _ R.obj)) (gcollect (E := fun e s' => wants (fun obj s1 => s1.TypeIs obj "tuple" ∧ EP X pins σ Q obj s1) X.xe (.error e) s') r1 I5.ok.frames I5 R q5 fun l acc vs s1 H1 W1 I6 so6 le6 hv rp qn => ?_)) fun obj s1 hobj => ?_
  · have h1 := hv.length
    have h2 := rp.length
    refine ⟨by rw [← h1, ← h2]; exact qn.1, ?_, ?_⟩
    · exact ⟨_, Heap.get?_push_size _ rfl, rfl⟩
    · have hn := I6.hok.fresh (Nat.le_refl s1.heap.objs.size)
      exact ⟨.ref s1.heap.objs.size, _, Inv.newTup I6 hv (by rw [← h2]; exact qn.1), rfl, so6.newT (Qd := fun r => Qd r ρ3) (fun z H' W' k dz le s' r q => fin z H' W' ρ3 k dz (le5.trans (le6.trans le)) fr5 s' r q) rp qn.2 _ hn⟩
  · refine ⟨hobj.1, F.args_object_init_2 _ _, ?_⟩
    exact object_init_meets F.called_tuple.init.lookup F.called_tuple.made (by decide) _ _ _ _ _ ⟨hobj.1, rfl, hobj.2⟩
theorem de_joinG (hr : Room (k + 4) X.A) (ho : DE O TB X o ev) (hG : GExp O TB X k e iv own g ts bd m)
    (hbase : attributeBase o "join" X.env (eval o X.env) = eval o X.env := by rfl)
    (hfew : ((backTo pos (starEach [e] X.env)).all (fun x => !x.1) && (backToKw pos (keywordEach [] X.env)).all (fun x => x.1.isSome)
      && decide (([e] : List Expr).length + ([] : List Keyword).length + (if ([] : List Keyword).isEmpty then 0 else 1) < 30)) = true := by rfl)
    (hline : (apos.endLine == pos.line) = true := by rfl)
    (he : starEach [e] X.env = (false, eval e X.env) :: starEach [] X.env := by rfl)
    (hplain : (backTo pos (starEach [] X.env)).any (·.1) = false := by rfl) : DE O TB X (.Call (.Attribute o "join" apos) [e] [] pos) (vJoinG ev iv own g ts bd) := by
  refine ⟨fun pins s σ H Q I h => ?_⟩
  obtain ⟨G, W, ρ, Qd, so, hq, fin⟩ := h
  refine wpAny_Call_method_late hbase hfew hline rfl (thn (ho.run pins s σ H (fun v H' => ∃ W' ρ' k' d, WLe W W' ∧ Fro ρ ρ' ∧ SOk O TB G W' ρ' σ H' ∧ RepK O G W' H' ρ' σ k' d v ∧ ∃ k sep, (k', d) = (k, .str sep) ∧ iv ρ' fun items ρ1 => loopD g ts (bd _ lEm) (blkR own ρ1) items [] fun l =>
      ∃ ys : List (List Nat), l = ys.map D.str ∧ (ys.map (·.length)).sum + ys.length * sep.length ≤ 16777216 ∧ Qd (.fz, .str (TL.joinL sep ys)) ρ1) I ⟨G, W, ρ, _, so, hq, fun v H' W' ρ' k' d le fr s' r q => ⟨W', ρ', k', d, le, fr, s', r, q⟩⟩) fun v s1 ⟨x', H1, I1, r1, W1, ρ1, k1, d1, le1, fr1, so1, rk1, kk, sep, ek, q1⟩ => ?_)
  cases ek
  have hv : x' = .str (mkS sep) := by
    have z := so1.view rk1
    cases z; rfl
  subst hv
  obtain ⟨tk, rfl⟩ := (show ∃ t, v = Value.str (mkS sep) t from r1)
  refine ⟨"str", _, PySem.F.plainAttrs_str, PySem.F.slot_str_join, PySem.F.type_str_join, typeIs_str _ _ _, (fun _ e => nomatch e), ?_⟩
  rw [he]
  refine Calls.callWith_builtin (by show (false || (backTo pos (starEach [] X.env)).any (·.1)) = false; rw [hplain] <;> rfl) (Calls.evalArgs_plain ?_)
  show wpAny _ _ (spliced ((false, eval e X.env) :: backTo pos (starEach [] X.env))) _ _ s1
  refine Calls.spliced_cons (hG I1 so1 q1 fun a gn s5 H3 W3 ρ3 items Zf G' oa I5 so5 le5 fr5 q5 R => ?_)
  refine Calls.spliced_nil ?_
  refine wpAny_call (codeAny_call_builtin F.slot_str_join.plain F.entry_str_join (F.slot_str_join.check _ _ _ _ _ _ _ _ (typeIs_str _ _ _) (F.args_str_join_2 _ _) ?_))
  show wpAny _ X.A.in1 (Builtin.«str.join» ⟨[.str (mkS sep) tk, .ref a], []⟩) _ _ s5
  rw [join_tree_other]
  refine wpAny_bind (wpAny_typeOf (Heap.IsGen.typeIs (R.isg _ R.obj)) ?_)
  show wpAny _ X.A.in1 ((pyIter (.ref a)).tryCatch _ >>= fun it => collect it >>= fun items => joinTail (mkS sep) items) _ _ s5
  refine wpAny_bind (wpAny_tryCatch (wpAny_pyIter_gen (R.isg _ R.obj) ?_))
  refine wpAny_bind (gcollect (k := k) (Room.in1 hr) I5.ok.frames I5 R q5 fun l acc vs s6 H6 W6 I6 so6 le6 hv rp ⟨ys, el, hz, qn⟩ => ?_)
  subst el
  obtain ⟨ev2, hlen⟩ := rp.strs
  subst ev2
  obtain ⟨l, hl, ht⟩ := strsAre_values (strs_of_vals hv)
  have hjok : JoinOk (mkS sep) (l.map (·.1)) = true := by
    rw [ht]
    refine joinOk_of ?_
    rw [List.map_map, List.length_map]
    have e1 : (ys.map ((fun x : Str => x.length) ∘ mkS)) = ys.map (·.length) := List.map_congr_left fun y _ => mkS_len y
    rw [e1, mkS_len]
    exact hz
  rw [hl]
  have hok := hjok
  unfold JoinOk at hok
  rw [Bool.not_eq_true'] at hok
  have gv : Gives (joinTail (mkS sep) (strValues l)) (joinMade (mkS sep) l) := by
    have g0 := gives_joinTail (mkS sep) l hok
    cases l with
    | nil => exact g0
    | cons p r => cases r with
      | nil => exact g0
      | cons q r' => exact g0
  refine gv X.prog X.w X.A (wants (EP X pins σ Q) X.xe) s6 (post_join l ⟨joinFit_length hok, fun t' k' => ?_⟩)
  have ej : Txt.join (mkS sep) (l.map (·.1)) = mkS (TL.joinL sep ys) := by
    rw [ht, TL.join_eq]
    refine TL.ext_tl ?_
    rw [TL.tl_join, List.map_map]
    show _ = TL.tl (mkS _)
    have e1 : ys.map (TL.tl ∘ mkS) = ys := by
      conv => rhs; rw [← List.map_id ys]
      exact List.map_congr_left fun y _ => by simp [TL.tl, mkS]
    rw [e1]
  rw [ej]
  refine ⟨.str _, H6, I6.tok k', ⟨t', rfl⟩, fin _ H6 W6 ρ3 .fz (.str (TL.joinL sep ys)) (le1.trans (le5.trans le6)) (fr1.trans fr5) so6 (.str ?_) qn⟩
  exact Nat.le_trans (joinL_len sep ys) (Nat.le_trans hz (by decide))
end

/-! ### the expressions themselves -/
abbrev GCx (X : Cx) (s : Shared) (H : Hp) (scope : Scope) (cl : List (Str × Addr)) (C : Addr) (code : Value) (bi : Addr) (fp : List Addr) (Aw : Around) (pn : List (Addr × Obj)) : Cx := gCx X s H scope (gEnv scope cl C code bi X.env) fp Aw pn
section
variable {O : ObjI} {TB : List Addr} {X : Cx} {c Pt : Addr} {k : Nat} {elt tg iter tg2 iter2 : Expr} {ifs ifs2 : List Expr} {scope : Scope} {pos : Pos} {own : List (Str × Nat)} {own2 : List Nat} {iv iv2 : IvT} {g g2 : GtT} {ts ts2 : TvT} {el : EvT}
theorem gexp1 (hr : Room k X.A) (hT : GxR.TabB X.base X.mg c Pt) (hP : Pt ∈ TB) (hcode : X.env.code = .ref c) (hc : X.calm = true) (hN : X.N.Nodup) (hi : DIr O TB X tg iter iv)
    (hg : ∀ s H cl C code bi fp Aw pn, Room k (Aw.deeper (gEnv scope cl C code bi X.env)) → DG O TB (GCx X s H scope cl C code bi fp Aw pn) (own.map (·.2)) tg g) (ht : ∀ s H cl C code bi fp Aw pn, Room k (Aw.deeper (gEnv scope cl C code bi X.env)) → DTs O TB (GCx X s H scope cl C code bi fp Aw pn) ifs ts)
    (he : ∀ s H cl C code bi fp Aw pn, Room k (Aw.deeper (gEnv scope cl C code bi X.env)) → DE O TB (GCx X s H scope cl C code bi fp Aw pn) elt el) (ok : BlkOk X.N X.env.scope scope own)
    (h0n : (".0" : Str) ∉ X.N) (hco : scope.isCoroutine = false := by rfl) (h0 : scope.names.lookup (".0" : Str) = some NameKind.local := by rfl) (hs : ∀ x, genFold iter X.env x = pure x := by intro _; rfl) :
    GExp O TB X k (.GeneratorExp elt [⟨tg, iter, ifs, 0⟩] scope pos) iv (own.map (·.2)) g ts (bdE el) 1 := fun I so hq hQ =>
  gen_make hr hT hP hcode hco h0 h0n hN ok hi hs (fun s H cl C code bi fp Aw pn it hrA => gform1 hc (fun _ _ z => z) hco (hg s H cl C code bi fp Aw pn hrA) (ht s H cl C code bi fp Aw pn hrA) (he s H cl C code bi fp Aw pn hrA)) I so hq hQ
theorem gexp2 (hr : Room k X.A) (hT : GxR.TabB X.base X.mg c Pt) (hP : Pt ∈ TB) (hcode : X.env.code = .ref c) (hc : X.calm = true) (hN : X.N.Nodup) (hi : DIr O TB X tg iter iv)
    (hg : ∀ s H cl C code bi fp Aw pn, Room k (Aw.deeper (gEnv scope cl C code bi X.env)) → DG O TB (GCx X s H scope cl C code bi fp Aw pn) (own.map (·.2)) tg g) (ht : ∀ s H cl C code bi fp Aw pn, Room k (Aw.deeper (gEnv scope cl C code bi X.env)) → DTs O TB (GCx X s H scope cl C code bi fp Aw pn) ifs ts)
    (hi2 : ∀ s H cl C code bi fp Aw pn, Room k (Aw.deeper (gEnv scope cl C code bi X.env)) → DI O TB (GCx X s H scope cl C code bi fp Aw pn) tg2 iter2 iv2) (hg2 : ∀ s H cl C code bi fp Aw pn, Room k (Aw.deeper (gEnv scope cl C code bi X.env)) → DG O TB (GCx X s H scope cl C code bi fp Aw pn) own2 tg2 g2)
    (ht2 : ∀ s H cl C code bi fp Aw pn, Room k (Aw.deeper (gEnv scope cl C code bi X.env)) → DTs O TB (GCx X s H scope cl C code bi fp Aw pn) ifs2 ts2)
    (he : ∀ s H cl C code bi fp Aw pn, Room k (Aw.deeper (gEnv scope cl C code bi X.env)) → DE O TB (GCx X s H scope cl C code bi fp Aw pn) elt el) (ok : BlkOk X.N X.env.scope scope own) (hsub : ∀ i ∈ own2, i ∈ own.map (·.2))
    (h0n : (".0" : Str) ∉ X.N) (hco : scope.isCoroutine = false := by rfl) (h0 : scope.names.lookup (".0" : Str) = some NameKind.local := by rfl) (hs : ∀ x, genFold iter X.env x = pure x := by intro _; rfl)
    (hfo : ∀ cl C code bi x, foldedSetIterable iter2 (gEnv scope cl C code bi X.env) x = pure x := by intro _ _ _ _ _; rfl) :
    GExp O TB X k (.GeneratorExp elt [⟨tg, iter, ifs, 0⟩, ⟨tg2, iter2, ifs2, 0⟩] scope pos) iv (own.map (·.2)) g ts (bdN own2 iv2 g2 ts2 (bdE el)) sizeLine := fun I so hq hQ =>
  gen_make hr hT hP hcode hco h0 h0n hN ok hi hs (fun s H cl C code bi fp Aw pn it hrA => gform2 hc (fun _ _ z => z) hco hsub (hg s H cl C code bi fp Aw pn hrA) (ht s H cl C code bi fp Aw pn hrA) (hi2 s H cl C code bi fp Aw pn hrA) (hg2 s H cl C code bi fp Aw pn hrA) (ht2 s H cl C code bi fp Aw pn hrA) (he s H cl C code bi fp Aw pn hrA) (fun x => hfo cl C code bi x)) I so hq hQ
end
end TC

/-! Built-in functions over plain data. -/
namespace TC
open PySem PySem.Spec PyProof.Rows L2

/-! ### min, max of two texts -/
def strItems (xs : Array (Str × Tok)) : Array Value := xs.map fun p => .str p.1 p.2
def strAt (xs : Array (Str × Tok)) (i : Nat) : Str := match xs[i]? with | some p => p.1 | none => ⟨#[]⟩
theorem strItems_at {xs : Array (Str × Tok)} {i : Nat} {v : Value} (h : (strItems xs)[i]? = some v) : ∃ t, v = .str (strAt xs i) t := by
  unfold strItems at h
  rw [Array.getElem?_map] at h
  unfold strAt
  cases e : xs[i]? with
  | none => rw [e] at h; cases h
  | some p => rw [e] at h; cases h; exact ⟨_, rfl⟩
theorem CmpOf.strs_gt {prog : Program} {w : World} {A : Around} {P : Nat → Value → Prop} (val : Nat → Str) (hval : ∀ i v, P i v → ∃ t, v = .str (val i) t) :
    CmpOf prog w A .Gt P (fun i j => decide ((val j).cps.toList < (val i).cps.toList)) := fun i j vi vj s Q E hi hj h => by
  obtain ⟨t, rfl⟩ := hval i vi hi
  obtain ⟨u, rfl⟩ := hval j vj hj
  exact richCompare_gives (op := .Gt) (typeIs_str s _ t) (typeIs_str s _ u) F.slot_str_gt F.entry_str_gt (F.args_str_gt_2 _ _) (gives_str_gt _ _ t u) (fun x => nomatch x) h
theorem CmpOf.strs_lt {prog : Program} {w : World} {A : Around} {P : Nat → Value → Prop} (val : Nat → Str) (hval : ∀ i v, P i v → ∃ t, v = .str (val i) t) :
    CmpOf prog w A .Lt P (fun i j => decide ((val i).cps.toList < (val j).cps.toList)) := fun i j vi vj s Q E hi hj h => by
  obtain ⟨t, rfl⟩ := hval i vi hi
  obtain ⟨u, rfl⟩ := hval j vj hj
  exact richCompare_gives (op := .Lt) (typeIs_str s _ t) (typeIs_str s _ u) F.slot_str_lt F.entry_str_lt (F.args_str_lt_2 _ _) (gives_str_lt _ _ t u) (fun x => nomatch x) h
section
variable {prog : Program} {w : World} {A : Around} {E : Value → Shared → Prop} {s : Shared}
theorem max_two_strs {a b : Str} {t u : Tok} {Q : Value → Shared → Prop} (hh : A.handled = none)
    (h : ∀ h' tk, (∀ c o, s.heap.get? c = some o → h'.get? c = some o) → Q (if a.cps.toList < b.cps.toList then .str b u else .str a t) { s with heap := h', toks := tk }) :
    wpAny (model prog w) A (call (.builtin "max") [.str a t, .str b u]) Q E s := by
  have hT : (s.heap.push { cls := .type "tuple", data := .seq #[.str a t, .str b u] }).IsTuple s.heap.objs.size (strItems #[(a, t), (b, u)]) := ⟨_, Heap.get?_push_size _ rfl, rfl, 0, by simp [strItems]⟩
  refine call_max_two (wpAny_pyIter_tuple hT ?_)
  have hsz : (s.heap.push { cls := .type "tuple", data := .seq #[.str a t, .str b u] }).objs.size = s.heap.objs.size + 1 := Heap.size_push ..
  refine ⟨_, [_, s.heap.objs.size], [_], _, _, _, _, rfl, Walks.tuple (A := A.in1) hh _ s.heap.objs.size (by rw [hsz]; exact Nat.ne_of_lt (Nat.lt_succ_self _)) (strItems #[(a, t), (b, u)]),
    ⟨⟨_, Heap.get?_push_size _ rfl, rfl, rfl⟩, hT.push _⟩, fun c hc => ?_, by simp [strItems], CmpOf.strs_gt (strAt #[(a, t), (b, u)]) (fun _ _ => strItems_at), fun v h' tk hP hk => ?_⟩
  · show c < ((s.heap.push _).push _).objs.size
    rw [Heap.size_push, hsz]
    rcases List.mem_cons.mp hc with rfl | hc
    · rw [hsz]; exact Nat.lt_succ_self _
    · rcases List.mem_cons.mp hc with rfl | hc
      · exact Nat.lt_succ_of_lt (Nat.lt_succ_self _)
      · cases hc
  · have hold : ∀ c o, s.heap.get? c = some o → h'.get? c = some o := fun c o e => by
      refine hk c o (fun hm => ?_) (Heap.get?_push_of_some _ (Heap.get?_push_of_some _ e))
      rcases List.mem_cons.mp hm with e1 | hm
      · have := Heap.lt_size e; rw [e1, hsz] at this; exact Nat.lt_irrefl _ (Nat.lt_of_succ_lt this)
      · cases hm
    have := h h' tk hold
    have hv : v = if a.cps.toList < b.cps.toList then Value.str b u else Value.str a t := by
      have hP' : (strItems #[(a, t), (b, u)])[argBest (fun i j => decide ((strAt #[(a, t), (b, u)] j).cps.toList < (strAt #[(a, t), (b, u)] i).cps.toList)) 1]? = some v := by
        have hsz2 : (strItems #[(a, t), (b, u)]).size - 1 = 1 := by simp [strItems]
        rw [← hsz2]; exact hP
      by_cases hba : a.cps.toList < b.cps.toList
      · have e : argBest (fun i j => decide ((strAt #[(a, t), (b, u)] j).cps.toList < (strAt #[(a, t), (b, u)] i).cps.toList)) 1 = 1 := by simp [argBest, strAt, hba]
        rw [e] at hP'
        simpa [strItems, hba] using hP'.symm
      · have e : argBest (fun i j => decide ((strAt #[(a, t), (b, u)] j).cps.toList < (strAt #[(a, t), (b, u)] i).cps.toList)) 1 = 0 := by simp [argBest, strAt, hba]
        rw [e] at hP'
        simpa [strItems, hba] using hP'.symm
    rw [hv]; exact this
theorem min_two_strs {a b : Str} {t u : Tok} {Q : Value → Shared → Prop} (hh : A.handled = none)
    (h : ∀ h' tk, (∀ c o, s.heap.get? c = some o → h'.get? c = some o) → Q (if b.cps.toList < a.cps.toList then .str b u else .str a t) { s with heap := h', toks := tk }) :
    wpAny (model prog w) A (call (.builtin "min") [.str a t, .str b u]) Q E s := by
  have hT : (s.heap.push { cls := .type "tuple", data := .seq #[.str a t, .str b u] }).IsTuple s.heap.objs.size (strItems #[(a, t), (b, u)]) := ⟨_, Heap.get?_push_size _ rfl, rfl, 0, by simp [strItems]⟩
  refine call_min_two (wpAny_pyIter_tuple hT ?_)
  have hsz : (s.heap.push { cls := .type "tuple", data := .seq #[.str a t, .str b u] }).objs.size = s.heap.objs.size + 1 := Heap.size_push ..
  refine ⟨_, [_, s.heap.objs.size], [_], _, _, _, _, rfl, Walks.tuple (A := A.in1) hh _ s.heap.objs.size (by rw [hsz]; exact Nat.ne_of_lt (Nat.lt_succ_self _)) (strItems #[(a, t), (b, u)]),
    ⟨⟨_, Heap.get?_push_size _ rfl, rfl, rfl⟩, hT.push _⟩, fun c hc => ?_, by simp [strItems], CmpOf.strs_lt (strAt #[(a, t), (b, u)]) (fun _ _ => strItems_at), fun v h' tk hP hk => ?_⟩
  · show c < ((s.heap.push _).push _).objs.size
    rw [Heap.size_push, hsz]
    rcases List.mem_cons.mp hc with rfl | hc
    · rw [hsz]; exact Nat.lt_succ_self _
    · rcases List.mem_cons.mp hc with rfl | hc
      · exact Nat.lt_succ_of_lt (Nat.lt_succ_self _)
      · cases hc
  · have hold : ∀ c o, s.heap.get? c = some o → h'.get? c = some o := fun c o e => by
      refine hk c o (fun hm => ?_) (Heap.get?_push_of_some _ (Heap.get?_push_of_some _ e))
      rcases List.mem_cons.mp hm with e1 | hm
      · have := Heap.lt_size e; rw [e1, hsz] at this; exact Nat.lt_irrefl _ (Nat.lt_of_succ_lt this)
      · cases hm
    have := h h' tk hold
    have hv : v = if b.cps.toList < a.cps.toList then Value.str b u else Value.str a t := by
      have hP' : (strItems #[(a, t), (b, u)])[argBest (fun i j => decide ((strAt #[(a, t), (b, u)] i).cps.toList < (strAt #[(a, t), (b, u)] j).cps.toList)) 1]? = some v := by
        have hsz2 : (strItems #[(a, t), (b, u)]).size - 1 = 1 := by simp [strItems]
        rw [← hsz2]; exact hP
      by_cases hba : b.cps.toList < a.cps.toList
      · have e : argBest (fun i j => decide ((strAt #[(a, t), (b, u)] i).cps.toList < (strAt #[(a, t), (b, u)] j).cps.toList)) 1 = 1 := by simp [argBest, strAt, hba]
        rw [e] at hP'
        simpa [strItems, hba] using hP'.symm
      · have e : argBest (fun i j => decide ((strAt #[(a, t), (b, u)] i).cps.toList < (strAt #[(a, t), (b, u)] j).cps.toList)) 1 = 0 := by simp [argBest, strAt, hba]
        rw [e] at hP'
        simpa [strItems, hba] using hP'.symm
    rw [hv]; exact this
end

/-! ### the functions -/
def on1 (o : Op1) : OpN := fun ds Q => match ds with
  | [d] => o d Q
  | _ => False
def on2 (o : Op2) : OpN := fun ds Q => match ds with
  | [d, e] => o d e Q
  | _ => False
section
variable {O : ObjI} {TB : List Addr} {X : Cx}
theorem cr1 {f : Value} {o : Op1} (h : ∀ (pins : List (Addr × Obj)) (s : Shared) (σ : L2.St) (H : Hp) (x : V) (u : Value) (Q : VK), Inv X pins σ H s → RelV x u → rU1 O TB o x H Q → wpAny (model X.prog X.w) X.A (call f [u]) (EP X pins σ Q) X.xe s) : CallR X f (rC O TB (on1 o)) := by
  rintro pins s σ' H xs us Q I r ⟨G, W, ρ, σ, ds, Qd, S, vw, ho, fin⟩
  match ds, vw, ho with
  | [d], .cons vx .nil, ho =>
    obtain ⟨u, rfl, ru⟩ := vals1 r
    exact h pins s σ' H _ u Q I ru ⟨G, W, ρ, σ, d, Qd, S, vx, ho, fin⟩
theorem cr2 {f : Value} {o : Op2} (h : ∀ (pins : List (Addr × Obj)) (s : Shared) (σ : L2.St) (H : Hp) (x y : V) (u v : Value) (Q : VK), Inv X pins σ H s → RelV x u → RelV y v → rD O TB o x y H Q → wpAny (model X.prog X.w) X.A (call f [u, v]) (EP X pins σ Q) X.xe s) : CallR X f (rC O TB (on2 o)) := by
  rintro pins s σ' H xs us Q I r ⟨G, W, ρ, σ, ds, Qd, S, vw, ho, fin⟩
  match ds, vw, ho with
  | [d, e], .cons vx (.cons vy .nil), ho =>
    obtain ⟨u, v, rfl, ru, rv⟩ := vals2 r
    exact h pins s σ' H _ _ u v Q I ru rv ⟨G, W, ρ, σ, d, e, Qd, S, vx, vy, ho, fin⟩
def lenD : Op1
  | .str s, Q => Q (.fz, .int s.length)
  | .lst l, Q => Q (.fz, .int l.length)
  | .tup l, Q => Q (.fz, .int l.length)
  | _, _ => False
theorem cr_len : CallR X (.builtin "len") (rC O TB (on1 lenD)) := cr1 <| by
  rintro pins s σ' H x u Q I r ⟨G, W, ρ, σ, d, Qd, S, vx, h, fin⟩
  cases vx with
  | str hs => exact call_len pins s σ' H _ _ Q I (.cons r .nil) ⟨_, _, rfl, ⟨by rw [mkS_len]; exact hs, rfl⟩, by rw [mkS_len]; exact S.plain fin .int h⟩
  | lst e rr => exact call_len pins s σ' H _ _ Q I (.cons r .nil) ⟨_, _, rfl, .inl ⟨_, SqL.of e, rfl⟩, by rw [← rr.length]; exact S.plain fin .int h⟩
  | tup _ e rr => exact call_len pins s σ' H _ _ Q I (.cons r .nil) ⟨_, _, rfl, .inr ⟨_, SqT.of e, rfl⟩, by rw [← rr.length]; exact S.plain fin .int h⟩
  | _ => exact (show False from h).elim
def intD : Op1
  | .int i, Q => Q (.fz, .int i)
  | .bl b, Q => Q (.fz, .int (if b then 1 else 0))
  | _, _ => False
theorem cr_int : CallR X (.type "int") (rC O TB (on1 intD)) := cr1 <| by
  rintro pins s σ' H x u Q I r ⟨G, W, ρ, σ, d, Qd, S, vx, h, fin⟩
  cases vx with
  | int => exact call_int1 pins s σ' H _ _ Q I (.cons r .nil) (.inl ⟨_, rfl, S.plain fin .int h⟩)
  | bl => exact call_int1 pins s σ' H _ _ Q I (.cons r .nil) (.inr ⟨_, rfl, S.plain fin .int h⟩)
  | _ => exact (show False from h).elim
def maxD : Op2
  | .int i, .int j, Q => Q (.fz, .int (if j > i then j else i))
  | .str a, .str b, Q => Q (.fz, .str (if a < b then b else a))
  | _, _, _ => False
def minD : Op2
  | .int i, .int j, Q => Q (.fz, .int (if j < i then j else i))
  | .str a, .str b, Q => Q (.fz, .str (if b < a then b else a))
  | _, _, _ => False
theorem cr_max (hc : X.calm = true) : CallR X (.builtin "max") (rC O TB (on2 maxD)) := cr2 <| by
  rintro pins s σ' H x y u v Q I ru rv ⟨G, W, ρ, σ, d, e, Qd, S, vx, vy, h, fin⟩
  cases vx <;> cases vy <;> (try exact (show False from h).elim)
  · exact call_max2 hc pins s σ' H _ _ Q I (.cons ru (.cons rv .nil)) ⟨_, _, rfl, S.plain fin .int h⟩
  · rename_i a ha b hb
    obtain ⟨t, rfl⟩ := ru
    obtain ⟨t', rfl⟩ := rv
    refine max_two_strs (I.ok.hd hc) fun h' tk k => ?_
    rw [mkS_toList, mkS_toList]
    by_cases hj : a < b
    · rw [if_pos hj]; exact ⟨.str (mkS b), H, I.kept k, ⟨_, rfl⟩, fin _ H W .fz (.str b) (WLe.refl W) S (.str hb) (by have h : Qd (.fz, .str (if a < b then b else a)) := h; rw [if_pos hj] at h; exact h)⟩
    · rw [if_neg hj]; exact ⟨.str (mkS a), H, I.kept k, ⟨_, rfl⟩, fin _ H W .fz (.str a) (WLe.refl W) S (.str ha) (by have h : Qd (.fz, .str (if a < b then b else a)) := h; rw [if_neg hj] at h; exact h)⟩
theorem cr_min (hc : X.calm = true) : CallR X (.builtin "min") (rC O TB (on2 minD)) := cr2 <| by
  rintro pins s σ' H x y u v Q I ru rv ⟨G, W, ρ, σ, d, e, Qd, S, vx, vy, h, fin⟩
  cases vx <;> cases vy <;> (try exact (show False from h).elim)
  · exact call_min2 hc pins s σ' H _ _ Q I (.cons ru (.cons rv .nil)) ⟨_, _, rfl, S.plain fin .int h⟩
  · rename_i a ha b hb
    obtain ⟨t, rfl⟩ := ru
    obtain ⟨t', rfl⟩ := rv
    refine min_two_strs (I.ok.hd hc) fun h' tk k => ?_
    rw [mkS_toList, mkS_toList]
    by_cases hj : b < a
    · rw [if_pos hj]; exact ⟨.str (mkS b), H, I.kept k, ⟨_, rfl⟩, fin _ H W .fz (.str b) (WLe.refl W) S (.str hb) (by have h : Qd (.fz, .str (if b < a then b else a)) := h; rw [if_pos hj] at h; exact h)⟩
    · rw [if_neg hj]; exact ⟨.str (mkS a), H, I.kept k, ⟨_, rfl⟩, fin _ H W .fz (.str a) (WLe.refl W) S (.str ha) (by have h : Qd (.fz, .str (if b < a then b else a)) := h; rw [if_neg hj] at h; exact h)⟩
/-- texts in order -/
def sortT (l : List (List Nat)) : List (List Nat) := l.mergeSort fun a b => decide (a ≤ b)
theorem sortT_perm (l : List (List Nat)) : (sortT l).Perm l := List.mergeSort_perm _ _
theorem sortT_sorted (l : List (List Nat)) : (sortT l).Pairwise (· ≤ ·) := by
  have h := List.pairwise_mergeSort (le := fun a b : List Nat => decide (a ≤ b)) (fun a b c h1 h2 => by simp only [decide_eq_true_eq] at *; exact List.le_trans h1 h2) (fun a b => by simp only [Bool.or_eq_true, decide_eq_true_eq]; exact List.le_total a b) l
  exact h.imp fun h => by simpa using h
theorem sorted_unique : ∀ {a b : List (List Nat)}, a.Perm b → a.Pairwise (· ≤ ·) → b.Pairwise (· ≤ ·) → a = b := fun {a b} p ha hb =>
  List.Perm.eq_of_pairwise (fun x y _ _ h1 h2 => List.le_antisymm h1 h2) ha hb p
theorem risingS_pw : ∀ {p : Str} {r : List Str}, risingS p r = true → (p :: r).Pairwise (fun a b => a.cps.toList ≤ b.cps.toList) := by
  intro p r
  induction r generalizing p with
  | nil => intro _; exact List.pairwise_singleton _ _
  | cons x r ih =>
    intro h
    unfold risingS at h
    simp only [Bool.and_eq_true, Bool.not_eq_true', ltCps_eq, decide_eq_false_iff_not] at h
    have h2 := ih h.2
    refine List.pairwise_cons.mpr ⟨fun y hy => ?_, h2⟩
    have h1 : p.cps.toList ≤ x.cps.toList := List.not_lt.mp h.1
    rcases List.mem_cons.mp hy with rfl | hy
    · exact h1
    · exact List.le_trans h1 ((List.pairwise_cons.mp h2).1 y hy)
theorem sortedS_pw {l : List Str} (h : sortedS l = true) : l.Pairwise (fun a b => a.cps.toList ≤ b.cps.toList) := by
  cases l with
  | nil => exact List.Pairwise.nil
  | cons x r => exact risingS_pw h
theorem sortT_of {ss : List (List Nat)} {ys : List Str} (p : ys.Perm (ss.map mkS)) (h : sortedS ys = true) : ys = (sortT ss).map mkS := by
  have e : ys.map (fun y => y.cps.toList) = sortT ss := by
    refine sorted_unique ?_ (List.pairwise_map.mpr (sortedS_pw h)) (sortT_sorted ss)
    have q := p.map (fun y => y.cps.toList)
    rw [List.map_map] at q
    have e : ss.map ((fun y : Str => y.cps.toList) ∘ mkS) = ss := by
      conv => rhs; rw [← List.map_id ss]
      exact List.map_congr_left fun y _ => mkS_toList y
    rw [e] at q
    exact q.trans (sortT_perm ss).symm
  rw [← e, List.map_map]
  conv => lhs; rw [← List.map_id ys]
  exact List.map_congr_left fun y _ => by simp [mkS]
def sortSD : Op1
  | .lst l, Q => ∃ ss : List (List Nat), l = ss.map D.str ∧ Q (.fr, .lst ((sortT ss).map D.str))
  | _, _ => False
theorem cr_sortS : CallR X (.builtin "sorted") (rC O TB (on1 sortSD)) := cr1 <| by
  rintro pins s σ' H x u Q I r ⟨G, W, ρ, σ, d, Qd, S, vx, h, fin⟩
  cases vx with
  | @lst l a vs e rr =>
    obtain ⟨ss, rfl, q⟩ := h
    obtain ⟨rfl, hz⟩ := rr.strs
    obtain rfl : u = .ref a := r
    obtain ⟨its, rv, hl, hsz⟩ := I.list (SqL.of e)
    have hlen0 := rv.length
    refine sorted_strsAny hl.isList rv.strs (by rw [← hlen0]; exact hsz) fun out ys h1 h2 h3 => ?_
    obtain ⟨ep, he'⟩ := PyProof.Rows.sortedAll_at s.heap its out
    have ey := sortT_of h2 h3
    subst ey
    have hlen : (((sortT ss).map mkS).map V.str).length ≤ sizeLine := by rw [List.length_map, h2.length_eq, ← List.length_map (f := V.str)]; exact hsz
    have hn := I.hok.fresh (Nat.le_succ s.heap.objs.size)
    refine ⟨.ref _, upd H (s.heap.objs.size + 1) (.lst (((sortT ss).map mkS).map V.str)), I.laid (t' := s.toks) (fun _ _ => PyProof.Rows.sortedAll_old) (Nat.le_succ _) ⟨hlen, out.toList, ep, vals_of_strs h1, he'⟩, rfl, ?_⟩
    exact S.newL fin (RepL.ofStrs fun y hy => hz y ((sortT_perm ss).mem_iff.mp hy)) q _ hn
  | _ => exact (show False from h).elim
def tupD : Op1
  | .lst l, Q => Q (.fz, .tup l)
  | .tup l, Q => Q (.fz, .tup l)
  | _, _ => False
theorem cr_tup : CallR X (.type "tuple") (rC O TB (on1 tupD)) := cr1 <| by
  rintro pins s σ' H x u Q I r ⟨G, W, ρ, σ, d, Qd, S, vx, h, fin⟩
  cases vx with
  | lst e rr => exact rl_tuple pins s σ' H _ u Q I r (.inl ⟨_, _, rfl, SqL.of e, S.newT fin rr h⟩)
  | tup ew e rr => exact rl_tuple pins s σ' H _ u Q I r (.inr ⟨_, _, rfl, SqT.of e, S.plain fin (.tup ew rr) h⟩)
  | _ => exact (show False from h).elim
def listD : Op1
  | .lst l, Q => Q (.fr, .lst l)
  | .tup l, Q => Q (.fr, .lst l)
  | .str s, Q => Q (.fr, .lst (signs s))
  | _, _ => False
theorem cr_list (hc : X.calm = true) : CallR X (.type "list") (rC O TB (on1 listD)) := cr1 <| by
  rintro pins s σ' H x u Q I r ⟨G, W, ρ, σ, d, Qd, S, vx, h, fin⟩
  cases vx with
  | @lst l a vs e rr =>
    obtain rfl : u = .ref a := r
    obtain ⟨its, rv, pl, hz⟩ := I.list (SqL.of e)
    obtain ⟨o, ho, hcl, n, hd⟩ := pl.isList
    refine call_list_seq a (.inl rfl) ho hcl hd (fun h' c' hk hn => ?_) (by rw [List.size_toArray, ← rv.length]; exact hz)
    exact ⟨.ref _, upd H s.heap.objs.size (.lst vs), I.laid (t' := s.toks) hk (Nat.le_refl _) ⟨hz, its, c', rv, hn⟩, rfl, S.newL fin rr h _ (I.hok.fresh (Nat.le_refl _))⟩
  | @tup l a vs ew e rr =>
    obtain rfl : u = .ref a := r
    obtain ⟨its, rv, pl, hz⟩ := I.tuple (SqT.of e)
    obtain ⟨o, ho, hcl, n, hd⟩ := pl
    refine call_list_seq a (.inr rfl) ho hcl hd (fun h' c' hk hn => ?_) (by rw [List.size_toArray, ← rv.length]; exact hz)
    exact ⟨.ref _, upd H s.heap.objs.size (.lst vs), I.laid (t' := s.toks) hk (Nat.le_refl _) ⟨hz, its, c', rv, hn⟩, rfl, S.newL fin rr h _ (I.hok.fresh (Nat.le_refl _))⟩
  | @str z hz =>
    obtain ⟨t, rfl⟩ := r
    refine call_list_str (I.ok.hd hc) (mkS z) t (fun h' tk acc' c' hk hn hacc => ?_) (by show (mkS z).length ≤ _; rw [mkS_len]; exact hz)
    have hlen : acc'.toList.length = z.length := by
      rw [Array.length_toList, hacc.1]; exact mkS_len z
    have hv : Vals ((z.map fun c => mkS [c]).map V.str) acc'.toList := by
      have hx : ∀ (z : List Nat) (l : List Value), l.length = z.length → (∀ (i : Nat) (c : Nat), z[i]? = some c → ∃ u, l[i]? = some (Value.str ⟨#[c]⟩ u)) → Vals ((z.map fun c => mkS [c]).map V.str) l := by
        intro z
        induction z with
        | nil => intro l hl _; cases l with
          | nil => exact .nil
          | cons _ _ => simp at hl
        | cons c z ih =>
          intro l hl h
          cases l with
          | nil => simp at hl
          | cons v l =>
            obtain ⟨u, hu⟩ := h 0 c rfl
            cases hu
            exact .cons ⟨u, rfl⟩ (ih l (by simpa using hl) fun i c hc => by simpa using h (i + 1) c (by simpa using hc))
      refine hx z _ hlen fun i c hc => ?_
      have hi : i < acc'.size := by
        rw [hacc.1]
        have := (List.getElem?_eq_some_iff.mp hc).1
        show i < (mkS z).length
        rw [mkS_len]; exact this
      obtain ⟨c', u, h1, h2⟩ := hacc.2 i _ (Array.getElem?_eq_getElem hi)
      have h3 : (mkS z).cps[i]? = some c := by simpa [mkS] using hc
      rw [h3] at h1; cases h1
      refine ⟨u, ?_⟩
      rw [Array.getElem?_toList, Array.getElem?_eq_getElem hi, h2]
    have hl2 : ((z.map fun c => mkS [c]).map V.str).length ≤ sizeLine := by simpa using hz
    refine ⟨.ref _, upd H s.heap.objs.size (.lst ((z.map fun c => mkS [c]).map V.str)), I.laid (t' := tk) hk (Nat.le_refl _) ⟨hl2, acc'.toList, c', hv, by rw [hn]⟩, rfl, ?_⟩
    refine S.newL fin (l := signs z) ?_ h _ (I.hok.fresh (Nat.le_refl _))
    have e1 : signs z = (z.map fun c => [c]).map D.str := by unfold signs; rw [List.map_map]; rfl
    have e2 : (z.map fun c => mkS [c]) = (z.map fun c => [c]).map mkS := by rw [List.map_map]; rfl
    rw [e1, e2]
    exact RepL.ofStrs fun y hy => by
      obtain ⟨c, _, rfl⟩ := List.mem_map.mp hy
      show 1 ≤ sizeLine
      decide
  | _ => exact (show False from h).elim
end
end TC

/-! Methods of texts; isinstance; lists and dicts that are changed. -/
namespace TC
open PySem PySem.Spec PyProof.Rows L2

/-! ### one sign in a text -/
theorem occ_run (x : Str) (c hi limit : Nat) : ∀ (k a free : Nat) (F : Array Nat), free ≤ a → hi = x.length →
    (forIn (List.range' a k) (F, free) (StrLaws.occBody x ⟨#[c]⟩ hi limit)).run.fst.toList = F.toList ++ ((List.range' a k).filter fun i => decide (x.cps.toList[i]? = some c)).take (limit - F.size)
  | 0, a, free, F, hf, hh => by simp
  | k + 1, a, free, F, hf, hh => by
    rw [List.range'_succ, List.forIn_cons]
    have l1 : (⟨#[c]⟩ : Str).length = 1 := rfl
    unfold StrLaws.occBody
    by_cases hm : x.cps.toList[a]? = some c
    · have hs := (StrLaws.subAt_one x c a).mpr hm
      rw [← hh] at hs
      rw [List.filter_cons_of_pos (by simpa using hm)]
      by_cases hl : F.size < limit
      · have e : (((F, free).fst.size < limit ∧ (F, free).snd ≤ a) ∧ a + (⟨#[c]⟩ : Str).length ≤ hi) ∧ Builtin.Str.subAt x ⟨#[c]⟩ a = true := ⟨⟨⟨hl, hf⟩, hs.1⟩, hs.2⟩
        rw [if_pos e]
        have ih := occ_run x c hi limit k (a + 1) (a + (⟨#[c]⟩ : Str).length) (F.push a) (by rw [l1]; exact Nat.le_refl _) hh
        refine ih.trans ?_
        rw [Array.size_push, Array.toList_push, show limit - F.size = (limit - (F.size + 1)) + 1 by omega, List.take_succ_cons, List.append_assoc]
        rfl
      · have e : ¬ ((((F, free).fst.size < limit ∧ (F, free).snd ≤ a) ∧ a + (⟨#[c]⟩ : Str).length ≤ hi) ∧ Builtin.Str.subAt x ⟨#[c]⟩ a = true) := fun h => hl h.1.1.1
        rw [if_neg e]
        have ih := occ_run x c hi limit k (a + 1) free F (by omega) hh
        refine ih.trans ?_
        rw [show limit - F.size = 0 by omega]
        rfl
    · have e : ¬ ((((F, free).fst.size < limit ∧ (F, free).snd ≤ a) ∧ a + (⟨#[c]⟩ : Str).length ≤ hi) ∧ Builtin.Str.subAt x ⟨#[c]⟩ a = true) := fun h => hm ((StrLaws.subAt_one x c a).mp ⟨by rw [← hh]; exact h.1.2, h.2⟩)
      rw [if_neg e, List.filter_cons_of_neg (by simpa using hm)]
      exact occ_run x c hi limit k (a + 1) free F (by omega) hh
/-- where c stands in s -/
def placesOf (c : Nat) (s : List Nat) : List Nat := (List.range' 0 (s.length + 1)).filter fun i => decide (s[i]? = some c)
theorem occ_sign (s : List Nat) (c limit : Nat) : Builtin.Str.occurrences (mkS s) (mkS [c]) 0 (mkS s).length limit = (placesOf c s).take limit := by
  rw [StrLaws.occ_eq]
  have h := occ_run (mkS s) c (mkS s).length limit ((mkS s).length + 1 - 0) 0 0 #[] (Nat.le_refl _) rfl
  refine h.trans ?_
  rw [mkS_toList, mkS_len]
  show [] ++ _ = _
  rw [List.nil_append]
  rfl
theorem filter_count (c : Nat) : ∀ (s : List Nat) (a : Nat), ((List.range' a (s.length + 1)).filter fun i => decide (s[i - a]? = some c)).length = s.count c
  | [], a => by simp
  | x :: s, a => by
    have ih := filter_count c s (a + 1)
    rw [List.length_cons, List.range'_succ]
    have e : (List.range' (a + 1) (s.length + 1)).filter (fun i => decide ((x :: s)[i - a]? = some c)) = (List.range' (a + 1) (s.length + 1)).filter (fun i => decide (s[i - (a + 1)]? = some c)) := by
      refine List.filter_congr fun i hi => ?_
      have := (List.mem_range'_1.mp hi).1
      rw [show i - a = (i - (a + 1)) + 1 by omega]
      rfl
    by_cases hx : x = c
    · subst hx
      rw [List.filter_cons_of_pos (by simp), List.length_cons, e, ih]
      simp
    · rw [List.filter_cons_of_neg (by simp [hx]), e, ih, List.count_cons_of_ne (by simpa using hx)]
theorem places_len (c : Nat) (s : List Nat) : (placesOf c s).length = s.count c := filter_count c s 0
theorem places_head {c : Nat} {s : List Nat} (h : c ∈ s) : ∃ r, placesOf c s = s.idxOf c :: r := by
  have key : ∀ (s : List Nat) (a : Nat), c ∈ s → ∃ r, ((List.range' a (s.length + 1)).filter fun i => decide (s[i - a]? = some c)) = (a + s.idxOf c) :: r := by
    intro s
    induction s with
    | nil => intro a h; cases h
    | cons x s ih =>
      intro a h
      rw [List.length_cons, List.range'_succ]
      by_cases hx : x = c
      · subst hx
        rw [List.filter_cons_of_pos (by simp), List.idxOf_cons_self, Nat.add_zero]
        exact ⟨_, rfl⟩
      · have hm : c ∈ s := by
          rcases List.mem_cons.mp h with e | e
          · exact absurd e.symm hx
          · exact e
        rw [List.filter_cons_of_neg (by simp [hx])]
        obtain ⟨r, hr⟩ := ih (a + 1) hm
        refine ⟨r, ?_⟩
        have e : (List.range' (a + 1) (s.length + 1)).filter (fun i => decide ((x :: s)[i - a]? = some c)) = (List.range' (a + 1) (s.length + 1)).filter (fun i => decide (s[i - (a + 1)]? = some c)) := by
          refine List.filter_congr fun i hi => ?_
          have := (List.mem_range'_1.mp hi).1
          rw [show i - a = (i - (a + 1)) + 1 by omega]
          rfl
        have e2 : (x :: s).idxOf c = s.idxOf c + 1 := by
          rw [List.idxOf_cons, show (x == c) = false by simpa using hx]
          rfl
        rw [e, hr, e2]
        congr 1
        omega
  obtain ⟨r, hr⟩ := key s 0 h
  exact ⟨r, by rw [Nat.zero_add] at hr; exact hr⟩
section
variable {O : ObjI} {TB : List Addr} {X : Cx}
def countD : OpM := fun d ds Q => match d, ds with
  | .str s, [.str [c]] => Q (.fz, .int (s.count c))
  | _, _ => False
def sindexD : OpM := fun d ds Q => match d, ds with
  | .str s, [.str [c]] => c ∈ s ∧ Q (.fz, .int (s.idxOf c))
  | _, _ => False
theorem mr1 {id : String} {o : OpM} (h : ∀ (pins : List (Addr × Obj)) (s : Shared) (σ : L2.St) (H : Hp) (x y : V) (u v : Value) (Q : VK), Inv X pins σ H s → RelV x u → RelV y v → rD O TB (fun d e Q => o d [e] Q) x y H Q → wpAny (model X.prog X.w) X.A (call (.builtin id) [u, v]) (EP X pins σ Q) X.xe s)
    (h0 : ∀ d ds Q, o d ds Q → ds.length = 1) : MtR X id (rM O TB o) := by
  rintro pins s σ' H x xs v us Q I rx rs ⟨G, W, ρ, σ, d, ds, Qd, S, vx, vw, ho, fin⟩
  have hl := h0 d ds Qd ho
  match ds, vw, hl, ho with
  | [e], .cons vy .nil, _, ho =>
    obtain ⟨u, rfl, ru⟩ := vals1 rs
    exact h pins s σ' H _ _ v u Q I rx ru ⟨G, W, ρ, σ, d, e, Qd, S, vx, vy, ho, fin⟩
theorem mt_countD : MtR X "str.count" (rM O TB countD) := mr1 (by
  rintro pins s σ' H x y u v Q I ru rv ⟨G, W, ρ, σ, d, e, Qd, S, vx, vy, h, fin⟩
  cases vx <;> cases vy <;> (try exact (show False from h).elim)
  rename_i a ha b hb
  match b, h with
  | [c], h =>
    refine mt_count pins s σ' H _ _ u [v] Q I ru (.cons rv .nil) ⟨_, _, rfl, rfl, ?_⟩
    have e : Txt.count (mkS a) (mkS [c]) = (a.count c : Int) := by
      unfold Txt.count
      rw [occ_sign, List.take_of_length_le, places_len]
      rw [places_len, mkS_len]
      exact Nat.le_succ_of_le List.count_le_length
    rw [e]
    exact S.plain fin .int h
  | [], h => exact (show False from h).elim
  | _ :: _ :: _, h => exact (show False from h).elim) fun d ds Q h => by
    unfold countD at h
    split at h
    · rfl
    · exact h.elim
theorem mt_sindexD : MtR X "str.index" (rM O TB sindexD) := mr1 (by
  rintro pins s σ' H x y u v Q I ru rv ⟨G, W, ρ, σ, d, e, Qd, S, vx, vy, h, fin⟩
  cases vx <;> cases vy <;> (try exact (show False from h).elim)
  rename_i a ha b hb
  match b, h with
  | [c], h =>
    obtain ⟨hm, h⟩ := h
    obtain ⟨r, hr⟩ := places_head hm
    refine mt_sindex pins s σ' H _ _ u [v] Q I ru (.cons rv .nil) ⟨_, _, a.idxOf c, [], rfl, rfl, ?_, S.plain fin .int h⟩
    rw [occ_sign, hr]
    rfl
  | [], h => exact (show False from h).elim
  | _ :: _ :: _, h => exact (show False from h).elim) fun d ds Q h => by
    unfold sindexD at h
    split at h
    · rfl
    · exact h.elim

/-! ### isinstance -/
def tyOfD : D → String
  | .non => "NoneType"
  | .bl _ => "bool"
  | .int _ => "int"
  | .str _ => "str"
  | .tup _ => "tuple"
  | .lst _ => "list"
  | .dct _ => "dict"
  | .dtt _ => "dict"
  | .obj _ _ => "?"
def isiT (T t : String) : Bool := t == T || (T == "int" && t == "bool")
def isiB (T : String) (d : D) : Bool := isiT T (tyOfD d)
theorem kit_tab : ∀ t ∈ ["NoneType", "bool", "int", "str", "tuple", "list", "dict"], ∀ T ∈ ["tuple", "str", "int", "bool", "list"], kitB t T = some (isiT T t) := by decide +kernel
theorem isiB_non (T : String) : isiB T .non = isiT T "NoneType" := rfl
theorem isiB_bl (T : String) (b : Bool) : isiB T (.bl b) = isiT T "bool" := rfl
theorem isiB_int (T : String) (b : Int) : isiB T (.int b) = isiT T "int" := rfl
theorem isiB_str (T : String) (b : List Nat) : isiB T (.str b) = isiT T "str" := rfl
theorem isiB_tup (T : String) (b : List D) : isiB T (.tup b) = isiT T "tuple" := rfl
def vIsi (T : String) (ev : EvT) : EvT := fun ρ Q => ev ρ fun r ρ1 => (∀ n l, r.2 ≠ .obj n l) ∧ Q (.fz, .bl (isiB T r.2)) ρ1
theorem kit_all (T : String) (hT : T = "tuple" ∨ T = "str" ∨ T = "int" ∨ T = "bool" ∨ T = "list") (d : D) (h : ∀ n l, d ≠ .obj n l) : kitB (tyOfD d) T = some (isiB T d) := by
  refine kit_tab _ ?_ T (by simpa using hT)
  cases d <;> first | exact absurd rfl (h _ _) | simp [tyOfD]
theorem View.tyX {W : Wd} {H : Hp} {d : D} {x : V} {K : PySem.W.Frag} (v : View O W H d x) (h : ∀ n l, d ≠ .obj n l) : TyX K H x (.type (tyOfD d)) := by
  cases v with
  | non => exact .base .non
  | bl => exact .base (.bl _)
  | int => exact .base (.int _)
  | str _ => exact .base (.str _)
  | tup _ e _ => exact .base (.tup e)
  | lst e _ => exact .base (.lst e)
  | dct e _ => exact .base (.dK e)
  | dtt e _ => exact .base (.dT e)
  | obj _ => exact absurd rfl (h _ _)
theorem de_isi {a : Expr} {ev : EvT} {T : Str} {Ts : String} {p pos p2 : Pos} (hTs : Ts = "tuple" ∨ Ts = "str" ∨ Ts = "int" ∨ Ts = "bool" ∨ Ts = "list") (hg : Gl X "isinstance") (hm : X.mg "isinstance" = none) (hg2 : Gl X T) (hm2 : X.mg T = none) (hv2 : bootBuiltins T = some (.type Ts)) (ha : DE O TB X a ev)
    (hv : bootBuiltins "isinstance" = some (.builtin "isinstance") := by decide +kernel) (hn2 : T ≠ "__name__" := by decide) (hd2 : (T == ("__debug__" : Str)) = false := by decide)
    (he : starEach [a, .Name T p2] X.env = (false, eval a X.env) :: starEach [.Name T p2] X.env := by rfl) (he2 : starEach [.Name T p2] X.env = (false, eval (.Name T p2) X.env) :: starEach [] X.env := by rfl) (hpl : (backTo pos (starEach [.Name T p2] X.env)).any (·.1) = false := by rfl) :
    DE O TB X (.Call (.Name "isinstance" p) [a, .Name T p2] [] pos) (vIsi Ts ev) := by
  have hc : PE X (.Name T p2) (tC (.ty Ts)) := pe_bltn hg2 hm2 hv2 (show RelV (V.ty Ts) (Value.type Ts) from rfl) hn2 hd2
  refine (pe_callB call_isi hg hm hv (pa_cons ha (pa_cons hc pa_nil he2) he) (by decide) (by decide) he hpl).imp ?_
  rintro σ H Q ⟨G, W, ρ, Qd, s, h, fin⟩
  refine ⟨G, W, ρ, _, s, h, fun v H' W' ρ' k d le fr s' r q => ?_⟩
  show rIsi X.K [v, .ty Ts] H' Q
  exact ⟨v, .ty Ts, .type (tyOfD d), .type Ts, isiB Ts d, rfl, .ty Ts, (s'.view r).tyX q.1, kit_ty (kit_all Ts hTs d q.1), fin _ H' W' ρ' .fz (.bl (isiB Ts d)) le fr s' .bl q.2⟩
end
end TC

/-! Own lists and dicts that are changed: append, stores; displays of dicts. -/
namespace TC
open PySem PySem.Spec PyProof.Rows L2

section
variable {O : ObjI} {Y : ExI} {TB : List Addr} {E : XK} {X : Cx} {G : Kp} {W W' : Wd} {ρ : Rho} {σ : L2.St} {H : Hp}
theorem lt_of_some {α : Type} {l : List α} {i : Nat} {x : α} (e : l[i]? = some x) : i < l.length := (List.getElem?_eq_some_iff.mp e).1
/-- an own object written -/
theorem SOk.write (s : SOk O TB G W ρ σ H) {i : Nat} {d d' : D} {a : Addr} {o' : HO} (e : ρ[i]? = some (.ow d)) (g1 : σ[i]? = some (some (.ref a))) (c : Cnt O W d' o') : SOk O TB G W (ρ.set i (.ow d')) σ (upd H a o') := by
  have ilt := lt_of_some e
  have oa : Owns ρ σ i a := ⟨⟨d, e⟩, g1⟩
  obtain ⟨ov, h1, h2⟩ := s.sl i _ e
  obtain ⟨a', o, rfl, hw, ho, c0⟩ := h2
  rw [g1] at h1; cases h1
  have ow : ∀ j b, Owns (ρ.set i (.ow d')) σ j b → Owns ρ σ j b := fun j b ⟨⟨d2, q1⟩, q2⟩ => by
    by_cases hj : i = j
    · subst hj
      rw [g1] at q2; cases q2
      exact oa
    · rw [List.getElem?_set_ne hj] at q1
      exact ⟨⟨d2, q1⟩, q2⟩
  refine ⟨s.w.upd hw, fun b u q => ?_, s.b, by rw [List.length_set]; exact s.len, fun j x q => ?_, fun j b q => s.og j b (ow j b q), fun j1 j2 b q1 q2 => s.dj j1 j2 b (ow j1 b q1) (ow j2 b q2)⟩
  · obtain ⟨z1, z2⟩ := s.g b u q
    refine ⟨?_, z2⟩
    rw [upd_ne (fun z => by subst z; rw [s.og i b oa] at q; cases q)]
    exact z1
  · by_cases hj : i = j
    · subst hj
      rw [List.getElem?_set_self ilt] at q
      cases q
      exact ⟨_, g1, a, o', rfl, hw, upd_same, c⟩
    · rw [List.getElem?_set_ne hj] at q
      obtain ⟨ov, y1, y2⟩ := s.sl j x q
      refine ⟨ov, y1, ?_⟩
      cases x with
      | no => trivial
      | fz d => exact y2
      | ow d2 =>
        obtain ⟨b, u, rfl, e2, e3, c2⟩ := y2
        have nb : b ≠ a := fun z => by
          subst z
          exact hj (s.dj i j b oa ⟨⟨d2, q⟩, y1⟩)
        exact ⟨b, u, rfl, e2, by rw [upd_ne nb]; exact e3, c2⟩
      | br d2 => exact y2
/-- x.append(e), x an own list -/
def sApp (i : Nat) (ev : EvT) : StT := fun ρ D => (∃ l0, ρ[i]? = some (.ow (.lst l0))) ∧ ev ρ fun r ρ1 => settle r ρ1 fun d ρ2 => ∃ l, ρ2[i]? = some (.ow (.lst l)) ∧ l.length < sizeLine ∧ D.nx (ρ2.set i (.ow (.lst (l ++ [d]))))
theorem ds_app {i : Nat} {x : Str} {e : Expr} {ev : EvT} {p1 ap cp pos : Pos} (he : DE O TB X e ev) (hN : X.N[i]? = some x := by rfl) (hv : Vis X.env.scope x := by first | exact Or.inl rfl | exact Or.inr (Or.inl rfl) | exact Or.inr (Or.inr rfl)) (hd : (x == ("__debug__" : Str)) = false := by decide)
    (hcd : (x == ("__classdict__" : Str)) = false := by decide) (hs : swapsWith (.Call (.Attribute (.Name x p1) "append" ap) [e] [] cp) none pos.line X.env = pure false := by rfl)
    (hbase : attributeBase (.Name x p1) "append" X.env (eval (.Name x p1) X.env) = eval (.Name x p1) X.env := by rfl)
    (hfew : ((backTo cp (starEach [e] X.env)).all (fun x => !x.1) && (backToKw cp (keywordEach [] X.env)).all (fun x => x.1.isSome)
      && decide (([e] : List Expr).length + ([] : List Keyword).length + (if ([] : List Keyword).isEmpty then 0 else 1) < 30)) = true := by rfl)
    (hline : (ap.endLine == cp.line) = true := by rfl) (hst : starEach [e] X.env = (false, eval e X.env) :: starEach [] X.env := by rfl) (hplain : (backTo cp (starEach [] X.env)).any (·.1) = false := by rfl) :
    DS O Y TB E X (.Expr (.Call (.Attribute (.Name x p1) "append" ap) [e] [] cp) pos) (sApp i ev) := by
  refine L2.PS.imp (ps_expr (pe_bm F.plainAttrs_list F.slot_list_append F.type_list_append mt_append (pe_var hN hv hd hcd) (pa_cons he pa_nil hst) hbase hfew hline hst hplain) hs) ?_
  rintro D σ H ⟨G, W, ρ, Dd, s, ⟨⟨l0, e0⟩, h⟩, n, _⟩
  obtain ⟨ov, h1, h2⟩ := s.sl i _ e0
  obtain ⟨a, o, rfl, hw, ho, c⟩ := h2
  obtain ⟨vs0, ho0⟩ : ∃ vs0, H a = some (.lst vs0) := by cases c with | lst r => exact ⟨_, ho⟩
  refine ⟨.ref a, h1, .inl ⟨rfl, _, SqL.of ho0⟩, ?_⟩
  refine ⟨G, W, ρ, _, s, h, fun v H' W' ρ' k d le fr s' r q => ?_⟩
  obtain ⟨W2, ρ2, le2, fr2, s2, rp, l, e2, hl, q2⟩ := s'.settle r q
  obtain ⟨ov2, g1, g2⟩ := s2.sl i _ e2
  obtain ⟨a2, o2, rfl, hw2, ho2, c2⟩ := g2
  rw [h1] at g1; cases g1
  cases c2 with
  | @lst _ vs r2 =>
    refine ⟨a, vs, v, rfl, rfl, ho2, by rw [← r2.length]; exact hl, ?_⟩
    exact n σ _ W2 _ (le.trans le2) (s2.write e2 h1 (.lst (r2.append (.cons rp .nil)))) q2
/-! ### x[k] = v -/
def putD {κ : Type} [DecidableEq κ] (l : List (κ × D)) (k : κ) (v : D) : List (κ × D) := if (l.any fun p => decide (p.1 = k)) = true then l.map (fun p => if p.1 = k then (p.1, v) else p) else l ++ [(k, v)]
/-- what stands in an own list or dict behind x[k] = v -/
def setD (x k v : D) (Q : D → Prop) : Prop := match x, k with
  | .lst l, .int i => 0 ≤ i ∧ i.toNat < l.length ∧ Q (.lst (l.set i.toNat v))
  | .dct l, k => (match keyD k with | some k => l.length < sizeLine ∧ Q (.dct (putD l k v)) | none => False)
  | .dtt l, .tup k => (match keysD k with | some k => l.length < sizeLine ∧ Q (.dtt (putD l k v)) | none => False)
  | _, _ => False
def sStore (i : Nat) (ek ev : EvT) : StT := fun ρ D => ev ρ fun r ρ1 => settle r ρ1 fun v ρ2 => (∃ d0, ρ2[i]? = some (.ow d0)) ∧ ek ρ2 fun rk ρ3 => ∃ x, ρ3[i]? = some (.ow x) ∧ setD x rk.2 v fun x' => D.nx (ρ3.set i (.ow x'))
theorem RepD.anyK {W : Wd} {k : Key} : ∀ {l : List (Key × D)} {vs : List (Key × V)}, RepD O W l vs → (l.any fun p => decide (p.1 = k)) = (vs.any fun p => decide (p.1 = k))
  | _, _, .nil => rfl
  | _, _, .cons r t => by rw [List.any_cons, List.any_cons, RepD.anyK t]
theorem RepD.mapK {W : Wd} {k : Key} {v : V} {d : D} (rv : Rep O W d v) : ∀ {l : List (Key × D)} {vs : List (Key × V)}, RepD O W l vs → RepD O W (l.map (fun p => if p.1 = k then (p.1, d) else p)) (vs.map (fun p => if p.1 = k then (p.1, v) else p))
  | _, _, .nil => .nil
  | _, _, .cons (k := k') r t => by
    rw [List.map_cons, List.map_cons]
    by_cases e : k' = k
    · simp only [e, if_true]; exact .cons rv (RepD.mapK rv t)
    · simp only [e, if_false]; exact .cons r (RepD.mapK rv t)
theorem RepD.appK {W : Wd} {k : Key} {v : V} {d : D} (rv : Rep O W d v) : ∀ {l : List (Key × D)} {vs : List (Key × V)}, RepD O W l vs → RepD O W (l ++ [(k, d)]) (vs ++ [(k, v)])
  | _, _, .nil => .cons rv .nil
  | _, _, .cons r t => .cons r (RepD.appK rv t)
theorem putK_rep {W : Wd} {k : Key} {v : V} {d : D} (rv : Rep O W d v) {l : List (Key × D)} {vs : List (Key × V)} (r : RepD O W l vs) : RepD O W (putD l k d) (putK vs k v) := by
  unfold putD putK
  rw [r.anyK]
  split
  · exact r.mapK rv
  · exact r.appK rv
theorem RepT.anyK {W : Wd} {k : List Key} : ∀ {l : List (List Key × D)} {vs : List (List Key × V)}, RepT O W l vs → (l.any fun p => decide (p.1 = k)) = (vs.any fun p => decide (p.1 = k))
  | _, _, .nil => rfl
  | _, _, .cons r t => by rw [List.any_cons, List.any_cons, RepT.anyK t]
theorem RepT.mapK {W : Wd} {k : List Key} {v : V} {d : D} (rv : Rep O W d v) : ∀ {l : List (List Key × D)} {vs : List (List Key × V)}, RepT O W l vs → RepT O W (l.map (fun p => if p.1 = k then (p.1, d) else p)) (vs.map (fun p => if p.1 = k then (p.1, v) else p))
  | _, _, .nil => .nil
  | _, _, .cons (k := k') r t => by
    rw [List.map_cons, List.map_cons]
    by_cases e : k' = k
    · simp only [e, if_true]; exact .cons rv (RepT.mapK rv t)
    · simp only [e, if_false]; exact .cons r (RepT.mapK rv t)
theorem RepT.appK {W : Wd} {k : List Key} {v : V} {d : D} (rv : Rep O W d v) : ∀ {l : List (List Key × D)} {vs : List (List Key × V)}, RepT O W l vs → RepT O W (l ++ [(k, d)]) (vs ++ [(k, v)])
  | _, _, .nil => .cons rv .nil
  | _, _, .cons r t => .cons r (RepT.appK rv t)
theorem putT_rep {W : Wd} {k : List Key} {v : V} {d : D} (rv : Rep O W d v) {l : List (List Key × D)} {vs : List (List Key × V)} (r : RepT O W l vs) : RepT O W (putD l k d) (putK vs k v) := by
  unfold putD putK
  rw [r.anyK]
  split
  · exact r.mapK rv
  · exact r.appK rv
theorem ds_store {i : Nat} {x : Str} {ik e : Expr} {ek ev : EvT} {p1 sp pos : Pos} (hu : X.A.units + 1 < cLine) (hk : DE O TB X ik ek) (he : DE O TB X e ev) (hN : X.N[i]? = some x := by rfl) (hv : Vis X.env.scope x := by first | exact Or.inl rfl | exact Or.inr (Or.inl rfl) | exact Or.inr (Or.inr rfl)) (hd : (x == ("__debug__" : Str)) = false := by decide)
    (hcd : (x == ("__classdict__" : Str)) = false := by decide) (hs : swapsWithSole [.Subscript (.Name x p1) ik sp] e pos.line X.env = pure false := by rfl) (hw : swappedStores [.Subscript (.Name x p1) ik sp] e X.env = pure none := by rfl)
    (h1 : (assignEach [.Subscript (.Name x p1) ik sp] X.env).map (·.2) = [assign (.Subscript (.Name x p1) ik sp) X.env] := by rfl)
    (ha : ∀ v, assign (.Subscript (.Name x p1) ik sp) X.env v = (do
      let ov ← holding [v] (eval (.Name x p1) X.env)
      let iv ← holding [v, ov] (eval ik X.env)
      standAt sp
      holding [v, ov, iv] (setItem ov iv v)
      release [v, ov, iv] []) := by intro _; rfl) :
    DS O Y TB E X (.Assign [.Subscript (.Name x p1) ik sp] e pos) (sStore i ek ev) := by
  have hset : PSet X (fun o k v H Q => rSetL o k v H Q ∨ ∃ a H', o = .ref a ∧ DPut H a k v H' ∧ Q H') := by
    intro pins s σ H o k v ov kv u Q I ro rk rv h
    rcases h with h | ⟨a, H', rfl, g, q⟩
    · exact set_list pins s σ H o k v ov kv u Q I ro rk rv h
    · obtain rfl : ov = .ref a := ro
      exact d_setItem hu I g rk rv fun s4 I4 => ⟨H', I4, q⟩
  refine L2.PS.imp (ps_asg he (pg_sub (pe_var hN hv hd hcd) hk hset ha) hs hw h1) ?_
  rintro D σ H ⟨G, W, ρ, Dd, s, h, n, _⟩
  refine ⟨G, W, ρ, _, s, h, fun v H' W' ρ' k d le fr s' r q => ?_⟩
  obtain ⟨W2, ρ2, le2, fr2, s2, rp, ⟨d0, e0⟩, q2⟩ := s'.settle r q
  obtain ⟨ov, g1, g2⟩ := s2.sl i _ e0
  obtain ⟨a, o, rfl, hw0, ho, c0⟩ := g2
  refine ⟨.ref a, g1, ?_⟩
  refine ⟨G, W2, ρ2, _, s2, q2, fun y H3 W3 ρ3 k3 d3 le3 fr3 s3 r3 q3 => ?_⟩
  obtain ⟨x3, e3, st⟩ := q3
  obtain ⟨ov3, f1, f2⟩ := s3.sl i _ e3
  obtain ⟨a3, o3, rfl, hw3, ho3, c3⟩ := f2
  rw [g1] at f1; cases f1
  have vy := s3.view r3
  have rv3 := rp.mono le3
  have leA := le.trans (le2.trans le3)
  cases c3 with
  | @lst l vs rr =>
    cases d3 <;> (try exact (show False from st).elim)
    rename_i ii
    obtain ⟨h0, hlt, st⟩ := st
    cases vy
    refine .inl ⟨a, vs, ii, ii.toNat, rfl, rfl, ho3, ?_, n σ _ W3 _ leA (s3.write e3 g1 (.lst (rr.set ii.toNat rv3))) st⟩
    unfold ixN
    rw [if_pos h0, if_pos (by rw [← rr.length]; omega)]
  | @dct l vs rr =>
    have st : (match keyD d3 with | some k => l.length < sizeLine ∧ Dd.nx (ρ3.set i (.ow (.dct (putD l k d)))) | none => False) := st
    cases ek : keyD d3 with
    | none => rw [ek] at st; exact st.elim
    | some kk =>
      rw [ek] at st
      have ey := keyD_rep ek vy
      subst ey
      exact .inr ⟨a, _, rfl, .k ho3 (by rw [← rr.length]; exact st.1), n σ _ W3 _ leA (s3.write e3 g1 (.dct (putK_rep rv3 rr))) st.2⟩
  | @dtt l vs rr =>
    cases d3 <;> (try exact (show False from st).elim)
    rename_i kl
    have st : (match keysD kl with | some k => l.length < sizeLine ∧ Dd.nx (ρ3.set i (.ow (.dtt (putD l k d)))) | none => False) := st
    cases ek : keysD kl with
    | none => rw [ek] at st; exact st.elim
    | some kk =>
      rw [ek] at st
      cases vy with
      | @tup _ b ws ew eh rw' =>
        have ews := keysD_rep ek rw'
        subst ews
        exact .inr ⟨a, _, rfl, .t ho3 eh (by rw [← rr.length]; exact st.1), n σ _ W3 _ leA (s3.write e3 g1 (.dtt (putT_rep rv3 rr))) st.2⟩
/-! ### displays of dicts -/
def vDNewK : EvT := fun ρ Q => Q (.fr, .dct []) ρ
def vDNewT : EvT := fun ρ Q => Q (.fr, .dtt []) ρ
theorem de_dnewK {pos : Pos} : DE O TB X (.Dict [] [] pos) vDNewK := by
  refine pe_dnewK.imp ?_
  rintro σ H Q ⟨G, W, ρ, Qd, s, h, fin⟩
  intro p hp
  exact fin _ _ W ρ .fr (.dct []) (WLe.refl W) (Fro.refl ρ) (s.new hp) ⟨p, _, rfl, s.w.none_of hp, upd_same, .dct .nil, (s.newOwn hp).1, (s.newOwn hp).2⟩ h
theorem de_dnewT {pos : Pos} : DE O TB X (.Dict [] [] pos) vDNewT := by
  refine pe_dnewT.imp ?_
  rintro σ H Q ⟨G, W, ρ, Qd, s, h, fin⟩
  intro p hp
  exact fin _ _ W ρ .fr (.dtt []) (WLe.refl W) (Fro.refl ρ) (s.new hp) ⟨p, _, rfl, s.w.none_of hp, upd_same, .dtt .nil, (s.newOwn hp).1, (s.newOwn hp).2⟩ h
def vDisp1 (ek ev : EvT) : EvT := fun ρ Q => ek ρ fun rk ρ1 => ev ρ1 fun r ρ2 => settle r ρ2 fun v ρ3 => ∃ k, keyD rk.2 = some k ∧ Q (.fr, .dct [(k, v)]) ρ3
theorem de_disp1 {ke ve : Expr} {ek ev : EvT} {pos : Pos} (hk : DE O TB X ke ek) (hv : DE O TB X ve ev) : DE O TB X (.Dict [some ke] [ve] pos) (vDisp1 ek ev) := by
  refine L2.PE.imp (pe_disp (pps_cons hk hv pps_nil) rfl rfl (by simp) (by simp)) ?_
  rintro σ H Q ⟨G, W, ρ, Qd, s, h, fin⟩
  intro p hp
  have s1 := s.new (o := .dK []) hp
  obtain ⟨n1, n2⟩ := s.newOwn hp
  have s2 := s1.guard upd_same (s.w.none_of hp) n2
  have sub : ∀ b u, G.g b = some u → upd G.g p (.dK []) b = some u := fun b u e => by
    rw [upd_ne (fun z => by subst z; rw [n1] at e; cases e)]; exact e
  refine ⟨_, W, ρ, _, s2, h, fun x H1 W1 ρ1 k1 d1 le1 fr1 s3 r1 q1 => ?_⟩
  -- the key: held as a value
  obtain ⟨G3, s3', back⟩ := s3.hold r1
  refine ⟨G3, W1, ρ1, _, s3', q1, fun y H2 W2 ρ2 k2 d2 le2 fr2 s4 r2 q2 => ?_⟩
  obtain ⟨s5, rk5, cv⟩ := back le2 fr2 s4
  obtain ⟨W6, ρ6, le6, fr6, s6, r6, kk, ek, q6⟩ := s5.settle (cv _ _ _ r2) q2
  have ex : x = kV kk := keyD_rep ek (s5.view rk5)
  obtain ⟨hp6, wp6⟩ := s6.g p (.dK []) upd_same
  refine ⟨hp6, [(kk, y)], by rw [ex]; rfl, by simp, ?_⟩
  have s7 : SOk O TB G W6 ρ6 σ H2 := s6.unguard sub s.b
  have np : ∀ i, ¬ Owns ρ6 σ i p := fun i q => by
    have z : upd G.g p (.dK []) p = none := s6.og i p q
    rw [upd_same] at z; cases z
  have s8 : SOk O TB G W6 ρ6 σ (upd H2 p (.dK (mergeK [] [(kk, y)]))) := by
    refine s7.keep (WLe.refl _) (s7.w.upd wp6) fun b u e1 e2 e3 => ⟨?_, e2⟩
    rw [upd_ne (fun z => ?_)]
    · exact e1
    · subst z
      rcases e3 with e3 | ⟨i, e3⟩
      · rw [n1] at e3; cases e3
      · exact np i e3
  exact fin _ _ W6 ρ6 .fr (.dct [(kk, d2)]) (le1.trans (le2.trans le6)) (fr1.trans (fr2.trans fr6)) s8 ⟨p, _, rfl, wp6, upd_same, .dct (.cons r6 .nil), n1, np⟩ q6
end
end TC

/-! enumerate of lists, texts. -/
namespace TC
open PySem PySem.Spec PyProof.Rows L2

def Iten (x : Str) : It :=
  ⟨fun i H => i < x.cps.size, fun i H v H' => ∃ T c, v = .ref T ∧ H T = none ∧ H' = upd H T (.tup [.int (i : Nat), .str ⟨#[c]⟩]) ∧ x.cps[i]? = some c, fun i H => x.cps.size ≤ i⟩
theorem turn_enumS {P : Program} {w : World} {K : PySem.W.Frag} {elts : List Expr} {kk : Nat} {tpos : Pos} (x : Str) (t : Tok) (e it : Addr) (ty : String) (hty : ty = "str_ascii_iterator" ∨ ty = "str_iterator") :
    Turn P w K (.Tuple elts kk tpos) (Iten x) [e, it] e (fun i h => (∃ old, IsEnum h e it ((i : Nat) : Int) old) ∧ h.IsStrIter it ty x t i ∧ e ≠ it ∧ i ≤ x.cps.size) where
  mem := by simp
  obj := fun i h st b hb => by
    obtain ⟨⟨old, he⟩, ⟨o, ho, hc, hd⟩, _⟩ := st
    have e' : b = e ∨ b = it := by simpa using hb
    rcases e' with z | z
    · rw [z]; exact ⟨_, he, fun v q => nomatch q⟩
    · rw [z]; exact ⟨o, ho, fun v q => by rw [hd] at q; cases q⟩
  keep := fun i h h' st k => let ⟨⟨old, he⟩, ⟨o, ho, r⟩, hne, hl⟩ := st; ⟨⟨old, k e (by simp) _ he⟩, ⟨o, k it (by simp) o ho, r⟩, hne, hl⟩
  item := by
    intro X hP hw hK hc i pins s σ H E I hf st hg
    subst hP hw hK
    obtain ⟨⟨old, he⟩, hit, hne, _⟩ := st
    have hg : i < x.cps.size := hg
    have hel : e < s.heap.objs.size := Heap.lt_size he
    have hil : it < s.heap.objs.size := by obtain ⟨_, q, _⟩ := hit; exact Heap.lt_size q
    have D : Draws X.prog X.w X.A.in1 it [it] x.cps.size (fun i v => ∃ c u, x.cps[i]? = some c ∧ v = .str ⟨#[c]⟩ u) (fun i h => h.IsStrIter it ty x t i) := by
      rcases hty with rfl | rfl
      · exact Draws.strAscii (A := X.A.in1) (I.ok.hd hc) it x t
      · exact Draws.strWide (A := X.A.in1) (I.ok.hd hc) it x t
    refine wpAny_pyNext_enum_itemD D he hit hg hne (by simpa using hne) fun u h' tk hP ho hit' hT hsz hk => ?_
    obtain ⟨c, u', hx, rfl⟩ := hP
    refine ⟨_, rfl, wpAny_letOwnedTupleGo_enum (s := { s with heap := h', toks := tk + 1 }) ho fun h'' he' sb => ?_⟩
    have hT2 : h''.get? s.heap.objs.size = some { cls := .type "tuple", data := .seq #[.int i tk, .str ⟨#[c]⟩ u'] } := (sb.2 _ (Nat.ne_of_gt hel)).trans hT
    have new : ObjOk X.prog X.w (upd H s.heap.objs.size (.tup [.int (i : Nat), .str ⟨#[c]⟩])) h'' s.heap.objs.size (.tup [.int (i : Nat), .str ⟨#[c]⟩]) :=
      ⟨by show 2 ≤ sizeLine; decide, [.int i tk, .str ⟨#[c]⟩ u'], .cons ⟨_, rfl⟩ (.cons ⟨_, rfl⟩ .nil), ⟨_, hT2, rfl, _, rfl⟩⟩
    have I1 : Inv X pins σ (upd H s.heap.objs.size (.tup [.int (i : Nat), .str ⟨#[c]⟩])) { s with heap := h'', toks := tk + 1 } :=
      I.turnedNew (ch := [e, it]) (fun b ob hb q => (sb.2 b (fun z => hb (by simp [z]))).trans (hk b ob (fun z => hb (by simp [z])) (fun z => hb (by simp [z])) q)) hf (Nat.le_refl _) new
    refine ⟨.ref s.heap.objs.size, _, I1, rfl, ⟨_, c, rfl, I.hok.fresh (Nat.le_refl _), rfl, hx⟩, ⟨⟨Value.str ⟨#[c]⟩ u', ?_⟩, ?_, hne, hg⟩, fun b hb => ?_⟩
    · have e1 : ((i + 1 : Nat) : Int) = (i : Int) + 1 := by omega
      rw [e1]; exact he'
    · obtain ⟨o, ho1, r⟩ := hit'
      exact ⟨o, (sb.2 it (Ne.symm hne)).trans ho1, r⟩
    · have hb' : b < s.heap.objs.size := by
        have e' : b = e ∨ b = it := by simpa using hb
        rcases e' with z | z
        · rw [z]; exact hel
        · rw [z]; exact hil
      rw [upd_ne (Nat.ne_of_lt hb')]
      exact (hf b hb).1
  done := by
    intro X hP hw hK hc i pins s σ H E I hf st hg
    subst hP hw hK
    obtain ⟨⟨old, he⟩, hit, hne, hl⟩ := st
    have hg : x.cps.size ≤ i := hg
    have ei : i = x.cps.size := Nat.le_antisymm hl hg
    subst ei
    obtain ⟨f0, f1, f2, f3, f4, f5⟩ := hf it (by simp)
    have D : Draws X.prog X.w X.A.in1 it [it] x.cps.size (fun i v => ∃ c u, x.cps[i]? = some c ∧ v = .str ⟨#[c]⟩ u) (fun i h => h.IsStrIter it ty x t i) := by
      rcases hty with rfl | rfl
      · exact Draws.strAscii (A := X.A.in1) (I.ok.hd hc) it x t
      · exact Draws.strWide (A := X.A.in1) (I.ok.hd hc) it x t
    exact wpAny_pyNext_enum_endD D he hit fun h' eb => ⟨rfl, I.turned (t' := s.toks) (fun b o hb q => eb b o hb q) f0 f1 f3 f4 f5⟩
  self := fun A i s Q E st h => let ⟨⟨_, he⟩, _⟩ := st; wpAny_pyIter_enum he h
/-- the items, numbered -/
def enumL (l : List D) : List D := l.zipIdx.map fun p => .tup [.int p.2, p.1]
theorem enumL_get {l : List D} {i : Nat} : (enumL l)[i]? = (l[i]?).map fun d => .tup [.int i, d] := by
  unfold enumL
  rw [List.getElem?_map, List.getElem?_zipIdx]
  cases l[i]? <;> simp
theorem enumL_len (l : List D) : (enumL l).length = l.length := by simp [enumL]
section
variable {O : ObjI} {TB : List Addr} {X : Cx}
def enD (d : D) (Q : List D → Prop) : Prop := match d with
  | .str s => Q (enumL (signs s))
  | .lst l => Q (enumL l)
  | _ => False
def vEnum (ev : EvT) : IvT := fun ρ Q => ev ρ fun r ρ1 => settle r ρ1 fun d ρ2 => enD d fun l => Q l ρ2
theorem di_enum {e : Expr} {ev : EvT} {p pos tpos : Pos} {elts : List Expr} {kk : Nat} (hg : Gl X "enumerate") (hm : X.mg "enumerate" = none) (ha : DE O TB X e ev) (hs : starEach [e] X.env = [(false, eval e X.env)] := by rfl) :
    DI O TB X (.Tuple elts kk tpos) (.Call (.Name "enumerate" p) [e] [] pos) (vEnum ev) := by
  refine ⟨fun pins s σ H R I h => ?_⟩
  obtain ⟨G, W, ρ, Qd, so, hq, fin⟩ := h
  refine Call_ (ld_blt I hg hm boot_enumerate (PyProof.Rows.callWith_type1 (thn ((pa_cons ha pa_nil hs).run pos pins s σ H (fun vs H1 => ∃ v W2 ρ2 d, vs = [v] ∧ WLe W W2 ∧ Fro ρ ρ2 ∧ SOk O TB G W2 ρ2 σ H1 ∧ Rep O W2 d v ∧ enD d fun l => Qd l ρ2) I ?_) fun us s1 ⟨vs, H1, I1, r1, v, W2, ρ2, d, ev2, le2, fr2, so2, rp, q⟩ => ?_) hs rfl))
  · refine ⟨G, W, ρ, _, so, hq, fun v H' W' ρ' k d le fr s' r q => ?_⟩
    obtain ⟨W2, ρ2, le2, fr2, s2, rp, q2⟩ := s'.settle r q
    exact ⟨v, W2, ρ2, d, rfl, le.trans le2, fr.trans fr2, s2, rp, q2⟩
  subst ev2
  obtain ⟨u, rfl, r⟩ := vals1 r1
  cases rp with
  | @str z hz =>
    obtain ⟨t, rfl⟩ := r
    refine call_enumerate_str fun h' he hit hsz hk => wpAny_pyIter_enum he ?_
    have I2 : Inv X pins σ H1 { s1 with heap := h' } := I1.kept (t' := s1.toks) hk
    have hty : strIterType (mkS z) = "str_ascii_iterator" ∨ strIterType (mkS z) = "str_iterator" := by
      unfold strIterType
      split
      · exact .inl rfl
      · exact .inr rfl
    refine ⟨s1.heap.objs.size + 1, [s1.heap.objs.size + 1, s1.heap.objs.size], _, _, H1, rfl, I2, turn_enumS (mkS z) t (s1.heap.objs.size + 1) s1.heap.objs.size _ hty, ⟨⟨.none, he⟩, hit, Nat.succ_ne_self _, Nat.zero_le _⟩, fun b hb => ?_, fin _ H1 W2 ρ2 (enumL (signs z)) le2 fr2 so2 ?_ q⟩
    · have e' : b = s1.heap.objs.size + 1 ∨ b = s1.heap.objs.size := by simpa using hb
      have hle : s1.heap.objs.size ≤ b := by
        rcases e' with z | z
        · rw [z]; exact Nat.le_add_right _ _
        · rw [z]; exact Nat.le_refl _
      exact I1.fpOk hle (I1.hok.fresh hle)
    · intro W1 H2 le w hgk
      have hl : (mkS z).cps.size = z.length := by simp [mkS]
      have hl2 : (enumL (signs z)).length = z.length := by rw [enumL_len]; unfold signs; rw [List.length_map]
      refine ⟨fun i hi => ⟨by show i < (mkS z).cps.size; rw [hl, ← hl2]; exact hi, fun x H3 hy => ?_⟩, fun i hi => by show (mkS z).cps.size ≤ i; rw [hl, ← hl2]; exact hi⟩
      obtain ⟨T, c, rfl, hT, rfl, hc⟩ := hy
      have hc' : z[i]? = some c := by simpa [mkS] using hc
      refine ⟨.tup [.int i, .str [c]], wup W1 T (Fz (.tup [.int (i : Nat), .str ⟨#[c]⟩])), ?_, wup_le (w.none_of hT), (w.upd (w.none_of hT)).wup (w.none_of hT) upd_same rfl, fun b o e1 e2 => ?_, ?_⟩
      · rw [enumL_get]
        unfold signs
        rw [List.getElem?_map, hc']
        rfl
      · have ne := ne_of_none e1 hT
        exact ⟨by rw [upd_ne ne]; exact e1, by rw [wup_ne ne]; exact e2⟩
      · refine .tup wup_same (.cons .int (.cons ?_ .nil))
        exact .str (s := [c]) (by show 1 ≤ sizeLine; decide)
  | @lst l a vs ew rr =>
    obtain rfl : u = .ref a := r
    obtain ⟨o, ho, hp⟩ := so2.w.at_ _ _ ew
    have hp : o = _ := hp
    subst hp
    obtain ⟨its, rv, p', hz⟩ := I1.list (SqL.of ho)
    refine call_enumerate_list p'.isList fun h' he hit hsz hk => wpAny_pyIter_enum he ?_
    have I2 : Inv X pins σ H1 { s1 with heap := h' } := I1.kept (t' := s1.toks) hk
    refine ⟨s1.heap.objs.size + 1, [s1.heap.objs.size + 1, s1.heap.objs.size], _, _, H1, rfl, I2, turn_enum a (s1.heap.objs.size + 1) s1.heap.objs.size, ⟨⟨.none, he⟩, hit, Nat.succ_ne_self _⟩, fun b hb => ?_, fin _ H1 W2 ρ2 (enumL l) le2 fr2 so2 ?_ q⟩
    · have e' : b = s1.heap.objs.size + 1 ∨ b = s1.heap.objs.size := by simpa using hb
      have hle : s1.heap.objs.size ≤ b := by
        rcases e' with z | z
        · rw [z]; exact Nat.le_add_right _ _
        · rw [z]; exact Nat.le_refl _
      exact I1.fpOk hle (I1.hok.fresh hle)
    · intro W1 H2 le w hgk
      have ha : H2 a = some (.lst vs) := by
        obtain ⟨o, ho, hp⟩ := w.at_ a _ (le _ _ ew)
        rw [ho]; exact congrArg some hp
      have sq : SqL X.K H2 a vs := SqL.of ha
      refine ⟨fun i hi => ?_, fun i hi => ⟨vs, sq, by rw [← rr.length, ← enumL_len]; exact hi⟩⟩
      rw [enumL_len] at hi
      obtain ⟨x, hx, rx⟩ := rr.get (List.getElem?_eq_getElem hi)
      refine ⟨⟨vs, x, sq, hx⟩, fun y H3 hy => ?_⟩
      obtain ⟨T, x', rfl, hT, rfl, hx'⟩ := hy
      have e2 := hx' vs sq
      rw [hx] at e2; cases e2
      refine ⟨.tup [.int i, l[i]], wup W1 T (Fz (.tup [.int (i : Nat), x])), ?_, wup_le (w.none_of hT), (w.upd (w.none_of hT)).wup (w.none_of hT) upd_same rfl, fun b o e1 e2 => ?_, ?_⟩
      · rw [enumL_get, List.getElem?_eq_getElem hi]; rfl
      · have ne := ne_of_none e1 hT
        exact ⟨by rw [upd_ne ne]; exact e1, by rw [wup_ne ne]; exact e2⟩
      · exact .tup wup_same (.cons .int (.cons ((rx.mono le).mono (wup_le (w.none_of hT))) .nil))
  | _ => exact (show False from q).elim
end
end TC

/-! The law's box of draws, the law's script. -/
namespace TC
open PySem PySem.Spec PyProof.Rows L2

/-- a box: a list of the digits and of the place where it stands -/
def BoxP (dg : Addr) : HO → Prop := fun o => ∃ i : Int, 0 ≤ i ∧ o = .lst [.ref dg, .int i]
def boxRel (ns : List Int) (W : Wd) (a : Addr) : Prop := ∃ dg, W a = some (BoxP dg) ∧ W dg = some (Fz (.lst (ns.map V.int)))
def scrRel (K : PySem.W.Frag) (n : Nat) (W : Wd) (a : Addr) : Prop := ∃ ns : List Int, ns.length = n ∧ n ≤ sizeLine ∧ ((∃ o, W a = some (Fz o) ∧ (o = .lst (ns.map V.int) ∨ ∃ u, o = .frz u (.lst (ns.map V.int)))) ∨
    ∃ (o : Obj) (its : Array Value) (n : Nat), K.lookup a = some o ∧ o.cls = .type "list" ∧ o.dict = none ∧ o.data = .seq its n ∧ its.size ≤ sizeLine ∧ Vals (ns.map V.int) its.toList)
def bxO (K : PySem.W.Frag) (E : ObjI) : ObjI where
  rel := fun n l W a => match n with
    | 0 => ∃ ns : List Int, l = [.lst (ns.map D.int)] ∧ boxRel ns W a
    | 1 => ∃ n : Nat, l = [.int n] ∧ scrRel K n W a
    | n + 2 => E.rel n l W a
  mono := fun {n l W W' a} le h => by
    match n, h with
    | 0, ⟨ns, h, dg, h1, h2⟩ => exact ⟨ns, h, dg, le _ _ h1, le _ _ h2⟩
    | 1, ⟨n, h, ns, hl, hz, h1⟩ =>
      refine ⟨n, h, ns, hl, hz, ?_⟩
      rcases h1 with ⟨o, h1, h2⟩ | h1
      · exact .inl ⟨o, le _ _ h1, h2⟩
      · exact .inr h1
    | n + 2, h => exact E.mono le h
/-- a box of these digits; a script of n numbers -/
abbrev bx (ns : List Int) : D := .obj 0 [.lst (ns.map D.int)]
abbrev scr (n : Nat) : D := .obj 1 [.int n]
theorem ints_inj : ∀ {a b : List Int}, a.map D.int = b.map D.int → a = b
  | [], [], _ => rfl
  | [], _ :: _, h => by cases h
  | _ :: _, [], h => by cases h
  | x :: a, y :: b, h => by
    rw [List.map_cons, List.map_cons] at h
    injection h with h1 h2
    injection h1 with h1
    rw [h1, ints_inj h2]
theorem scr_sq {K : PySem.W.Frag} {TB : List Addr} {W : Wd} {H : Hp} {a : Addr} {n : Nat} (w : WOk TB W H) (h : scrRel K n W a) : ∃ ns : List Int, ns.length = n ∧ n ≤ sizeLine ∧ SqL K H a (ns.map V.int) := by
  obtain ⟨ns, hl, hz, h | h⟩ := h
  · obtain ⟨o, h, h2⟩ := h
    obtain ⟨u, hu, hp⟩ := w.at_ _ _ h
    have hp : u = _ := hp
    subst hp
    rcases h2 with rfl | ⟨v, rfl⟩
    · exact ⟨ns, hl, hz, .inl (.inl hu)⟩
    · exact ⟨ns, hl, hz, .inl (.inr ⟨v, hu⟩)⟩
  · exact ⟨ns, hl, hz, .inr h⟩
section
variable {EO : ObjI} {Y : ExI} {TB : List Addr} {E : XK} {X : Cx} {b e : Expr} {eb ev : EvT} {pos : Pos}
theorem view_obj {O : ObjI} {W : Wd} {H : Hp} {n : Nat} {l : List D} {v : V} (h : View O W H (.obj n l) v) : ∃ a, v = .ref a ∧ O.rel n l W a := by
  cases h with
  | obj h => exact ⟨_, rfl, h⟩
theorem view_bx {W : Wd} {H : Hp} {ns : List Int} {v : V} (h : View (bxO X.K EO) W H (bx ns) v) : ∃ a, v = .ref a ∧ boxRel ns W a := by
  obtain ⟨a, e, ns', h1, h2⟩ := view_obj h
  injection h1 with h1
  injection h1 with h1
  rw [ints_inj h1]
  exact ⟨a, e, h2⟩
theorem view_scr {W : Wd} {H : Hp} {n : Nat} {v : V} (h : View (bxO X.K EO) W H (scr n) v) : ∃ a, v = .ref a ∧ scrRel X.K n W a := by
  obtain ⟨a, e, n', h1, h2⟩ := view_obj h
  injection h1 with h1
  injection h1 with h1
  have : n = n' := by exact_mod_cast h1
  rw [this]
  exact ⟨a, e, h2⟩
/-- b[1], where it stands -/
def vBxI (eb : EvT) : EvT := fun ρ Q => eb ρ fun r ρ1 => ∃ ns, r.2 = bx ns ∧ ∀ i : Int, 0 ≤ i → Q (.fz, .int i) ρ1
theorem de_bxI {j p1} (hb : DE (bxO X.K EO) TB X b eb) : DE (bxO X.K EO) TB X (.Subscript b (.Constant (.int 1) j p1) pos) (vBxI eb) := by
  refine (pe_ix ix_list hb (pe_int (i := 1)) (fun _ _ => rfl)).imp ?_
  rintro σ H Q ⟨G, W, ρ, Qd, s, h, fin⟩
  refine ⟨G, W, ρ, _, s, h, fun v H1 W1 ρ1 k d le fr s1 r q => ?_⟩
  obtain ⟨ns, hd, q⟩ := q
  simp only at hd
  subst hd
  obtain ⟨a, rfl, dg, hw, hdg⟩ := view_bx (s1.view r)
  obtain ⟨o, ho, i, hi, rfl⟩ := s1.w.at_ _ _ hw
  exact ⟨a, _, 1, .int i, rfl, rfl, SqL.of ho, rfl, fin _ H1 W1 ρ1 .fz (.int i) le fr s1 Rep.int (q i hi)⟩
/-- b[0], the digits -/
def vBxD (eb : EvT) : EvT := fun ρ Q => eb ρ fun r ρ1 => ∃ ns, r.2 = bx ns ∧ Q (.fz, .lst (ns.map D.int)) ρ1
theorem de_bxD {j p1} (hb : DE (bxO X.K EO) TB X b eb) : DE (bxO X.K EO) TB X (.Subscript b (.Constant (.int 0) j p1) pos) (vBxD eb) := by
  refine (pe_ix ix_list hb (pe_int (i := 0)) (fun _ _ => rfl)).imp ?_
  rintro σ H Q ⟨G, W, ρ, Qd, s, h, fin⟩
  refine ⟨G, W, ρ, _, s, h, fun v H1 W1 ρ1 k d le fr s1 r q => ?_⟩
  obtain ⟨ns, hd, q⟩ := q
  simp only at hd
  subst hd
  obtain ⟨a, rfl, dg, hw, hdg⟩ := view_bx (s1.view r)
  obtain ⟨o, ho, i, hi, rfl⟩ := s1.w.at_ _ _ hw
  exact ⟨a, _, 0, .ref dg, rfl, rfl, SqL.of ho, rfl, fin _ H1 W1 ρ1 .fz (.lst (ns.map D.int)) le fr s1 (Rep.lst hdg RepL.ofInts) q⟩
/-- b[1] = e -/
def sBxSet (eb ev : EvT) : StT := fun ρ D => ev ρ fun r ρ1 => ∃ i : Int, r.2 = .int i ∧ 0 ≤ i ∧ eb ρ1 fun rb ρ2 => ∃ ns, rb.2 = bx ns ∧ D.nx ρ2
theorem ds_bxSet {j p1 sp} (hb : DE (bxO X.K EO) TB X b eb) (he : DE (bxO X.K EO) TB X e ev) (hs : swapsWithSole [.Subscript b (.Constant (.int 1) j p1) sp] e pos.line X.env = pure false := by rfl) (hw : swappedStores [.Subscript b (.Constant (.int 1) j p1) sp] e X.env = pure none := by rfl)
    (h1 : (assignEach [.Subscript b (.Constant (.int 1) j p1) sp] X.env).map (·.2) = [assign (.Subscript b (.Constant (.int 1) j p1) sp) X.env] := by rfl)
    (ha : ∀ v, assign (.Subscript b (.Constant (.int 1) j p1) sp) X.env v = (do
      let ov ← holding [v] (eval b X.env)
      let iv ← holding [v, ov] (eval (.Constant (.int 1) j p1) X.env)
      standAt sp
      holding [v, ov, iv] (setItem ov iv v)
      release [v, ov, iv] []) := by intro _; rfl) : DS (bxO X.K EO) Y TB E X (.Assign [.Subscript b (.Constant (.int 1) j p1) sp] e pos) (sBxSet eb ev) := by
  refine L2.PS.imp (ps_asg he (pg_sub hb (pe_int (i := 1)) set_list ha) hs hw h1) ?_
  rintro D σ H ⟨G, W, ρ, Dd, s, h, n, _⟩
  refine ⟨G, W, ρ, _, s, h, fun v H1 W1 ρ1 k d le fr s1 r q => ?_⟩
  obtain ⟨i, hd, hi, q⟩ := q
  simp only at hd
  subst hd
  have hv : v = .int i := by
    have z := s1.view r
    cases z; rfl
  subst hv
  refine ⟨G, W1, ρ1, _, s1, q, fun u H2 W2 ρ2 k2 d2 le2 fr2 s2 r2 q2 => ?_⟩
  obtain ⟨ns, hd2, q2⟩ := q2
  simp only at hd2
  subst hd2
  obtain ⟨a, rfl, dg, hw', hdg⟩ := view_bx (s2.view r2)
  obtain ⟨o, ho, i0, hi0, rfl⟩ := s2.w.at_ _ _ hw'
  refine ⟨a, _, 1, 1, rfl, rfl, ho, rfl, ?_⟩
  refine n σ _ W2 ρ2 (le.trans le2) ?_ q2
  refine s2.keep (WLe.refl _) ⟨fun c P hc => ?_, s2.w.tb, fun P hP ps e => s2.w.cd P hP ps (by
    have z := s2.w.tb P hP
    rw [upd_ne (fun q => by
      subst q
      obtain ⟨_, ha, qs, rfl, _⟩ := s2.w.at_ _ _ z
      rw [ho] at ha; cases ha)] at e
    exact e)⟩ fun c u e1 e2 _ => ⟨?_, e2⟩
  · by_cases hca : c = a
    · subst hca
      rw [hw'] at hc; cases hc
      exact ⟨_, upd_same, i, hi, rfl⟩
    · rw [upd_ne hca]; exact s2.w.at_ c P hc
  · rw [upd_ne (fun z => by subst z; rw [hw'] at e2; cases e2)]; exact e1
/-- [digits, i]: a new box -/
def vBxNew (ea eb : EvT) : EvT := fun ρ Q => ea ρ fun r ρ1 => settle r ρ1 fun d ρ2 => ∃ ns : List Int, d = .lst (ns.map D.int) ∧ eb ρ2 fun rb ρ3 => ∃ i : Int, rb.2 = .int i ∧ 0 ≤ i ∧ Q (.fz, bx ns) ρ3
theorem de_bxNew {a : Expr} {ea : EvT} (hA : DE (bxO X.K EO) TB X a ea) (hB : DE (bxO X.K EO) TB X b eb) (hs : starEach [a, b] X.env = (false, eval a X.env) :: starEach [b] X.env := by rfl) (hs2 : starEach [b] X.env = (false, eval b X.env) :: starEach [] X.env := by rfl) :
    DE (bxO X.K EO) TB X (.List [a, b] pos) (vBxNew ea eb) := by
  refine (pe_lst (pa_cons hA (pa_cons hB pa_nil hs2) hs)).imp ?_
  rintro σ H Q ⟨G, W, ρ, Qd, s, h, fin⟩
  refine ⟨G, W, ρ, _, s, h, fun v H1 W1 ρ1 k d le fr s1 r q => ?_⟩
  obtain ⟨W2, ρ2, le2, fr2, s2, rp, ns, rfl, q2⟩ := s1.settle r q
  refine ⟨G, W2, ρ2, _, s2, q2, fun u H3 W3 ρ3 k3 d3 le3 fr3 s3 r3 q3 => ?_⟩
  obtain ⟨i, hd, hi, q3⟩ := q3
  simp only at hd
  subst hd
  have hu : u = .int i := by
    have z := s3.view r3
    cases z; rfl
  subst hu
  refine ⟨by show 2 ≤ sizeLine; decide, fun p hp => ?_⟩
  cases rp.mono le3 with
  | @lst _ dg vs hw hr =>
    have e := hr.ints
    subst e
    have nw := s3.w.none_of hp
    have l4 := wup_le (P := BoxP dg) nw
    refine fin _ _ (wup W3 p (BoxP dg)) ρ3 .fz (bx ns) (le.trans (le2.trans (le3.trans l4))) (fr.trans (fr2.trans fr3)) (s3.keep l4 ((s3.w.upd nw).wup nw upd_same ⟨i, hi, rfl⟩) fun c o e1 e2 _ => ?_) (Rep.obj ⟨ns, rfl, dg, wup_same, l4 _ _ hw⟩) q3
    have ne := ne_of_none e1 hp
    exact ⟨by rw [upd_ne ne]; exact e1, by rw [wup_ne ne]; exact e2⟩
/-- len(script) -/
def vScLen (ev : EvT) : EvT := fun ρ Q => ev ρ fun r ρ1 => ∃ n : Nat, r.2 = scr n ∧ Q (.fz, .int n) ρ1
theorem de_scLen {p : Pos} (hg : Gl X "len") (hm : X.mg "len" = none) (hv : bootBuiltins "len" = some (.builtin "len")) (ha : DE (bxO X.K EO) TB X e ev)
    (he : starEach [e] X.env = (false, eval e X.env) :: starEach [] X.env := by rfl) (hpl : (backTo pos (starEach [] X.env)).any (·.1) = false := by rfl) : DE (bxO X.K EO) TB X (.Call (.Name "len" p) [e] [] pos) (vScLen ev) := by
  refine (pe_callB call_len hg hm hv (pa_cons ha pa_nil he) (by decide) (by decide) he hpl).imp ?_
  rintro σ H Q ⟨G, W, ρ, Qd, s, h, fin⟩
  refine ⟨G, W, ρ, _, s, h, fun v H1 W1 ρ1 k d le fr s1 r q => ?_⟩
  obtain ⟨n, hd, q⟩ := q
  simp only at hd
  subst hd
  obtain ⟨a, rfl, hsc⟩ := view_scr (s1.view r)
  obtain ⟨ns, hl, hz, sq⟩ := scr_sq s1.w hsc
  show ∃ x n, _
  refine ⟨_, n, rfl, .inl ⟨_, sq, by rw [List.length_map]; exact hl.symm⟩, fin _ H1 W1 ρ1 .fz (.int n) le fr s1 Rep.int q⟩
/-- script[k] -/
def vScIx (ev ei : EvT) : EvT := fun ρ Q => ev ρ fun r ρ1 => ∃ n : Nat, r.2 = scr n ∧ ei ρ1 fun rk ρ2 => ∃ k : Int, rk.2 = .int k ∧ 0 ≤ k ∧ k < n ∧ ∀ i : Int, Q (.fz, .int i) ρ2
theorem de_scIx {i : Expr} {ei : EvT} (ha : DE (bxO X.K EO) TB X e ev) (hi : DE (bxO X.K EO) TB X i ei) (hs : PlainIx i := by exact fun _ _ => rfl) : DE (bxO X.K EO) TB X (.Subscript e i pos) (vScIx ev ei) := by
  refine (pe_ix ix_list ha hi hs).imp ?_
  rintro σ H Q ⟨G, W, ρ, Qd, s, h, fin⟩
  refine ⟨G, W, ρ, _, s, h, fun v H1 W1 ρ1 k d le fr s1 r q => ?_⟩
  obtain ⟨n, hd, q⟩ := q
  simp only at hd
  subst hd
  obtain ⟨a, rfl, hsc⟩ := view_scr (s1.view r)
  refine ⟨G, W1, ρ1, _, s1, q, fun u H2 W2 ρ2 k2 d2 le2 fr2 s2 r2 q2 => ?_⟩
  obtain ⟨kk, hd2, h0, hlt, q2⟩ := q2
  simp only at hd2
  subst hd2
  have hu : u = .int kk := by
    have z := s2.view r2
    cases z; rfl
  subst hu
  have hsc2 : scrRel X.K n W2 a := by
    obtain ⟨ns, hl, hz, h1⟩ := hsc
    refine ⟨ns, hl, hz, ?_⟩
    rcases h1 with ⟨o, h1, h2⟩ | h1
    · exact .inl ⟨o, le2 _ _ h1, h2⟩
    · exact .inr h1
  obtain ⟨ns, hl, hz, sq⟩ := scr_sq s2.w hsc2
  have hk : kk.toNat < ns.length := by omega
  refine ⟨a, _, kk, .int ns[kk.toNat], rfl, rfl, sq, ?_, fin _ H2 W2 ρ2 .fz (.int ns[kk.toNat]) (le.trans le2) (fr.trans fr2) s2 Rep.int (q2 _)⟩
  unfold atI ixN
  rw [if_pos h0, if_pos (by rw [List.length_map]; omega)]
  show (ns.map V.int)[kk.toNat]? = _
  rw [List.getElem?_map, List.getElem?_eq_getElem hk]
  rfl
end
end TC

/-! A def by its facts; the law's end. -/
namespace TC
open PySem PySem.Spec PyProof.Rows L2

/-- the table's address of a def's code object -/
abbrev tbs (K : PySem.W.Frag) (tf : List He.Defn) : List Addr := tf.map fun p => (He.cT K p).2
/-- what the head tells -/
structure Kn (fa : List He.Fa) (fn : List He.DefD) (tf : List He.Defn) (K : PySem.W.Frag) (mg : Str → Option Value) (base : Heap) : Prop where
  c : He.SaysD fa fn K
  X : K.In base
  G : base.Ns mainGlobals mg
  T : ∀ p ∈ tf, GxR.TabB base mg (He.cT K p).1 (He.cT K p).2
section
variable {fa : List He.Fa} {fn : List He.DefD} {tf : List He.Defn} {K : PySem.W.Frag} {mg : Str → Option Value} {base : Heap}
theorem Kn.free (k : Kn fa fn tf K mg base) (i : Nat) {x : Str} (h : fa[i]? = some (.free x) := by rfl) : mg x = none := He.free_ok k.X k.G (k.c.fact i (f := .free x) h)
theorem Kn.glo (k : Kn fa fn tf K mg base) (i : Nat) {x : Str} (h : fa[i]? = some (.glo x) := by rfl) : mg x = some (.ref (He.fAd K (x, none))) := He.glo_ok k.X k.G (k.c.fact i (f := .glo x) h)
theorem Kn.def_ (k : Kn fa fn tf K mg base) (i : Nat) {d : He.DefD} (h : fn[i]? = some d := by rfl) (h0 : d.dfl = [] := by rfl) (h1 : d.kwd = [] := by rfl) : ∃ fd, FunD K d.name d.qual d.params d.body d.scope [] [] (He.fAd K d.at_) fd := by
  obtain ⟨fd, F⟩ := k.c.def_ i (d := d) h
  refine ⟨fd, ?_⟩
  have e0 : d.dvs K = [] := by unfold He.DefD.dvs; rw [h0]; rfl
  have e1 : d.kws K = [] := by unfold He.DefD.kws; rw [h1]; rfl
  rw [e0, e1] at F
  exact F
theorem Kn.tab (k : Kn fa fn tf K mg base) {p : He.Defn} (h : p ∈ tf) : GxR.TabB base mg (He.codeOf K p) (He.tabOf K (He.codeOf K p)) := k.T p h
theorem mem_tbs {K : PySem.W.Frag} {tf : List He.Defn} {p : He.Defn} (h : p ∈ tf) : He.tabOf K (He.codeOf K p) ∈ tbs K tf := List.mem_map.mpr ⟨p, h, rfl⟩
end
section
variable {O : ObjI} {Y : ExI} {TB : List Addr} {P : Program} {w : World} {K : PySem.W.Frag} {mg : Str → Option Value} {base : Heap}
/-- a def that raises nothing, its code object known -/
theorem fnE {x qual : Str} {params : Arguments} {body : List Stmt} {scope : Scope} {at_ : Str × Option Str} {fd : FuncData} {N ps : List Str} {k : Nat} {S : Spc} {e : StT} (F : FunD K x qual params body scope [] [] (He.fAd K at_) fd) (sc : FnScope N ps scope) (hlen : ∀ ds Q E, S ds Q E → ds.length = ps.length)
    (hd : ∀ (A : Around) (outer : List Env) (s : Shared) (H : Hp) (E : XK), Room k (A.deeper (envOfC qual scope s.heap.objs.size (He.fAd K at_) (.ref (He.codeOf K at_)))) → DSs O Y TB E0 (cxOf CX0 P w K mg base N qual scope (He.fAd K at_) (.ref (He.codeOf K at_)) A outer s H E).nox body e)
    (hp : ∀ ds Q E, S ds Q E → e (st0 N.length ds) { nx := fun _ => Q .non, rt := Q }) : FnOk P w K mg base CX0 (k + 1) (He.fAd K at_) fd ps (spD O Y TB S) := by
  obtain ⟨oc, od, dV, kV, doc, pm, an, cdv, ct, osl, rfl, lk, hcd, _, _⟩ := F.ex
  obtain ⟨c, rfl⟩ := He.codeIn_ref hcd
  have ec : He.codeOf K at_ = c := He.codeOf_eq lk rfl
  rw [ec] at hd
  refine fn_of lk hcd sc (fun vs H Q E ⟨W, ds, Qd, Ed, wk, r, sp, _⟩ => by rw [← r.length]; exact hlen _ _ _ sp) fun A outer s H vs Q E hr h => ?_
  refine ⟨_, L2.PSs.nox (hd A outer s H E hr), ?_⟩
  obtain ⟨W, ds, Qd, Ed, wk, r, sp, fin, _⟩ := h
  refine ⟨_, W, _, _, SOk.start N wk r, hp ds Qd Ed sp, fun σ' H' W' ρ' le s' q => ?_, fun v H' W' d le w' kp rd q => ?_, fun _ _ _ _ _ _ q => q.elim, fun _ _ _ _ _ _ q => q.elim, fun _ _ _ _ _ _ _ _ _ _ q => q.elim⟩
  · exact fin .non H' W' .non le s'.w (kept_allG s'.g) .non q
  · exact fin v H' W' d le w' (kept_allG kp) rd q
/-- a def's spec, weakened -/
theorem spD_mono {f : Addr} {fd : FuncData} {ps : List Str} {k : Nat} {S S' : Spc} (F : FnOk P w K mg base CX0 k f fd ps (spD O Y TB S)) (h : ∀ ds Q E, S' ds Q E → S ds Q E) : FnOk P w K mg base CX0 k f fd ps (spD O Y TB S') :=
  ⟨fun vs H Q E ⟨W, ds, Qd, Ed, wk, r, sp, rest⟩ => F.len vs H Q E ⟨W, ds, Qd, Ed, wk, r, h _ _ _ sp, rest⟩, fun A outer s H args us vs Q E hr e0 hb r ⟨W, ds, Qd, Ed, wk, rr, sp, rest⟩ => F.run A outer s H args us vs Q E hr e0 hb r ⟨W, ds, Qd, Ed, wk, rr, h _ _ _ sp, rest⟩⟩
end
/-- the law's own spec -/
def lawS : Spc := fun ds Q _ => ∃ n : Nat, n ≤ 63 ∧ ds = [scr n] ∧ Q (.bl true)
open Classical in
noncomputable def lawW (TB : List Addr) (H : Hp) (a : Addr) : Wd := fun b => if b ∈ TB then some TblP else if b = a then (match H a with | some o => some (Fz o) | _ => none) else none
theorem lawSp {EO : ObjI} {Y : ExI} {K : PySem.W.Frag} {tf : List He.Defn} {H : Hp} {a : Addr} {ns : List Int} (hl : ns.length ≤ 63) (hT : ∀ p ∈ tf.map (He.cT K), H p.2 = some (.tbl #[])) (hS : SqL K H a (ns.map V.int)) :
    spD (bxO K EO) Y (tbs K tf) lawS [.ref a] H (fun v _ => v = .bl true) fun _ _ _ => False := by
  have hTB : ∀ P ∈ tbs K tf, H P = some (.tbl #[]) := fun P hP => by
    obtain ⟨p, hp, e⟩ := List.mem_map.mp hP
    rw [← e]
    exact hT _ (List.mem_map.mpr ⟨p, hp, rfl⟩)
  have hline : ns.length ≤ sizeLine := Nat.le_trans hl (by decide)
  refine ⟨lawW (tbs K tf) H a, [scr ns.length], fun d => d = .bl true, fun _ _ => False, ⟨fun b P e => ?_, fun P hP => if_pos hP, fun P hP ps e pos cv hc => (by
    rw [hTB P hP] at e; cases e; simp [codeAmong] at hc)⟩, .cons (Rep.obj ⟨ns.length, rfl, ns, rfl, hline, ?_⟩) .nil, ⟨ns.length, hl, rfl, rfl⟩, fun v H' W' d le w' kp r q => ?_, fun _ _ _ _ _ _ _ _ _ _ q => q⟩
  · unfold lawW at e
    by_cases hb : b ∈ tbs K tf
    · rw [if_pos hb] at e
      cases e
      exact ⟨_, hTB b hb, #[], rfl, trivial⟩
    · rw [if_neg hb] at e
      by_cases hba : b = a
      · rw [if_pos hba] at e
        subst hba
        split at e
        · rename_i o h
          cases e
          exact ⟨_, h, rfl⟩
        · cases e
      · rw [if_neg hba] at e
        cases e
  · have na : (∃ o, H a = some o ∧ ∀ q, o ≠ .tbl q) → a ∉ tbs K tf := fun ⟨o, h, hn⟩ z => by
      have := hTB a z
      rw [h] at this; cases this
      exact hn _ rfl
    rcases hS with (h | ⟨o, h⟩) | h
    · left
      refine ⟨_, ?_, .inl rfl⟩
      unfold lawW
      rw [if_neg (na ⟨_, h, fun q z => by cases z⟩), if_pos rfl, h]
    · left
      refine ⟨_, ?_, .inr ⟨o, rfl⟩⟩
      unfold lawW
      rw [if_neg (na ⟨_, h, fun q z => by cases z⟩), if_pos rfl, h]
    · exact .inr h
  · subst q
    cases r
    rfl
end TC
namespace TC
open PySem PySem.Spec PyProof.Rows L2
/-- a def of the module, by name: what it says of data -/
def OkD (P : Program) (w : World) (K : PySem.W.Frag) (mg : Str → Option Value) (base : Heap) (O : ObjI) (Y : ExI) (TB : List Addr) (k : Nat) (at_ : Str × Option Str) (ps : List Str) (S : Spc) : Prop :=
  ∃ fd, FnOk P w K mg base CX0 k (He.fAd K at_) fd ps (spD O Y TB S) ∧ PySem.W.keepIn K (.ref (He.fAd K at_)) = true ∧ Binds K fd ps []
section
variable {O : ObjI} {Y : ExI} {TB : List Addr} {P : Program} {w : World} {K : PySem.W.Frag} {mg : Str → Option Value} {base : Heap}
theorem OkD.mk {x qual : Str} {params : Arguments} {body : List Stmt} {scope : Scope} {at_ : Str × Option Str} {fd : FuncData} {N ps : List Str} {k : Nat} {S : Spc} {e : StT} (F : FunD K x qual params body scope [] [] (He.fAd K at_) fd) (sc : FnScope N ps scope)
    (hd : ∀ (A : Around) (outer : List Env) (s : Shared) (H : Hp) (E : XK), Room k (A.deeper (envOfC qual scope s.heap.objs.size (He.fAd K at_) (.ref (He.codeOf K at_)))) → DSs O Y TB E0 (cxOf CX0 P w K mg base N qual scope (He.fAd K at_) (.ref (He.codeOf K at_)) A outer s H E).nox body e)
    (hb : ∀ (kV doc pm : Value) (an : Option Addr) (cdv ct : Value) (us : List Value), us.length = ps.length → bindArgs (PySem.W.fnOf x qual params body scope .none kV doc pm an cdv ct) ⟨us, []⟩ = pure (ps.zip us))
    (hlen : ∀ ds Q E, S ds Q E → ds.length = ps.length) (hp : ∀ ds Q E, S ds Q E → e (st0 N.length ds) { nx := fun _ => Q .non, rt := Q }) : OkD P w K mg base O Y TB (k + 1) at_ ps S :=
  ⟨fd, fnE F sc hlen hd hp, F.kp, F.bindsN hb⟩
theorem OkD.mono {k : Nat} {at_ : Str × Option Str} {ps : List Str} {S S' : Spc} (h : OkD P w K mg base O Y TB k at_ ps S) (m : ∀ ds Q E, S' ds Q E → S ds Q E) : OkD P w K mg base O Y TB k at_ ps S' := by
  obtain ⟨fd, F, kp, b⟩ := h
  exact ⟨fd, spD_mono F m, kp, b⟩
end
section
variable {O : ObjI} {Y : ExI} {TB : List Addr} {X : Cx} {a : Expr} {es : List Expr} {as : AsT} {pos : Pos}
theorem de_callD {S : Spc} {k j : Nat} {ps : List Str} {x : Str} {p : Pos} (F : OkD X.prog X.w X.K X.mg X.base O Y TB k (x, none) ps S) (hr : Room j X.A) (hk : k ≤ j) (hm : X.mg x = some (.ref (He.fAd X.K (x, none)))) (ha : DAs O TB X (a :: es) as) (hg : Gl X x := by rfl)
    (hdb : (x == ("__debug__" : Str)) = false := by decide) (he : starEach (a :: es) X.env = (false, eval a X.env) :: starEach es X.env := by rfl) (hpl : (backTo pos (starEach es X.env)).any (·.1) = false := by rfl) :
    DE O TB X (.Call (.Name x p) (a :: es) [] pos) (vCall S as) := by
  obtain ⟨fd, F, kp, b⟩ := F
  exact de_call F (hr.mono hk) hg hm kp b ha hdb he hpl
end
theorem _root_.L2.Room.u {k : Nat} {A : Around} (r : Room k A) {n : Nat} (h : n ≤ 200 := by decide) : A.units + n < cLine := by have := r.un; omega
/-- a comprehension's block, by a look -/
def blkB (N : List Str) (sc scope : Scope) (own : List (Str × Nat)) : Bool :=
  decide (scope.kind = .function) && (scope.names.all fun y => decide (scope.names.lookup y.1 = some y.2)) && (own.all fun p => decide (N[p.2]? = some p.1)) &&
  (scope.names.all fun y => !decide (y.2 = .free) || (decide (sc.names.lookup y.1 = some .cell) || decide (sc.names.lookup y.1 = some .free))) &&
  (scope.names.all fun y => !(decide (y.2 = .local) || decide (y.2 = .cell)) || (decide (y.1 ∈ own.map (·.1)) || !decide (y.1 ∈ N)))
theorem blkOk_of {N : List Str} {sc scope : Scope} {own : List (Str × Nat)} (h : blkB N sc scope own = true) : BlkOk N sc scope own := by
  unfold blkB at h
  simp only [Bool.and_eq_true, decide_eq_true_eq, List.all_eq_true, Bool.or_eq_true, Bool.not_eq_true', decide_eq_false_iff_not] at h
  obtain ⟨⟨⟨⟨h1, h2⟩, h3⟩, h4⟩, h5⟩ := h
  refine ⟨h1, h2, h3, fun y hy e => ?_, fun y hy e => ?_⟩
  · rcases h4 y hy with q | q
    · exact absurd e q
    · exact q
  · rcases h5 y hy with q | q
    · simp only [Bool.or_eq_false_iff, decide_eq_false_iff_not] at q
      rcases e with e | e
      · exact absurd e q.1
      · exact absurd e q.2
    · exact q
/-- no objects of a law's own -/
def noE : ObjI := ⟨fun _ _ _ _ => False, fun _ h => h⟩
def noY : ExI := ⟨fun _ => .none, fun _ => ""⟩
end TC
namespace TC
open PySem PySem.Spec PyProof.Rows L2
theorem lawAt_of {l : PySem.W.OpenLaw} {w : World} {h : Heap} {K : PySem.W.Frag} {fa : List He.Fa} {fn : List He.DefD} {tf : List He.Defn} {ex : PySem.W.Frag → Bool} {mg : Str → Option Value} {f : Addr} {k : Nat} {x : Str} (X : K.In h) (G : h.Ns mainGlobals mg) (c : He.SaysX fa fn [] tf ex w h K) (hfa : mg "law" = some (.ref f))
    {d : He.DefD} (i j : Nat) (hi : fa[i]? = some (.glo "law") := by rfl) (hj : fn[j]? = some d := by rfl) (hat : d.at_ = (("law" : Str), (none : Option Str)) := by rfl)
    (hb : ∀ (kV doc pm : Value) (an : Option Addr) (cdv ct : Value) (us : List Value), us.length = 1 → bindArgs (PySem.W.fnOf d.name d.qual d.params d.body d.scope .none kV doc pm an cdv ct) ⟨us, []⟩ = pure ([x].zip us))
    (h0 : d.dfl = [] := by rfl) (h1 : d.kwd = [] := by rfl)
    (ok : ∀ (base : Heap) (fd : FuncData), Kn fa fn tf K mg base → FunD K d.name d.qual d.params d.body d.scope [] [] (He.fAd K ("law", none)) fd → FnOk l.prog w K mg base CX0 k (He.fAd K ("law", none)) fd [x] (spD (bxO K noE) noY (tbs K tf) lawS)) :
    LamX.LawAtS l w K CX0 k 63 x mg f h := by
  have e : f = He.fAd K ("law", none) := by
    have z := hfa.symm.trans (He.glo_ok X G (c.t.d.fact i (f := .glo "law") hi))
    cases z; rfl
  subst e
  have F : ∃ fd, FunD K d.name d.qual d.params d.body d.scope [] [] (He.fAd K ("law", none)) fd := by
    obtain ⟨fd, F⟩ := c.t.d.def_ j (d := d) hj
    refine ⟨fd, ?_⟩
    have e0 : d.dvs K = [] := by unfold He.DefD.dvs; rw [h0]; rfl
    have e1 : d.kws K = [] := by unfold He.DefD.kws; rw [h1]; rfl
    rw [e0, e1, hat] at F
    exact F
  obtain ⟨fd, F⟩ := F
  refine ⟨fd, tf.map (He.cT K), spD (bxO K noE) noY (tbs K tf) lawS, fun p hp => ?_, fun p hp => ?_, fun p hp => ?_, fun s u => ?_, fun H a ns hl _ hT hS => lawSp hl hT hS, fun base hK hN hT => ok base fd ⟨c.t.d, hK, hN, fun p hp => let z := hT _ (List.mem_map.mpr ⟨p, hp, rfl⟩); ⟨z.code, z.bm, z.gP⟩⟩ F⟩
  · obtain ⟨q, hq, rfl⟩ := List.mem_map.mp hp
    exact c.empty q hq
  · obtain ⟨q, hq, rfl⟩ := List.mem_map.mp hp
    exact c.out q hq
  · obtain ⟨q, hq, rfl⟩ := List.mem_map.mp hp
    exact PySem.W.codeHd_of_K X (c.hd q hq)
  · exact FunD.bindsA (ps := [x]) F hb s [u] rfl
end TC

/-! Plain facts: data compared, ranges, loops unrolled. -/
namespace TC
open PySem PySem.Spec PyProof.Rows L2

theorem bx_eq {a b : List Int} : (bx a = bx b) = (a = b) := by
  refine propext ⟨fun h => ?_, fun h => by rw [h]⟩
  injection h with h1 h2
  injection h2 with h2
  injection h2 with h2
  exact ints_inj h2
theorem scr_eq {a b : Nat} : (scr a = scr b) = (a = b) := by
  refine propext ⟨fun h => ?_, fun h => by rw [h]⟩
  injection h with h1 h2
  injection h2 with h2
  injection h2 with h2
  exact_mod_cast h2
theorem strs_inj : ∀ {a b : List (List Nat)}, a.map D.str = b.map D.str → a = b
  | [], [], _ => rfl
  | [], _ :: _, h => by cases h
  | _ :: _, [], h => by cases h
  | x :: a, y :: b, h => by
    rw [List.map_cons, List.map_cons] at h
    injection h with h1 h2
    injection h1 with h1
    rw [h1, strs_inj h2]
theorem strs_eq {a b : List (List Nat)} : (a.map D.str = b.map D.str) = (a = b) := propext ⟨strs_inj, fun h => by rw [h]⟩
theorem mkS_beq {a b : List Nat} : (mkS a == mkS b) = decide (a = b) := by
  rw [Bool.eq_iff_iff, beq_iff_eq, decide_eq_true_eq]
  exact ⟨mkS_inj, fun h => by rw [h]⟩
theorem atI_lt {α : Type} {l : List α} {i : Int} (h0 : 0 ≤ i) (h1 : i < l.length) : atI l i = some (l[i.toNat]'(by omega)) := by
  unfold atI ixN
  rw [if_pos h0, if_pos h1]
  exact List.getElem?_eq_getElem (by omega)
theorem atI_nat {α : Type} {l : List α} {i : Nat} (h1 : i < l.length) : atI l (i : Int) = some l[i] := by
  unfold atI ixN
  rw [if_pos (by omega), if_pos (by omega)]
  exact List.getElem?_eq_getElem (by omega)
theorem atI_0 {α : Type} {x : α} {l : List α} : atI (x :: l) 0 = some x := by
  unfold atI ixN
  rw [if_pos (by omega), if_pos (by rw [List.length_cons]; omega)]
  rfl
theorem atI_1 {α : Type} {x y : α} {l : List α} : atI (x :: y :: l) 1 = some y := by
  unfold atI ixN
  rw [if_pos (by omega), if_pos (by rw [List.length_cons, List.length_cons]; omega)]
  rfl
theorem atI_2 {α : Type} {x y z : α} {l : List α} : atI (x :: y :: z :: l) 2 = some z := by
  unfold atI ixN
  rw [if_pos (by omega), if_pos (by rw [List.length_cons, List.length_cons, List.length_cons]; omega)]
  rfl
theorem rngL_zero (lo : Int) : rngL lo 0 = [] := rfl
theorem rngL_succ (lo : Int) (n : Nat) : rngL lo (n + 1) = .int lo :: rngL (lo + 1) n := by
  unfold rngL
  rw [List.range_succ_eq_map, List.map_cons, List.map_map]
  refine congr (congrArg _ (by simp)) (List.map_congr_left fun i _ => ?_)
  show D.int (lo + ((i + 1 : Nat) : Int)) = D.int (lo + 1 + i)
  congr 1
  omega
theorem cmR {i j : Int} (h : -(2 ^ 64) < j ∧ j < 2 ^ 64) : CMul i j := .inr h
theorem cmL {i j : Int} (h : -(2 ^ 64) < i ∧ i < 2 ^ 64) : CMul i j := .inl h
theorem forD_cons {g : GtT} {body : StT} {x : D} {xs : List D} {ρ : Rho} {Z : EndsD} : forD g body (x :: xs) ρ Z = g x ρ fun ρ1 => body ρ1 { Z with nx := fun ρ2 => forD g body xs ρ2 Z, ct := fun ρ2 => forD g body xs ρ2 Z, bk := Z.nx } := rfl
theorem forD_nil {g : GtT} {body : StT} {ρ : Rho} {Z : EndsD} : forD g body [] ρ Z = Z.nx ρ := rfl
theorem signs_nil : signs [] = [] := rfl
theorem signs_cons (c : Nat) (s : List Nat) : signs (c :: s) = .str [c] :: signs s := rfl
theorem lcD_nil {g : GtT} {ts : TvT} {el : EvT} {ρ0 : Rho} {acc : List D} {Q : List D → Prop} : lcD g ts el ρ0 [] acc Q = Q acc := rfl
theorem lcD_cons {g : GtT} {ts : TvT} {el : EvT} {ρ0 : Rho} {x : D} {xs acc : List D} {Q : List D → Prop} : lcD g ts el ρ0 (x :: xs) acc Q = g x ρ0 fun ρ1 => ts ρ1 fun b ρ2 => if b = true then el ρ2 fun r ρ3 => settle r ρ3 fun d _ => acc.length < sizeLine ∧ lcD g ts el ρ0 xs (acc ++ [d]) Q else lcD g ts el ρ0 xs acc Q := rfl
theorem loopD_nil {α : Type} {g : GtT} {ts : TvT} {bd : BdT α} {ρ0 : Rho} {st : α} {Q : α → Prop} : loopD g ts bd ρ0 [] st Q = Q st := rfl
theorem loopD_cons {α : Type} {g : GtT} {ts : TvT} {bd : BdT α} {ρ0 : Rho} {x : D} {xs : List D} {st : α} {Q : α → Prop} : loopD g ts bd ρ0 (x :: xs) st Q = g x ρ0 fun ρ1 => ts ρ1 fun b ρ2 => if b = true then bd ρ2 st fun st' => loopD g ts bd ρ0 xs st' Q else loopD g ts bd ρ0 xs st Q := rfl

/-! ### data that may be compared -/
def okn (n : Nat) (d : D) : Prop := d.flat = true ∧ d.py.canLay0 = true ∧ d.py.depth ≤ n
theorem okn.ok {n : Nat} {d : D} (h : okn n d) (hn : n ≤ 64 := by decide) : d.ok := ⟨h.1, by
  unfold SeqAt.shaped
  rw [h.2.1, Bool.true_and]
  exact decide_eq_true (Nat.le_trans h.2.2 hn)⟩
def chars (s : List Nat) : Prop := ∀ c ∈ s, c < 0x110000
theorem okn_str {n : Nat} {s : List Nat} (h : chars s) : okn n (.str s) := by
  refine ⟨rfl, ?_, Nat.zero_le _⟩
  show ((mkS s).cps.all (· < 0x110000)) = true
  rw [← Array.all_toList, mkS_toList, List.all_eq_true]
  exact fun c hc => decide_eq_true (h c hc)
theorem okn_int {n : Nat} {i : Int} : okn n (.int i) := ⟨rfl, rfl, Nat.zero_le _⟩
theorem okn_bl {n : Nat} {b : Bool} : okn n (.bl b) := ⟨rfl, rfl, Nat.zero_le _⟩
theorem okn_non {n : Nat} : okn n .non := ⟨rfl, rfl, Nat.zero_le _⟩
theorem okn_all {n : Nat} : ∀ {l : List D}, (∀ d ∈ l, okn n d) → D.flatL l = true ∧ PyData.canLayAll0 (D.pyL l) = true ∧ PyData.depthAll (D.pyL l) ≤ n
  | [], _ => ⟨rfl, rfl, Nat.zero_le _⟩
  | d :: l, h => by
    obtain ⟨h1, h2, h3⟩ := h d List.mem_cons_self
    obtain ⟨i1, i2, i3⟩ := okn_all (l := l) fun x hx => h x (List.mem_cons_of_mem _ hx)
    refine ⟨?_, ?_, ?_⟩
    · show (D.flat d && D.flatL l) = true
      rw [h1, i1]; rfl
    · show (PyData.canLay0 d.py && PyData.canLayAll0 (D.pyL l)) = true
      rw [h2, i2]; rfl
    · exact Nat.max_le.mpr ⟨h3, i3⟩
theorem okn_tup {n : Nat} {l : List D} (h : ∀ d ∈ l, okn n d) : okn (n + 1) (.tup l) := by
  obtain ⟨h1, h2, h3⟩ := okn_all h
  exact ⟨h1, h2, Nat.succ_le_succ h3⟩
theorem okn_lst {n : Nat} {l : List D} (h : ∀ d ∈ l, okn n d) : okn (n + 1) (.lst l) := by
  obtain ⟨h1, h2, h3⟩ := okn_all h
  exact ⟨h1, h2, Nat.succ_le_succ h3⟩
theorem okn.mono {n m : Nat} {d : D} (h : okn n d) (k : n ≤ m) : okn m d := ⟨h.1, h.2.1, Nat.le_trans h.2.2 k⟩
theorem ok_str {s : List Nat} (h : chars s) : (D.str s).ok := (okn_str (n := 0) h).ok
theorem ok_int {i : Int} : (D.int i).ok := (okn_int (n := 0)).ok
theorem ok_bl {i : Bool} : (D.bl i).ok := (okn_bl (n := 0)).ok
theorem ok_non : D.non.ok := (okn_non (n := 0)).ok
theorem ok_strT {l : List (List Nat)} (h : ∀ s ∈ l, chars s) : (D.tup (l.map D.str)).ok := (okn_tup (n := 0) fun d hd => by
  obtain ⟨s, hs, rfl⟩ := List.mem_map.mp hd
  exact okn_str (h s hs)).ok
theorem ok_strL {l : List (List Nat)} (h : ∀ s ∈ l, chars s) : (D.lst (l.map D.str)).ok := (okn_lst (n := 0) fun d hd => by
  obtain ⟨s, hs, rfl⟩ := List.mem_map.mp hd
  exact okn_str (h s hs)).ok
theorem any_str {l : List (List Nat)} {s : List Nat} : ((l.map D.str).any fun z => PyData.eqv z.py (D.str s).py) = decide (s ∈ l) := by
  induction l with
  | nil => rfl
  | cons x l ih =>
    rw [List.map_cons, List.any_cons, ih]
    show ((mkS x == mkS s) || _) = _
    rw [mkS_beq, Bool.eq_iff_iff]
    simp only [Bool.or_eq_true, decide_eq_true_eq, List.mem_cons]
    exact ⟨fun h => h.elim (fun e => .inl e.symm) .inr, fun h => h.elim (fun e => .inl e.symm) .inr⟩
theorem chars_app {a b : List Nat} (h : chars a) (k : chars b) : chars (a ++ b) := fun c hc => (List.mem_append.mp hc).elim (h c) (k c)
/-- what a slice takes -/
theorem cutL_to {α : Type} (l : List α) (k : Nat) : cutL l none (some (k : Int)) = l.take k := by
  unfold cutL
  rw [HT.sIx_none, HT.sIx_nat]
  rw [List.drop_zero, Nat.sub_zero]
  exact (List.take_eq_take_min).symm
theorem cutL_from {α : Type} (l : List α) (k : Nat) : cutL l (some (k : Int)) none = l.drop k := by
  unfold cutL
  rw [HT.sIx_none, HT.sIx_nat]
  rw [List.take_of_length_le (by rw [List.length_drop]; exact Nat.le_refl _)]
  by_cases h : k ≤ l.length
  · rw [Nat.min_eq_left h]
  · rw [Nat.min_eq_right (by omega), List.drop_length, List.drop_of_length_le (by omega)]
end TC

/-! name += value (ints, texts); sep.join(list) -/
namespace TC
open PySem PySem.Spec PyProof.Rows L2
section
variable {O : ObjI} {Y : ExI} {TB : List Addr} {E : XK} {X : Cx} {e : Expr} {ev : EvT} {pos : Pos}
def iaddD : Op2
  | .int i, .int j, Q => Q (.fz, .int (i + j))
  | .str a, .str b, Q => a.length + b.length ≤ sizeLine ∧ Q (.fz, .str (a ++ b))
  | _, _, _ => False
theorem od_iadd : OpR X (inplaceOp .Add) (rD O TB iaddD) := by
  rintro pins s σ' H x y v u Q I rx ry ⟨G, W, ρ, σ, d, e, Qd, S, vx, vy, h, fin⟩
  cases vx <;> cases vy <;> (try exact (show False from h).elim)
  · exact ip_add pins s σ' H _ _ v u Q I rx ry ⟨_, _, rfl, rfl, S.plain fin .int h⟩
  · rename_i a ha b hb
    obtain ⟨hz, q⟩ := h
    refine iop_add_str pins s σ' H _ _ v u Q I rx ry ⟨_, _, rfl, rfl, by rw [mkS_len, mkS_len]; exact hz, ?_⟩
    rw [mkS_app]
    exact S.plain fin (.str (by rw [List.length_append]; exact hz)) q
def joinD : OpM := fun d ds Q => match d, ds with
  | .str a, [.lst l] => ∃ ys : List (List Nat), l = ys.map D.str ∧ (ys.map (·.length)).sum + ys.length * a.length ≤ 16777216 ∧ Q (.fz, .str (TL.joinL a ys))
  | .str a, [.tup l] => ∃ ys : List (List Nat), l = ys.map D.str ∧ (ys.map (·.length)).sum + ys.length * a.length ≤ 16777216 ∧ Q (.fz, .str (TL.joinL a ys))
  | _, _ => False
theorem repL_strs {W : Wd} : ∀ {ys : List (List Nat)} {vs : List V}, RepL O W (ys.map D.str) vs → vs = (ys.map mkS).map V.str
  | [], _, .nil => rfl
  | y :: ys, _, .cons r t => by
    cases r
    rw [repL_strs t]
    rfl
theorem join_txt (sep : List Nat) (ys : List (List Nat)) : Txt.join (mkS sep) (ys.map mkS) = mkS (TL.joinL sep ys) := by
  rw [TL.join_eq]
  refine TL.ext_tl ?_
  rw [TL.tl_join, List.map_map]
  show _ = TL.tl (mkS _)
  have e1 : ys.map (TL.tl ∘ mkS) = ys := by
    conv => rhs; rw [← List.map_id ys]
    exact List.map_congr_left fun y _ => by simp [TL.tl, mkS]
  rw [e1]
theorem join_sum (ys : List (List Nat)) : ((ys.map mkS).map (·.length)) = ys.map (·.length) := by
  rw [List.map_map]
  exact List.map_congr_left fun y _ => mkS_len y
theorem mt_joinD : MtR X "str.join" (rM O TB joinD) := mr1 (by
  rintro pins s σ' H x y u v Q I ru rv ⟨G, W, ρ, σ, d, e, Qd, S, vx, vy, h, fin⟩
  cases vx <;> cases vy <;> (try exact (show False from h).elim)
  · rename_i a ha l p vs hw hp r
    obtain ⟨ys, rfl, hz, q⟩ := h
    have ev := repL_strs r
    subst ev
    refine mt_join pins s σ' H _ _ u [v] Q I ru (.cons rv .nil) ⟨_, p, ys.map mkS, rfl, rfl, .inr (SqT.of hp), by rw [join_sum, List.length_map, mkS_len]; exact hz, ?_⟩
    rw [join_txt]
    exact S.plain fin (.str (Nat.le_trans (joinL_len a ys) (Nat.le_trans hz (by decide)))) q
  · rename_i a ha l p vs hp r
    obtain ⟨ys, rfl, hz, q⟩ := h
    have ev := repL_strs r
    subst ev
    refine mt_join pins s σ' H _ _ u [v] Q I ru (.cons rv .nil) ⟨_, p, ys.map mkS, rfl, rfl, .inl (.inl (.inl hp)), by rw [join_sum, List.length_map, mkS_len]; exact hz, ?_⟩
    rw [join_txt]
    exact S.plain fin (.str (Nat.le_trans (joinL_len a ys) (Nat.le_trans hz (by decide)))) q) fun d ds Q h => by
    unfold joinD at h
    split at h <;> first | rfl | exact h.elim
end
end TC

/-! set(text); sorted(set(text)). -/
namespace TC
open PySem PySem.Spec PyProof.Rows L2
open PySem.Froz (TxOk SD sObj addTx tailTx sing add_x add_ok tail_ok is_str)

/-- a set's payload: the texts l, its table such that it can be walked -/
structure TxR (P : Program) (w : World) (D : SD) (l : List Str) : Prop where
  ok : TxOk P w D l
  ris : Ris D.2.2.place.toList
  led : w.params.followText "set-order" = true ∨ D.2.2.led = true
section
variable {P : Program} {w : World} {A : Around} {E : Value → Shared → Prop} {s : Shared}
theorem tail_ris {ep : Nat} {es1 : Array (Int × Value)} {t2 : SetTable} {b : Bool} (h : Ris t2.place.toList) : Ris (tailTx ep es1 t2 b).2.2.place.toList := by
  unfold tailTx
  split
  · exact relayAll_ris _ _ _
  · exact h
theorem tail_led {ep : Nat} {es1 : Array (Int × Value)} {t2 : SetTable} {b : Bool} : (tailTx ep es1 t2 b).2.2.led = t2.led := by
  unfold tailTx
  split
  · exact relayAll_led _ _ _
  · rfl
theorem TxR.add {D : SD} {l : List Str} {k : Str} (u : Tok) (F : TxR P w D l) : TxR P w (addTx (hashStr w k) (.str k u) D) (k :: l) := by
  have r := layNew_ris D.2.2 D.1 (hashStr w k) (.str k u) F.ris
  have r2 := layNew_led D.2.2 D.1 (hashStr w k) (.str k u)
  refine ⟨add_ok u F.ok, tail_ris ?_, F.led.imp id fun z => ?_⟩
  · split <;> exact r
  · unfold addTx
    rw [tail_led]
    split <;> exact r2.trans z
theorem TxR.nil {ep : Nat} (w : World) : TxR P w (#[], ep, .fresh 0 0 (!w.params.followText "set-order")) [] := by
  refine ⟨TxOk.nil (by rfl), List.Pairwise.nil, ?_⟩
  show _ ∨ (!w.params.followText "set-order") = true
  cases w.params.followText "set-order"
  · exact .inr rfl
  · exact .inl rfl
/-- a text that is there: nothing changes -/
theorem set_again {a : Addr} {T : String} {D : SD} {l : List Str} {k : Str} {u : Tok} {Q : Bool → Shared → Prop} (ho : s.heap.get? a = some (sObj T D)) (F : TxOk P w D l) (hk : k ∈ l) (hb : l.length + 1 < scanBound) (h : Q false s) :
    wpAny (model P w) A (setAddHashed a (.str k u) (hashStr w k)) Q E s := by
  obtain ⟨es, ep, t⟩ := D
  have hb0 : es.size < scanBound := by have : es.size = l.length := F.sz; omega
  have hel : ElemsOf (strKind P w) es.toList := F.el
  unfold setAddHashed setAddHashedIn
  refine wpAny_holding (wpAny_bind (wpAny_setState_of ho (ep := ep) (t := t) rfl F.fit ?_))
  dsimp only
  rw [byScan_of rfl hb0 hel, if_pos rfl]
  unfold setAddByScan
  refine wpAny_bind (wpAny_bind (wpAny_rule (wpAny_bind (wpAny_setScan_of (knd := strKind P w) (k := k) (is_str k u) ho (ep := ep) (t := t) rfl F.fit hel ?_))))
  cases hr : List.findIdx? (fun e => (strKind P w).is k e.2) es.toList with
  | some j => exact wpAny_pure (wpAny_pure h)
  | none =>
    obtain ⟨e, he, q⟩ := (F.mem k).mp hk
    have c := List.findIdx?_eq_none_iff.mp hr e he
    rw [q] at c
    cases c

theorem sing_inj {c d : Nat} (h : sing c = sing d) : c = d := by
  have e : [c] = [d] := congrArg (fun y : Str => y.cps.toList) h
  exact (List.cons.inj e).1
theorem sing_mem {c : Nat} {l : List Nat} : sing c ∈ l.map sing ↔ c ∈ l :=
  ⟨fun h => by obtain ⟨d, hd, e⟩ := List.mem_map.mp h; rw [← sing_inj e]; exact hd, fun h => List.mem_map.mpr ⟨c, h, rfl⟩⟩
/-- a text's signs go into a set -/
theorem set_fill {R : Result → Shared → Prop} {I S : Addr} {x : Str} {St : Nat → Heap → Prop} (W : Walks P w A.in1 I [I] [I] x.cps.size (SignAt x) St) (hne : S ≠ I) :
    ∀ (k i : Nat) (D : SD) (l : List Nat) (s : Shared), x.cps.size - i = k → i ≤ x.cps.size → St i s.heap → s.heap.get? S = some (sObj "set" D) → TxR P w D (l.map sing) → l.Nodup → l.length + k + 1 < scanBound →
    (∀ (D' : SD) (l' : List Nat) (h' : Heap) (tk : Nat), h'.get? S = some (sObj "set" D') → TxR P w D' (l'.map sing) → l'.Nodup → (∀ c, c ∈ l' ↔ c ∈ l ∨ c ∈ x.cps.toList.drop i) → (∀ b o, b ≠ S → b ≠ I → s.heap.get? b = some o → h'.get? b = some o) → R (.ok (.ret .none)) { s with heap := h', toks := tk }) →
    codeAny (model P w) A (.builtin "set.update.loop" ⟨[.ref S, .ref I], []⟩) R s := by
  intro k
  induction k with
  | zero =>
    intro i D l s hk hi st ho F hn hb hR
    obtain rfl : i = x.cps.size := by omega
    refine codeAny_builtin PyProof.Rows.F.entry_set_update_loop ?_; rw [Around.under_plainId PyProof.Rows.F.plain_set_update_loop _]
    show wpAny _ A.in1 (pyNext (.ref I) >>= _) _ _ s; refine wpAny_bind (W.done s _ _ st fun h' tk kp => ?_)
    show wpAny _ A.in1 (ret Value.none) _ _ _; refine wpAny_pure ?_
    refine hR D l h' tk (kp S _ (by simpa using hne) ho) F hn (fun c => ?_) fun b o _ hbI e => kp b o (by simpa using hbI) e
    rw [List.drop_of_length_le (by rw [Array.length_toList]; exact Nat.le_refl _)]
    simp
  | succ k ih =>
    intro i D l s hk hi st ho F hn hb hR
    have hlt : i < x.cps.size := by omega
    refine codeAny_builtin PyProof.Rows.F.entry_set_update_loop ?_; rw [Around.under_plainId PyProof.Rows.F.plain_set_update_loop _]
    show wpAny _ A.in1 (pyNext (.ref I) >>= _) _ _ s; refine wpAny_bind (W.item i s _ _ hlt st fun v h1 tk1 hv st1 kp => ?_)
    obtain ⟨c, u, hc, rfl⟩ := hv
    have ho1 : h1.get? S = some (sObj "set" D) := kp S _ (by simpa using hne) ho
    have hdrop : x.cps.toList.drop i = c :: x.cps.toList.drop (i + 1) := by
      have hl : i < x.cps.toList.length := by rw [Array.length_toList]; exact hlt
      rw [List.drop_eq_getElem_cons hl]
      congr 1
      rw [Array.getElem?_eq_getElem hlt] at hc
      rw [Array.getElem_toList]
      exact Option.some.inj hc
    have stepR : ∀ (D1 : SD) (l1 : List Nat) (h2 : Heap) (tk2 : Nat), h2.get? S = some (sObj "set" D1) → TxR P w D1 (l1.map sing) → l1.Nodup → l1.length ≤ l.length + 1 → (∀ d, d ∈ l1 ↔ d ∈ l ∨ d = c) → (∀ b o, b ≠ S → h1.get? b = some o → h2.get? b = some o) →
        codeAny (model P w) A (.builtin "set.update.loop" ⟨[.ref S, .ref I], []⟩) R { s with heap := h2, toks := tk2 } := by
      intro D1 l1 h2 tk2 ho2 F1 hn1 hl1 hm1 kp2
      refine ih (i + 1) D1 l1 { s with heap := h2, toks := tk2 } (by omega) hlt (W.frame _ _ _ st1 fun b hbI o e => kp2 b o (fun z => ?_) e) ho2 F1 hn1 (by omega) fun D' l' h' tk' a1 a2 a3 a4 a5 => ?_
      · rw [List.mem_singleton.mp hbI] at z
        exact hne z.symm
      · refine hR D' l' h' tk' a1 a2 a3 (fun d => ?_) fun b o hbS hbI e => a5 b o hbS hbI (kp2 b o hbS (kp b o (by simpa using hbI) e))
        rw [a4 d, hm1 d, hdrop, List.mem_cons, or_assoc]
    have go : ∀ E0 : Value → Shared → Prop, wpAny (model P w) A.in1 (setAdd S (.str (sing c) u)) (fun _ s2 => ∃ (D1 : SD) (l1 : List Nat) (h2 : Heap) (tk2 : Nat), s2 = { s with heap := h2, toks := tk2 } ∧ h2.get? S = some (sObj "set" D1) ∧ TxR P w D1 (l1.map sing) ∧ l1.Nodup ∧ l1.length ≤ l.length + 1 ∧ (∀ d, d ∈ l1 ↔ d ∈ l ∨ d = c) ∧ ∀ b o, b ≠ S → h1.get? b = some o → h2.get? b = some o) E0 { s with heap := h1, toks := tk1 } := by
      intro E0
      unfold setAdd
      refine wpAny_holding (wpAny_bind ((strKind P w).pyHash (k := sing c) (is_str _ _) ?_))
      by_cases hcl : c ∈ l
      · refine set_again ho1 F.ok (sing_mem.mpr hcl) (by rw [List.length_map]; omega) ?_
        exact ⟨D, l, h1, _, rfl, ho1, F, hn, by omega, fun d => ⟨.inl, fun z => z.elim id fun e => e ▸ hcl⟩, fun _ _ _ e => e⟩
      · refine add_x ho1 F.ok (fun z => hcl (sing_mem.mp z)) (by rw [List.length_map]; omega) ?_
        refine ⟨_, c :: l, _, _, rfl, PySem.Froz.get_upd _ ho1 rfl, F.add u, List.nodup_cons.mpr ⟨hcl, hn⟩, Nat.le_refl _, fun d => by rw [List.mem_cons]; exact or_comm, fun b o hbS e => ?_⟩
        exact PySem.Heap.get?_update_of_ne _ (Ne.symm hbS) e
    show wpAny _ A.in1 (holding [Value.str (sing c) u] (setAdd S (.str (sing c) u)) >>= _) _ _ _
    refine wpAny_bind (wpAny_holding (thn (go _) fun _ s2 ⟨D1, l1, h2, tk2, e2, a1, a2, a3, a4, a5, a6⟩ => ?_))
    subst e2
    exact wpAny_pure ⟨plainId_quiet PyProof.Rows.F.plain_set_update_loop _, stepR D1 l1 h2 tk2 a1 a2 a3 a4 a5 a6⟩
/-- a new set, its table walked in order or not -/
theorem set_newOf (a : Value) {Q₁ : Value → Shared → Prop}
    (h : Q₁ (.ref s.heap.objs.size) { s with heap := s.heap.push (sObj "set" (#[], 0, .fresh 0 0 (!w.params.followText "set-order"))) }) :
    codeAny (model P w) A (.call (.builtin "set.__new__") ⟨[.type "set", a], []⟩) (wants Q₁ E) s := by
  have hsub := sub_set_self
  refine codeAny_of_tree (show wpAny _ A.in1 (do checkBuiltinCall "set.__new__" ⟨[.type "set", a], []⟩; again (.builtin "set.__new__" ⟨[.type "set", a], []⟩)) _ _ s from ?_)
  refine wpAny_bind (wpAny_of_eq (F.newCall_set_1 a) (wpAny_pure ⟨plainId_quiet F.plain_set_new _, codeAny_builtin F.entry_set_new ?_⟩)); rw [Around.under_plainId F.plain_set_new _]
  unfold Builtin.«set.__new__» Builtin.Frozenset.newClass; obtain ⟨hp, g, d, tk, os⟩ := s; dsimp only
  wp_walk
  refine wpAny_askSetting (wpAny_pure ?_); dsimp only; simp only [newObj]
  exact wpAny_bind (wpAny_alloc (wpAny_pure (wpAny_pure h)))
theorem call_setText {x : Str} {t : Tok} {Q : Value → Shared → Prop} (hh : A.handled = none) (hx : x.cps.size + 1 < scanBound)
    (h : ∀ (D : SD) (l : List Nat) (h' : Heap) (tk : Nat), h'.get? s.heap.objs.size = some (sObj "set" D) → TxR P w D (l.map sing) → l.Nodup → (∀ c, c ∈ l ↔ c ∈ x.cps.toList) → (∀ b o, s.heap.get? b = some o → h'.get? b = some o) → Q (.ref s.heap.objs.size) { s with heap := h', toks := tk }) :
    wpAny (model P w) A (call (.type "set") [.str x t]) Q E s := by
  obtain ⟨c, tl, hmro⟩ := PySem.F.called_set.mro
  have hmade := PySem.F.called_set.made; have hsub := PySem.F.called_set.sub
  refine wpAny_call (codeAny_of_tree (show wpAny _ _ (callAny (.type "set") _) _ _ _ from wpAny_pure ⟨Code.quiet_builtin _ (by decide +kernel), codeAny_builtin PySem.F.entry_type_call ?_⟩))
  rw [Around.under_plain (weight_type_call_type "set" [.str x t] []) rfl]
  have h1 := PySem.F.called_set.notType; have h2 := PySem.F.called_set.canCreate; have hct := PySem.F.typeCall_set_1 (.str x t)
  repeat (any_goals (first | assumption | wp_step))
  refine codeAny_mono (set_newOf (.str x t) (E := E) (Q₁ := fun obj s₁ => obj = .ref s.heap.objs.size ∧ s₁ = { s with heap := s.heap.push (sObj "set" (#[], 0, .fresh 0 0 (!w.params.followText "set-order"))) }) ⟨rfl, rfl⟩) fun r s₁ hr => ?_
  cases r with
  | error e => exact hr
  | ok fl =>
    cases fl with
    | ret obj =>
      obtain ⟨rfl, rfl⟩ := hr
      have hS : (s.heap.push (sObj "set" (#[], 0, .fresh 0 0 (!w.params.followText "set-order")))).get? s.heap.objs.size = some (sObj "set" (#[], 0, .fresh 0 0 (!w.params.followText "set-order"))) := Heap.get?_push_size _ rfl
      have hT : Shared.TypeIs { s with heap := s.heap.push (sObj "set" (#[], 0, .fresh 0 0 (!w.params.followText "set-order"))) } (.ref s.heap.objs.size) "set" := ⟨_, hS, rfl⟩
      have hli := PySem.F.called_set.init.lookup; have hbi := PySem.F.called_set.init.bind (.ref s.heap.objs.size)
      repeat (any_goals (first | assumption | wp_step))
      refine codeAny_mono (codeAny_call_builtin (R := wants (fun r s₂ => r = .none ∧ Q (.ref s.heap.objs.size) s₂) E) PySem.F.called_set.init.plain PySem.F.entry_set_init (check_set_init_1 hT ?_)) fun r₂ s₂ hr₂ => ?_
      · have hs1 : isSubtype (.type "str") (.type "set") = pure false := by rw [isSubtype_type]; kernel_rfl
        have hs2 : isSubtype (.type "str") (.type "frozenset") = pure false := by rw [isSubtype_type]; kernel_rfl
        have hne : (Value.type "str" == Value.type "dict") = false := by decide
        unfold Builtin.«set.__init__» noKeywords Builtin.Frozenset.updateFrom; generalize hPI : pyIter = PI
        wp_walk
        subst hPI
        refine wpAny_pyIter_str fun o St W0 st0 => ?_
        refine wpAny_bind (wpAny_runValue ?_)
        have hsz1 : (s.heap.push (sObj "set" (#[], 0, .fresh 0 0 (!w.params.followText "set-order")))).objs.size = s.heap.objs.size + 1 := Heap.size_push _ _
        refine set_fill (S := s.heap.objs.size) (W0 _ (by simp [hh])) (by show s.heap.objs.size ≠ (s.heap.push _).objs.size; rw [hsz1]; omega) (x.cps.size - 0) 0 (#[], 0, .fresh 0 0 (!w.params.followText "set-order")) [] _ (by omega) (Nat.zero_le _) st0 (Heap.get?_push_of_some _ hS) (TxR.nil w) List.nodup_nil (by rw [List.length_nil]; omega) fun D' l' h' tk a1 a2 a3 a4 a5 => ?_
        show wpAny _ _ _ _ _ _; refine wpAny_pure ?_
        show wpAny _ _ (ret Value.none) _ _ _; refine wpAny_pure ⟨rfl, h D' l' h' tk a1 a2 a3 (fun c => by rw [a4 c]; simp) fun b o e => ?_⟩
        have hb := Heap.lt_size e
        exact a5 b o (Nat.ne_of_lt hb) (by show b ≠ (s.heap.push _).objs.size; rw [hsz1]; exact Nat.ne_of_lt (Nat.lt_succ_of_lt hb)) (Heap.get?_push_of_some _ (Heap.get?_push_of_some _ e))
      · cases r₂ with
        | error e => exact hr₂
        | ok fl₂ =>
          cases fl₂ with
          | ret r =>
            obtain ⟨rfl, hq⟩ := hr₂
            repeat (any_goals (first | assumption | wp_step))
          | _ => exact hr₂.elim
    | _ => exact hr.elim
end
end TC

/-! sorted(set(text)). -/
namespace TC
open PySem PySem.Spec PyProof.Rows L2
open PySem.Froz (TxOk SD sObj addTx tailTx sing add_x add_ok tail_ok is_str)
theorem nodup_perm {α : Type} [DecidableEq α] : ∀ {l r : List α}, l.Nodup → (∀ x ∈ l, x ∈ r) → r.length ≤ l.length → l.Perm r
  | [], r, _, _, h => by rw [List.length_eq_zero_iff.mp (Nat.le_zero.mp h)]
  | x :: l, r, hn, hs, h => by
    have hx : x ∈ r := hs x List.mem_cons_self
    have hn' := List.nodup_cons.mp hn
    have ih := nodup_perm (l := l) (r := r.erase x) hn'.2 (fun y hy => (List.mem_erase_of_ne (fun (e : y = x) => hn'.1 (e ▸ hy))).mpr (hs y (List.mem_cons_of_mem _ hy))) (by
      rw [List.length_erase_of_mem hx]
      rw [List.length_cons] at h
      omega)
    exact (ih.cons x).trans (List.perm_cons_erase hx).symm
/-- the set of the texts l at a -/
def SetX (P : Program) (w : World) (a : Addr) (l : List Nat) : HO := .ext fun h => ∃ D, h.get? a = some (sObj "set" D) ∧ TxR P w D (l.map sing)
theorem setX_new {P : Program} {w : World} {H : Hp} {h : Heap} {a : Addr} {l : List Nat} {D : SD} (ho : h.get? a = some (sObj "set" D)) (F : TxR P w D (l.map sing)) : ObjOk P w H h a (SetX P w a l) :=
  ⟨⟨D, ho, F⟩, ⟨_, ho⟩, fun _ _ ⟨D, ho, F⟩ k => ⟨D, k _ ho, F⟩⟩
section
variable {X : Cx}
def rSetTx (P : Program) (w : World) : List V → Hp → VK → Prop := fun xs H Q => ∃ s : List Nat, xs = [.str (mkS s)] ∧ s.length + 1 < scanBound ∧ ∀ p l, H p = none → l.Nodup → (∀ c, c ∈ l ↔ c ∈ s) → Q (.ref p) (upd H p (SetX P w p l))
theorem cr_setTx (hcalm : X.calm = true) : CallR X (.type "set") (rSetTx X.prog X.w) := by
  intro pins s σ H xs us Q I r h
  obtain ⟨z, rfl, hz, q⟩ := h
  obtain ⟨u, rfl, t, rfl⟩ := vals1 r
  refine call_setText (I.ok.hd hcalm) (by simpa [mkS] using hz) fun D l h' tk ho F hn hm kp => ?_
  exact ⟨.ref _, upd H s.heap.objs.size (SetX X.prog X.w s.heap.objs.size l), I.laid (t' := tk) kp (Nat.le_refl _) (setX_new ho F), rfl, q _ l (I.hok.fresh (Nat.le_refl _)) hn fun c => by rw [hm c, mkS_toList]⟩
def rSortTx (P : Program) (w : World) : List V → Hp → VK → Prop := fun xs H Q => ∃ a l, xs = [.ref a] ∧ H a = some (SetX P w a l) ∧ l.Nodup ∧ l.length < 1000 ∧ ∀ p, H p = none → Q (.ref p) (upd H p (.lst (((sortT (l.map fun c => [c])).map mkS).map V.str)))
theorem strs_all {l : List Nat} : ∀ {vs : List Value}, (∀ v ∈ vs, ∃ c t, v = .str (sing c) t) → ∃ ss : List Nat, StrsAre vs (ss.map sing) ∧ ∀ c, (∃ t, Value.str (sing c) t ∈ vs) ↔ c ∈ ss
  | [], _ => ⟨[], .nil, fun c => ⟨fun ⟨t, h⟩ => (by cases h), fun h => (by cases h)⟩⟩
  | v :: vs, h => by
    obtain ⟨c, t, rfl⟩ := h v List.mem_cons_self
    obtain ⟨ss, h1, h2⟩ := strs_all (l := l) (vs := vs) fun v hv => h v (List.mem_cons_of_mem _ hv)
    refine ⟨c :: ss, .cons _ t h1, fun d => ?_⟩
    constructor
    · rintro ⟨t', ht⟩
      rcases List.mem_cons.mp ht with e | ht
      · injection e with e1 _
        rw [sing_inj e1]; exact List.mem_cons_self
      · exact List.mem_cons_of_mem _ ((h2 d).mp ⟨t', ht⟩)
    · intro hd
      rcases List.mem_cons.mp hd with rfl | hd
      · exact ⟨t, List.mem_cons_self⟩
      · obtain ⟨t', ht⟩ := (h2 d).mpr hd
        exact ⟨t', List.mem_cons_of_mem _ ht⟩
theorem cr_sortTx (hcalm : X.calm = true) : CallR X (.builtin "sorted") (rSortTx X.prog X.w) := by
  intro pins s σ H xs us Q I r h
  obtain ⟨a, l, rfl, ha, hn, hl, q⟩ := h
  obtain ⟨u, rfl, rx⟩ := vals1 r
  obtain rfl : u = .ref a := rx
  obtain ⟨D, ho, F⟩ := (I.hok a _ ha).1
  obtain ⟨es, ep, t⟩ := D
  have hsz : es.size = l.length := by have := F.ok.sz; rw [List.length_map] at this; exact this
  have hsc : es.size < scanBound := by rw [hsz]; exact Nat.lt_of_lt_of_le hl (by decide)
  refine Calls.call_function_entry PyProof.Rows.kind_sorted PyProof.Rows.plain_sorted PyProof.Rows.entry_sorted (PyProof.Rows.args_sorted1 _) ?_
  unfold Builtin.«sorted»; refine wpAny_bind (m := checkCount "sorted" 1 1 _) (wpAny_pure ?_)
  refine wpAny_bind (collect_set (A := X.A.in1) (I.ok.hd hcalm) ⟨_, ho, rfl, rfl⟩ F.ok.fit hsc F.ris F.led fun s1 vs k1 hz g1 o1 pm => ?_)
  have hel : ∀ v ∈ vs, ∃ c t, v = .str (sing c) t := fun v hv => by
    obtain ⟨e, he, rfl⟩ := List.mem_map.mp (pm.mem_iff.mp hv)
    obtain ⟨⟨k, hk, _⟩, _⟩ := F.ok.el e he
    obtain ⟨c, _, rfl⟩ := List.mem_map.mp ((F.ok.mem k).mpr ⟨e, he, hk⟩)
    obtain ⟨u, e2⟩ := Value.isStrOf_shape hk
    exact ⟨c, u, e2⟩
  obtain ⟨ss, hS, hm⟩ := strs_all (l := l) hel
  have hvl : vs.length = l.length := by rw [pm.length_eq, List.length_map, Array.length_toList]; exact hsz
  have hsl : ss.length = l.length := by rw [← hvl, ← List.length_map (f := sing)]; exact (StrsAre.len_eq hS).symm
  have hp : ss.Perm l := (nodup_perm hn (fun c hc => by
    obtain ⟨e, he, hk⟩ := (F.ok.mem (sing c)).mp (sing_mem.mpr hc)
    obtain ⟨u, e2⟩ := Value.isStrOf_shape hk
    exact (hm c).mp ⟨u, by rw [← e2]; exact pm.mem_iff.mpr (List.mem_map.mpr ⟨e, he, rfl⟩)⟩) (by omega)).symm
  have hL : vs.length ≤ sizeLine := by rw [hvl, sizeLine_eq]; omega
  refine wpAny_bind (wpAny_newList ?_ hL)
  have hoL : (s1.heap.push (seqObj "list" vs.toArray 0)).get? s1.heap.objs.size = some (seqObj "list" vs.toArray 0) := Heap.get?_push_size _ rfl
  refine wpAny_bind (wpAny_holding (wpAny_call_entry PyProof.Rows.slot_list_sort ⟨_, hoL, rfl⟩ PyProof.Rows.entry_list_sort (list_sort_treeKAny strKind_oneLt hoL hS.keysOf (fun v₁ v₂ rest e => keyKind_strs (by rw [← e]; exact hS)) hL fun st' hp2 hs => ⟨_, rfl, ?_⟩) (PyProof.Rows.args_list_sort _)))
  obtain ⟨ys, y1, y2, y3⟩ := sorted_out_str hS hp2 hs
  obtain ⟨e', he'⟩ := PyProof.Rows.sortedHeap_at (vs := vs) (out := (arrOf st').map (·.2)) hoL
  have ey : ys = (sortT (l.map fun c => [c])).map mkS := by
    have e1 : ss.map sing = (ss.map fun c => [c]).map mkS := by rw [List.map_map]; rfl
    rw [e1] at y2
    rw [sortT_of y2 y3]
    congr 1
    exact sorted_unique ((sortT_perm _).trans ((hp.map _).trans (sortT_perm _).symm)) (sortT_sorted _) (sortT_sorted _)
  subst ey
  have hlen : (((sortT (l.map fun c => [c])).map mkS).map V.str).length ≤ sizeLine := by
    rw [List.length_map, List.length_map, (sortT_perm _).length_eq, List.length_map, sizeLine_eq]; omega
  have hp1 : s.heap.objs.size ≤ s1.heap.objs.size := hz
  have hn2 : H s1.heap.objs.size = none := I.hok.fresh hp1
  have kp : ∀ b u, s.heap.get? b = some u → (PyProof.Rows.sortedHeap (s1.heap.push (seqObj "list" vs.toArray 0)) s1.heap.objs.size vs ((arrOf st').map (·.2))).get? b = some u := fun b u e => by
    have hb := Heap.lt_size (k1 b u e)
    rw [PyProof.Rows.sortedHeap_old (Nat.ne_of_lt hb) (by rw [size_push']; exact Nat.lt_succ_of_lt hb)]
    exact Heap.get?_push_of_some _ (k1 b u e)
  refine wpAny_pure ⟨_, rfl, .ref s1.heap.objs.size, upd H s1.heap.objs.size (.lst (((sortT (l.map fun c => [c])).map mkS).map V.str)), ?_, rfl, q _ hn2⟩
  exact I.call' (ch := []) o1 (Un.laid kp hp1 hn2) (I.hok.laid kp hp1 ⟨hlen, ((arrOf st').map (·.2)).toList, e', vals_of_strs y1, by rw [Array.toArray_toList]; exact he'⟩) (by show AllBare s1.gens; rw [g1]; exact I.bare) (fun _ z => nomatch z)
end
end TC

/-! sorted(set(text)), as a whole. -/
namespace TC
open PySem PySem.Spec PyProof.Rows L2
theorem nodup_le {α : Type} [DecidableEq α] : ∀ {l r : List α}, l.Nodup → (∀ x ∈ l, x ∈ r) → l.length ≤ r.length
  | [], _, _, _ => Nat.zero_le _
  | x :: l, r, hn, hs => by
    have hx : x ∈ r := hs x List.mem_cons_self
    have hn' := List.nodup_cons.mp hn
    have ih := nodup_le (l := l) (r := r.erase x) hn'.2 fun y hy => (List.mem_erase_of_ne (fun (e : y = x) => hn'.1 (e ▸ hy))).mpr (hs y (List.mem_cons_of_mem _ hy))
    rw [List.length_erase_of_mem hx] at ih
    have := List.length_pos_of_mem hx
    rw [List.length_cons]; omega
def ddp : List Nat → List Nat
  | [] => []
  | c :: s => if c ∈ s then ddp s else c :: ddp s
theorem ddp_mem {c : Nat} : ∀ {s : List Nat}, c ∈ ddp s ↔ c ∈ s
  | [] => Iff.rfl
  | d :: s => by
    have ih := ddp_mem (c := c) (s := s)
    unfold ddp
    split
    · rename_i h
      rw [ih, List.mem_cons]
      exact ⟨.inr, fun z => z.elim (fun e => e ▸ h) id⟩
    · rw [List.mem_cons, List.mem_cons, ih]
theorem ddp_nodup : ∀ s : List Nat, (ddp s).Nodup
  | [] => List.nodup_nil
  | d :: s => by
    unfold ddp
    split
    · exact ddp_nodup s
    · rename_i h
      exact List.nodup_cons.mpr ⟨fun z => h (ddp_mem.mp z), ddp_nodup s⟩
theorem ddp_len : ∀ s : List Nat, (ddp s).length ≤ s.length
  | [] => Nat.le_refl _
  | d :: s => by
    have := ddp_len s
    unfold ddp
    split
    · rw [List.length_cons]; omega
    · rw [List.length_cons, List.length_cons]; omega
def vSortSet (ev : EvT) : EvT := fun ρ Q => ev ρ fun r ρ1 => ∃ s, r.2 = .str s ∧ s.length < 1000 ∧ Q (.fr, .lst ((sortT ((ddp s).map fun c => [c])).map D.str)) ρ1
section
variable {O : ObjI} {TB : List Addr} {X : Cx} {e : Expr} {ev : EvT} {pos pos2 : Pos}
theorem de_sortSet {p p2 : Pos} (hcalm : X.calm = true) (hg : Gl X "sorted") (hm : X.mg "sorted" = none) (hv : bootBuiltins "sorted" = some (.builtin "sorted")) (hg2 : Gl X "set") (hm2 : X.mg "set" = none) (hv2 : bootBuiltins "set" = some (.type "set")) (he : DE O TB X e ev)
    (hs1 : starEach [.Call (.Name "set" p2) [e] [] pos2] X.env = [(false, eval (.Call (.Name "set" p2) [e] [] pos2) X.env)] := by rfl) (hs2 : starEach [e] X.env = [(false, eval e X.env)] := by rfl) :
    DE O TB X (.Call (.Name "sorted" p) [.Call (.Name "set" p2) [e] [] pos2] [] pos) (vSortSet ev) := by
  have h2 := pe_callTy (p := p2) (pos := pos2) (cr_setTx hcalm) hg2 hm2 hv2 (pa_cons he pa_nil hs2) (by decide) (by decide) hs2 (by rfl)
  have h1 := pe_callB (p := p) (pos := pos) (cr_sortTx hcalm) hg hm hv (pa_cons h2 pa_nil hs1) (by decide) (by decide) hs1 (by rfl)
  refine h1.imp ?_
  rintro σ H Q ⟨G, W, ρ, Qd, s, h, fin⟩
  refine ⟨G, W, ρ, _, s, h, fun v H1 W1 ρ1 k d le fr s1 r1 q1 => ?_⟩
  obtain ⟨z, e2, hl, q1⟩ := q1
  have vw := s1.view r1
  obtain ⟨k, d⟩ := (⟨k, d⟩ : Kd × D)
  subst e2
  cases vw with
  | str hz =>
    refine ⟨z, rfl, Nat.lt_trans (Nat.succ_lt_succ hl) (by decide), fun p l hp hn hm => ?_⟩
    have hpl : l.Perm (ddp z) := nodup_perm hn (fun c hc => ddp_mem.mpr ((hm c).mp hc)) (nodup_le (ddp_nodup z) fun c hc => (hm c).mpr (ddp_mem.mp hc))
    have es : sortT (l.map fun c => [c]) = sortT ((ddp z).map fun c => [c]) := sorted_unique ((sortT_perm _).trans ((hpl.map _).trans (sortT_perm _).symm)) (sortT_sorted _) (sortT_sorted _)
    have s2 := s1.new (o := SetX X.prog X.w p l) hp
    refine ⟨p, l, rfl, upd_same, hn, Nat.lt_of_le_of_lt (Nat.le_trans (Nat.le_of_eq hpl.length_eq) (ddp_len z)) hl, fun p2 hp2 => ?_⟩
    rw [es]
    exact fin _ _ W1 ρ1 .fr _ le fr (s2.new hp2) ⟨p2, _, rfl, s2.w.none_of hp2, upd_same, .lst (RepL.ofStrs fun y hy => by
      obtain ⟨c, _, rfl⟩ := List.mem_map.mp ((sortT_perm _).mem_iff.mp hy)
      rw [List.length_singleton, sizeLine_eq]; decide), (s2.newOwn hp2).1, (s2.newOwn hp2).2⟩ q1
end
end TC

/-! Lambdas without a closure: how one is made, how it is called. -/
namespace TC
open PySem PySem.Spec PyProof.Rows L2

section
variable {prog : Program} {w : World} {A : Around} {R : Result → Shared → Prop} {s : Shared}
/-- a lambda is called; its code object bears any name -/
theorem lam_callFun {q : Str} {a : Addr} {args : Args} {o : Obj} {fd : FuncData} {body : Expr} (hroom : A.depth < recursionLimit) (ho : s.heap.get? a = some o)
    (hd' : o.data = .func fd) (hco : fd.scope.isCoroutine = false) (hgen : fd.scope.isGenerator = false) (hbody : fd.body = .expr body) (hcd : s.heap.CodeRec fd.code q)
    (h : wpAny (model prog w) A.in1 (bindArgs fd args) (fun binds s₁ =>
      wpAny (model prog w) A.in1 (newFunctionEnv fd.scope fd.globals fd.closure binds (q ++ ".<locals>.") (some a) fd.code none fd.builtins)
        (fun env s₂ => s₂.heap.NoLimit ∧ codeAny (model prog w) A (.expr body env) R s₂) (fun e s' => R (.error e) s') s₁) (fun e s' => R (.error e) s') s) :
    codeAny (model prog w) A (.call (.ref a) args) R s := by
  refine codeAny_of_tree ?_
  show wpAny _ A.in1 (callAny (.ref a) args) _ _ s
  simp only [callAny]
  refine wpAny_bind (wpAny_load ho ?_)
  obtain ⟨c, oc, vs, tq, hc, hoc, hdc, hq⟩ := hcd
  simp only [hd', callFunction, hco, hgen, hbody, hc]
  rw [hc] at h
  refine wpAny_bind (m := field (.ref c) 1) (wpAny_field hoc hdc hq (wpAny_bind (wpAny_pure ?_)))
  exact wpAny_bind (wpAny_mono h (fun binds s₁ h₁ => wpAny_bind (wpAny_mono h₁ (fun env s₂ h₂ => wpAny_bind (wpAny_enterFrame h₂.1 hroom
    (wpAny_pure (And.intro rfl h₂.2)))) fun _ _ h' => h')) fun _ _ h' => h')
end
/-- at f: a lambda without a closure, its code object at c' -/
def LamO (nq : Str) (params : Arguments) (body : Expr) (scope : Scope) (f c' : Addr) : HO := .ext fun h => ∃ pm ctv, h.get? f = some (PySem.W.kla_obj "<lambda>" nq params body scope [] pm c' ctv)
/-- all that is there stays -/
def ExtH (H H' : Hp) : Prop := ∀ b o, H b = some o → H' b = some o
theorem ExtH.refl (H : Hp) : ExtH H H := fun _ _ h => h
theorem ExtH.trans {H H1 H2 : Hp} (a : ExtH H H1) (b : ExtH H1 H2) : ExtH H H2 := fun c o h => b c o (a c o h)
theorem ExtH.new {H : Hp} {a : Addr} {o : HO} (h : H a = none) : ExtH H (upd H a o) := fun b u e => by
  rw [upd_ne (ne_of_none e h)]; exact e
theorem WOk.ext {TB : List Addr} {W : Wd} {H H' : Hp} (w : WOk TB W H) (e : ExtH H H') : WOk TB W H' where
  at_ := fun a P h => by
    obtain ⟨o, h1, h2⟩ := w.at_ a P h
    exact ⟨o, e _ _ h1, h2⟩
  tb := w.tb
  cd := fun P hP ps h => by
    obtain ⟨o, h1, qs, rfl, _⟩ := w.at_ P _ (w.tb P hP)
    have := e _ _ h1
    rw [h] at this
    cases this
    exact w.cd P hP ps h1
section
variable {O : ObjI} {TB : List Addr} {X : Cx} {G : Kp} {W : Wd} {ρ : Rho} {σ : L2.St} {H H' : Hp}
theorem SOk.ext (s : SOk O TB G W ρ σ H) (e : ExtH H H') : SOk O TB G W ρ σ H' := s.keep (WLe.refl _) (s.w.ext e) fun a o h1 h2 _ => ⟨e _ _ h1, h2⟩
theorem pe_lam {c Pt : Addr} {params : Arguments} {body : Expr} {scope : Scope} {pos : Pos} (hT : GxR.TabB X.base X.mg c Pt) (hP : Pt ∈ TB) (hcode : X.env.code = .ref c) (hdef : defaultsOf params X.env = ([], [])) (hfree : ∀ y ∈ scope.names, y.2 ≠ .free) (hcl : ∀ cells, cloFrom cells scope.names [] = []) :
    PE X (.Lambda params body scope pos) (fun σ H Q => ∃ G W ρ, SOk O TB G W ρ σ H ∧ ∀ f c' H1 W1, WLe W W1 → SOk O TB G W1 ρ σ H1 → W1 c' = some (CdP c') → H1 f = some (LamO (X.env.qual ++ "<lambda>") params body scope f c') → LamX.ExtN H H1 → Q (.ref f) H1) := by
  refine ⟨fun pins s σ H Q I h => ?_⟩
  obtain ⟨G, W, ρ, so, fin⟩ := h
  have hWP : W Pt = some TblP := so.w.tb Pt hP
  obtain ⟨_, hHP, ps, rfl, ht⟩ := so.w.at_ Pt _ hWP
  have bP : s.heap.BuiltinsAt X.mg Pt := hT.bm.keeps I.bk
  have hP' : s.heap.get? Pt = some { cls := .none, data := .fields ps } := I.hok Pt _ hHP
  have clo := closure_ok (env := X.env) (scope := scope) (fun y hy e => absurd e (hfree y hy))
  rw [hcl] at clo
  have lay : ∀ {c' : Addr} {ctv pm : Value} {H1 : Hp} {W1 : Wd} {h' : Heap} {tk : Nat}, Inv X pins σ H1 { s with heap := h', toks := tk } → WLe W W1 → SOk O TB G W1 ρ σ H1 → W1 c' = some (CdP c') → LamX.ExtN H H1 →
      EP X pins σ Q (.ref h'.objs.size) { s with heap := h'.push (PySem.W.kla_obj "<lambda>" (X.env.qual ++ "<lambda>") params body scope [] pm c' ctv), toks := tk } := by
    intro c' ctv pm H1 W1 h' tk I1 le1 so1 hw1 en1
    have n1 : H1 h'.objs.size = none := I1.hok.fresh (Nat.le_refl _)
    refine ⟨.ref h'.objs.size, upd H1 h'.objs.size (LamO (X.env.qual ++ "<lambda>") params body scope h'.objs.size c'), ?_, rfl, fin _ c' _ W1 le1 (so1.new n1) hw1 upd_same (en1.trans (LamX.ExtN.of fun b o e => by rw [upd_ne (ne_of_none e n1)]; exact e))⟩
    have := I1.laid (t' := tk) (a := h'.objs.size) (o := LamO (X.env.qual ++ "<lambda>") params body scope h'.objs.size c') (h' := h'.push (PySem.W.kla_obj "<lambda>" (X.env.qual ++ "<lambda>") params body scope [] pm c' ctv)) (fun b u e => Heap.get?_push_of_some _ e) (Nat.le_refl _)
      ⟨⟨pm, ctv, Heap.get?_push_size _ rfl⟩, ⟨_, Heap.get?_push_size _ rfl⟩, fun h1 h2 ⟨pm, ctv, e⟩ st => ⟨pm, ctv, st _ e⟩⟩
    exact this
  refine PySem.W.kla_eval hdef ?_
  cases hc : codeAmong pos ps.toList with
  | none =>
    refine PySem.W.kla_makeFunction (mg := X.mg) (c := c) (P := Pt) (ps := ps) clo I.ok.glob (I.mod.glob.keeps I.bk) hcode (hT.code.keeps I.bk) hP' ht hc hT.gP bP fun c' ctv h' tk hx hge hlt hrec htb => ?_
    obtain ⟨c2, oc, vs, t, e2, hoc, hd, hv⟩ := hrec
    cases e2
    have nC : H c' = none := I.hok.fresh hge
    have nWc : W c' = none := so.w.none_of nC
    have I1 := LamX.inv_table (t' := tk) (more := #[rawInt pos.line, rawInt pos.col, .ref c']) I hHP (fun b o hb e => hx b o hb e) htb hge ⟨oc, vs, t, hoc, hd, hv⟩
    refine lay I1 (W1 := wup W c' (CdP c')) (fun b P e => ?_) (so.keep (fun b P e => ?_) ⟨fun b P e => ?_, fun P hP' => ?_, fun P hP' ps'' e pos' cv hc => ?_⟩ fun b o e1 e2 _ => ⟨?_, ?_⟩) wup_same (fun b o e n => by
      rw [upd_ne (ne_of_none e nC), upd_ne (fun z => n ps (Option.some.inj (e.symm.trans (by rw [z]; exact hHP))))]
      exact e)
    · by_cases hb : b = c'
      · subst hb; rw [nWc] at e; cases e
      · rw [wup_ne hb]; exact e
    · by_cases hb : b = c'
      · subst hb; rw [nWc] at e; cases e
      · rw [wup_ne hb]; exact e
    · by_cases hb : b = c'
      · subst hb
        rw [wup_same] at e; cases e
        exact ⟨_, upd_same, _, rfl⟩
      · rw [wup_ne hb] at e
        rw [upd_ne hb]
        by_cases hb2 : b = Pt
        · subst hb2
          rw [hWP] at e; cases e
          refine ⟨_, upd_same, _, rfl, ?_⟩
          rw [show (ps ++ #[rawInt pos.line, rawInt pos.col, .ref c']).toList = ps.toList ++ [rawInt pos.line, rawInt pos.col, .ref c'] by simp]
          exact PySem.TriplesOk_snoc _ _ _ _ ht
        · rw [upd_ne hb2]; exact so.w.at_ b P e
    · have z := so.w.tb P hP'
      rw [wup_ne (fun q => by subst q; rw [nWc] at z; cases z)]; exact z
    · have z := so.w.tb P hP'
      have n1 : P ≠ c' := fun q => by subst q; rw [nWc] at z; cases z
      rw [upd_ne n1] at e
      have old : (∃ ps0, H P = some (.tbl ps0) ∧ codeAmong pos' ps0.toList = some cv) → ∃ c, cv = .ref c ∧ wup W c' (CdP c') c = some (CdP c) := fun ⟨ps0, h1, h2⟩ => by
        obtain ⟨c, k1, k2⟩ := so.w.cd P hP' ps0 h1 pos' cv h2
        exact ⟨c, k1, by rw [wup_ne (fun q => by subst q; rw [nWc] at k2; cases k2)]; exact k2⟩
      by_cases hb : P = Pt
      · subst hb
        rw [upd_same] at e; cases e
        rw [show (ps ++ #[rawInt pos.line, rawInt pos.col, .ref c']).toList = ps.toList ++ [rawInt pos.line, rawInt pos.col, .ref c'] by simp] at hc
        rcases LamX.among_app _ ht hc with h | h
        · exact old ⟨ps, hHP, h⟩
        · exact ⟨c', h, wup_same⟩
      · rw [upd_ne hb] at e
        exact old ⟨ps'', e, hc⟩
    · rw [upd_ne (ne_of_none e1 nC), upd_ne (fun q => by subst q; rw [hWP] at e2; cases e2)]; exact e1
    · rw [wup_ne (ne_of_none e1 nC)]; exact e2
  | some cv =>
    obtain ⟨c', rfl, hw⟩ := so.w.cd Pt hP ps hHP pos cv hc
    refine PySem.W.kla_makeFunctionHit (mg := X.mg) (c := c) (P := Pt) (ps := ps) clo I.ok.glob (I.mod.glob.keeps I.bk) hcode (hT.code.keeps I.bk) hP' ht hc bP fun ctv h' tk hx hsz => ?_
    have I1 : Inv X pins σ H { s with heap := h', toks := tk } := I.kept fun b o e => hx b o e
    exact lay I1 (WLe.refl _) so hw (LamX.ExtN.refl H)
end
end TC

/-! Calls of lambda x: (len(x), x). -/
namespace TC
open PySem PySem.Spec PyProof.Rows L2
def wNo : Wd := fun _ => none
theorem wok_no {H : Hp} : WOk [] wNo H := ⟨fun _ _ e => (nomatch e), fun _ h => (nomatch h), fun _ h => (nomatch h)⟩
def vKey : EvT := vTup (sCons (vB (on1 lenD) (aCons (vVar 0) aNil)) (sCons (vVar 0) sNil))
section
variable {O : ObjI} {X : Cx} {pins : List (Addr × Obj)} {σ : L2.St} {H : Hp} {s : Shared}
theorem lam_call {A : Around} {f c' : Addr} {nq a : Str} {params : Arguments} {body : Expr} {scope : Scope} {k : Nat} {l : List Nat} {tk : Tok} {Q E : Value → Shared → Prop} (I : Inv X pins σ H s) (hF : A.frames = some X.stack) (hr : Room (k + 1) A) (hf : H f = some (LamO nq params body scope f c')) (hc : ∃ q, H c' = some (LamX.CodeO c' q)) (hz : l.length ≤ sizeLine) (S : FnScope [a] [a] scope)
    (hb : ∀ (pm cv ctv v : Value), bindArgs (PySem.W.kla_fn "<lambda>" nq params body scope [] pm cv ctv) ⟨[v], []⟩ = pure [(a, v)])
    (hbody : ∀ (q : Str) (s : Shared) (cd : Value), DE O [] (cxOf CX0 X.prog X.w X.K X.mg X.base [a] q scope f cd A X.stack s H E0) body vKey)
    (h : ∀ t H' s', Inv X pins σ H' s' → ExtH H H' → H' t = some (.tup [.int (l.length : Int), .str (mkS l)]) → Q (.ref t) s') : wpAny (model X.prog X.w) A (call (.ref f) [.str (mkS l) tk]) Q E s := by
  obtain ⟨q, hc⟩ := hc
  obtain ⟨⟨oc, vs, t, hoc, hdc, hvc⟩, _, _⟩ := I.hok c' _ hc
  obtain ⟨⟨pm, ctv, hof⟩, _, _⟩ := I.hok f _ hf
  have e0 : Env0 X.prog X.w X.K X.mg X.base A X.stack s H := ⟨hF, I.env0.mod, I.env0.bs, I.env0.bsz, I.env0.funs, I.env0.frf, I.env0.hok, I.env0.bare⟩
  have hkind : ∀ y ∈ [(a, Value.str (mkS l) tk)], scope.names.lookup y.1 = some .local ∨ (scope.names.lookup y.1 = some .cell ∧ ((cellsFrom (s.heap.objs.size + 1) scope.names []).lookup y.1).isSome = true) := fun y hy => by
    rw [List.mem_singleton.mp hy]
    rcases S.par a (by simp) with q | q
    · exact .inl q
    · exact .inr ⟨q, PySem.W.cellsFrom_some _ _ _ (.inl q)⟩
  have rc : codeAny (model X.prog X.w) A (.call (.ref f) ⟨[.str (mkS l) tk], []⟩) (CR CX0 X.stack X.prog X.w H s (fun v H' => ∃ t, v = .ref t ∧ ExtH H H' ∧ H' t = some (.tup [.int (l.length : Int), .str (mkS l)])) E0) s := by
    refine lam_callFun hr.depth hof rfl S.co S.gen rfl ⟨c', oc, vs, t, rfl, hoc, hdc, hvc⟩ ?_
    rw [hb]
    refine wpAny_pure (wpAny_newFunctionEnv_cells S.kind hkind fun env he s1 x => ?_)
    subst he
    refine ⟨I.nolimit.keeps x.toInCall.keep, PySem.W.kla_codeExpr ?_⟩
    have J : Inv (cxOf CX0 X.prog X.w X.K X.mg X.base [a] q scope f (.ref c') A X.stack s H E0) [] (L2.start [a] [.str (mkS l)]) H s1 := inv_start (ps := [a]) (us := [.str (mkS l) tk]) S hr.hd e0 rfl (.cons ⟨tk, rfl⟩ .nil) x
    refine wpAny_mono ((hbody q s (.ref c')).run [] s1 (L2.start [a] [.str (mkS l)]) H (fun v H' => ∃ t, v = .ref t ∧ ExtH H H' ∧ H' t = some (.tup [.int (l.length : Int), .str (mkS l)])) J
      ⟨⟨noG, allG wNo H⟩, wNo, st0 1 [.str l], (fun r _ => r = (.fz, .tup [.int (l.length : Int), .str l])), SOk.start (O := O) (ds := [.str l]) (vs := [.str (mkS l)]) [a] wok_no (.cons (.str hz) .nil), ?_, fun v H' W' ρ' k d le fr s' r q => ?_⟩) (fun v s' hq => ?_) fun e s' hq => hq
    · simp only [vKey, vTup, sCons, sNil, vB, on1, aCons, aNil, vVar, st0, List.map, List.length, List.replicate, List.cons_append, List.nil_append, List.getElem?_cons_zero, lenD, settle]
      exact ⟨by rw [sizeLine_eq]; decide, trivial⟩
    · have q : (k, d) = (.fz, .tup [.int (l.length : Int), .str l]) := q
      cases q
      have r : Rep O W' (.tup [.int (l.length : Int), .str l]) v := r
      cases r with
      | @tup _ t vs hw rr =>
        cases rr with | cons r1 rr =>
        cases rr with | cons r2 rr =>
        cases rr
        cases r1
        cases r2
        obtain ⟨o, ho, ho2⟩ := s'.w.at_ _ _ hw
        refine ⟨t, rfl, fun b o' e => (s'.g b o' ?_).1, ?_⟩
        · show allG wNo H b = some o'
          exact e
        · rw [ho, show o = _ from ho2]
    · obtain ⟨w', H', J', rv, q⟩ := hq
      exact ⟨w', H', J'.os, J'.bare, J'.base, J'.hok, rv, q⟩
  refine wpAny_call (codeAny_mono rc fun r s' hq => ?_)
  cases r with
  | error e => exact (show False from hq).elim
  | ok fl =>
    cases fl with
    | ret u =>
      obtain ⟨v, H', I', r, t, rfl, e, ht⟩ := I.after hq
      cases r
      exact h t H' _ I' e ht
    | next => exact False.elim hq
    | brk => exact False.elim hq
    | cont => exact False.elim hq
end
end TC

/-! sorted of texts, key: lambda x: (len(x), x). -/
namespace TC
open PySem PySem.Spec PyProof.Rows L2 Srt SrtO
def ltK (a b : List Nat) : Bool := if a.length = b.length then decide (a < b) else decide (a.length < b.length)
theorem ltK_iff {a b : List Nat} : ltK a b = true ↔ a.length < b.length ∨ (a.length = b.length ∧ a < b) := by
  unfold ltK
  by_cases e : a.length = b.length
  · rw [if_pos e, decide_eq_true_eq]
    exact ⟨fun h => .inr ⟨e, h⟩, fun h => h.elim (fun z => by omega) (·.2)⟩
  · rw [if_neg e, decide_eq_true_eq]
    exact ⟨.inl, fun h => h.elim id (fun z => absurd z.1 e)⟩
theorem ltK_no {a b : List Nat} : ltK a b = false ↔ b.length < a.length ∨ (a.length = b.length ∧ b ≤ a) := by
  rw [← Bool.not_eq_true, ltK_iff]
  constructor
  · intro h
    rcases Nat.lt_trichotomy a.length b.length with e | e | e
    · exact absurd (.inl e) h
    · exact .inr ⟨e, List.not_lt.mp fun z => h (.inr ⟨e, z⟩)⟩
    · exact .inl e
  · rintro (h | ⟨e, h⟩) (k | ⟨k, k2⟩)
    · omega
    · omega
    · omega
    · exact List.not_lt.mpr h k2
def txt : Value → List Nat
  | .str x _ => x.cps.toList
  | _ => []
def ltP (p q : Keyed) : Bool := ltK (txt p.2) (txt q.2)
theorem swoK : Swo ltP := by
  refine ⟨fun x y h => ?_, fun x y z h1 h2 => ?_⟩
  · have a := ltK_iff.mp h
    refine ltK_no.mpr ?_
    rcases a with a | ⟨a, b⟩
    · exact .inl a
    · exact .inr ⟨a.symm, List.le_of_lt b⟩
  · have a := ltK_no.mp h1
    have b := ltK_no.mp h2
    refine ltK_no.mpr ?_
    rcases a with a | ⟨a, a2⟩ <;> rcases b with b | ⟨b, b2⟩
    · exact .inl (by omega)
    · exact .inl (by omega)
    · exact .inl (by omega)
    · exact .inr ⟨by omega, List.le_trans a2 b2⟩
def KeyAt (h : Heap) (v : Value) (l : List Nat) : Prop := ∃ a o t u n, v = .ref a ∧ h.get? a = some o ∧ o.cls = .type "tuple" ∧ o.data = .seq #[.int (l.length : Int) t, .str (mkS l) u] n
theorem keys_firsts {h : Heap} : ∀ {vs : List Value}, (∀ v ∈ vs, ∃ l, KeyAt h v l) → ∃ fs : List Value, PySem.W.KatTups h vs fs ∧ fs.length = vs.length ∧ ∀ f ∈ fs, ∃ x t, f = Value.int x t
  | [], _ => ⟨[], PySem.W.KatTups.nil, rfl, fun _ hm => by simp at hm⟩
  | v :: vs, hp => by
    obtain ⟨fs, h1, h2, h3⟩ := keys_firsts (vs := vs) fun v' hm => hp v' (List.mem_cons_of_mem _ hm)
    obtain ⟨l, a, o, t, u, n, e, ho, hc, hd⟩ := hp v (List.mem_cons_self ..)
    subst e
    refine ⟨.int l.length t :: fs, PySem.W.KatTups.cons ho hc hd rfl h1, by rw [List.length_cons, List.length_cons, h2], fun f hm => ?_⟩
    rcases List.mem_cons.mp hm with rfl | hm
    · exact ⟨l.length, t, rfl⟩
    · exact h3 f hm
section
variable {prog : Program} {w : World} {A : Around} {s : Shared}
theorem key_cmp : Cmp prog w A s (tuples' true) (fun p => KeyAt s.heap p.1 (txt p.2)) ltP := by
  intro p q h1 h2
  have h1 : KeyAt s.heap p.1 (txt p.2) := h1
  have h2 : KeyAt s.heap q.1 (txt q.2) := h2
  show wpAny (model prog w) A (keyLt' (tuples' true) p.1 q.1) (fun r s' => s' = s ∧ r = ltK (txt p.2) (txt q.2)) (fun _ _ => False) s
  generalize txt p.2 = x at h1 ⊢
  generalize txt q.2 = y at h2 ⊢
  obtain ⟨a, o, t, u, n, e, ho, hc, hd⟩ := h1
  obtain ⟨a', o', t', u', n', e', ho', hc', hd'⟩ := h2
  rw [e, e']
  unfold ltK
  refine PySem.W.kat_lt ho hd ho' hd' ?_
  show PySem.W.KatLex prog w A true (decide (2 < 2)) _ [(.int (x.length : Int) t, .int (y.length : Int) t'), (.str (mkS x) u, .str (mkS y) u')] 0 s
  refine PySem.W.kat_cons (SeqAt.EqAt.int_int (x.length : Int) t (y.length : Int) t' prog w _ _ ?_)
  refine PySem.W.kat_go (fun e1 => ?_) (fun e1 => ?_)
  · have ex : x.length = y.length := by
      have : (x.length : Int) = (y.length : Int) := by simpa using e1
      omega
    rw [if_pos ex]
    refine PySem.W.kat_yes (PySem.W.kat_cons (SeqAt.EqAt.str_str (mkS x) u (mkS y) u' prog w _ _ ?_))
    refine PySem.W.kat_go (fun e2 => ?_) (fun e2 => ?_)
    · have ey : x = y := mkS_inj (by simpa using e2)
      refine PySem.W.kat_yes (PySem.W.kat_nil ⟨rfl, ?_⟩)
      rw [ey]
      exact (decide_eq_false (List.lt_irrefl _)).symm
    · refine PySem.W.kat_no (PySem.W.kat_one _ _ (PyProof.Rows.lt_str ?_))
      refine (show s = s ∧ decide ((mkS x).cps.toList < (mkS y).cps.toList) = decide (x < y) from ⟨rfl, ?_⟩)
      rw [mkS_toList, mkS_toList]
  · have ex : ¬ x.length = y.length := fun z => by
      have : ¬ (x.length : Int) = (y.length : Int) := by simpa using e1
      omega
    rw [if_neg ex]
    refine PySem.W.kat_no (oneLt_int ⟨rfl, ?_⟩)
    rw [Bool.eq_iff_iff]
    simp
theorem key_kind {E : Value → Shared → Prop} {vs : List Value} {Q : SortKind → Shared → Prop} (h0 : 0 < vs.length) (hp : ∀ v ∈ vs, ∃ l, KeyAt s.heap v l) (hq : Q (tuples' true) s) : wpAny (model prog w) A (keyKind' vs.toArray) Q E s := by
  obtain ⟨fs, h1, h2, h3⟩ := keys_firsts hp
  refine PySem.W.kat_kind (T := .type "int") h1 (by omega) (fun f hm => ?_) (by rfl) ?_
  · obtain ⟨x, t, rfl⟩ := h3 f hm
    exact PySem.W.Looks.now
  · have e : (Value.type "int" != Value.type "tuple") = true := by first | decide +kernel | rfl | decide
    rw [e]
    exact hq
end
/-- the keys of texts -/
inductive KeyL (H : Hp) : List Addr → List (List Nat) → Prop
  | nil : KeyL H [] []
  | cons {t ts l ls} : H t = some (.tup [.int (l.length : Int), .str (mkS l)]) → KeyL H ts ls → KeyL H (t :: ts) (l :: ls)
theorem KeyL.mono {H H' : Hp} (e : ∀ t l, H t = some (.tup [.int ((l : List Nat).length : Int), .str (mkS l)]) → H' t = some (.tup [.int (l.length : Int), .str (mkS l)])) : ∀ {ts ls}, KeyL H ts ls → KeyL H' ts ls
  | _, _, .nil => .nil
  | _, _, .cons h r => .cons (e _ _ h) (KeyL.mono e r)
theorem KeyL.app {H : Hp} {t l} (h : H t = some (.tup [.int ((l : List Nat).length : Int), .str (mkS l)])) : ∀ {ts ls}, KeyL H ts ls → KeyL H (ts ++ [t]) (ls ++ [l])
  | _, _, .nil => .cons h .nil
  | _, _, .cons k r => .cons k (KeyL.app h r)
theorem KeyL.len {H : Hp} : ∀ {ts ls}, KeyL H ts ls → ts.length = ls.length
  | _, _, .nil => rfl
  | _, _, .cons _ r => by rw [List.length_cons, List.length_cons, KeyL.len r]
end TC

/-! sorted of texts by key, run. -/
namespace TC
open PySem PySem.Spec PyProof.Rows L2 Srt SrtO
def leK (a b : List Nat) : Bool := !ltK b a
def sortK (l : List (List Nat)) : List (List Nat) := l.mergeSort leK
theorem sortK_perm (l : List (List Nat)) : (sortK l).Perm l := List.mergeSort_perm _ _
theorem leK_trans (a b c : List Nat) (h1 : leK a b = true) (h2 : leK b c = true) : leK a c = true := by
  unfold leK at *
  simp only [Bool.not_eq_true', ltK_no] at *
  rcases h1 with h1 | ⟨h1, k1⟩ <;> rcases h2 with h2 | ⟨h2, k2⟩
  · exact .inl (by omega)
  · exact .inl (by omega)
  · exact .inl (by omega)
  · exact .inr ⟨by omega, List.le_trans k1 k2⟩
theorem leK_total (a b : List Nat) : (leK a b || leK b a) = true := by
  unfold leK
  rw [Bool.or_eq_true]
  simp only [Bool.not_eq_true', ltK_no]
  rcases Nat.lt_trichotomy a.length b.length with e | e | e
  · exact .inl (.inl e)
  · rcases List.le_total a b with h | h
    · exact .inl (.inr ⟨e.symm, h⟩)
    · exact .inr (.inr ⟨e, h⟩)
  · exact .inr (.inl e)
theorem leK_anti {a b : List Nat} (h1 : leK a b = true) (h2 : leK b a = true) : a = b := by
  unfold leK at *
  simp only [Bool.not_eq_true', ltK_no] at *
  rcases h1 with h1 | ⟨h1, k1⟩ <;> rcases h2 with h2 | ⟨h2, k2⟩
  · omega
  · omega
  · omega
  · exact List.le_antisymm k1 k2
theorem sortK_sorted (l : List (List Nat)) : (sortK l).Pairwise fun a b => leK a b = true := List.pairwise_mergeSort leK_trans leK_total l
theorem sortedK_unique {a b : List (List Nat)} (p : a.Perm b) (h1 : a.Pairwise fun x y => leK x y = true) (h2 : b.Pairwise fun x y => leK x y = true) : a = b :=
  p.eq_of_pairwise (fun _ _ _ _ x y => leK_anti x y) h1 h2
theorem sortK_eq {l r : List (List Nat)} (h : l.Perm r) : sortK l = sortK r := sortedK_unique ((sortK_perm _).trans (h.trans (sortK_perm _).symm)) (sortK_sorted _) (sortK_sorted _)
/-- texts -/
def Txts : List (List Nat) → List Value → Prop := fun ls vs => Vals (ls.map fun x => V.str (mkS x)) vs
theorem Txts.txt : ∀ {ls vs}, Txts ls vs → vs.map txt = ls
  | [], vs, h => by cases h; rfl
  | l :: ls, vs, h => by
    cases h with
    | cons a b =>
      obtain ⟨t, rfl⟩ := a
      rw [List.map_cons, Txts.txt b]
      show (mkS l).cps.toList :: ls = _
      rw [mkS_toList]
theorem Txts.at_ : ∀ {ls vs}, Txts ls vs → ∀ (j : Nat) v, vs[j]? = some v → ∃ l t, ls[j]? = some l ∧ v = .str (mkS l) t
  | [], vs, h, j, v, e => by cases h; cases e
  | l :: ls, vs, h, j, v, e => by
    cases h with
    | cons a b =>
      obtain ⟨t, rfl⟩ := a
      cases j with
      | zero => cases e; exact ⟨l, t, rfl, rfl⟩
      | succ j => exact Txts.at_ b j v e
theorem Txts.all : ∀ {ls vs}, Txts ls vs → ∀ v ∈ vs, ∃ l t, v = .str (mkS l) t := fun h v hv => by
  obtain ⟨j, hj⟩ := List.getElem?_of_mem hv
  obtain ⟨l, t, _, e⟩ := h.at_ j v hj
  exact ⟨l, t, e⟩
theorem Txts.of : ∀ {vs : List Value}, (∀ v ∈ vs, ∃ l t, v = Value.str (mkS l) t) → Txts (vs.map TC.txt) vs
  | [], _ => .nil
  | v :: vs, h => by
    obtain ⟨l, t, rfl⟩ := h v List.mem_cons_self
    refine .cons ?_ (Txts.of fun u hu => h u (List.mem_cons_of_mem _ hu))
    show L2.RelV (V.str (mkS (mkS l).cps.toList)) (.str (mkS l) t)
    rw [mkS_toList]
    exact ⟨t, rfl⟩
theorem refs_of : ∀ {ts : List Addr} {us : List Value}, Vals (ts.map V.ref) us → us = ts.map Value.ref
  | [], us, r => by cases r; rfl
  | t :: ts, us, r => by
    cases r with
    | cons h q => cases h; rw [List.map_cons, ← refs_of q]
section
variable {X : Cx} {pins : List (Addr × Obj)} {σ : L2.St} {H : Hp} {s : Shared}
theorem keyL_at (I : Inv X pins σ H s) : ∀ {ts ls}, KeyL H ts ls → ∀ {vs}, Txts ls vs → ∀ p ∈ (ts.map Value.ref).zip vs, KeyAt s.heap p.1 (txt p.2)
  | _, _, .nil, vs, _, p, hp => by simp at hp
  | _, _, .cons (t := t) (l := l) h r, vs, hv, p, hp => by
    cases hv with
    | cons a b =>
      obtain ⟨tk, rfl⟩ := a
      rw [List.map_cons, List.zip_cons_cons] at hp
      rcases List.mem_cons.mp hp with rfl | hp
      · obtain ⟨_, its, rv, o, ho, hcl, n, hd⟩ := I.hok t _ h
        cases rv with | cons r1 rv =>
        cases rv with | cons r2 rv =>
        cases rv
        obtain ⟨t1, rfl⟩ := r1
        obtain ⟨t2, rfl⟩ := r2
        show KeyAt s.heap (.ref t) (mkS l).cps.toList
        rw [mkS_toList]
        exact ⟨t, o, t1, t2, n, rfl, ho, hcl, hd⟩
      · exact keyL_at I r b p hp
end
end TC

namespace TC
open PySem PySem.Spec PyProof.Rows L2 Srt SrtO
section
variable {X : Cx} {pins : List (Addr × Obj)} {σ : L2.St}
/-- at a: an empty list, untouched since e1 -/
def EmO (a : Addr) (e1 : Nat) : HO := .ext fun h => h.get? a = some (seqObj "list" #[] e1)
/-- the sort's end: the keys are there -/
theorem ksk_tailK {A : Around} {E : Value → Shared → Prop} {s : Shared} {H : Hp} {a kS : Addr} {e1 : Nat} {its : List Value} {kits : List Value} {n : Nat} {st : SortSt} {ss : List (List Nat)} {ts : List Addr} {R : PySem.Fin → Shared → Prop} (I : Inv X pins σ H s) (hka : kS ≠ a)
    (hk : s.heap.get? kS = some (seqObj "list" kits.toArray n)) (hkH : H kS = some (.lst (ts.map V.ref))) (ha : s.heap.get? a = some (seqObj "list" #[] e1)) (haH : H a = some (EmO a e1))
    (hv : Txts ss its) (hz : its.length ≤ sizeLine) (hkl : kits.length = its.length) (hs : Srtd ltP (arrOf st).toList) (hb : Stb ltP (arrOf st).toList (kits.toArray.zip its.toArray).toList) (hf : failedOf st = none)
    (h : ∀ s', Inv X pins σ (upd (upd H kS (.lst [])) a (.lst ((sortK ss).map fun x => V.str (mkS x)))) s' → R (.done (.ret .none)) s') :
    wpAny (model X.prog X.w) A (ksk_tail a false e1 (.ref kS) st) R E s := by
  unfold ksk_tail
  try dsimp only
  have ez : (kits.toArray.zip its.toArray).toList = kits.zip its := by simp
  rw [ez] at hb
  have hlen : (arrOf st).size = its.length := by
    have := hb.len
    rw [Array.length_toList, List.length_zip, hkl, Nat.min_self] at this
    exact this
  have hout : ((arrOf st).map (·.2)).toList.Perm its := by
    rw [Array.toList_map]
    refine (hb.perm.map _).trans ?_
    rw [List.map_snd_zip (by omega)]
  have I1 := I.lset (f := fun _ => #[]) (its' := []) (ys := []) (t' := s.toks) hkH hk rfl .nil (Nat.zero_le _)
  have ha1 : (s.heap.update kS (Obj.mapSeq fun _ => (#[] : Array Value))).get? a = some (seqObj "list" #[] e1) := (Heap.get?_update_ne _ _ _ _ hka.symm).trans ha
  have haH1 : upd H kS (.lst []) a = some (EmO a e1) := by rw [upd_ne hka.symm]; exact haH
  refine wpAny_bind (listUpdate_at hk rfl ?_ (by rw [List.size_toArray, hkl]; exact hz) (Nat.zero_le _))
  refine wpAny_bind (wpAny_letGo ?_)
  refine wpAny_bind (seqEpoch_at ha1 rfl ?_)
  refine wpAny_bind (listUpdate_at ha1 rfl ?_ (Nat.zero_le _) (by
    show ((arrOf st).map (·.2)).size ≤ _
    rw [Array.size_map, hlen]; omega))
  rw [hf]
  simp only [bne_self_eq_false, Bool.false_eq_true, if_false]
  refine wpAny_pure (h _ ?_)
  have tx : ((arrOf st).map (·.2)).toList.map txt = sortK ss := by
    refine sortedK_unique ?_ ?_ (sortK_sorted ss)
    · refine (hout.map txt).trans ?_
      rw [hv.txt]
      exact (sortK_perm ss).symm
    · rw [Array.toList_map, List.map_map, List.pairwise_map]
      refine hs.imp fun {p q} h => ?_
      show leK (txt p.2) (txt q.2) = true
      unfold leK
      rw [show ltK (txt q.2) (txt p.2) = false from h]
      rfl
  have tv : Txts (sortK ss) ((arrOf st).map (·.2)).toList := by
    rw [← tx]
    exact Txts.of fun v hv' => hv.all v (hout.mem_iff.mp hv')
  have q := PySem.IsL.update ha1 (fun _ => Array.map (fun x : Keyed => x.2) (arrOf st))
  obtain ⟨ep, q'⟩ : ∃ ep, ((s.heap.update kS (Obj.mapSeq fun _ => (#[] : Array Value))).update a (Obj.mapSeq fun _ => Array.map (fun x : Keyed => x.2) (arrOf st))).get? a = some { cls := .type "list", data := .seq (Array.map (fun x : Keyed => x.2) (arrOf st)).toList.toArray ep } := ⟨_, by
    rw [Array.toArray_toList]; exact q⟩
  have hlS : ((sortK ss).map fun x => V.str (mkS x)).length ≤ sizeLine := by
    rw [List.length_map, (sortK_perm ss).length_eq, ← List.length_map (f := fun x => V.str (mkS x)), hv.length]; exact hz
  have I2 := I1.write (x := a) (e := a) (o := .lst ((sortK ss).map fun x => V.str (mkS x))) (t' := s.toks) (by rw [haH1]; exact trivial) (.inl rfl) (fun b' u hb hu => (Heap.get?_update_other _ (Obj.mapSeq fun _ => Array.map (fun x : Keyed => x.2) (arrOf st)) (Ne.symm hb)).trans hu) ⟨_, q⟩ ⟨hlS, _, _, tv, q'⟩
  exact I2
theorem ksk_endK {A : Around} {E : Value → Shared → Prop} {s : Shared} {H : Hp} {a kS : Addr} {e1 : Nat} {its : List Value} {n : Nat} {ss : List (List Nat)} {ts : List Addr} {R : PySem.Fin → Shared → Prop} (I : Inv X pins σ H s) (hka : kS ≠ a)
    (hk : s.heap.get? kS = some (seqObj "list" (ts.map Value.ref).toArray n)) (hkH : H kS = some (.lst (ts.map V.ref))) (ha : s.heap.get? a = some (seqObj "list" #[] e1)) (haH : H a = some (EmO a e1))
    (hv : Txts ss its) (hz : its.length ≤ sizeLine) (hK : KeyL H ts ss)
    (h : ∀ s', Inv X pins σ (upd (upd H kS (.lst [])) a (.lst ((sortK ss).map fun x => V.str (mkS x)))) s' → R (.done (.ret .none)) s') :
    wpAny (model X.prog X.w) A (ksk_end a false its.toArray e1 (.ref kS) (ts.map Value.ref).toArray) R E s := by
  have hkl : (ts.map Value.ref).length = its.length := by
    rw [List.length_map, hK.len, ← hv.length, List.length_map]
  have ez : ((ts.map Value.ref).toArray.zip its.toArray).toList = (ts.map Value.ref).zip its := by simp
  have hall : AllL (fun p : Keyed => KeyAt s.heap p.1 (txt p.2)) ((ts.map Value.ref).toArray.zip its.toArray).toList := fun p hp => by
    rw [ez] at hp
    exact keyL_at I hK hv p hp
  unfold ksk_end
  try dsimp only
  simp only [Bool.false_eq_true, if_false]
  by_cases h2 : its.toArray.size < 2
  · rw [if_pos h2, if_pos h2]
    refine wpAny_bind (wpAny_pure ?_)
    rw [StateT.run_pure]
    refine wpAny_bind (wpAny_pure ?_)
    try dsimp only
    refine ksk_tailK (st := SortSt.mk' general' ((ts.map Value.ref).toArray.zip its.toArray) #[] 7 none) I hka hk hkH ha haH hv hz hkl ?_ (Stb.refl _) rfl h
    show Srtd ltP ((ts.map Value.ref).toArray.zip its.toArray).toList
    rw [ez]
    have hl : ((ts.map Value.ref).zip its).length < 2 := by
      rw [List.length_zip, hkl, Nat.min_self]
      simpa using h2
    match (ts.map Value.ref).zip its, hl with
    | [], _ => exact List.Pairwise.nil
    | [v], _ => exact List.pairwise_singleton _ _
    | _ :: _ :: l, h => exact absurd h (by rw [List.length_cons, List.length_cons]; omega)
  · rw [if_neg h2, if_neg h2]
    have h2' : 2 ≤ its.length := by simpa using h2
    refine wpAny_bind (key_kind (by rw [hkl]; omega) (fun v hv' => ?_) ?_)
    · obtain ⟨j, hj⟩ := List.getElem?_of_mem hv'
      have hjl : j < its.length := by rw [← hkl]; exact (List.getElem?_eq_some_iff.mp hj).1
      have hm : (v, its[j]) ∈ (ts.map Value.ref).zip its := by
        refine List.mem_of_getElem? (i := j) ?_
        rw [List.getElem?_zip_eq_some]
        exact ⟨hj, List.getElem?_eq_getElem hjl⟩
      exact ⟨_, keyL_at I hK hv _ hm⟩
    refine wpAny_bind (wpAny_mono (wpS_sortO (st0 := SortSt.mk' (tuples' true) ((ts.map Value.ref).toArray.zip its.toArray) #[] 7 none)
      (Q := fun _ st' => Srtd ltP (arrOf st').toList ∧ Stb ltP (arrOf st').toList ((ts.map Value.ref).toArray.zip its.toArray).toList ∧ failedOf st' = none) swoK key_cmp rfl hall rfl rfl fun st' a1 a2 a3 => ⟨a1, a2, a3⟩) ?_ fun _ _ e => e)
    rintro ⟨⟨⟩, st'⟩ s' ⟨rfl, hp1, hp2, hf⟩
    try dsimp only
    exact ksk_tailK I hka hk hkH ha haH hv hz hkl hp1 hp2 hf h
/-- the key function, at the around of the sort -/
def KeyFn (X : Cx) (pins : List (Addr × Obj)) (σ : L2.St) (A : Around) (H : Hp) (f : Value) : Prop := ∀ (H' : Hp) (s : Shared) (l : List Nat) (tk : Tok) (Q E : Value → Shared → Prop), Inv X pins σ H' s → ExtH H H' → l.length ≤ sizeLine →
  (∀ t H2 s', Inv X pins σ H2 s' → ExtH H' H2 → H2 t = some (.tup [.int (l.length : Int), .str (mkS l)]) → Q (.ref t) s') → wpAny (model X.prog X.w) A (call f [.str (mkS l) tk]) Q E s
theorem ksk_restK {A : Around} {E : Value → Shared → Prop} {s : Shared} {H : Hp} {a kS f : Addr} {e1 : Nat} {its : List Value} {ss : List (List Nat)} {R : PySem.Fin → Shared → Prop} (I : Inv X pins σ (upd (upd H a (EmO a e1)) kS (.lst [])) s) (nk : H kS = none) (na : H a = none) (hka : kS ≠ a)
    (hv : Txts ss its) (hss : ∀ l ∈ ss, l.length ≤ sizeLine) (hz : its.length ≤ sizeLine) (hF : KeyFn X pins σ A H (.ref f))
    (h : ∀ H' s', Inv X pins σ H' s' → ExtH H H' → H' a = some (.lst ((sortK ss).map fun x => V.str (mkS x))) → R (.done (.ret .none)) s') :
    wpAny (model X.prog X.w) A (ksk_rest a (.ref f) false its.toArray e1 (.ref kS)) R E s := by
  unfold ksk_rest
  refine wpAny_bind (wpAny_rule ?_)
  first
    | rw [List.forIn_toArray]
    | (rw [← Array.forIn_toList]; simp only [List.toList_toArray])
    | rw [← Array.forIn_toList]
  refine wpAny_bind (ksk_fold (fun i s' => ∃ H' ts, Inv X pins σ H' s' ∧ ExtH H H' ∧ H' a = some (EmO a e1) ∧ H' kS = some (.lst (ts.map V.ref)) ∧ KeyL H' ts (ss.take i)) its 0 s ?start ?step ?done)
  case start =>
    refine ⟨_, [], I, fun b o e => ?_, ?_, upd_same, .nil⟩
    · rw [upd_ne (ne_of_none e nk), upd_ne (ne_of_none e na)]; exact e
    · rw [upd_ne hka.symm, upd_same]
  case step =>
    rintro j x s' hx ⟨H', ts, I', e', ha', hk', hK'⟩
    simp only [Nat.zero_add] at hK' ⊢
    obtain ⟨l, tk, hl, rfl⟩ := hv.at_ j x hx
    refine wpAny_bind (wpAny_attempt (hF H' s' l tk _ _ I' e' (hss l (List.mem_of_getElem? hl)) fun t H2 s2 I2 e2 ht => ?_))
    try dsimp only
    have hk2 := e2 _ _ hk'
    obtain ⟨hzk, kits, n, rv, hob⟩ := I2.hok kS _ hk2
    have ek := refs_of rv
    subst ek
    have tk' : ss.take (j + 1) = ss.take j ++ [l] := by rw [List.take_add_one, hl]; rfl
    have hlt : ts.length < its.length := by
      have h1 := hK'.len
      rw [List.length_take] at h1
      have h2 := (List.getElem?_eq_some_iff.mp hl).1
      have h3 := hv.length
      rw [List.length_map] at h3
      omega
    have I3 := I2.lset (l := kS) (f := (·.push (.ref t))) (its' := ts.map Value.ref ++ [Value.ref t]) (ys := (ts ++ [t]).map V.ref) (t' := s2.toks) hk2 hob (by simp) (by
      rw [List.map_append]
      exact rv.append (.cons rfl .nil)) (by rw [List.length_map, List.length_append, List.length_singleton]; omega)
    refine wpAny_bind (listUpdate_at hob rfl ?_ (by rw [List.size_toArray, List.length_map]; omega) (by rw [Array.size_push, List.size_toArray, List.length_map]; omega))
    refine wpAny_pure ⟨rfl, _, ts ++ [t], I3, fun b o e => ?_, ?_, upd_same, ?_⟩
    · rw [upd_ne (ne_of_none e nk)]; exact e2 _ _ (e' _ _ e)
    · rw [upd_ne hka.symm]; exact e2 _ _ ha'
    · rw [tk']
      have nt : ∀ u (v : List Nat), H2 u = some (.tup [.int (v.length : Int), .str (mkS v)]) → u ≠ kS := fun u v e z => by rw [z, hk2] at e; cases e
      exact KeyL.app (by rw [upd_ne (nt t l ht)]; exact ht) (hK'.mono fun u v e => by rw [upd_ne (nt u v (e2 _ _ e))]; exact e2 _ _ e)
  case done =>
    rintro s' ⟨H', ts, I', e', ha', hk', hK'⟩
    have el : ss.take (0 + its.length) = ss := List.take_of_length_le (by have h3 := hv.length; rw [List.length_map] at h3; omega)
    rw [el] at hK'
    obtain ⟨hzk, kits, n, rv, hob⟩ := I'.hok kS _ hk'
    have ek := refs_of rv
    subst ek
    obtain ⟨hoa, _, _⟩ := I'.hok a _ ha'
    try dsimp only
    refine wpAny_bind (listItems_at hob rfl ?_)
    refine ksk_endK I' hka hob hk' hoa ha' hv hz hK' fun s2 I2 => h _ s2 I2 (fun b o e => ?_) upd_same
    rw [upd_ne (ne_of_none e na), upd_ne (ne_of_none e nk)]
    exact e' _ _ e
end
end TC

namespace TC
open PySem PySem.Spec PyProof.Rows L2 Srt SrtO
section
variable {X : Cx} {pins : List (Addr × Obj)} {σ : L2.St}
theorem sortK_run {E : Value → Shared → Prop} {s : Shared} {H : Hp} {l f : Addr} {its : List Value} {ss : List (List Nat)} {Q : Value → Shared → Prop} (I : Inv X pins σ H s) (hl : s.heap.IsList l its.toArray) (hv : Txts ss its) (hss : ∀ l ∈ ss, l.length ≤ sizeLine) (hz : its.length ≤ sizeLine)
    (hF : KeyFn X pins σ X.A.in1.in1 H (.ref f))
    (h : ∀ a H' s', Inv X pins σ H' s' → ExtH H H' → H a = none → H' a = some (.lst ((sortK ss).map fun x => V.str (mkS x))) → Q (.ref a) s') :
    wpAny (model X.prog X.w) X.A (call (.builtin "sorted") [.ref l] [(Str.ofString "key", .ref f)]) Q E s := by
  refine call_function_entry_kw kind_sorted plain_sorted entry_sorted (ksk_s1 _ _) ?_
  unfold Builtin.«sorted»
  refine wpAny_bind (m := checkCount "sorted" 1 1 _) (wpAny_pure ?_)
  refine wpAny_bind (collect_list hl ?_ hz)
  refine wpAny_bind (wpAny_newList ?_ hz)
  have hsz : ((s.heap.push (seqObj "list" #[] 0)).update s.heap.objs.size (Obj.mapSeq (· ++ its.toArray))).objs.size = s.heap.objs.size + 1 := by
    rw [Heap.size_update, size_push']
  have hoL : (((s.heap.push (seqObj "list" #[] 0)).update s.heap.objs.size (Obj.mapSeq (· ++ its.toArray))).push (seqObj "list" its.toArray 0)).get? (s.heap.objs.size + 1) = some (seqObj "list" its.toArray 0) := by
    rw [← hsz]; exact Heap.get?_push_size _ rfl
  have keep : ∀ b o, s.heap.get? b = some o → b ≠ s.heap.objs.size + 1 ∧ (((s.heap.push (seqObj "list" #[] 0)).update s.heap.objs.size (Obj.mapSeq (· ++ its.toArray))).push (seqObj "list" its.toArray 0)).get? b = some o := fun b o q => by
    have hlt : b < s.heap.objs.size := Heap.lt_size q
    refine ⟨Nat.ne_of_lt (Nat.lt_succ_of_lt hlt), Heap.get?_push_of_some _ ?_⟩
    rw [Heap.get?_update_ne _ _ _ _ (Nat.ne_of_lt hlt)]
    exact Heap.get?_push_of_some _ q
  show wpAny _ _ _ _ _ { s with heap := ((s.heap.push (seqObj "list" #[] 0)).update s.heap.objs.size (Obj.mapSeq (· ++ its.toArray))).push (seqObj "list" its.toArray 0) }
  rw [hsz]
  generalize ((s.heap.push (seqObj "list" #[] 0)).update s.heap.objs.size (Obj.mapSeq (· ++ its.toArray))).push (seqObj "list" its.toArray 0) = h1 at hoL keep ⊢
  refine wpAny_bind (wpAny_holding (wpAny_call_entry_kw slot_list_sort ⟨_, hoL, rfl⟩ entry_list_sort ?body (ksk_l1 _ _)))
  case body =>
    show wpAny (model X.prog X.w) X.A.in1.in1 (Builtin.«list.sort» ⟨[.ref (s.heap.objs.size + 1)], [(Str.ofString "key", .ref f)]⟩) _ _ _
    rw [ksk_t1]
    generalize ha : s.heap.objs.size + 1 = a at hoL keep ⊢
    have hge : s.heap.objs.size ≤ a := by omega
    have na : H a = none := I.hok.fresh hge
    obtain ⟨e1, ho1⟩ : ∃ e1, (h1.update a (Obj.mapSeq fun _ => (#[] : Array Value))).get? a = some (seqObj "list" #[] e1) := ⟨_, get?_update_seq hoL fun _ => #[]⟩
    unfold ksk_tree
    refine wpAny_bind (listItems_at hoL rfl ?_)
    refine wpAny_bind (listUpdate_at hoL rfl ?_ (by rw [List.size_toArray]; exact hz) (Nat.zero_le _))
    refine wpAny_bind (seqEpoch_at ho1 rfl ?_)
    refine wpAny_bind (wpAny_newTuple ?_ (by show its.length ≤ _; exact hz))
    refine wpAny_bind (wpAny_newList ?_ (Nat.zero_le _))
    refine wpAny_holding ?_
    try dsimp only
    have kk : ∀ b u, s.heap.get? b = some u → ((h1.update a (Obj.mapSeq fun _ => (#[] : Array Value))).push (seqObj "tuple" its.toArray 0)).get? b = some u := fun b u e => by
      refine Heap.get?_push_of_some _ ?_
      rw [Heap.get?_update_ne _ _ _ _ (keep b u e).1]
      exact (keep b u e).2
    have I1 := I.laid (t' := s.toks) (a := a) (o := EmO a e1) (h' := (h1.update a (Obj.mapSeq fun _ => (#[] : Array Value))).push (seqObj "tuple" its.toArray 0)) kk hge
      ⟨Heap.get?_push_of_some _ ho1, ⟨_, Heap.get?_push_of_some _ ho1⟩, fun h1 h2 e st => st _ e⟩
    generalize hkS : ((h1.update a (Obj.mapSeq fun _ => (#[] : Array Value))).push (seqObj "tuple" its.toArray 0)).objs.size = kS
    have hlt : a < kS := by rw [← hkS]; exact Heap.lt_size (Heap.get?_push_of_some _ ho1)
    have nk0 : upd H a (EmO a e1) kS = none := I1.hok.fresh (Nat.le_of_eq hkS)
    have nk : H kS = none := by
      rw [upd_ne (Nat.ne_of_gt hlt)] at nk0; exact nk0
    have I2 := I1.laid (t' := s.toks) (a := kS) (o := .lst []) (h' := ((h1.update a (Obj.mapSeq fun _ => (#[] : Array Value))).push (seqObj "tuple" its.toArray 0)).push (seqObj "list" #[] 0)) (fun b u e => Heap.get?_push_of_some _ e) (Nat.le_of_eq hkS)
      ⟨Nat.zero_le _, [], 0, .nil, by rw [← hkS]; exact Heap.get?_push_size _ rfl⟩
    refine ksk_restK I2 nk na (Nat.ne_of_gt hlt) hv hss hz hF fun H' s' I' e' ha' => ⟨_, rfl, ?_⟩
    exact wpAny_pure ⟨_, rfl, h _ H' s' I' e' na ha'⟩
end
end TC

namespace TC
open PySem PySem.Spec PyProof.Rows L2
/-- sorted(e, key=lambda x: (len(x), x)) of texts -/
def vSortK (ev : EvT) : EvT := fun ρ Q => ev ρ fun r ρ1 => ∃ ss : List (List Nat), r.2 = .lst (ss.map D.str) ∧ Q (.fr, .lst ((sortK ss).map D.str)) ρ1
section
variable {O : ObjI} {TB : List Addr} {X : Cx} {e : Expr} {ev : EvT}
theorem de_sortK {c Pt : Addr} {a : Str} {params : Arguments} {scope : Scope} {p p1 p2 p3 p4 pt lpos kp pos : Pos} {x1 : Nat} {k : Nat} (hr : Room (k + 3) X.A) (hT : GxR.TabB X.base X.mg c Pt) (hP : Pt ∈ TB) (hcode : X.env.code = .ref c)
    (hg : Gl X "sorted") (hm : X.mg "sorted" = none) (hv : bootBuiltins "sorted" = some (.builtin "sorted")) (hml : X.mg "len" = none) (hvl : bootBuiltins "len" = some (.builtin "len")) (S : FnScope [a] [a] scope) (hva : scope.names.lookup a = some .local) (hgl : scope.names.lookup ("len" : Str) = some .globalImplicit)
    (hcl : ∀ cells, cloFrom cells scope.names [] = []) (hdef : defaultsOf params X.env = ([], [])) (hb : ∀ (nq : Str) (body : Expr) (pm cv ctv v : Value), bindArgs (PySem.W.kla_fn "<lambda>" nq params body scope [] pm cv ctv) ⟨[v], []⟩ = pure [(a, v)])
    (hd : (a == ("__debug__" : Str)) = false) (hcd : (a == ("__classdict__" : Str)) = false)
    (he : DE O TB X e ev) (hs1 : starEach [e] X.env = [(false, eval e X.env)] := by rfl) (hs2 : backTo pos (starEach [e] X.env) = (false, eval e X.env) :: backTo pos (starEach [] X.env) := by rfl) (hs3 : (backTo pos (starEach [e] X.env)).any (·.1) = false := by rfl) :
    DE O TB X (.Call (.Name "sorted" p) [e] [⟨some "key", .Lambda params (.Tuple [.Call (.Name "len" p1) [.Name a p2] [] p3, .Name a p4] x1 pt) scope lpos, kp⟩] pos) (vSortK ev) := by
  have body : ∀ (q : Str) (f : Addr) (A : Around) (s : Shared) (H : Hp) (cd : Value), DE O [] (cxOf CX0 X.prog X.w X.K X.mg X.base [a] q scope f cd A X.stack s H E0) (.Tuple [.Call (.Name "len" p1) [.Name a p2] [] p3, .Name a p4] x1 pt) vKey := fun q f A s H cd =>
    de_tup (das_cons (de_callB cr_len hgl hml hvl (da_cons (de_var (i := 0) rfl (.inl hva) hd hcd) da_nil)) (das_cons (de_var (i := 0) rfl (.inl hva) hd hcd) das_nil))
  refine ⟨fun pins s σ H Q I h => ?_⟩
  obtain ⟨G, W, ρ, Qd, so, hq, fin⟩ := h
  refine wpAny_Call_Name_kw (ld_blt I hg hm hv ?_)
  refine PyProof.Rows.callWith_kw (thn ((pa_cons he pa_nil hs1).run pos pins s σ H (fun vs H1 => tCons (fun σ H Q => ∃ G W ρ, SOk O TB G W ρ σ H ∧ ∀ f c' H1 W1, WLe W W1 → SOk O TB G W1 ρ σ H1 → W1 c' = some (CdP c') → H1 f = some (LamO (X.env.qual ++ "<lambda>") params (.Tuple [.Call (.Name "len" p1) [.Name a p2] [] p3, .Name a p4] x1 pt) scope f c') → LamX.ExtN H H1 → Q (.ref f) H1) tNil σ H1
      (fun zs H2 => ∃ l f c' ss, vs = [.ref l] ∧ zs = [.ref f] ∧ H2 l = some (.lst ((ss.map mkS).map V.str)) ∧ (∀ y ∈ ss, y.length ≤ sizeLine) ∧ H2 f = some (LamO (X.env.qual ++ "<lambda>") params (.Tuple [.Call (.Name "len" p1) [.Name a p2] [] p3, .Name a p4] x1 pt) scope f c') ∧ (∃ q, H2 c' = some (LamX.CodeO c' q)) ∧
        ∀ b H3, ExtH H2 H3 → H2 b = none → H3 b = some (.lst ((sortK ss).map fun x => V.str (mkS x))) → Q (.ref b) H3)) I
      ⟨G, W, ρ, _, so, hq, fun v H1 W1 ρ1 k d le fr s1 r1 q1 => ?_⟩) fun us s1 ⟨vs, H1, I1, r1, q1⟩ => thn ((pk_cons (pe_lam (O := O) (TB := TB) hT hP hcode hdef S.nofree hcl) pk_nil).run pos pins s1 σ H1 _ I1 q1) fun ws s2 ⟨zs, H2, I2, r2, q2⟩ => ?_) hs2 hs3
  · obtain ⟨ss, hd1, q1⟩ := q1
    have vw := s1.view r1
    obtain ⟨k, d⟩ := (⟨k, d⟩ : Kd × D)
    simp only at hd1
    subst hd1
    cases vw with
    | @lst _ l vs e1 rr =>
      obtain ⟨rfl, hz⟩ := rr.strs
      refine ⟨G, W1, ρ1, s1, fun f c' H2 W2 le2 s2 hw hf en => ?_⟩
      refine ⟨l, f, c', ss, rfl, rfl, en _ _ e1 (fun ps z => by cases z), hz, hf, ?_, fun b H3 e3 nb hb3 => ?_⟩
      · obtain ⟨o, ho, q, rfl⟩ := s2.w.at_ _ _ hw
        exact ⟨q, ho⟩
      · have z : (sortK ss).map (fun x => V.str (mkS x)) = ((sortK ss).map mkS).map V.str := by rw [List.map_map]; rfl
        rw [z] at hb3
        refine fin _ H3 W2 ρ1 .fr _ (le.trans le2) fr (s2.ext e3) ⟨b, _, rfl, s2.w.none_of nb, hb3, .lst (RepL.ofStrs fun y hy => hz y ((sortK_perm ss).mem_iff.mp hy)), (s2.newOwn nb).1, (s2.newOwn nb).2⟩ q1
  · obtain ⟨l, f, c', ss, rfl, rfl, hl, hz, hf, hc, fin2⟩ := q2
    cases r1 with | cons r1 rn =>
    cases rn
    cases r1
    cases r2 with | cons r2 rn =>
    cases rn
    cases r2
    obtain ⟨its, rv, hpl, hsz⟩ := I2.list (SqL.of hl)
    show wpAny _ _ (call (.builtin "sorted") [.ref l] [(Str.ofString "key", .ref f)]) _ _ _
    have hv : Txts ss its := by
      show Vals (ss.map fun x => V.str (mkS x)) its
      rw [List.map_map] at rv
      exact rv
    refine sortK_run I2 hpl.isList hv hz (by rw [← rv.length]; exact hsz) (fun H' s' w tk Q' E' I' e' hw h' => ?_) fun b H3 s3 I3 e3 nb hb3 => ⟨.ref b, H3, I3, rfl, fin2 b H3 e3 nb hb3⟩
    obtain ⟨q, hc⟩ := hc
    exact lam_call (k := k) I' I'.ok.frames (Room.in1 (Room.in1 hr)) (e' _ _ hf) ⟨q, e' _ _ hc⟩ hw S (fun pm cv ctv v => hb _ _ pm cv ctv v) (fun q s cd => body q f _ s H' cd) h'
end
end TC

/-! d.get(k), d.get(k, x); list(d). -/
namespace TC
open PySem PySem.Spec PyProof.Rows L2
/-- d.get(k), d.get(k, x) -/
def dgetD : OpM := fun d ds Q => match ds with
  | [k] => dlook d k fun o => Q (.fz, o.getD .non)
  | [k, .int i] => dlook d k fun o => Q (.fz, o.getD (.int i))
  | _ => False
def keyDD : Key → D
  | .inl i => .int i
  | .inr s => .str s.cps.toList
def keyFits : Key → Prop
  | .inl _ => True
  | .inr s => s.cps.toList.length ≤ sizeLine
/-- list(x), of a dict too -/
def listKD : Op1
  | .dct l, Q => (∀ p ∈ l, keyFits p.1) ∧ Q (.fr, .lst (l.map fun p => keyDD p.1))
  | d, Q => listD d Q
section
variable {O : ObjI} {TB : List Addr} {X : Cx}
theorem getD_rep {W : Wd} {o : Option D} {ov : Option V} {dz : D} {z : V} (hs : ov.isSome = o.isSome) (h : ∀ x, o = some x → ∃ y, ov = some y ∧ Rep O W x y) (hz : Rep O W dz z) : Rep O W (o.getD dz) (ov.getD z) := by
  cases o with
  | none =>
    cases ov with
    | none => exact hz
    | some y => cases hs
  | some x =>
    obtain ⟨y, rfl, r⟩ := h x rfl
    exact r
theorem mt_dgetD (hu : X.A.units + 1 < cLine) : MtR X "dict.get" (rM O TB dgetD) := by
  rintro pins s σ' H x xs v us Q I rx rs ⟨G, W, ρ, σ, d, ds, Qd, S, vx, vw, ho, fin⟩
  match ds, vw, ho with
  | [k], .cons vk .nil, ho =>
    have ho : dlook d k fun o => Qd (.fz, o.getD .non) := ho
    obtain ⟨u, rfl, ru⟩ := vals1 rs
    obtain ⟨a, o, rfl, q, ov, g, hs, hr⟩ := dlook_get S.w ho vx vk
    obtain rfl : v = .ref a := rx
    exact d_get1 hu I g ru fun w' s' I' rw' => ⟨_, H, I', rw', S.plain fin (getD_rep hs hr .non) q⟩
  | [k, .int i], .cons vk (.cons vd .nil), ho =>
    have ho : dlook d k fun o => Qd (.fz, o.getD (.int i)) := ho
    obtain ⟨u, u2, rfl, ru, ru2⟩ := vals2 rs
    obtain ⟨a, o, rfl, q, ov, g, hs, hr⟩ := dlook_get S.w ho vx vk
    obtain rfl : v = .ref a := rx
    cases vd
    exact d_get2 hu I g ru ru2 fun w' s' I' rw' => ⟨_, H, I', rw', S.plain fin (getD_rep hs hr .int) q⟩
  | [], _, ho => exact (show False from ho).elim
  | [k, .non], _, ho => exact (show False from ho).elim
  | [k, .bl _], _, ho => exact (show False from ho).elim
  | [k, .str _], _, ho => exact (show False from ho).elim
  | [k, .tup _], _, ho => exact (show False from ho).elim
  | [k, .lst _], _, ho => exact (show False from ho).elim
  | [k, .dct _], _, ho => exact (show False from ho).elim
  | [k, .dtt _], _, ho => exact (show False from ho).elim
  | [k, .obj _ _], _, ho => exact (show False from ho).elim
  | _ :: x :: _ :: _, _, ho => cases x <;> exact (show False from ho).elim
theorem key_rep {W : Wd} {k : Key} (h : keyFits k) : Rep O W (keyDD k) (kV k) := by
  cases k with
  | inl i => exact .int
  | inr s =>
    have : s = mkS s.cps.toList := by simp [mkS]
    show Rep O W (.str s.cps.toList) (.str s)
    conv => rhs; rw [this]
    exact .str h
theorem keys_rep {W : Wd} : ∀ {l : List (Key × D)} {vs : List (Key × V)}, RepD O W l vs → (∀ p ∈ l, keyFits p.1) → RepL O W (l.map fun p => keyDD p.1) (vs.map fun p => kV p.1)
  | _, _, .nil, _ => .nil
  | _, _, .cons _ t, h => .cons (key_rep (h _ List.mem_cons_self)) (keys_rep t fun p hp => h p (List.mem_cons_of_mem _ hp))
theorem cr_listK (hc : X.calm = true) : CallR X (.type "list") (rC O TB (on1 listKD)) := cr1 <| by
  rintro pins s σ' H x u Q I r ⟨G, W, ρ, σ, d, Qd, S, vx, h, fin⟩
  have base : ∀ d, View O W H d x → listD d Qd → wpAny (model X.prog X.w) X.A (call (.type "list") [u]) (EP X pins σ' Q) X.xe s := fun d vd hd =>
    cr_list hc pins s σ' H [x] [u] Q I (.cons r .nil) ⟨G, W, ρ, σ, [d], Qd, S, .cons vd .nil, hd, fin⟩
  cases vx with
  | @dct l a vs e rr =>
    obtain ⟨hf, q⟩ : (∀ p : Key × D, p ∈ l → keyFits p.1) ∧ Qd (.fr, .lst (l.map fun p : Key × D => keyDD p.1)) := h
    obtain rfl : u = .ref a := r
    refine call_listD hc pins s σ' H [.ref a] [.ref a] Q I (.cons rfl .nil) ⟨a, vs, rfl, .inl e, fun p hp => ?_⟩
    exact S.newL fin (keys_rep rr hf) q _ hp
  | non => exact (show False from h).elim
  | bl => exact (show False from h).elim
  | int => exact (show False from h).elim
  | str hz => exact base _ (.str hz) h
  | tup ew e rr => exact base _ (.tup ew e rr) h
  | lst e rr => exact base _ (.lst e rr) h
  | dtt e rr => exact (show False from h).elim
  | obj e => exact (show False from h).elim
end
end TC

/-! sorted(generator of texts); range downwards; text * int. -/
namespace TC
open PySem PySem.Spec PyProof.Rows L2 GenW
def vSortG (iv : IvT) (own : List Nat) (g : GtT) (ts : TvT) (bd : BdG) : EvT := fun ρ Q => iv ρ fun items ρ1 => loopD g ts (bd _ lEm) (blkR own ρ1) items [] fun l => ∃ ss : List (List Nat), l = ss.map D.str ∧ ss.length ≤ sizeLine ∧ Q (.fr, .lst ((sortT ss).map D.str)) ρ1
section
variable {O : ObjI} {TB : List Addr} {X : Cx} {k m : Nat} {e : Expr} {iv : IvT} {own : List Nat} {g : GtT} {ts : TvT} {bd : BdG} {p pos : Pos}
theorem de_sortG (hr : Room (k + 4) X.A) (hg : Gl X "sorted") (hm : X.mg "sorted" = none) (hb : bootBuiltins "sorted" = some (.builtin "sorted")) (hG : GExp O TB X k e iv own g ts bd m)
    (he : starEach [e] X.env = (false, eval e X.env) :: starEach [] X.env := by rfl) : DE O TB X (.Call (.Name "sorted" p) [e] [] pos) (vSortG iv own g ts bd) := by
  refine ⟨fun pins s σ H Q I h => ?_⟩
  obtain ⟨G, W, ρ, Qd, so, hq, fin⟩ := h
  refine wpAny_Call_Name_kw (ld_blt I hg hm hb ?_)
  refine PyProof.Rows.callWith_builtin1 ?_ he (by rfl)
  rw [he]
  show wpAny _ _ (spliced ((false, eval e X.env) :: backTo pos (starEach [] X.env))) _ _ s
  refine Calls.spliced_cons (hG I so hq fun a gn s5 H3 W3 ρ3 items Zf G' oa I5 so5 le5 fr5 q5 R => ?_)
  refine Calls.spliced_nil ?_
  refine Calls.call_function_entry PyProof.Rows.kind_sorted PyProof.Rows.plain_sorted PyProof.Rows.entry_sorted (PyProof.Rows.args_sorted1 _) ?_
  unfold Builtin.«sorted»; refine wpAny_bind (m := checkCount "sorted" 1 1 _) (wpAny_pure ?_)
  refine wpAny_bind (gcollect (k := k) (A := X.A.in1) (Room.in1 hr) I5.ok.frames I5 R q5 fun l vs ws s1 H1 W1 I6 so6 le6 hv rp qn => ?_)
  obtain ⟨ss, rfl, hL0, q6⟩ := qn
  obtain ⟨rfl, hz⟩ := rp.strs
  have hS := strs_of_vals hv
  have hL : vs.length ≤ sizeLine := by
    have := hv.length
    rw [List.length_map, List.length_map] at this
    omega
  refine wpAny_bind (wpAny_newList ?_ hL)
  have hoL : (s1.heap.push (seqObj "list" vs.toArray 0)).get? s1.heap.objs.size = some (seqObj "list" vs.toArray 0) := Heap.get?_push_size _ rfl
  refine wpAny_bind (wpAny_holding (wpAny_call_entry PyProof.Rows.slot_list_sort ⟨_, hoL, rfl⟩ PyProof.Rows.entry_list_sort (list_sort_treeKAny strKind_oneLt hoL hS.keysOf (fun v₁ v₂ rest e => keyKind_strs (by rw [← e]; exact hS)) hL fun st' hp2 hs => ⟨_, rfl, ?_⟩) (PyProof.Rows.args_list_sort _)))
  obtain ⟨ys, y1, y2, y3⟩ := sorted_out_str hS hp2 hs
  obtain ⟨e', he'⟩ := PyProof.Rows.sortedHeap_at (vs := vs) (out := (arrOf st').map (·.2)) hoL
  have ey : ys = (sortT ss).map mkS := sortT_of y2 y3
  subst ey
  have hlen : (((sortT ss).map mkS).map V.str).length ≤ sizeLine := by
    rw [List.length_map, List.length_map, (sortT_perm _).length_eq]; exact hL0
  have hn2 : H1 s1.heap.objs.size = none := I6.hok.fresh (Nat.le_refl _)
  have kp : ∀ b u, s1.heap.get? b = some u → (PyProof.Rows.sortedHeap (s1.heap.push (seqObj "list" vs.toArray 0)) s1.heap.objs.size vs ((arrOf st').map (·.2))).get? b = some u := fun b u e => by
    have hb := Heap.lt_size e
    rw [PyProof.Rows.sortedHeap_old (Nat.ne_of_lt hb) (by rw [size_push']; exact Nat.lt_succ_of_lt hb)]
    exact Heap.get?_push_of_some _ e
  refine wpAny_pure ⟨_, rfl, .ref s1.heap.objs.size, upd H1 s1.heap.objs.size (.lst (((sortT ss).map mkS).map V.str)), ?_, rfl, ?_⟩
  · exact I6.laid (t' := s1.toks) kp (Nat.le_refl _) ⟨hlen, ((arrOf st').map (·.2)).toList, e', vals_of_strs y1, by rw [Array.toArray_toList]; exact he'⟩
  · exact so6.newL (Qd := fun r => Qd r ρ3) (fun z H' W' k dz le s' r q => fin z H' W' ρ3 k dz (le5.trans (le6.trans le)) fr5 s' r q) (RepL.ofStrs fun y hy => hz y ((sortT_perm ss).mem_iff.mp hy)) q6 _ hn2
end
/-- n, n - 1, .. -/
def rngDn (hi : Int) (n : Nat) : List D := (List.range n).map fun (i : Nat) => .int (hi - i)
section
variable {O : ObjI} {TB : List Addr} {X : Cx} {tg : Expr}
theorem itrd_ok {W : Wd} {hi : Int} {n : Nat} {g : Hp} : ItOk O TB (Itc hi (-1) n) g W (rngDn hi n) := by
  intro W1 H1 le w hg
  have hl : (rngDn hi n).length = n := by unfold rngDn; rw [List.length_map, List.length_range]
  refine ⟨fun i hi' => ?_, fun i hi' => ?_⟩
  · rw [hl] at hi'
    refine ⟨hi', fun y H2 ⟨e, ey⟩ => ?_⟩
    subst e; subst ey
    have e1 : hi + (i : Int) * (-1) = hi - i := by omega
    rw [e1]
    exact ⟨.int (hi - i), W1, by unfold rngDn; rw [List.getElem?_map, List.getElem?_range hi']; rfl, WLe.refl W1, w, fun _ _ e1 e2 => ⟨e1, e2⟩, .int⟩
  · rw [hl] at hi'; exact hi'
def iRangeD (ar : ArT) : IvT := fun ρ Q => ar ρ fun rs ρ1 => match rs with
  | [(_, .int i), (_, .int j), (_, .int c)] => (-(2 ^ 62) ≤ i ∧ i < 2 ^ 62 ∧ -(2 ^ 62) ≤ j ∧ j < 2 ^ 62 ∧ c = -1) ∧ Q (rngDn i (i - j).toNat) ρ1
  | _ => False
theorem di_rangeD {a b c : Expr} {ar : ArT} {p pos : Pos} (hg : Gl X "range") (hm : X.mg "range" = none) (ha : DA O TB X [a, b, c] ar) (hs : starEach [a, b, c] X.env = (false, eval a X.env) :: starEach [b, c] X.env := by rfl) (hpl : (backTo pos (starEach [b, c] X.env)).any (·.1) = false := by rfl) :
    DI O TB X tg (.Call (.Name "range" p) [a, b, c] [] pos) (iRangeD ar) := by
  refine L2.PI.imp (pi_range3 hg hm ha hs hpl) ?_
  rintro σ H R ⟨G, W, ρ, Qd, s, ev, fin⟩
  refine ⟨G, W, ρ, _, s, ev, fun vs H' W' ρ' rs le fr s' r q => ?_⟩
  split at q
  · cases r with
    | cons r1 t =>
      cases t with
      | cons r2 t =>
        cases t with
        | cons r3 t =>
          cases t
          have e1 := RepK.int s' r1
          have e2 := RepK.int s' r2
          have e3 := RepK.int s' r3
          subst e1; subst e2; subst e3
          obtain ⟨⟨h1, h2, h3, h4, rfl⟩, q⟩ := q
          exact ⟨_, _, _, _, rfl, RgC.neg h1 h2 h3 h4, fin _ H' W' ρ' _ le fr s' itrd_ok q⟩
  · exact q.elim
/-- times, of a text too -/
def mulXD : Op2
  | .str s, .int k, Q => (-(2 ^ 63) ≤ k ∧ k < 2 ^ 63 ∧ s.length * k.toNat ≤ 1000000) ∧ Q (.fz, .str (List.replicate k.toNat s).flatten)
  | d, e, Q => mulD d e Q
theorem rep_flat (x : Array Nat) : ∀ (n : Nat) (acc : Array Nat), ((List.replicate n x).foldl (· ++ ·) acc).toList = acc.toList ++ (List.replicate n x.toList).flatten
  | 0, acc => by simp
  | n + 1, acc => by
    rw [List.replicate_succ, List.foldl_cons, rep_flat x n, List.replicate_succ, List.flatten_cons, Array.toList_append, List.append_assoc]
theorem od_mulX : OpR X (binaryOp .Mult) (rD O TB mulXD) := by
  rintro pins s σ' H x y v u Q I rx ry ⟨G, W, ρ, σ, d, e, Qd, S, vx, vy, h, fin⟩
  have base : mulD d e Qd → wpAny (model X.prog X.w) X.A (binaryOp .Mult v u) (EP X pins σ' Q) X.xe s := fun h => od_mul pins s σ' H x y v u Q I rx ry ⟨G, W, ρ, σ, d, e, Qd, S, vx, vy, h, fin⟩
  cases vx with
  | @str z hz =>
    cases vy with
    | @int k =>
      obtain ⟨⟨h1, h2, h3⟩, q⟩ : (-(2 ^ 63) ≤ k ∧ k < 2 ^ 63 ∧ z.length * k.toNat ≤ 1000000) ∧ Qd (.fz, .str (List.replicate k.toNat z).flatten) := h
      obtain ⟨t, rfl⟩ := (show ∃ t, v = Value.str (mkS z) t from rx)
      obtain ⟨t2, rfl⟩ := (show ∃ t, u = Value.int k t from ry)
      have hfl : (List.replicate k.toNat z).flatten.length ≤ sizeLine := by
        rw [List.length_flatten, List.map_replicate, List.sum_replicate_nat, sizeLine_eq]
        rw [Nat.mul_comm] at h3
        omega
      have fin2 : ∀ (S2 : Str) (t3 : Tok) (n2 : Nat), S2 = mkS (List.replicate k.toNat z).flatten → EP X pins σ' Q (.str S2 t3) { s with toks := n2 } := fun S2 t3 n2 e => by
        subst e
        exact ⟨.str (mkS (List.replicate k.toNat z).flatten), H, I.tok n2, ⟨t3, rfl⟩, S.plain fin (.str hfl) q⟩
      have hL : (mkS z).length = z.length := mkS_len z
      refine P.mul_str ?_ (fun a b => ?_) (fun a b => ?_) ?_
      · rw [decide_eq_false (by omega), decide_eq_false (by omega)]; rfl
      · refine Int.not_lt.mpr (Int.le_ediv_of_mul_le (by omega) ?_)
        have : ((mkS z).length : Int) * k = ((z.length * k.toNat : Nat) : Int) := by
          rw [hL, Int.natCast_mul, Int.toNat_of_nonneg (by omega)]
        rw [this]
        omega
      · rw [hL]
        refine decide_eq_false ?_
        rw [sizeLine_eq]; omega
      · by_cases hk : k < 1
        · rw [if_pos hk]
          have e0 : k.toNat = 0 := by omega
          refine ⟨by decide, ?_⟩
          refine fin2 Str.empty _ _ ?_
          rw [e0]; rfl
        · rw [if_neg hk]
          by_cases h1' : (k == 1 || (mkS z).length == 0) = true
          · rw [if_pos h1']
            have e1 : (List.replicate k.toNat z).flatten = z := by
              rw [Bool.or_eq_true] at h1'
              rcases h1' with h | h
              · have : k = 1 := by simpa using h
                subst this
                simp
              · rw [hL] at h
                have : z = [] := List.length_eq_zero_iff.mp (by simpa using h)
                subst this
                simp
            exact fin2 (mkS z) t s.toks (by rw [e1])
          · rw [if_neg h1']
            have hS : (⟨(List.replicate k.toNat (mkS z).cps).foldl (· ++ ·) #[]⟩ : Str) = mkS (List.replicate k.toNat z).flatten := by
              have e2 := rep_flat (mkS z).cps k.toNat #[]
              rw [mkS_toList] at e2
              have e3 : (List.replicate k.toNat (mkS z).cps).foldl (· ++ ·) #[] = (List.replicate k.toNat z).flatten.toArray := by
                apply Array.toList_inj.mp
                rw [e2]
                simp
              rw [e3]
            refine ⟨?_, ?_⟩
            · show (⟨(List.replicate k.toNat (mkS z).cps).foldl (· ++ ·) #[]⟩ : Str).length ≤ sizeLine
              rw [hS, mkS_len]; exact hfl
            · exact fin2 _ _ _ hS
    | _ => exact base h
  | non => exact base h
  | bl => exact base h
  | int => exact base h
  | tup ew e rr => exact base h
  | lst e rr => exact base h
  | dct e rr => exact base h
  | dtt e rr => exact base h
  | obj e => exact base h
end
end TC

/-! x[::-1] of texts and lists. -/
namespace TC
open PySem PySem.Spec PyProof.Rows L2
theorem rev_picked (x : Str) (t : Tok) (h : x.length ≤ sizeLine) : ((Builtin.Str.strSliceIndices none none (-1) x.length).filterMap (x.cps[·]?)).toArray = x.cps.toList.reverse.toArray := by
  have e : Builtin.Str.strSliceIndices none none (-1) x.length = (List.range x.cps.size).reverse := by
    show sliceRange ((x.cps.size : Int) - 1) (-1) (-1) = _
    rw [PySem.W.krv_sliceRange, PySem.W.krv_range]
  rw [e, List.filterMap_reverse, PySem.W.krv_all]
def tRev (K : PySem.W.Frag) (te : TE) : TE := fun σ H Q => te σ H fun x H1 => (∃ a xs, x = .ref a ∧ SqL K H1 a xs ∧ ∀ p, H1 p = none → Q (.ref p) (upd H1 p (.lst xs.reverse))) ∨ (∃ z : Str, x = .str z ∧ z.length ≤ sizeLine ∧ Q (.str ⟨z.cps.toList.reverse.toArray⟩) H1)
section
variable {X : Cx}
theorem pe_rev {e : Expr} {te : TE} {k : Nat} {p1 p2 p3 pos : Pos} (he : PE X e te) : PE X (.Subscript e (.Slice none none (some (.UnaryOp .USub (.Constant (.int 1) k p1) p2)) p3) pos) (tRev X.K te) := by
  refine ⟨fun pins s σ H Q I h => ?_⟩
  refine Subscript_ (thn (he.run pins s σ H _ I h) fun v s1 ⟨x, H1, I1, r1, q1⟩ => ?_)
  have hst : PO X (some (.UnaryOp .USub (.Constant (.int 1) k p1) p2)) (tPart (tUn (rU fun i => .int (-i)) (tC (.int 1)))) := po_some (pe_un un_neg pe_int)
  refine wpAny_Slice (thn (po_none.run pins s1 σ H1 (fun o H2 => o = none ∧ H2 = H1) I1 ⟨rfl, rfl⟩) fun vl s2 ⟨l, H2, I2, pl, el, e2⟩ => ?_)
  subst el e2
  refine thn (po_none.run pins s2 σ H2 (fun o H3 => o = none ∧ H3 = H2) I2 ⟨rfl, rfl⟩) fun vu s3 ⟨u, H3, I3, pu, eu, e3⟩ => ?_
  subst eu e3
  refine thn (hst.run pins s3 σ H3 (fun o H4 => o = some (-1) ∧ H4 = H3) I3 ⟨1, rfl, -1, rfl, rfl, rfl⟩) fun vs s4 ⟨o, H4, I4, ps, eo, e4⟩ => ?_
  subst eo e4
  have I5 : Inv X pins σ H4 { s4 with heap := s4.heap.push { cls := .type "slice", data := .fields #[vl, vu, vs] } } := I4.kept (t' := s4.toks) fun b ob q => Heap.get?_push_of_some _ q
  rcases q1 with ⟨a, xs, ex, hx, q⟩ | ⟨z, ex, hz, q⟩
  · subst ex
    cases r1
    obtain ⟨its, r, ht, hz⟩ := I5.list hx
    have hlen := r.length
    show wpAny (model X.prog X.w) X.A (subscriptTail e (.Slice none none (some (.UnaryOp .USub (.Constant (.int 1) k p1) p2)) p3) (.ref a) (.ref s4.heap.objs.size)) (EP X pins σ Q) X.xe { s4 with heap := s4.heap.push { cls := .type "slice", data := .fields #[vl, vu, vs] } }
    refine tail_any (ops := [.ref a, .ref s4.heap.objs.size]) ht.isList.typeIs (PySem.slot_list_getitem.lookup) ?_ (by with_unfolding_all rfl)
    refine wpAny_getItem_list_slice ht.isList (Heap.IsSliceOf.new _ vl vu vs) pl pu ps (by decide) ?_ (by rw [List.size_toArray]; omega)
    rw [PySem.W.krv_pick]
    refine ⟨.ref _, _, I5.laid (t' := s4.toks) (o := .lst xs.reverse) (fun b ob q => Heap.get?_push_of_some _ q) (Nat.le_refl _) ?_, rfl, q _ (I5.hok.fresh (Nat.le_refl _))⟩
    exact ⟨by rw [List.length_reverse]; exact hz, _, 0, r.reverse, Heap.get?_push_size _ rfl⟩
  · subst ex
    obtain ⟨t, rfl⟩ := r1
    obtain ⟨os, hos, hcs, hds⟩ := Heap.IsSliceOf.new s4.heap vl vu vs
    obtain ⟨l, rfl, e1⟩ := IsPart.raw pl
    obtain ⟨u, rfl, e2⟩ := IsPart.raw pu
    obtain ⟨st, rfl, e3⟩ := IsPart.raw ps
    cases l with
    | some _ => cases e1
    | none =>
    cases u with
    | some _ => cases e2
    | none =>
    cases st with
    | none => cases e3
    | some st =>
    obtain ⟨i, ti⟩ := st
    obtain rfl : i = -1 := by injection e3
    show wpAny (model X.prog X.w) X.A (subscriptTail e (.Slice none none (some (.UnaryOp .USub (.Constant (.int 1) k p1) p2)) p3) (.str z t) (.ref s4.heap.objs.size)) (EP X pins σ Q) X.xe { s4 with heap := s4.heap.push { cls := .type "slice", data := .fields #[partValue none, partValue none, partValue (some (-1, ti))] } }
    refine tail_any (ops := [.ref s4.heap.objs.size, .str z t]) (typeIs_str _ _ _) F.slot_str_getitem.lookup ?_ (by with_unfolding_all rfl)
    refine wpAny_getItem_str_slice (l := none) (u := none) (st := some (-1, ti)) ⟨os, hos, hcs, hds⟩ rfl ?_
    have e := rev_picked z t hz
    show Made.post (if ((-1 : Int) == 1 && (Builtin.Str.strSliceIndices none none (-1) z.length).length == z.length) = true then Made.val (.str z t)
      else Made.str ⟨((Builtin.Str.strSliceIndices none none (-1) z.length).filterMap (z.cps[·]?)).toArray⟩) (EP X pins σ Q) _
    rw [if_neg (by rw [show ((-1 : Int) == 1) = false by decide, Bool.false_and]; decide), e]
    refine ⟨?_, .str _, H4, I5.tok _, ⟨_, rfl⟩, q⟩
    show z.cps.toList.reverse.toArray.size ≤ sizeLine
    rw [List.size_toArray, List.length_reverse, Array.length_toList]; exact hz
end
def revD (d : D) (Q : Kd × D → Prop) : Prop := match d with
  | .lst l => Q (.fr, .lst l.reverse)
  | .str s => Q (.fz, .str s.reverse)
  | _ => False
def vRev (ev : EvT) : EvT := fun ρ Q => ev ρ fun r ρ1 => revD r.2 fun z => Q z ρ1
section
variable {O : ObjI} {TB : List Addr} {X : Cx} {e : Expr} {ev : EvT}
theorem RepL.rev {W : Wd} : ∀ {l : List D} {vs : List V}, RepL O W l vs → RepL O W l.reverse vs.reverse
  | _, _, .nil => .nil
  | _, _, .cons r t => by rw [List.reverse_cons, List.reverse_cons]; exact (RepL.rev t).append (.cons r .nil)
theorem de_rev {k : Nat} {p1 p2 p3 pos : Pos} (he : DE O TB X e ev) : DE O TB X (.Subscript e (.Slice none none (some (.UnaryOp .USub (.Constant (.int 1) k p1) p2)) p3) pos) (vRev ev) := by
  refine (pe_rev he).imp ?_
  rintro σ H Q ⟨G, W, ρ, Qd, s, h, fin⟩
  refine ⟨G, W, ρ, _, s, h, fun v H1 W1 ρ1 k d le fr s1 r1 q1 => ?_⟩
  have vw := s1.view r1
  obtain ⟨k, d⟩ := (⟨k, d⟩ : Kd × D)
  cases vw with
  | @lst l a vs e rr =>
    refine .inl ⟨a, vs, rfl, SqL.of e, fun p hp => ?_⟩
    exact fin _ _ W1 ρ1 .fr _ le fr (s1.new hp) ⟨p, _, rfl, s1.w.none_of hp, upd_same, .lst (RepL.rev rr), (s1.newOwn hp).1, (s1.newOwn hp).2⟩ q1
  | @str z hz =>
    refine .inr ⟨mkS z, rfl, by rw [mkS_len]; exact hz, ?_⟩
    have e : (⟨(mkS z).cps.toList.reverse.toArray⟩ : Str) = mkS z.reverse := by rw [mkS_toList]
    rw [e]
    exact fin _ _ W1 ρ1 .fz _ le fr s1 (.str (by rw [List.length_reverse]; exact hz)) q1
  | _ => exact (show False from q1).elim
end
end TC

/-! set(list), sorted(set(list)): texts, whole numbers. -/
namespace TC
open PySem PySem.Spec PyProof.Rows L2
open PySem.Froz (TxOk SD sObj addTx tailTx sing add_x add_ok tail_ok is_str)
section
variable {P : Program} {w : World} {A : Around} {E : Value → Shared → Prop} {s : Shared}
theorem set_fillG {R : Result → Shared → Prop} {I S : Addr} {n : Nat} {fp : List Addr} {Pv : Nat → Value → Prop} {St : Nat → Heap → Prop} (W : Walks P w A.in1 I fp [I] n Pv St) (hne : S ∉ fp) (hI : S ≠ I) (SI : Nat → Heap → Prop)
    (keep : ∀ i h h', SI i h → (∀ o, h.get? S = some o → h'.get? S = some o) → SI i h')
    (step : ∀ i v (s1 : Shared) (E0 : Value → Shared → Prop), i < n → Pv i v → SI i s1.heap → wpAny (model P w) A.in1 (setAdd S v) (fun _ s2 => ∃ h2 tk2, s2 = { s1 with heap := h2, toks := tk2 } ∧ SI (i + 1) h2 ∧ ∀ b o, b ≠ S → s1.heap.get? b = some o → h2.get? b = some o) E0 s1) :
    ∀ (k i : Nat) (s : Shared), n - i = k → i ≤ n → St i s.heap → SI i s.heap →
    (∀ (h' : Heap) (tk : Nat), SI n h' → (∀ b o, b ≠ S → b ≠ I → s.heap.get? b = some o → h'.get? b = some o) → R (.ok (.ret .none)) { s with heap := h', toks := tk }) →
      codeAny (model P w) A (.builtin "set.update.loop" ⟨[.ref S, .ref I], []⟩) R s := by
  intro k
  induction k with
  | zero =>
    intro i s hk hi st si hR
    obtain rfl : i = n := by omega
    refine codeAny_builtin PyProof.Rows.F.entry_set_update_loop ?_; rw [Around.under_plainId PyProof.Rows.F.plain_set_update_loop _]
    show wpAny _ A.in1 (pyNext (.ref I) >>= _) _ _ s; refine wpAny_bind (W.done s _ _ st fun h' tk kp => ?_)
    show wpAny _ A.in1 (ret Value.none) _ _ _; refine wpAny_pure ?_
    exact hR h' tk (keep _ _ _ si fun o e => kp S o (by simpa using hI) e) fun b o _ hbI e => kp b o (by simpa using hbI) e
  | succ k ih =>
    intro i s hk hi st si hR
    have hlt : i < n := by omega
    refine codeAny_builtin PyProof.Rows.F.entry_set_update_loop ?_; rw [Around.under_plainId PyProof.Rows.F.plain_set_update_loop _]
    show wpAny _ A.in1 (pyNext (.ref I) >>= _) _ _ s; refine wpAny_bind (W.item i s _ _ hlt st fun v h1 tk1 hv st1 kp => ?_)
    have si1 : SI i h1 := keep _ _ _ si fun o e => kp S o (by simpa using hI) e
    show wpAny _ A.in1 (holding [v] (setAdd S v) >>= _) _ _ _
    refine wpAny_bind (wpAny_holding (thn (step i v { s with heap := h1, toks := tk1 } _ hlt hv si1) fun _ s2 ⟨h2, tk2, e2, si2, k2⟩ => ?_))
    subst e2
    refine wpAny_pure ⟨plainId_quiet PyProof.Rows.F.plain_set_update_loop _, ih (i + 1) { s with heap := h2, toks := tk2 } (by omega) hlt (W.frame _ _ _ st1 fun b hb o e => k2 b o (fun z => hne (z ▸ hb)) e) si2 fun h' tk' a1 a2 => ?_⟩
    exact hR h' tk' a1 fun b o hbS hbI e => a2 b o hbS hbI (k2 b o hbS (kp b o (by simpa using hbI) e))
abbrev freshSet (w : World) : SD := (#[], 0, .fresh 0 0 (!w.params.followText "set-order"))
theorem call_setList {l : Addr} {items : Array Value} {SI : Nat → Heap → Prop} {Q : Value → Shared → Prop} (hh : A.handled = none) (hl : s.heap.IsList l items)
    (start : ∀ h, h.get? s.heap.objs.size = some (sObj "set" (freshSet w)) → SI 0 h)
    (keep : ∀ i h h', SI i h → (∀ o, h.get? s.heap.objs.size = some o → h'.get? s.heap.objs.size = some o) → SI i h')
    (step : ∀ (A : Around) i v (s1 : Shared) (E0 : Value → Shared → Prop), items[i]? = some v → SI i s1.heap → wpAny (model P w) A (setAdd s.heap.objs.size v) (fun _ s2 => ∃ h2 tk2, s2 = { s1 with heap := h2, toks := tk2 } ∧ SI (i + 1) h2 ∧ ∀ b o, b ≠ s.heap.objs.size → s1.heap.get? b = some o → h2.get? b = some o) E0 s1)
    (h : ∀ (h' : Heap) (tk : Nat), SI items.size h' → (∀ b o, s.heap.get? b = some o → h'.get? b = some o) → Q (.ref s.heap.objs.size) { s with heap := h', toks := tk }) :
    wpAny (model P w) A (call (.type "set") [.ref l]) Q E s := by
  obtain ⟨c, tl, hmro⟩ := PySem.F.called_set.mro
  have hmade := PySem.F.called_set.made; have hsub := PySem.F.called_set.sub
  refine wpAny_call (codeAny_of_tree (show wpAny _ _ (callAny (.type "set") _) _ _ _ from wpAny_pure ⟨Code.quiet_builtin _ (by decide +kernel), codeAny_builtin PySem.F.entry_type_call ?_⟩))
  rw [Around.under_plain (weight_type_call_type "set" [.ref l] []) rfl]
  have h1 := PySem.F.called_set.notType; have h2 := PySem.F.called_set.canCreate; have hct := PySem.F.typeCall_set_1 (.ref l)
  repeat (any_goals (first | assumption | wp_step))
  refine codeAny_mono (set_newOf (.ref l) (E := E) (Q₁ := fun obj s₁ => obj = .ref s.heap.objs.size ∧ s₁ = { s with heap := s.heap.push (sObj "set" (freshSet w)) }) ⟨rfl, rfl⟩) fun r s₁ hr => ?_
  cases r with
  | error e => exact hr
  | ok fl =>
    cases fl with
    | ret obj =>
      obtain ⟨rfl, rfl⟩ := hr
      have hS : (s.heap.push (sObj "set" (freshSet w))).get? s.heap.objs.size = some (sObj "set" (freshSet w)) := Heap.get?_push_size _ rfl
      have hT : Shared.TypeIs { s with heap := s.heap.push (sObj "set" (freshSet w)) } (.ref s.heap.objs.size) "set" := ⟨_, hS, rfl⟩
      have hli := PySem.F.called_set.init.lookup; have hbi := PySem.F.called_set.init.bind (.ref s.heap.objs.size)
      repeat (any_goals (first | assumption | wp_step))
      refine codeAny_mono (codeAny_call_builtin (R := wants (fun r s₂ => r = .none ∧ Q (.ref s.heap.objs.size) s₂) E) PySem.F.called_set.init.plain PySem.F.entry_set_init (check_set_init_1 hT ?_)) fun r₂ s₂ hr₂ => ?_
      · obtain ⟨ol, hol, hcl, nl, hdl⟩ := hl
        obtain ⟨ocls, odict, odata, oslots⟩ := ol
        simp only at hcl hdl
        subst hcl; subst hdl
        have hol' : (s.heap.push (sObj "set" (freshSet w))).get? l = some { cls := .type "list", dict := odict, data := .seq items nl, slots := oslots } := Heap.get?_push_of_some _ hol
        have hsls := PySem.F.sub_list_set
        have hslf := PySem.F.sub_list_frozenset
        have hne : (Value.type "list" == Value.type "dict") = false := by decide
        have hl1 : (s.heap.push (sObj "set" (freshSet w))).IsList l items := ⟨_, hol', rfl, nl, rfl⟩
        unfold Builtin.«set.__init__» noKeywords Builtin.Frozenset.updateFrom; generalize hPI : pyIter = PI
        wp_walk
        subst hPI
        refine wpAny_pyIter_list hl1 ?_
        refine wpAny_bind (wpAny_runValue ?_)
        have hlS : l < s.heap.objs.size := Heap.lt_size hol
        have hh3 : A.in1.in1.in1.handled = none := by simp [hh]
        have hsz1 : (s.heap.push (sObj "set" (freshSet w))).objs.size = s.heap.objs.size + 1 := Heap.size_push _ _
        have hneI : l ≠ (s.heap.push (sObj "set" (freshSet w))).objs.size := by
          rw [hsz1]; exact Nat.ne_of_lt (Nat.lt_succ_of_lt hlS)
        have hSI : s.heap.objs.size ≠ (s.heap.push (sObj "set" (freshSet w))).objs.size := by rw [hsz1]; exact Nat.ne_of_lt (Nat.lt_succ_self _)
        have hSf : s.heap.objs.size ∉ [(s.heap.push (sObj "set" (freshSet w))).objs.size, l] := by
          simp only [List.mem_cons, List.mem_singleton, List.not_mem_nil, or_false, not_or]
          exact ⟨hSI, Nat.ne_of_gt hlS⟩
        refine set_fillG (S := s.heap.objs.size) (Walks.list hh3 _ l hneI items) hSf hSI SI keep (fun i v s1 E0 _ hv si => step _ i v s1 E0 hv si) (items.size - 0) 0 _ (by omega) (Nat.zero_le _) ⟨⟨_, Heap.get?_push_size _ rfl, rfl, rfl⟩, hl1.push _⟩ (start _ (Heap.get?_push_of_some _ hS)) fun h' tk a1 a2 => ?_
        show wpAny _ _ _ _ _ _; refine wpAny_pure ?_
        show wpAny _ _ (ret Value.none) _ _ _; refine wpAny_pure ⟨rfl, h h' tk a1 fun b o e => ?_⟩
        have hb := Heap.lt_size e
        exact a2 b o (Nat.ne_of_lt hb) (by rw [hsz1]; exact Nat.ne_of_lt (Nat.lt_succ_of_lt hb)) (Heap.get?_push_of_some _ (Heap.get?_push_of_some _ e))
      · cases r₂ with
        | error e => exact hr₂
        | ok fl₂ =>
          cases fl₂ with
          | ret r =>
            obtain ⟨rfl, hq⟩ := hr₂
            repeat (any_goals (first | assumption | wp_step))
          | _ => exact hr₂.elim
    | _ => exact hr.elim
end
end TC

/-! sorted(set(x)), x a text, a list of texts, a list of whole numbers. -/
namespace TC
open PySem PySem.Spec PyProof.Rows L2
open PySem.Froz (TxOk SD sObj addTx tailTx sing add_x add_ok tail_ok is_str)
/-- the set of the texts l at a -/
def SetXS (P : Program) (w : World) (a : Addr) (l : List Str) : HO := .ext fun h => ∃ D, h.get? a = some (sObj "set" D) ∧ TxR P w D l
theorem setXS_new {P : Program} {w : World} {H : Hp} {h : Heap} {a : Addr} {l : List Str} {D : SD} (ho : h.get? a = some (sObj "set" D)) (F : TxR P w D l) : ObjOk P w H h a (SetXS P w a l) :=
  ⟨⟨D, ho, F⟩, ⟨_, ho⟩, fun _ _ ⟨D, ho, F⟩ k => ⟨D, k _ ho, F⟩⟩
section
variable {P : Program} {w : World} {A : Around} {E : Value → Shared → Prop} {s : Shared}
theorem add_text {S : Addr} {D : SD} {l : List Str} {y : Str} {u : Tok} (ho : s.heap.get? S = some (sObj "set" D)) (F : TxR P w D l) (hn : l.Nodup) (hb : l.length + 2 < scanBound) (E0 : Value → Shared → Prop) :
    wpAny (model P w) A (setAdd S (.str y u)) (fun _ s2 => ∃ (h2 : Heap) (tk2 : Nat), s2 = { s with heap := h2, toks := tk2 } ∧ (∃ (D1 : SD) (l1 : List Str), h2.get? S = some (sObj "set" D1) ∧ TxR P w D1 l1 ∧ l1.Nodup ∧ l1.length ≤ l.length + 1 ∧ ∀ d, d ∈ l1 ↔ d ∈ l ∨ d = y) ∧ ∀ b o, b ≠ S → s.heap.get? b = some o → h2.get? b = some o) E0 s := by
  unfold setAdd
  refine wpAny_holding (wpAny_bind ((strKind P w).pyHash (k := y) (is_str _ _) ?_))
  by_cases hcl : y ∈ l
  · refine set_again ho F.ok hcl (by omega) ?_
    exact ⟨s.heap, _, rfl, ⟨D, l, ho, F, hn, by omega, fun d => ⟨.inl, fun z => z.elim id fun e => e ▸ hcl⟩⟩, fun _ _ _ e => e⟩
  · refine add_x ho F.ok hcl (by omega) ?_
    refine ⟨_, _, rfl, ⟨_, y :: l, PySem.Froz.get_upd _ ho rfl, F.add u, List.nodup_cons.mpr ⟨hcl, hn⟩, Nat.le_refl _, fun d => by rw [List.mem_cons]; exact or_comm⟩, fun b o hbS e => ?_⟩
    exact PySem.Heap.get?_update_of_ne _ (Ne.symm hbS) e
theorem add_int {S : Addr} {Sf : Int → Bool} {n : Nat} {y : Int} {u : Tok} (R : SetR w s.heap S Sf n) (hb : n + 1 < scanBound) (E0 : Value → Shared → Prop) :
    wpAny (model P w) A (setAdd S (.int y u)) (fun _ s2 => ∃ (h2 : Heap) (tk2 : Nat), s2 = { s with heap := h2, toks := tk2 } ∧ SetR w h2 S (fun j => Sf j || decide (j = y)) (if Sf y = true then n else n + 1) ∧ ∀ b o, b ≠ S → s.heap.get? b = some o → h2.get? b = some o) E0 s := by
  unfold setAdd
  refine wpAny_holding (wpAny_bind ((intKind P w).pyHash (intKind_is P w y u) ?_))
  refine setR_add_hashed (s := { s with toks := s.toks + 1 }) R hb fun h' sb r => ?_
  exact ⟨h', _, rfl, r, fun b o hb e => (sb.2 b hb).trans e⟩
end
theorem take_succ_mem {α : Type} {l : List α} {i : Nat} {x y : α} (h : l[i]? = some x) : y ∈ l.take (i + 1) ↔ y ∈ l.take i ∨ y = x := by
  rw [List.take_succ, h]
  simp
section
variable {X : Cx}
def rSetLs (P : Program) (w : World) : List V → Hp → VK → Prop := fun xs H Q => ∃ (a : Addr) (ys : List Str), xs = [.ref a] ∧ H a = some (.lst (ys.map V.str)) ∧ ys.length + 2 < scanBound ∧ ∀ p l, H p = none → l.Nodup → (∀ c, c ∈ l ↔ c ∈ ys) → Q (.ref p) (upd H p (SetXS P w p l))
theorem cr_setLs (hcalm : X.calm = true) : CallR X (.type "set") (rSetLs X.prog X.w) := by
  intro pins s σ H xs us Q I r h
  obtain ⟨a, ys, rfl, hH, hz, q⟩ := h
  obtain ⟨u, rfl, rx⟩ := vals1 r
  obtain rfl : u = .ref a := rx
  obtain ⟨its, rv, pl, hsz⟩ := I.list (SqL.of hH)
  have hlen : its.length = ys.length := by rw [← rv.length, List.length_map]
  refine call_setList (SI := fun i h => ∃ (D : SD) (l : List Str), h.get? s.heap.objs.size = some (sObj "set" D) ∧ TxR X.prog X.w D l ∧ l.Nodup ∧ l.length ≤ i ∧ ∀ y, y ∈ l ↔ y ∈ ys.take i) (I.ok.hd hcalm) pl.isList (fun h e => ⟨_, [], e, TxR.nil X.w, List.nodup_nil, Nat.le_refl _, fun y => by simp⟩)
    (fun i h h' ⟨D, l, e, r⟩ k => ⟨D, l, k _ e, r⟩) (fun A i v s1 E0 hv ⟨D, l, ho, F, hn, hl, hm⟩ => ?_) fun h' tk ⟨D, l, ho, F, hn, hl, hm⟩ kp => ?_
  · have hv : its[i]? = some v := by simpa using hv
    have hil : i < ys.length := by rw [← hlen]; exact (List.getElem?_eq_some_iff.mp hv).1
    have hy := List.getElem?_eq_getElem hil
    obtain ⟨v', hv', rw'⟩ := rv.get (i := i) (x := .str ys[i]) (by rw [List.getElem?_map, hy]; rfl)
    rw [hv] at hv'
    obtain rfl := Option.some.inj hv'
    obtain ⟨t, rfl⟩ := rw'
    refine thn (add_text ho F hn (by omega) E0) ?_
    rintro _ s2 ⟨h2, tk2, e2, ⟨D1, l1, b1, b2, b3, b4, b5⟩, k2⟩
    exact ⟨h2, tk2, e2, ⟨D1, l1, b1, b2, b3, by omega, fun d => by rw [b5 d, hm d, take_succ_mem hy]⟩, k2⟩
  · have hfull : ys.take its.toArray.size = ys := List.take_of_length_le (by rw [List.size_toArray, hlen]; exact Nat.le_refl _)
    rw [hfull] at hm
    exact ⟨.ref _, upd H s.heap.objs.size (SetXS X.prog X.w s.heap.objs.size l), I.laid (t' := tk) kp (Nat.le_refl _) (setXS_new ho F), rfl, q _ l (I.hok.fresh (Nat.le_refl _)) hn hm⟩
def rSetLi (w : World) : List V → Hp → VK → Prop := fun xs H Q => ∃ (a : Addr) (ys : List Int), xs = [.ref a] ∧ H a = some (.lst (ys.map V.int)) ∧ ys.length + 2 < scanBound ∧ ∀ p Sf n, H p = none → (∀ c, Sf c = true ↔ c ∈ ys) → (∃ l : List Int, l.Nodup ∧ l.length = n ∧ ∀ c, c ∈ l ↔ c ∈ ys) → Q (.ref p) (upd H p (SetO w p Sf n))
theorem cr_setLi (hcalm : X.calm = true) : CallR X (.type "set") (rSetLi X.w) := by
  intro pins s σ H xs us Q I r h
  obtain ⟨a, ys, rfl, hH, hz, q⟩ := h
  obtain ⟨u, rfl, rx⟩ := vals1 r
  obtain rfl : u = .ref a := rx
  obtain ⟨its, rv, pl, hsz⟩ := I.list (SqL.of hH)
  have hlen : its.length = ys.length := by rw [← rv.length, List.length_map]
  refine call_setList (SI := fun i h => ∃ (Sf : Int → Bool) (n : Nat), SetR X.w h s.heap.objs.size Sf n ∧ n ≤ i ∧ ∀ y, Sf y = true ↔ y ∈ ys.take i) (I.ok.hd hcalm) pl.isList (fun h e => ⟨fun _ => false, 0, ?_, Nat.le_refl _, fun y => by simp⟩)
    (fun i h h' ⟨Sf, n, R, r⟩ k => ⟨Sf, n, R.at k, r⟩) (fun A i v s1 E0 hv ⟨Sf, n, R, hl, hm⟩ => ?_) fun h' tk ⟨Sf, n, R, hl, hm⟩ kp => ?_
  · exact ⟨_, #[], 0, _, e, ⟨rfl, rfl, rfl⟩, rfl, (fun e he => by simp at he), (by simp), (fun k => by simp), (by decide), (by rfl), rfl, List.Pairwise.nil, by
      show _ ∨ (!X.w.params.followText "set-order") = true
      cases X.w.params.followText "set-order"
      · exact .inr rfl
      · exact .inl rfl⟩
  · have hv : its[i]? = some v := by simpa using hv
    have hil : i < ys.length := by rw [← hlen]; exact (List.getElem?_eq_some_iff.mp hv).1
    have hy := List.getElem?_eq_getElem hil
    obtain ⟨v', hv', rw'⟩ := rv.get (i := i) (x := .int ys[i]) (by rw [List.getElem?_map, hy]; rfl)
    rw [hv] at hv'
    obtain rfl := Option.some.inj hv'
    obtain ⟨t, rfl⟩ := rw'
    refine thn (add_int R (by omega) E0) ?_
    rintro _ s2 ⟨h2, tk2, e2, R2, k2⟩
    refine ⟨h2, tk2, e2, ⟨_, _, R2, by split <;> omega, fun d => ?_⟩, k2⟩
    rw [Bool.or_eq_true, decide_eq_true_eq, hm d, take_succ_mem hy]
  · have hfull : ys.take its.toArray.size = ys := List.take_of_length_le (by rw [List.size_toArray, hlen]; exact Nat.le_refl _)
    rw [hfull] at hm
    refine ⟨.ref _, upd H s.heap.objs.size (SetO X.w s.heap.objs.size Sf n), I.laid (t' := tk) kp (Nat.le_refl _) (setO_new R), rfl, q _ Sf n (I.hok.fresh (Nat.le_refl _)) hm ?_⟩
    obtain ⟨o, es, ep, t, ho, hex, hd, g, nd, hmm, hb, hf, hn, _⟩ := R
    exact ⟨es.toList.map keyOf, nd, by rw [List.length_map, Array.length_toList]; exact hn, fun c => (hmm c).symm.trans (hm c)⟩
def rSortXs (P : Program) (w : World) : List V → Hp → VK → Prop := fun xs H Q => ∃ (a : Addr) (l : List Str), xs = [.ref a] ∧ H a = some (SetXS P w a l) ∧ l.Nodup ∧ l.length < scanBound ∧ ∀ p, H p = none → Q (.ref p) (upd H p (.lst (((sortT (l.map fun y => y.cps.toList)).map mkS).map V.str)))
theorem strs_allG : ∀ {vs : List Value}, (∀ v ∈ vs, ∃ c t, v = .str c t) → ∃ ss : List Str, StrsAre vs ss ∧ ∀ c, (∃ t, Value.str c t ∈ vs) ↔ c ∈ ss
  | [], _ => ⟨[], .nil, fun c => ⟨fun ⟨t, h⟩ => (by cases h), fun h => (by cases h)⟩⟩
  | v :: vs, h => by
    obtain ⟨c, t, rfl⟩ := h v List.mem_cons_self
    obtain ⟨ss, h1, h2⟩ := strs_allG (vs := vs) fun v hv => h v (List.mem_cons_of_mem _ hv)
    refine ⟨c :: ss, .cons _ t h1, fun d => ?_⟩
    constructor
    · rintro ⟨t', ht⟩
      rcases List.mem_cons.mp ht with e | ht
      · injection e with e1 _
        rw [e1]; exact List.mem_cons_self
      · exact List.mem_cons_of_mem _ ((h2 d).mp ⟨t', ht⟩)
    · intro hd
      rcases List.mem_cons.mp hd with rfl | hd
      · exact ⟨t, List.mem_cons_self⟩
      · obtain ⟨t', ht⟩ := (h2 d).mpr hd
        exact ⟨t', List.mem_cons_of_mem _ ht⟩
theorem mkS_cps (y : Str) : mkS y.cps.toList = y := by simp [mkS]
theorem cr_sortXs (hcalm : X.calm = true) : CallR X (.builtin "sorted") (rSortXs X.prog X.w) := by
  intro pins s σ H xs us Q I r h
  obtain ⟨a, l, rfl, ha, hn, hl, q⟩ := h
  obtain ⟨u, rfl, rx⟩ := vals1 r
  obtain rfl : u = .ref a := rx
  obtain ⟨D, ho, F⟩ := (I.hok a _ ha).1
  obtain ⟨es, ep, t⟩ := D
  have hsz : es.size = l.length := F.ok.sz
  have hsc : es.size < scanBound := by rw [hsz]; exact hl
  refine Calls.call_function_entry PyProof.Rows.kind_sorted PyProof.Rows.plain_sorted PyProof.Rows.entry_sorted (PyProof.Rows.args_sorted1 _) ?_
  unfold Builtin.«sorted»; refine wpAny_bind (m := checkCount "sorted" 1 1 _) (wpAny_pure ?_)
  refine wpAny_bind (collect_set (A := X.A.in1) (I.ok.hd hcalm) ⟨_, ho, rfl, rfl⟩ F.ok.fit hsc F.ris F.led fun s1 vs k1 hz g1 o1 pm => ?_)
  have hel : ∀ v ∈ vs, ∃ c t, v = .str c t := fun v hv => by
    obtain ⟨e, he, rfl⟩ := List.mem_map.mp (pm.mem_iff.mp hv)
    obtain ⟨⟨k, hk, _⟩, _⟩ := F.ok.el e he
    obtain ⟨u, e2⟩ := Value.isStrOf_shape hk
    exact ⟨k, u, e2⟩
  obtain ⟨ss, hS, hm⟩ := strs_allG hel
  have hvl : vs.length = l.length := by rw [pm.length_eq, List.length_map, Array.length_toList]; exact hsz
  have hsl : ss.length = l.length := by rw [← hvl]; exact (StrsAre.len_eq hS).symm
  have hp : ss.Perm l := (nodup_perm hn (fun c hc => by
    obtain ⟨e, he, hk⟩ := (F.ok.mem c).mp hc
    obtain ⟨u, e2⟩ := Value.isStrOf_shape hk
    exact (hm c).mp ⟨u, by rw [← e2]; exact pm.mem_iff.mpr (List.mem_map.mpr ⟨e, he, rfl⟩)⟩) (by omega)).symm
  have hL : vs.length ≤ sizeLine := by rw [hvl]; exact fits_of_scanBound hl
  refine wpAny_bind (wpAny_newList ?_ hL)
  have hoL : (s1.heap.push (seqObj "list" vs.toArray 0)).get? s1.heap.objs.size = some (seqObj "list" vs.toArray 0) := Heap.get?_push_size _ rfl
  refine wpAny_bind (wpAny_holding (wpAny_call_entry PyProof.Rows.slot_list_sort ⟨_, hoL, rfl⟩ PyProof.Rows.entry_list_sort (list_sort_treeKAny strKind_oneLt hoL hS.keysOf (fun v₁ v₂ rest e => keyKind_strs (by rw [← e]; exact hS)) hL fun st' hp2 hs => ⟨_, rfl, ?_⟩) (PyProof.Rows.args_list_sort _)))
  obtain ⟨ys, y1, y2, y3⟩ := sorted_out_str hS hp2 hs
  obtain ⟨e', he'⟩ := PyProof.Rows.sortedHeap_at (vs := vs) (out := (arrOf st').map (·.2)) hoL
  have ess : ss = (ss.map fun y => y.cps.toList).map mkS := by
    rw [List.map_map]
    conv => lhs; rw [← List.map_id ss]
    exact List.map_congr_left fun y _ => (mkS_cps y).symm
  have ey : ys = (sortT (l.map fun y => y.cps.toList)).map mkS := by
    rw [ess] at y2
    rw [sortT_of y2 y3]
    congr 1
    exact sorted_unique ((sortT_perm _).trans ((hp.map _).trans (sortT_perm _).symm)) (sortT_sorted _) (sortT_sorted _)
  subst ey
  have hlen : (((sortT (l.map fun y => y.cps.toList)).map mkS).map V.str).length ≤ sizeLine := by
    rw [List.length_map, List.length_map, (sortT_perm _).length_eq, List.length_map]; exact fits_of_scanBound hl
  have hp1 : s.heap.objs.size ≤ s1.heap.objs.size := hz
  have hn2 : H s1.heap.objs.size = none := I.hok.fresh hp1
  have kp : ∀ b u, s.heap.get? b = some u → (PyProof.Rows.sortedHeap (s1.heap.push (seqObj "list" vs.toArray 0)) s1.heap.objs.size vs ((arrOf st').map (·.2))).get? b = some u := fun b u e => by
    have hb := Heap.lt_size (k1 b u e)
    rw [PyProof.Rows.sortedHeap_old (Nat.ne_of_lt hb) (by rw [size_push']; exact Nat.lt_succ_of_lt hb)]
    exact Heap.get?_push_of_some _ (k1 b u e)
  refine wpAny_pure ⟨_, rfl, .ref s1.heap.objs.size, upd H s1.heap.objs.size (.lst (((sortT (l.map fun y => y.cps.toList)).map mkS).map V.str)), ?_, rfl, q _ hn2⟩
  exact I.call' (ch := []) o1 (Un.laid kp hp1 hn2) (I.hok.laid kp hp1 ⟨hlen, ((arrOf st').map (·.2)).toList, e', vals_of_strs y1, by rw [Array.toArray_toList]; exact he'⟩) (by show AllBare s1.gens; rw [g1]; exact I.bare) (fun _ z => nomatch z)
end
end TC

/-! sorted(set(x)) as a whole; sorted(dict); y = x.pop(0). -/
namespace TC
open PySem PySem.Spec PyProof.Rows L2
theorem sortT_lt {l : List (List Nat)} (h : l.Nodup) : (sortT l).Pairwise (· < ·) := by
  have h1 := sortT_sorted l
  have h2 : (sortT l).Nodup := (sortT_perm l).nodup_iff.mpr h
  refine (h1.and h2).imp ?_
  rintro a b ⟨h3, h4⟩
  rcases List.le_iff_lt_or_eq.mp h3 with h | h
  · exact h
  · exact absurd h h4
def sortSetR : D → (Kd × D → Prop) → Prop
  | .str s, Q => s.length < 1000 ∧ Q (.fr, .lst ((sortT ((ddp s).map fun c => [c])).map D.str))
  | .lst l, Q => (∃ ss : List (List Nat), l = ss.map D.str ∧ ss.length < 4000 ∧ ∀ zs : List (List Nat), zs.Pairwise (· < ·) → (∀ y, y ∈ zs ↔ y ∈ ss) → Q (.fr, .lst (zs.map D.str))) ∨
      (∃ ns : List Int, l = ns.map D.int ∧ ns.length < 4000 ∧ (∀ k ∈ ns, 0 ≤ k ∧ k < 63) ∧ ∀ zs : List Int, zs.Pairwise (· < ·) → (∀ y, y ∈ zs ↔ y ∈ ns) → Q (.fr, .lst (zs.map D.int)))
  | _, _ => False
def vSortSetX (ev : EvT) : EvT := fun ρ Q => ev ρ fun r ρ1 => sortSetR r.2 fun z => Q z ρ1
def sortSDx : Op1
  | .dct l, Q => ∃ ss : List (List Nat), (l.map fun p => p.1) = ss.map (fun y => (Sum.inr (mkS y) : Key)) ∧ ss.length < 100000 ∧ (∀ s ∈ ss, s.length ≤ sizeLine) ∧ ∀ zs : List (List Nat), zs.Perm ss → zs.Pairwise (· ≤ ·) → Q (.fr, .lst (zs.map D.str))
  | d, Q => sortSD d Q
section
variable {O : ObjI} {TB : List Addr} {X : Cx}
def rSetAny (P : Program) (w : World) : List V → Hp → VK → Prop := fun xs H Q => rSetTx P w xs H Q ∨ rSetLs P w xs H Q ∨ rSetLi w xs H Q
theorem cr_setAny (hcalm : X.calm = true) : CallR X (.type "set") (rSetAny X.prog X.w) := by
  rintro pins s σ H xs us Q I r (h | h | h)
  · exact cr_setTx hcalm pins s σ H xs us Q I r h
  · exact cr_setLs hcalm pins s σ H xs us Q I r h
  · exact cr_setLi hcalm pins s σ H xs us Q I r h
def rSortAny (P : Program) (w : World) : List V → Hp → VK → Prop := fun xs H Q => rSortTx P w xs H Q ∨ rSortXs P w xs H Q ∨ rSortedSet w xs H Q
theorem cr_sortAny (hcalm : X.calm = true) : CallR X (.builtin "sorted") (rSortAny X.prog X.w) := by
  rintro pins s σ H xs us Q I r (h | h | h)
  · exact cr_sortTx hcalm pins s σ H xs us Q I r h
  · exact cr_sortXs hcalm pins s σ H xs us Q I r h
  · exact cr_sortedSet hcalm pins s σ H xs us Q I r h
theorem de_sortSetX {e : Expr} {ev : EvT} {p p2 pos pos2 : Pos} (hcalm : X.calm = true) (hg : Gl X "sorted") (hm : X.mg "sorted" = none) (hv : bootBuiltins "sorted" = some (.builtin "sorted")) (hg2 : Gl X "set") (hm2 : X.mg "set" = none) (hv2 : bootBuiltins "set" = some (.type "set")) (he : DE O TB X e ev)
    (hs1 : starEach [.Call (.Name "set" p2) [e] [] pos2] X.env = [(false, eval (.Call (.Name "set" p2) [e] [] pos2) X.env)] := by rfl) (hs2 : starEach [e] X.env = [(false, eval e X.env)] := by rfl) :
    DE O TB X (.Call (.Name "sorted" p) [.Call (.Name "set" p2) [e] [] pos2] [] pos) (vSortSetX ev) := by
  have h2 := pe_callTy (p := p2) (pos := pos2) (cr_setAny hcalm) hg2 hm2 hv2 (pa_cons he pa_nil hs2) (by decide) (by decide) hs2 (by rfl)
  have h1 := pe_callB (p := p) (pos := pos) (cr_sortAny hcalm) hg hm hv (pa_cons h2 pa_nil hs1) (by decide) (by decide) hs1 (by rfl)
  refine h1.imp ?_
  rintro σ H Q ⟨G, W, ρ, Qd, s, h, fin⟩
  refine ⟨G, W, ρ, _, s, h, fun v H1 W1 ρ1 k d le fr s1 r1 q1 => ?_⟩
  have vw := s1.view r1
  obtain ⟨k, d⟩ := (⟨k, d⟩ : Kd × D)
  cases vw with
  | @str z hz =>
    obtain ⟨hl, q1⟩ := q1
    refine .inl ⟨z, rfl, Nat.lt_trans (Nat.succ_lt_succ hl) (by decide), fun p l hp hn hm => ?_⟩
    have hpl : l.Perm (ddp z) := nodup_perm hn (fun c hc => ddp_mem.mpr ((hm c).mp hc)) (nodup_le (ddp_nodup z) fun c hc => (hm c).mpr (ddp_mem.mp hc))
    have es : sortT (l.map fun c => [c]) = sortT ((ddp z).map fun c => [c]) := sorted_unique ((sortT_perm _).trans ((hpl.map _).trans (sortT_perm _).symm)) (sortT_sorted _) (sortT_sorted _)
    have s2 := s1.new (o := SetX X.prog X.w p l) hp
    refine .inl ⟨p, l, rfl, upd_same, hn, Nat.lt_of_le_of_lt (Nat.le_trans (Nat.le_of_eq hpl.length_eq) (ddp_len z)) hl, fun p2 hp2 => ?_⟩
    rw [es]
    exact fin _ _ W1 ρ1 .fr _ le fr (s2.new hp2) ⟨p2, _, rfl, s2.w.none_of hp2, upd_same, .lst (RepL.ofStrs fun y hy => by
      obtain ⟨c, _, rfl⟩ := List.mem_map.mp ((sortT_perm _).mem_iff.mp hy)
      rw [List.length_singleton, sizeLine_eq]; decide), (s2.newOwn hp2).1, (s2.newOwn hp2).2⟩ q1
  | @lst l a vs e rr =>
    rcases (show (∃ ss : List (List Nat), l = ss.map D.str ∧ _ ∧ _) ∨ (∃ ns : List Int, l = ns.map D.int ∧ _ ∧ _ ∧ _) from q1) with ⟨ss, rfl, hl, q⟩ | ⟨ns, rfl, hl, hb, q⟩
    · obtain ⟨rfl, hz⟩ := rr.strs
      refine .inr (.inl ⟨a, ss.map mkS, rfl, e, by rw [List.length_map]; exact Nat.lt_of_lt_of_le (Nat.add_lt_add_right hl 2) (by decide), fun p L hp hn hm => ?_⟩)
      have s2 := s1.new (o := SetXS X.prog X.w p L) hp
      have hmem : ∀ y, y ∈ L.map (fun y => y.cps.toList) ↔ y ∈ ss := fun y => by
        constructor
        · intro hy
          obtain ⟨c, hc, rfl⟩ := List.mem_map.mp hy
          obtain ⟨d, hd, e3⟩ := List.mem_map.mp ((hm c).mp hc)
          rw [← e3, mkS_toList]; exact hd
        · intro hy
          exact List.mem_map.mpr ⟨mkS y, (hm _).mpr (List.mem_map.mpr ⟨y, hy, rfl⟩), mkS_toList y⟩
      have hnd : (L.map fun y => y.cps.toList).Nodup := List.Pairwise.map _ (fun a b hab e4 => hab (by rw [← mkS_cps a, ← mkS_cps b, e4])) hn
      have hLl : L.length ≤ ss.length := by
        rw [← List.length_map (f := fun y : Str => y.cps.toList)]
        exact nodup_le hnd fun y hy => (hmem y).mp hy
      refine .inr (.inl ⟨p, L, rfl, upd_same, hn, Nat.lt_of_le_of_lt hLl (Nat.lt_of_lt_of_le hl (by decide)), fun p2 hp2 => ?_⟩)
      refine fin _ _ W1 ρ1 .fr _ le fr (s2.new hp2) ⟨p2, _, rfl, s2.w.none_of hp2, upd_same, .lst (RepL.ofStrs fun y hy => ?_), (s2.newOwn hp2).1, (s2.newOwn hp2).2⟩ (q _ (sortT_lt hnd) fun y => ((sortT_perm _).mem_iff).trans (hmem y))
      exact hz y ((hmem y).mp ((sortT_perm _).mem_iff.mp hy))
    · obtain rfl := rr.ints
      refine .inr (.inr ⟨a, ns, rfl, e, Nat.lt_of_lt_of_le (Nat.add_lt_add_right hl 2) (by decide), fun p Sf n hp hS ⟨L, l1, l2, l3⟩ => ?_⟩)
      have s2 := s1.new (o := SetO X.w p Sf n) hp
      have hn64 : n < 64 := by
        have : L.length ≤ ((List.range 63).map fun i : Nat => (i : Int)).length := nodup_le l1 fun c hc => by
          obtain ⟨h1, h2⟩ := hb c ((l3 c).mp hc)
          exact List.mem_map.mpr ⟨c.toNat, List.mem_range.mpr (by omega), by omega⟩
        rw [List.length_map, List.length_range] at this
        omega
      refine .inr (.inr ⟨p, Sf, n, rfl, upd_same, hn64, fun zs p2 z1 z2 z3 hp2 => ?_⟩)
      exact fin _ _ W1 ρ1 .fr _ le fr (s2.new hp2) ⟨p2, _, rfl, s2.w.none_of hp2, upd_same, .lst (RepL.ofInts), (s2.newOwn hp2).1, (s2.newOwn hp2).2⟩ (q zs z1 fun y => (z2 y).trans (hS y))
  | _ => exact (show False from q1).elim
/-- sorted(d), its keys texts -/
theorem call_sortedDx (hcalm : X.calm = true) : CallR X (.builtin "sorted") (fun xs H Q => ∃ (a : Addr) (kvs : List (Key × V)) (ks : List Str), xs = [.ref a] ∧ Rd H a (.dK kvs) ∧ kvs.map (·.1) = ks.map Sum.inr ∧ ks.length < 100000 ∧
    ∀ ys p, ys.Perm ks → sortedS ys = true → H p = none → Q (.ref p) (upd H p (.lst (ys.map V.str)))) := by
  intro pins s σ H xs us Q I r q
  obtain ⟨a, kvs, ks, ex, hd, hks, h64, q⟩ := q
  subst ex
  obtain ⟨u, eu, rx⟩ := vals1 r
  subst eu
  cases rx
  obtain ⟨z, lo, vs, rel, dd⟩ := dk_rd I.hok hd
  obtain ⟨ep, hat⟩ := dd.dictAt
  have hkeys : vs.map (·.1) = ks.map Sum.inr := rel.keys.symm.trans hks
  have hl : vs.length = ks.length := by
    have e := congrArg List.length hkeys
    rw [List.length_map, List.length_map] at e
    exact e
  have h16 : vs.length ≤ sizeLine := by rw [hl, sizeLine_eq]; omega
  refine Calls.call_function_entry PyProof.Rows.kind_sorted PyProof.Rows.plain_sorted PyProof.Rows.entry_sorted (PyProof.Rows.args_sorted1 _) ?_
  unfold Builtin.«sorted»
  refine wpAny_bind (m := checkCount "sorted" 1 1 _) (wpAny_pure ?_)
  refine wpAny_bind (PySem.W.kdu_collect (A := X.A.in1) (PySem.W.kdl_dict (knd := mixKind X.prog X.w) (kvs := vs) (ep := ep) lo) (I.ok.hd hcalm) hat h16 fun h' tk acc hk hacc => ?_)
  have hal : acc.toList.length = ks.length := by rw [Array.length_toList, hacc.1, hl]
  have hS : StrsAre acc.toList ks := strs_at hal fun j v e => by
    obtain ⟨k, x, e1, e2⟩ := hacc.2 j v (by rw [← Array.getElem?_toList]; exact e)
    have e3 : (vs.map (·.1))[j]? = some k := by rw [List.getElem?_map, e1]; all_goals rfl
    rw [hkeys, List.getElem?_map] at e3
    cases e4 : ks[j]? with
    | none => rw [e4] at e3; cases e3
    | some y =>
      rw [e4] at e3
      have e5 : Sum.inr y = k := Option.some.inj e3
      subst e5
      obtain ⟨t, ev⟩ := Value.isStrOf_shape (x := y) (v := v) e2
      exact ⟨y, t, rfl, ev⟩
  have I1 : Inv X pins σ H { s with heap := h', toks := tk } := I.kept hk
  refine wpAny_bind (wpAny_newList ?_ (by rw [hal, sizeLine_eq]; omega))
  have hoL : (h'.push (seqObj "list" acc.toList.toArray 0)).get? h'.objs.size = some (seqObj "list" acc.toList.toArray 0) := Heap.get?_push_size _ rfl
  show wpAny _ _ _ _ _ { s with heap := h'.push (seqObj "list" acc.toList.toArray 0), toks := tk }
  refine wpAny_bind (wpAny_holding (wpAny_call_entry PyProof.Rows.slot_list_sort ⟨_, hoL, rfl⟩ PyProof.Rows.entry_list_sort
    (list_sort_treeKAny strKind_oneLt (s := { s with heap := h'.push (seqObj "list" acc.toList.toArray 0), toks := tk }) hoL hS.keysOf (fun v₁ v₂ rest e => keyKind_strs (by rw [← e]; exact hS)) (by rw [hal, sizeLine_eq]; omega) fun st' hp hs => ⟨_, rfl, ?_⟩)
    (PyProof.Rows.args_list_sort _)))
  obtain ⟨ys, g1, g2, g3⟩ := sorted_out_str hS hp hs
  obtain ⟨e', he'⟩ := PyProof.Rows.sortedHeap_at (vs := acc.toList) (out := (arrOf st').map (·.2)) hoL
  have hlen : (ys.map V.str).length ≤ sizeLine := by
    rw [List.length_map, g2.length_eq, sizeLine_eq]
    omega
  refine wpAny_pure ⟨_, rfl, .ref h'.objs.size, upd H h'.objs.size (.lst (ys.map V.str)), I1.laid (t' := tk) (fun b u e => ?_) (Nat.le_refl _)
    (show ObjOk X.prog X.w _ _ _ (.lst (ys.map V.str)) from ⟨hlen, ((arrOf st').map (·.2)).toList, e', vals_of_strs g1, by rw [Array.toArray_toList]; exact he'⟩), rfl, q ys _ g2 g3 (I1.hok.fresh (Nat.le_refl _))⟩
  have hb : b < h'.objs.size := Heap.lt_size e
  rw [PyProof.Rows.sortedHeap_old (Nat.ne_of_lt hb) (by rw [size_push']; exact Nat.lt_succ_of_lt hb)]
  exact Heap.get?_push_of_some _ e
theorem repd_keys {W : Wd} : ∀ {l : List (Key × D)} {vs : List (Key × V)}, RepD O W l vs → (l.map fun p => p.1) = vs.map (·.1)
  | _, _, .nil => rfl
  | _, _, .cons _ t => by rw [List.map_cons, List.map_cons, repd_keys t]
theorem cr_sortDx (hc : X.calm = true) : CallR X (.builtin "sorted") (rC O TB (on1 sortSDx)) := cr1 <| by
  rintro pins s σ' H x u Q I r ⟨G, W, ρ, σ, d, Qd, S, vx, h, fin⟩
  have base : ∀ d, View O W H d x → sortSD d Qd → wpAny (model X.prog X.w) X.A (call (.builtin "sorted") [u]) (EP X pins σ' Q) X.xe s := fun d vd hd =>
    cr_sortS pins s σ' H [x] [u] Q I (.cons r .nil) ⟨G, W, ρ, σ, [d], Qd, S, .cons vd .nil, hd, fin⟩
  cases vx with
  | @dct l a vs e rr =>
    obtain ⟨ss, hk, hl, hz, q⟩ : ∃ ss : List (List Nat), (l.map fun p => p.1) = ss.map (fun y => (Sum.inr (mkS y) : Key)) ∧ ss.length < 100000 ∧ (∀ s ∈ ss, s.length ≤ sizeLine) ∧ ∀ zs : List (List Nat), zs.Perm ss → zs.Pairwise (· ≤ ·) → Qd (.fr, .lst (zs.map D.str)) := h
    obtain rfl : u = .ref a := r
    have hks : vs.map (·.1) = (ss.map mkS).map Sum.inr := by rw [← repd_keys rr, hk, List.map_map]; rfl
    refine call_sortedDx hc pins s σ' H [.ref a] [.ref a] Q I (.cons rfl .nil) ⟨a, vs, ss.map mkS, rfl, .inl e, hks, by rw [List.length_map]; exact hl, fun ys p g2 g3 hp => ?_⟩
    have ey := sortT_of g2 g3
    rw [ey]
    refine S.newL fin (RepL.ofStrs fun y hy => hz y ((sortT_perm _).mem_iff.mp hy)) (q _ (sortT_perm _) (sortT_sorted _)) p hp
  | non => exact (show False from h).elim
  | bl => exact (show False from h).elim
  | int => exact (show False from h).elim
  | str hz => exact base _ (.str hz) h
  | tup ew e rr => exact base _ (.tup ew e rr) h
  | lst e rr => exact base _ (.lst e rr) h
  | dtt e rr => exact (show False from h).elim
  | obj e => exact (show False from h).elim
end
/-- y = x.pop(0), x an own list -/
def sPopTo (k i : Nat) : StT := fun ρ D => ∃ d l, ρ[i]? = some (.ow (.lst (d :: l))) ∧ D.nx ((ρ.set i (.ow (.lst l))).set k (.fz d))
section
variable {O : ObjI} {Y : ExI} {TB : List Addr} {E : XK} {X : Cx}
theorem RepL.uncons {W : Wd} {d : D} {l : List D} {vs : List V} (h : RepL O W (d :: l) vs) : ∃ v vs', vs = v :: vs' ∧ Rep O W d v ∧ RepL O W l vs' := by
  cases h with
  | cons r t => exact ⟨_, _, rfl, r, t⟩
theorem ds_popTo {k i : Nat} {x y : Str} {j : Nat} {p1 ap cp pos pos' p0 : Pos} (hN : X.N.Nodup) (hk : X.N[k]? = some y) (hi : X.N[i]? = some x) (hy : Loc X.env.scope y) (hv : Vis X.env.scope x := by first | exact Or.inl rfl | exact Or.inr (Or.inl rfl) | exact Or.inr (Or.inr rfl)) (hd : (x == ("__debug__" : Str)) = false := by decide)
    (hcd : (x == ("__classdict__" : Str)) = false := by decide) (hs : swapsWith (.Call (.Attribute (.Name x p1) "pop" ap) [.Constant (.int 0) j p0] [] cp) (some (.Name y pos')) pos.line X.env = pure false := by rfl)
    (hf : X.fn y = true ∨ X.env.scope.names.lookup y = some .local := by first | exact .inl rfl | exact .inr rfl | assumption)
    (hbase : attributeBase (.Name x p1) "pop" X.env (eval (.Name x p1) X.env) = eval (.Name x p1) X.env := by rfl)
    (hfew : ((backTo cp (starEach [.Constant (.int 0) j p0] X.env)).all (fun x => !x.1) && (backToKw cp (keywordEach [] X.env)).all (fun x => x.1.isSome)
      && decide (([.Constant (.int 0) j p0] : List Expr).length + ([] : List Keyword).length + (if ([] : List Keyword).isEmpty then 0 else 1) < 30)) = true := by rfl)
    (hline : (ap.endLine == cp.line) = true := by rfl) (hst : starEach [.Constant (.int 0) j p0] X.env = (false, eval (.Constant (.int 0) j p0) X.env) :: starEach [] X.env := by rfl) (hplain : (backTo cp (starEach [] X.env)).any (·.1) = false := by rfl) :
    DS O Y TB E X (.Assign [.Name y pos'] (.Call (.Attribute (.Name x p1) "pop" ap) [.Constant (.int 0) j p0] [] cp) pos) (sPopTo k i) := by
  refine (ps_set hN hk hy (pe_bm PySem.F.plainAttrs_list PySem.F.slot_list_pop PySem.F.type_list_pop mt_popAt (pe_var hi hv hd hcd) (pa_cons pe_int pa_nil hst) hbase hfew hline hst hplain) hs hf).imp ?_
  rintro D σ H ⟨G, W, ρ, Dd, s, ⟨d, l, e0, h⟩, n, _⟩
  obtain ⟨ov, h1, h2⟩ := s.sl i _ e0
  obtain ⟨a, o, rfl, hw, ho, c⟩ := h2
  cases c with
  | @lst _ vs r =>
    obtain ⟨v, vs', rfl, rd, rt⟩ := r.uncons
    refine ⟨.ref a, h1, .inl ⟨rfl, _, SqL.of ho⟩, ?_⟩
    refine ⟨a, v :: vs', 0, 0, v, rfl, rfl, ho, by decide, by decide, ?_, rfl, ?_⟩
    · unfold seqIndex?
      rw [List.length_cons]
      simp
    · exact n _ _ W _ (WLe.refl W) ((s.write e0 h1 (.lst rt)).setF k rd) h
end
end TC

/-! List comprehensions of two clauses. -/
namespace TC
open PySem PySem.Spec PyProof.Rows L2
theorem noOwB_blk (s : Sl) (r : Rho) : noOwB (blkSl s :: r) = noOwB r := by cases s <;> rfl
def lc2D (own1 : List Nat) (iv1 : IvT) (g g1 : GtT) (ts ts1 : TvT) (el : EvT) (ρ0 : Rho) : List D → List D → (List D → Prop) → Prop
  | [], acc, Q => Q acc
  | x :: xs, acc, Q => g x ρ0 fun ρ1 => ts ρ1 fun b ρ2 => if b = true then iv1 ρ2 fun items ρ3 => noOwB ρ3 = true ∧ lcD g1 ts1 el (wipeD ρ3 own1) items acc fun acc' => lc2D own1 iv1 g g1 ts ts1 el ρ0 xs acc' Q else lc2D own1 iv1 g g1 ts ts1 el ρ0 xs acc Q
def vLc2 (own own1 : List Nat) (iv : IvT) (g : GtT) (ts : TvT) (iv1 : IvT) (g1 : GtT) (ts1 : TvT) (el : EvT) : EvT := fun ρ Q => iv ρ fun items ρ1 => lc2D own1 iv1 g g1 ts ts1 el (blkR own ρ1) items [] fun l => Q (.fr, .lst l) ρ1
section
variable {O : ObjI} {TB : List Addr} {W W' W5 : Wd} {ρ ρ5 : Rho} {σ σ5 : L2.St} {H H5 : Hp} {b : Hp} {D : Addr}
theorem SOk.shrink {gg : Hp} (s : SOk O TB ⟨b, gg⟩ W ρ σ H) : SOk O TB ⟨b, b⟩ W ρ σ H where
  w := s.w
  g := fun a o e => s.g a o (s.b a o e)
  b := fun a o e => e
  len := s.len
  sl := fun i x e => by
    obtain ⟨ov, h1, h2⟩ := s.sl i x e
    refine ⟨ov, h1, ?_⟩
    cases x <;> exact h2
  og := fun i a oa => by
    cases e : b a with
    | none => exact e
    | some o =>
      have := s.b a o e
      rw [s.og i a oa] at this
      cases this
  dj := s.dj
theorem lc_back {aV : List V} (sB : SOk O TB ⟨b, b⟩ W ρ σ H) (no : noOw ρ) (s5 : SOk O TB ⟨b, upd b D (.lst aV)⟩ W5 ρ5 σ5 H5) (le : WLe W W5) : SOk O TB ⟨b, upd b D (.lst aV)⟩ W5 ρ σ H5 := by
  have s6 := sB.keep le s5.w fun a o e1 e2 e3 => by
    rcases e3 with e3 | ⟨j, ⟨d, h1⟩, _⟩
    · exact s5.g a o (s5.b a o e3)
    · exact absurd h1 (no j d)
  obtain ⟨z1, z2⟩ := s5.g D (.lst aV) upd_same
  exact s6.guard z1 z2 fun j ⟨⟨d, h1⟩, _⟩ => absurd h1 (no j d)
theorem lc_grow {l0 l : List V} (s7 : SOk O TB ⟨b, upd b D (.lst l0)⟩ W ρ σ H) (no : noOw ρ) (oD : b D = none) : SOk O TB ⟨b, upd b D (.lst l)⟩ W ρ σ (upd H D (.lst l)) := by
  obtain ⟨z1, z2⟩ := s7.g D (.lst l0) upd_same
  refine ⟨s7.w.upd z2, fun a o e => ?_, fun a o e => ?_, s7.len, fun j x e => ?_, fun j a oa => ?_, s7.dj⟩
  · have e : upd b D (.lst l) a = some o := e
    by_cases ha : a = D
    · subst ha
      rw [upd_same] at e; cases e
      exact ⟨upd_same, z2⟩
    · rw [upd_ne ha] at e
      rw [upd_ne ha]
      exact s7.g a o (s7.b a o e)
  · have e1 : b a = some o := e
    have na : a ≠ D := fun z => by rw [z, oD] at e1; cases e1
    show upd b D (.lst l) a = some o
    rw [upd_ne na]
    exact e1
  · obtain ⟨ov, h1, h2⟩ := s7.sl j x e
    refine ⟨ov, h1, ?_⟩
    cases x with
    | ow d => exact absurd e (no j d)
    | _ => exact h2
  · exact absurd oa.1.choose_spec (no j _)
theorem lc_in {own : List Nat} {g : GtT} {ts : TvT} {el : EvT} (hb : b D = none) (no : noOw ρ) {acc0 : List TC.D} {accV0 : List V} (s0 : SOk O TB ⟨b, upd b D (.lst accV0)⟩ W ρ σ H) (r0 : RepL O W acc0 accV0) {J : It} {items : List TC.D} {gg : Hp}
    (hg : ∀ a o, gg a = some o → b a = some o) (it : ItOk O TB J gg W items) {Rd : List TC.D → Prop} (q : lcD g ts el (wipeD ρ own) items acc0 Rd) {K : Hp → Prop}
    (fin : ∀ W1 acc accV H1, WLe W W1 → SOk O TB ⟨b, upd b D (.lst accV)⟩ W1 ρ σ H1 → RepL O W1 acc accV → Rd acc → K H1) :
    ∃ Wv : Nat → Nat → Hp → Prop, (∃ m, Wv 0 m H) ∧ ∀ i m H, Wv i m H →
      (J.stop i H ∧ K H) ∨ (J.go i H ∧ ∃ Nx : Hp → Prop, (∀ H', Nx H' → ∃ m', m' < m ∧ Wv (i + 1) m' H') ∧ ∀ x H', J.yld i H x H' → tGt O TB own g x (wipe σ own) H' fun σ2 H2 => wipe σ2 own = wipe σ own ∧ tTv O TB ts σ2 H2 fun b H3 =>
        if b = true then tEv O TB el σ2 H3 fun y H4 => ∃ acc, H4 D = some (.lst acc) ∧ acc.length < sizeLine ∧ Nx (upd H4 D (.lst (acc ++ [y]))) else Nx H3) := by
  have sB := s0.shrink
  let IV : Nat → Hp → Prop := fun i H1 => ∃ W1 acc accV, WLe W W1 ∧ SOk O TB ⟨b, upd b D (.lst accV)⟩ W1 ρ σ H1 ∧ RepL O W1 acc accV ∧ lcD g ts el (wipeD ρ own) (items.drop i) acc Rd
  refine ⟨fun i m H1 => m = items.length - i ∧ i ≤ items.length ∧ IV i H1, ⟨_, rfl, Nat.zero_le _, W, acc0, accV0, WLe.refl W, s0, r0, by rw [List.drop_zero]; exact q⟩, ?_⟩
  rintro i m H1 ⟨rfl, hi, W1, acc, accV, le1, s1, r1, q1⟩
  obtain ⟨ig, is⟩ := it W1 H1 le1 s1.w (fun a o e => (s1.g a o (s1.b a o (hg a o e))).1)
  by_cases hlt : i < items.length
  · obtain ⟨go, yl⟩ := ig i hlt
    rw [List.drop_eq_getElem_cons hlt] at q1
    refine .inr ⟨go, fun H' => IV (i + 1) H', fun H' h => ⟨items.length - (i + 1), by omega, rfl, hlt, h⟩, fun x H2 hy => ?_⟩
    obtain ⟨d, W2, ed, le2, w2, kp, rx⟩ := yl x H2 hy
    rw [List.getElem?_eq_getElem hlt] at ed
    cases ed
    have s2 := (s1.after le2 w2 kp).wiped no own
    refine ⟨_, W2, _, _, _, s2, rx, q1, fun σ3 W3 ρ3 ew3 le3 s3 q3 => ⟨by rw [ew3, wipe_wipe], ?_⟩⟩
    refine ⟨_, W3, ρ3, _, s3, q3, fun bb H4 W4 ρ4 le4 fr4 s4 q4 => ?_⟩
    have leA : WLe W1 W4 := le2.trans (le3.trans le4)
    cases bb with
    | false =>
      simp only [Bool.false_eq_true, if_false] at q4 ⊢
      exact ⟨W4, acc, accV, le1.trans leA, lc_back sB no s4 (le1.trans leA), r1.mono leA, q4⟩
    | true =>
      simp only [if_true] at q4 ⊢
      refine ⟨_, W4, ρ4, _, s4, q4, fun y H5 W5 ρ5 k5 d5 le5 fr5 s5 r5 q5 => ?_⟩
      obtain ⟨W6, ρ6, le6, fr6, s6, r6, q6⟩ := s5.settle r5 q5
      obtain ⟨z1, z2⟩ := s6.g D (.lst accV) upd_same
      have leF : WLe W W6 := le1.trans (leA.trans (le5.trans le6))
      refine ⟨accV, z1, by rw [← r1.length]; exact q6.1, W6, acc ++ [d5], accV ++ [y], leF, lc_grow (lc_back sB no s6 leF) no hb, (r1.mono (leA.trans (le5.trans le6))).append (.cons r6 .nil), q6.2⟩
  · have e : items.drop i = [] := List.drop_of_length_le (by omega)
    rw [e] at q1
    exact .inl ⟨is i (by omega), fin W1 acc accV H1 le1 s1 r1 q1⟩
end
section
variable {O : ObjI} {TB : List Addr} {X : Cx}
theorem lc2_read {own own1 : List Nat} {g g1 : GtT} {ts ts1 : TvT} {el : EvT} {iv1 : IvT} {σ : L2.St} {H : Hp} {Q : VK} {R : Kd × D → Rho → Prop} {G : Kp} {W : Wd} {ρ : Rho} (s : SOk O TB G W ρ σ H) {J : It} {items : List D} {gg : Hp}
    (hg : ∀ a o, gg a = some o → H a = some o ∧ W a = none ∧ (G.g a = some o ∨ ∃ i, Owns ρ σ i a)) (it : ItOk O TB J gg W items) (q : lc2D own1 iv1 g g1 ts ts1 el (blkR own ρ) items [] fun l => R (.fr, .lst l) ρ)
    (fin : ∀ v H' W' ρ' k d, WLe W W' → Fro ρ ρ' → SOk O TB G W' ρ' σ H' → RepK O G W' H' ρ' σ k d v → R (k, d) ρ' → Q v H') :
    ∀ D, H D = none → ∃ Wv : Nat → Nat → Hp → Prop, (∃ m, Wv 0 m (upd H D (.lst []))) ∧ ∀ i m H, Wv i m H →
      (J.stop i H ∧ Q (.ref D) H) ∨ (J.go i H ∧ ∃ Nx : Hp → Prop, (∀ H', Nx H' → ∃ m', m' < m ∧ Wv (i + 1) m' H') ∧ ∀ x H', J.yld i H x H' → tGt O TB own g x (wipe σ own) H' fun σ2 H2 => wipe σ2 own = wipe σ own ∧ tTv O TB ts σ2 H2 fun b H3 =>
        if b = true then tIt0 O TB iv1 σ2 H3 fun J1 H4 => ∃ W1 : Nat → Nat → Hp → Prop, (∃ m, W1 0 m H4) ∧ ∀ j k H, W1 j k H →
          (J1.stop j H ∧ Nx H) ∨ (J1.go j H ∧ ∃ Nx1 : Hp → Prop, (∀ H', Nx1 H' → ∃ k', k' < k ∧ W1 (j + 1) k' H') ∧ ∀ x H', J1.yld j H x H' → tGt O TB own1 g1 x (wipe σ2 own1) H' fun σ3 H5 => wipe σ3 own1 = wipe σ2 own1 ∧ tTv O TB ts1 σ3 H5 fun b H6 =>
            if b = true then tEv O TB el σ3 H6 fun y H7 => ∃ acc, H7 D = some (.lst acc) ∧ acc.length < sizeLine ∧ Nx1 (upd H7 D (.lst (acc ++ [y]))) else Nx1 H6)
        else Nx H3) := by
  intro D hD
  have sB := s.block own
  have noB : noOw (blkR own ρ) := noOw_blk
  have oD : owG ρ σ H G D = none := by
    cases e : owG ρ σ H G D with
    | none => rfl
    | some o => have z := (sB.g D o e).1; rw [hD] at z; cases z
  let IV : Nat → Hp → Prop := fun i H1 => ∃ W1 acc accV, WLe W W1 ∧ SOk O TB ⟨owG ρ σ H G, upd (owG ρ σ H G) D (.lst accV)⟩ W1 (blkR own ρ) (wipe σ own) H1 ∧ RepL O W1 acc accV ∧ lc2D own1 iv1 g g1 ts ts1 el (blkR own ρ) (items.drop i) acc fun l => R (.fr, .lst l) ρ
  refine ⟨fun i m H1 => m = items.length - i ∧ i ≤ items.length ∧ IV i H1, ⟨_, rfl, Nat.zero_le _, W, [], [], WLe.refl W, ?_, .nil, by rw [List.drop_zero]; exact q⟩, ?_⟩
  · have s2 := sB.new (o := .lst []) hD
    exact s2.guard upd_same (s.w.none_of hD) (sB.newOwn hD).2
  · rintro i m H1 ⟨rfl, hi, W1, acc, accV, le1, s1, r1, q1⟩
    have kG : ∀ a o, owG ρ σ H G a = some o → H1 a = some o ∧ W1 a = none := fun a o e => s1.g a o (s1.b a o e)
    have ogg : ∀ a o, gg a = some o → owG ρ σ H G a = some o := fun a o e => by
      obtain ⟨z1, z2, z3⟩ := hg a o e
      rcases z3 with z3 | ⟨j, z3⟩
      · exact owG_sub z3
      · unfold owG
        rw [s.og j a z3]
        simp only
        rw [if_pos ⟨j, z3⟩]
        exact z1
    obtain ⟨ig, is⟩ := it W1 H1 le1 s1.w (fun a o e => (kG a o (ogg a o e)).1)
    obtain ⟨hD1, hW1⟩ := s1.g D (.lst accV) upd_same
    by_cases hlt : i < items.length
    · obtain ⟨go, yl⟩ := ig i hlt
      rw [List.drop_eq_getElem_cons hlt] at q1
      refine .inr ⟨go, fun H' => IV (i + 1) H', fun H' h => ⟨items.length - (i + 1), by omega, rfl, hlt, h⟩, fun x H2 hy => ?_⟩
      obtain ⟨d, W2, ed, le2, w2, kp, rx⟩ := yl x H2 hy
      rw [List.getElem?_eq_getElem hlt] at ed
      cases ed
      have s2 := s1.after le2 w2 kp
      refine ⟨_, W2, _, _, _, s2, rx, q1, fun σ3 W3 ρ3 ew3 le3 s3 q3 => ⟨by rw [ew3, wipe_wipe], ?_⟩⟩
      refine ⟨_, W3, ρ3, _, s3, q3, fun b H4 W4 ρ4 le4 fr4 s4 q4 => ?_⟩
      have leA : WLe W1 W4 := le2.trans (le3.trans le4)
      cases b with
      | false =>
        simp only [Bool.false_eq_true, if_false] at q4 ⊢
        exact ⟨W4, acc, accV, le1.trans leA, lc_back sB noB s4 (le1.trans leA), r1.mono leA, q4⟩
      | true =>
        simp only [if_true] at q4 ⊢
        refine ⟨_, W4, ρ4, _, s4, q4, fun J1 H5 W5 ρ5 items1 le5 fr5 s5 it1 q5 => ?_⟩
        obtain ⟨hno, q5⟩ := q5
        have le15 : WLe W1 W5 := leA.trans le5
        exact lc_in oD (noOw_of hno) s5 (r1.mono le15) (gg := noG) (fun a o e => by cases e) it1 q5 fun W6 acc6 accV6 H6 le6 s6 r6 q6 =>
          ⟨W6, acc6, accV6, le1.trans (le15.trans le6), lc_back sB noB s6 (le1.trans (le15.trans le6)), r6, q6⟩
    · have e : items.drop i = [] := List.drop_of_length_le (by omega)
      rw [e] at q1
      have sF := s.unblock le1 s1.w kG
      refine .inl ⟨is i (by omega), fin (.ref D) H1 W1 ρ .fr (.lst acc) le1 (Fro.refl ρ) sF ⟨D, _, rfl, hW1, hD1, .lst r1, ?_, fun j oj => ?_⟩ q1⟩
      · cases eg : G.g D with
        | none => rfl
        | some u => have z := (s.g D u eg).1; rw [hD] at z; cases z
      · exact (s.newOwn hD).2 j oj
variable {elt tg iter tg1 iter1 : Expr} {ifs ifs1 : List Expr} {scope : Scope} {own : List (Str × Nat)} {own1 : List Nat} {pos : Pos} {iv iv1 : IvT} {g g1 : GtT} {ts ts1 : TvT} {el : EvT}
theorem tLc2_of {σ : L2.St} {H : Hp} {Q : VK} (h : tEv O TB (vLc2 (own.map (·.2)) own1 iv g ts iv1 g1 ts1 el) σ H Q) : tLc2 (tIt O TB iv) (tGt O TB (own.map (·.2)) g) (tTv O TB ts) (tIt0 O TB iv1) (tGt O TB own1 g1) (tTv O TB ts1) (tEv O TB el) (own.map (·.2)) own1 σ H Q := by
  obtain ⟨G, W, ρ, Qd, s, ev, fin⟩ := h
  refine ⟨G, W, ρ, _, s, ev, fun J H' W' ρ' items gg le fr s' hg it q => ?_⟩
  exact lc2_read s' hg it q fun v H2 W2 ρ2 k d le2 fr2 s2 r2 q2 => fin v H2 W2 ρ2 k d (le.trans le2) (fr.trans fr2) s2 r2 q2
theorem de_lc2 (hc : X.calm = true) (hN : X.N.Nodup) (hi : DIr O TB X tg iter iv) (ok : BlkOk X.N X.env.scope scope own) (hv : ∀ i ∈ own1, i ∈ own.map (·.2))
    (hg : ∀ (s : Shared) (H : Hp) (C : Addr) (cl : List (Str × Addr)) (fp : List Addr), DG O TB (X.blk s H scope (compEnvC scope cl C X.env) fp) (own.map (·.2)) tg g) (ht : ∀ (s : Shared) (H : Hp) (C : Addr) (cl : List (Str × Addr)) (fp : List Addr), DTs O TB (X.blk s H scope (compEnvC scope cl C X.env) fp) ifs ts)
    (hi1 : ∀ (s : Shared) (H : Hp) (C : Addr) (cl : List (Str × Addr)) (fp : List Addr), DI O TB (X.blk s H scope (compEnvC scope cl C X.env) fp) tg1 iter1 iv1)
    (hg1 : ∀ (s : Shared) (H : Hp) (C : Addr) (cl : List (Str × Addr)) (fp : List Addr), DG O TB (X.blk s H scope (compEnvC scope cl C X.env) fp) own1 tg1 g1) (ht1 : ∀ (s : Shared) (H : Hp) (C : Addr) (cl : List (Str × Addr)) (fp : List Addr), DTs O TB (X.blk s H scope (compEnvC scope cl C X.env) fp) ifs1 ts1)
    (he : ∀ (s : Shared) (H : Hp) (C : Addr) (cl : List (Str × Addr)) (fp : List Addr), DE O TB (X.blk s H scope (compEnvC scope cl C X.env) fp) elt el) (hs : ∀ x, foldedSetIterable iter X.env x = pure x := by intro _; rfl) (hs1 : ∀ env x, foldedSetIterable iter1 env x = pure x := by intro _ _; rfl) :
    DE O TB X (.ListComp elt [⟨tg, iter, ifs, 0⟩, ⟨tg1, iter1, ifs1, 0⟩] scope pos) (vLc2 (own.map (·.2)) own1 iv g ts iv1 g1 ts1 el) :=
  (pe_lc2 hc hN hi ok hv hg ht hi1 hg1 ht1 he hs hs1).imp fun _ _ _ h => tLc2_of h
end
end TC

/-! zip(text, list). -/
namespace TC
open PySem PySem.Spec PyProof.Rows L2
abbrev itS (x : Str) (t : Tok) : Obj := { cls := .type "str_ascii_iterator", data := .fields #[.str x t, .int 0 0] }
abbrev itL (l : Addr) : Obj := { cls := .type "list_iterator", data := .fields #[.ref l, .int 0 0] }
abbrev zH1 (h : Heap) (x : Str) (t : Tok) : Heap := h.push (itS x t)
abbrev zH2 (h : Heap) (x : Str) (t : Tok) (l2 : Addr) : Heap := (zH1 h x t).push (itL l2)
abbrev zH3 (h : Heap) (x : Str) (t : Tok) (l2 : Addr) : Heap := (zH2 h x t l2).push { cls := .type "tuple", data := .seq #[.ref h.objs.size, .ref (zH1 h x t).objs.size] }
abbrev zH4 (h : Heap) (x : Str) (t : Tok) (l2 : Addr) : Heap := (zH3 h x t l2).push { cls := .type "tuple", data := .seq #[.none, .none] }
abbrev zH5 (h : Heap) (x : Str) (t : Tok) (l2 : Addr) : Heap := (zH4 h x t l2).push { cls := .type "zip", data := .fields #[.none, .bool false, .bool false, .ref (zH2 h x t l2).objs.size, .ref (zH3 h x t l2).objs.size] }
theorem meets_zipSL_new (x : Str) (t : Tok) (l2 : Addr) (ys : Array Value) (ha : x.cps.all (· < 128) = true) :
    Meets (Builtin.«zip.__new__» ⟨[.type "zip", .str x t, .ref l2], []⟩) (fun _ R s => s.heap.IsList l2 ys ∧
      R (.ok (.ret (.ref (zH4 s.heap x t l2).objs.size))) { s with heap := zH5 s.heap x t l2 }) :=
  .of_wp fun prog w A R s h => by
    obtain ⟨hp, g, d, tk, os⟩ := s; obtain ⟨hl2, h⟩ := h
    have hsub := sub_zip
    have hL2 : Heap.IsList (Shared.heap ⟨hp.push (itS x t), g, d, tk, os⟩) l2 ys := Heap.IsList.push hl2 _
    wp_walk using wpAny_pyIter_ascii ha, wpAny_pyIter_list hL2
    exact ⟨_, rfl, h⟩
section
variable {prog : Program} {w : World} {A : Around} {E : Value → Shared → Prop} {s : Shared}
theorem call_zipSL {x : Str} {t : Tok} {l2 : Addr} {ys : Array Value} {Q : Value → Shared → Prop} (ha : x.cps.all (· < 128) = true) (hl2 : s.heap.IsList l2 ys)
    (h : ∀ h', IsZip h' (s.heap.objs.size + 4) (s.heap.objs.size + 2) (s.heap.objs.size + 3) .none → IsTupOf2 h' (s.heap.objs.size + 2) (.ref s.heap.objs.size) (.ref (s.heap.objs.size + 1)) →
      IsTupOf2 h' (s.heap.objs.size + 3) .none .none → h'.IsStrIter s.heap.objs.size "str_ascii_iterator" x t 0 → h'.IsListIter (s.heap.objs.size + 1) l2 0 → h'.objs.size = s.heap.objs.size + 5 →
      (∀ c o, s.heap.get? c = some o → h'.get? c = some o) → Q (.ref (s.heap.objs.size + 4)) { s with heap := h' }) :
    wpAny (model prog w) A (call (.type "zip") [.str x t, .ref l2]) Q E s := by
  refine callType_new F.called_zip (by decide) (F.typeCall_zip_2 _ _) (F.newCall_zip_2 _ _) (fun obj => F.args_object_init_3 obj _ _) F.entry_zip_new
    (meets_zipSL_new x t l2 ys ha) ⟨hl2, ?_⟩
  have z1 : (zH1 s.heap x t).objs.size = s.heap.objs.size + 1 := Heap.size_push ..
  have z2 : (zH2 s.heap x t l2).objs.size = s.heap.objs.size + 2 := by rw [Heap.size_push, z1]
  have z3 : (zH3 s.heap x t l2).objs.size = s.heap.objs.size + 3 := by rw [Heap.size_push, z2]
  have z4 : (zH4 s.heap x t l2).objs.size = s.heap.objs.size + 4 := by rw [Heap.size_push, z3]
  have z5 : (zH5 s.heap x t l2).objs.size = s.heap.objs.size + 5 := by rw [Heap.size_push, z4]
  have g5 : (zH5 s.heap x t l2).get? (zH4 s.heap x t l2).objs.size = some _ := Heap.get?_push_size _ rfl
  have g4 : (zH5 s.heap x t l2).get? (zH3 s.heap x t l2).objs.size = some _ := Heap.get?_push_of_some _ (Heap.get?_push_size _ rfl)
  have g3 : (zH5 s.heap x t l2).get? (zH2 s.heap x t l2).objs.size = some _ := Heap.get?_push_of_some _ (Heap.get?_push_of_some _ (Heap.get?_push_size _ rfl))
  have g2 : (zH5 s.heap x t l2).get? (zH1 s.heap x t).objs.size = some _ := Heap.get?_push_of_some _ (Heap.get?_push_of_some _ (Heap.get?_push_of_some _ (Heap.get?_push_size _ rfl)))
  have g1 : (zH5 s.heap x t l2).get? s.heap.objs.size = some _ := Heap.get?_push_of_some _ (Heap.get?_push_of_some _ (Heap.get?_push_of_some _ (Heap.get?_push_of_some _ (Heap.get?_push_size _ rfl))))
  show _ ∧ _
  rw [z2, z3, z4] at g5
  rw [z1, z2] at g3
  rw [z3] at g4
  rw [z1] at g2
  rw [z4]
  exact ⟨⟨_, g5, rfl⟩, h _ g5 g3 g4 ⟨_, g1, rfl, rfl⟩ ⟨_, g2, rfl, rfl⟩ z5 fun c o x =>
    Heap.get?_push_of_some _ (Heap.get?_push_of_some _ (Heap.get?_push_of_some _ (Heap.get?_push_of_some _ (Heap.get?_push_of_some _ x))))⟩
end
/-- the signs of x beside the list at a, of n items -/
def Itsl (K : PySem.W.Frag) (x : Str) (a : Addr) (n : Nat) : It :=
  ⟨fun i H => i < x.cps.size ∧ ∃ ys : List V, SqL K H a ys ∧ ys.length = n ∧ i < n,
    fun i H v H' => ∃ T c y, v = .ref T ∧ H T = none ∧ H' = upd H T (.tup [.str ⟨#[c]⟩, y]) ∧ x.cps[i]? = some c ∧ ∀ ys, SqL K H a ys → ys[i]? = some y,
    fun i H => ∃ ys : List V, SqL K H a ys ∧ ys.length = n ∧ (x.cps.size ≤ i ∨ n ≤ i)⟩
theorem sep_sl {m a : Nat} (h : a < m) : ZipSep2 (m + 4) (m + 2) (m + 3) m (m + 1) [m] [m + 1, a] where
  TIz := by show (m + 2 : Nat) ≠ m + 4; omega
  TOz := by show (m + 3 : Nat) ≠ m + 4; omega
  TITO := by show (m + 2 : Nat) ≠ m + 3; omega
  TIi1 := by show (m + 2 : Nat) ≠ m; omega
  mem1 := List.mem_singleton.mpr rfl
  zf1 := fun hm => by have : (m + 4 : Nat) = m := List.mem_singleton.mp hm; omega
  Tf1 := fun hm => by have : (m + 3 : Nat) = m := List.mem_singleton.mp hm; omega
  TIi2 := by show (m + 2 : Nat) ≠ m + 1; omega
  mem2 := List.mem_cons_self
  zf2 := fun hm => by have : (m + 4 : Nat) = m + 1 ∨ (m + 4 : Nat) = a := (List.mem_cons.mp hm).imp id List.mem_singleton.mp; omega
  Tf2 := fun hm => by have : (m + 3 : Nat) = m + 1 ∨ (m + 3 : Nat) = a := (List.mem_cons.mp hm).imp id List.mem_singleton.mp; omega
  sep1_2 := fun hm => by have : (m : Nat) = m + 1 ∨ (m : Nat) = a := (List.mem_cons.mp hm).imp id List.mem_singleton.mp; omega
  sep2_1 := fun hm => by have : (m + 1 : Nat) = m := List.mem_singleton.mp hm; omega
theorem turn_zipSL {P : Program} {w : World} {K : PySem.W.Frag} {elts : List Expr} {kk : Nat} {tpos : Pos} {x : Str} {t : Tok} {a : Addr} {n : Nat} {z TI TO i1 i2 : Addr} (S : ZipSep2 z TI TO i1 i2 [i1] [i2, a]) :
    Turn P w K (.Tuple elts kk tpos) (Itsl K x a n) [z, TI, TO, i1, i2] z (fun i h => IsZip h z TI TO .none ∧ IsTupOf2 h TI (.ref i1) (.ref i2) ∧ (∃ x y, IsTupOf2 h TO x y) ∧ h.IsStrIter i1 "str_ascii_iterator" x t i ∧ h.IsListIter i2 a i ∧ i ≤ x.cps.size ∧ i ≤ n) where
  mem := by simp
  obj := fun i h st c hc => by
    obtain ⟨hz, hTI, ⟨x, y, hTO⟩, ⟨o1, e1, _, d1⟩, ⟨o2, e2, _, d2⟩, _⟩ := st
    have e' : c = z ∨ c = TI ∨ c = TO ∨ c = i1 ∨ c = i2 := by simpa using hc
    rcases e' with q | q | q | q | q
    · rw [q]; exact ⟨_, hz, fun v q => nomatch q⟩
    · rw [q]; exact ⟨_, hTI, fun v q => nomatch q⟩
    · rw [q]; exact ⟨_, hTO, fun v q => nomatch q⟩
    · rw [q]; exact ⟨o1, e1, fun v q => by rw [d1] at q; cases q⟩
    · rw [q]; exact ⟨o2, e2, fun v q => by rw [d2] at q; cases q⟩
  keep := fun i h h' st k => by
    obtain ⟨hz, hTI, ⟨x, y, hTO⟩, ⟨o1, e1, r1⟩, h2, hl⟩ := st
    exact ⟨k z (by simp) _ hz, k TI (by simp) _ hTI, ⟨x, y, k TO (by simp) _ hTO⟩, ⟨o1, k i1 (by simp) o1 e1, r1⟩, h2.at fun o q => k i2 (by simp) o q, hl⟩
  item := by
    intro X hP hw hK hc i pins s σ H E I hf st hg
    subst hP hw hK
    obtain ⟨hz, hTI, ⟨x0, y0, hTO⟩, h1, h2, hl1, hl2⟩ := st
    obtain ⟨hlt1, ys, hqy, hyl, hlt2⟩ := hg
    obtain ⟨its2, rv2, p2, _⟩ := I.list hqy
    have hits : its2.toArray.size = n := by rw [List.size_toArray, ← rv2.length]; exact hyl
    have hzl : z < s.heap.objs.size := Heap.lt_size hz
    have D1 : Draws X.prog X.w X.A.in1 i1 [i1] x.cps.size (fun i v => ∃ c u, x.cps[i]? = some c ∧ v = .str ⟨#[c]⟩ u) (fun i h => h.IsStrIter i1 "str_ascii_iterator" x t i) := Draws.strAscii (A := X.A.in1) (I.ok.hd hc) i1 x t
    have hai : a ≠ i2 := fun e => by
      obtain ⟨ol, ho, hc1, _⟩ := p2.isList
      obtain ⟨o2, ho2, hc2, _⟩ := h2
      rw [e, ho2] at ho
      cases ho
      rw [hc2] at hc1
      injection hc1 with e9
      exact absurd e9 (by decide)
    have D2 := Draws.list (prog := X.prog) (w := X.w) (A := X.A.in1) (I.ok.hd hc) i2 a hai its2.toArray
    refine wpAny_pyNext_zipD2_item S D1 D2 hz hTI hTO h1 ⟨h2, p2.isList⟩ hlt1 (by rw [hits]; exact hlt2) fun x1 x2 h' tk y1 y2 z' TO' h1' h2' hT hsz hk => ?_
    obtain ⟨c, u1, hx1, rfl⟩ := y1
    have hi2 : i < ys.length := by rw [hyl]; exact hlt2
    obtain ⟨u2, hu2, ru2⟩ := rv2.get (List.getElem?_eq_getElem hi2)
    have y2 : its2.toArray[i]? = some x2 := y2
    rw [← Array.getElem?_toList] at y2
    rw [hu2] at y2
    obtain rfl := Option.some.inj y2
    refine ⟨_, rfl, wpAny_letOwnedTupleGo_zip (s := { s with heap := h', toks := tk }) z' fun h'' z'' sb => ?_⟩
    have hT2 : h''.get? s.heap.objs.size = some { cls := .type "tuple", data := .seq #[.str ⟨#[c]⟩ u1, u2] } := (sb.2 _ (Nat.ne_of_gt hzl)).trans hT
    have new : ObjOk X.prog X.w (upd H s.heap.objs.size (.tup [.str ⟨#[c]⟩, ys[i]])) h'' s.heap.objs.size (.tup [.str ⟨#[c]⟩, ys[i]]) :=
      ⟨by show 2 ≤ sizeLine; decide, [.str ⟨#[c]⟩ u1, u2], .cons ⟨_, rfl⟩ (.cons ru2 .nil), ⟨_, hT2, rfl, _, rfl⟩⟩
    have I1 : Inv X pins σ (upd H s.heap.objs.size (.tup [.str ⟨#[c]⟩, ys[i]])) { s with heap := h'', toks := tk } :=
      I.turnedNew (ch := [z, TI, TO, i1, i2]) (fun c o hb q => (sb.2 c (fun q' => hb (by simp [q']))).trans (hk c o (fun q' => hb (by simp [q'])) (fun q' => hb (by simp [q'])) (fun q' => hb (by simp [q'])) (fun q' => hb (by simp [q'])) q)) hf (Nat.le_refl _) new
    refine ⟨.ref s.heap.objs.size, _, I1, rfl, ⟨_, c, _, rfl, I.hok.fresh (Nat.le_refl _), rfl, hx1, fun l hl => by rw [I.list_inj hl hqy]; exact List.getElem?_eq_getElem hi2⟩, ⟨z'', ?_, ⟨.str ⟨#[c]⟩ u1, u2, ?_⟩, ?_, ?_, hlt1, hlt2⟩, fun c hcm => ?_⟩
    · exact (sb.2 _ S.TIz).trans (hk _ _ S.TIz S.TITO S.TIi1 S.TIi2 hTI)
    · exact (sb.2 _ S.TOz).trans TO'
    · obtain ⟨o, ho1, r⟩ := h1'
      exact ⟨o, (sb.2 i1 (Ne.symm S.zi1)).trans ho1, r⟩
    · exact h2'.1.at fun o e => (sb.2 i2 (Ne.symm S.zi2)).trans e
    · have hb' : c < s.heap.objs.size := by
        have e' : c = z ∨ c = TI ∨ c = TO ∨ c = i1 ∨ c = i2 := by simpa using hcm
        rcases e' with q | q | q | q | q
        · rw [q]; exact hzl
        · rw [q]; exact Heap.lt_size hTI
        · rw [q]; exact Heap.lt_size hTO
        · rw [q]; obtain ⟨_, e, _⟩ := h1; exact Heap.lt_size e
        · rw [q]; obtain ⟨_, e, _⟩ := h2; exact Heap.lt_size e
      rw [upd_ne (Nat.ne_of_lt hb')]
      exact (hf c hcm).1
  done := by
    intro X hP hw hK hc i pins s σ H E I hf st hg
    subst hP hw hK
    obtain ⟨hz, hTI, ⟨x0, y0, hTO⟩, h1, h2, hl1, hl2⟩ := st
    obtain ⟨ys, hqy, hyl, he⟩ := hg
    obtain ⟨its2, rv2, p2, _⟩ := I.list hqy
    have hits : its2.toArray.size = n := by rw [List.size_toArray, ← rv2.length]; exact hyl
    have D1 : Draws X.prog X.w X.A.in1 i1 [i1] x.cps.size (fun i v => ∃ c u, x.cps[i]? = some c ∧ v = .str ⟨#[c]⟩ u) (fun i h => h.IsStrIter i1 "str_ascii_iterator" x t i) := Draws.strAscii (A := X.A.in1) (I.ok.hd hc) i1 x t
    have hai : a ≠ i2 := fun e => by
      obtain ⟨ol, ho, hc1, _⟩ := p2.isList
      obtain ⟨o2, ho2, hc2, _⟩ := h2
      rw [e, ho2] at ho
      cases ho
      rw [hc2] at hc1
      injection hc1 with e9
      exact absurd e9 (by decide)
    have D2 := Draws.list (prog := X.prog) (w := X.w) (A := X.A.in1) (I.ok.hd hc) i2 a hai its2.toArray
    exact wpAny_pyNext_zipD2_end S D1 D2 hz hTI hTO h1 ⟨h2, p2.isList⟩ hl1 (by rw [hits]; exact hl2) (by rw [hits]; omega) fun h' tk hk => ⟨rfl, I.turnedL (t' := tk) (ch := [z, TI, TO, i1, i2]) (fun c o hb q =>
      hk c o (fun q' => hb (by simp [q'])) (fun q' => hb (by simp [q'])) (fun q' => hb (by simp [q'])) (fun q' => hb (by simp [q'])) q) hf⟩
  self := fun A i s Q E st h => wpAny_pyIter_zip st.1 h
def zipL (l r : List D) : List D := List.zipWith (fun a b => .tup [a, b]) l r
/-- zip(text, list) -/
def zipD : List D → (List D → Prop) → Prop
  | [.str s, .lst l], Q => (∀ c ∈ s, c < 128) ∧ Q (zipL (signs s) l)
  | _, _ => False
def vZip (as : AsT) : IvT := fun ρ Q => as ρ fun ds ρ1 => zipD ds fun l => Q l ρ1
section
variable {O : ObjI} {TB : List Addr} {X : Cx}
theorem boot_zip' : bootBuiltins "zip" = some (.type "zip") := PyProof.Rows.boot_zip
theorem di_zip {e e2 : Expr} {as : AsT} {p pos tpos : Pos} {elts : List Expr} {kk : Nat} (hg : Gl X "zip") (hm : X.mg "zip" = none) (ha : DAs O TB X [e, e2] as)
    (hs : starEach [e, e2] X.env = (false, eval e X.env) :: starEach [e2] X.env := by rfl) (hpl : (backTo pos (starEach [e2] X.env)).any (·.1) = false := by rfl) :
    DI O TB X (.Tuple elts kk tpos) (.Call (.Name "zip" p) [e, e2] [] pos) (vZip as) := by
  refine ⟨fun pins s σ H R I h => ?_⟩
  obtain ⟨G, W, ρ, Qd, so, hq, fin⟩ := h
  refine Call_ (ld_blt I hg hm PyProof.Rows.boot_zip (PyProof.Rows.callWith_type1 (thn (ha.run pos pins s σ H (fun vs H1 => ∃ W2 ρ2 ds, WLe W W2 ∧ Fro ρ ρ2 ∧ SOk O TB G W2 ρ2 σ H1 ∧ RepL O W2 ds vs ∧ zipD ds fun l => Qd l ρ2) I ⟨G, W, ρ, _, so, hq, fun vs H' W' ρ' ds le fr s' r q => ⟨W', ρ', ds, le, fr, s', r, q⟩⟩) fun us s1 ⟨vs, H1, I1, r1, W2, ρ2, ds, le2, fr2, so2, rp, q⟩ => ?_) hs hpl))
  match ds, rp, q with
  | [.str z, .lst l], .cons (.str hz) (.cons (.lst ew rr) .nil), q =>
    obtain ⟨hasc, q⟩ : (∀ c ∈ z, c < 128) ∧ Qd (zipL (signs z) l) ρ2 := q
    rename_i a vs'
    cases r1 with
    | cons r rr1 =>
      cases rr1 with
      | cons r' rr2 =>
        cases rr2
        obtain ⟨t, rfl⟩ := r
        cases r'
        obtain ⟨o, ho, hp⟩ := so2.w.at_ _ _ ew
        have hp : o = _ := hp
        subst hp
        obtain ⟨its, rv, p2, hz2⟩ := I1.list (SqL.of ho)
        have hall : (mkS z).cps.all (· < 128) = true := by
          rw [Array.all_eq_true]
          intro i hi
          have : (mkS z).cps[i] ∈ (mkS z).cps.toList := by simp
          rw [mkS_toList] at this
          exact decide_eq_true (hasc _ this)
        have hcs : (mkS z).cps.size = z.length := by simp [mkS]
        refine call_zipSL hall p2.isList fun h' hzz hTI hTO h1 h2 hsz hk => wpAny_pyIter_zip hzz ?_
        have I2 : Inv X pins σ H1 { s1 with heap := h' } := I1.kept (t' := s1.toks) hk
        refine ⟨s1.heap.objs.size + 4, [s1.heap.objs.size + 4, s1.heap.objs.size + 2, s1.heap.objs.size + 3, s1.heap.objs.size, s1.heap.objs.size + 1], _, _, H1, rfl, I2, turn_zipSL (x := mkS z) (t := t) (a := a) (n := l.length) (sep_sl p2.lt), ⟨hzz, hTI, ⟨_, _, hTO⟩, h1, h2, Nat.zero_le _, Nat.zero_le _⟩, fun c hcm => ?_, fin _ H1 W2 ρ2 (zipL (signs z) l) le2 fr2 so2 ?_ q⟩
        · have e' : c = s1.heap.objs.size + 4 ∨ c = s1.heap.objs.size + 2 ∨ c = s1.heap.objs.size + 3 ∨ c = s1.heap.objs.size ∨ c = s1.heap.objs.size + 1 := by simpa using hcm
          have hle : s1.heap.objs.size ≤ c := by
            rcases e' with z | z | z | z | z
            · rw [z]; exact Nat.le_add_right _ _
            · rw [z]; exact Nat.le_add_right _ _
            · rw [z]; exact Nat.le_add_right _ _
            · rw [z]; exact Nat.le_refl _
            · rw [z]; exact Nat.le_add_right _ _
          exact I1.fpOk hle (I1.hok.fresh hle)
        · intro W1 H2 le w hgk
          have ha2 : H2 a = some (.lst vs') := by
            obtain ⟨o, ho, hp⟩ := w.at_ a _ (le _ _ ew)
            rw [ho]; exact congrArg some hp
          have sq : SqL X.K H2 a vs' := SqL.of ha2
          have hzl : (zipL (signs z) l).length = min z.length l.length := by unfold zipL signs; rw [List.length_zipWith, List.length_map]
          refine ⟨fun i hi => ?_, fun i hi => ⟨vs', sq, rr.length.symm, by rw [hcs]; omega⟩⟩
          rw [hzl] at hi
          have hi1 : i < z.length := by omega
          have hi2 : i < l.length := by omega
          obtain ⟨x, hx, rx⟩ := rr.get (List.getElem?_eq_getElem hi2)
          refine ⟨⟨by rw [hcs]; exact hi1, vs', sq, rr.length.symm, hi2⟩, fun y H3 hy => ?_⟩
          obtain ⟨T, c, x', rfl, hT, rfl, hc, hx'⟩ := hy
          have e2 := hx' vs' sq
          rw [hx] at e2; cases e2
          have hc' : z[i]? = some c := by simpa [mkS] using hc
          refine ⟨.tup [.str [c], l[i]], wup W1 T (Fz (.tup [.str ⟨#[c]⟩, x])), ?_, wup_le (w.none_of hT), (w.upd (w.none_of hT)).wup (w.none_of hT) upd_same rfl, fun b o e1 e2 => ?_, ?_⟩
          · unfold zipL signs
            rw [List.getElem?_zipWith, List.getElem?_map, hc', List.getElem?_eq_getElem hi2]
            rfl
          · have ne := ne_of_none e1 hT
            exact ⟨by rw [upd_ne ne]; exact e1, by rw [wup_ne ne]; exact e2⟩
          · refine .tup wup_same (.cons (.str (s := [c]) (by show 1 ≤ sizeLine; decide)) (.cons ((rx.mono le).mono (wup_le (w.none_of hT))) .nil))
  | [], _, q => exact (show False from q).elim
  | [.str _], _, q => exact (show False from q).elim
  | [_], _, q => exact (show False from by unfold zipD at q; split at q <;> first | exact q | simp_all).elim
  | _ :: _ :: _ :: _, _, q => exact (show False from by unfold zipD at q; split at q <;> first | exact q | simp_all).elim
end
end TC

/-! max(list, default=c), max(generator, default=c). -/
namespace TC
open PySem PySem.Spec PyProof.Rows L2 GenW
def mx (st : Option Int) (i : Int) : Option Int := some (match st with | none => i | some m => if i > m then i else m)
def maxO (ns : List Int) : Option Int := ns.foldl mx none
theorem maxO_go : ∀ (ns : List Int) (m : Int), ∃ m', ns.foldl mx (some m) = some m' ∧ (m' = m ∨ m' ∈ ns) ∧ m ≤ m' ∧ ∀ y ∈ ns, y ≤ m'
  | [], m => ⟨m, rfl, .inl rfl, Int.le_refl _, fun y h => by cases h⟩
  | n :: ns, m => by
    obtain ⟨m', e, h1, h2, h3⟩ := maxO_go ns (if n > m then n else m)
    refine ⟨m', e, ?_, ?_, fun y hy => ?_⟩
    · rcases h1 with h1 | h1
      · split at h1
        · exact .inr (h1 ▸ List.mem_cons_self)
        · exact .inl h1
      · exact .inr (List.mem_cons_of_mem _ h1)
    · split at h2 <;> omega
    · rcases List.mem_cons.mp hy with rfl | hy
      · split at h2 <;> omega
      · exact h3 y hy
theorem maxO_spec {ns : List Int} (h : ns ≠ []) : ∃ m, maxO ns = some m ∧ m ∈ ns ∧ ∀ y ∈ ns, y ≤ m := by
  cases ns with
  | nil => exact absurd rfl h
  | cons n ns =>
    obtain ⟨m', e, h1, h2, h3⟩ := maxO_go ns n
    refine ⟨m', e, ?_, fun y hy => ?_⟩
    · rcases h1 with h1 | h1
      · exact h1 ▸ List.mem_cons_self
      · exact List.mem_cons_of_mem _ h1
    · rcases List.mem_cons.mp hy with rfl | hy
      · exact h2
      · exact h3 y hy
/-- what stands in the box of the best -/
def bestA (st : Option Int) (items : Array Value) : Prop := match st with | none => items = #[] | some m => ∃ t, items = #[.int m t, .int m t]
def mxR (st : Option Int) (d v : Value) : Prop := match st with | none => v = d | some m => ∃ t, v = .int m t
theorem args_max_default (a d : Value) : argsOk "max" ⟨[a], [(Str.ofString "default", d)]⟩ := by unfold argsOk; kernel_rfl
section
variable {P : Program} {w : World} {A : Around} {E : Value → Shared → Prop} {s : Shared}
theorem gt_int {M : Value → Prop} {a b : Int} {t u : Tok} {Q : Value → Shared → Prop} (h : Q (.bool (decide (a > b))) s) : wpAny (model P w) A (richCompare .Gt (.int a t) (.int b u)) Q E s :=
  richCompare_gives (op := .Gt) (typeIs_int s _ t) (typeIs_int s _ u) F.slot_int_gt F.entry_int_gt (F.args_int_gt_2 _ _) (gives_int_gt _ _ t u) (fun x => nomatch x) h
theorem max_walkD {R : Result → Shared → Prop} {I S : Addr} {n : Nat} {fp wr : List Addr} {Pv : Nat → Value → Prop} {St : Nat → Heap → Prop} {val : Nat → Int} {d : Value} (W : Walks P w A.in1 I fp wr n Pv St) (hval : ∀ i v, Pv i v → ∃ t, v = .int (val i) t) (hSf : S ∉ fp) :
    ∀ (k i : Nat) (s : Shared) (st : Option Int) (items : Array Value) (c : Nat), n - i = k → i ≤ n → St i s.heap → s.heap.get? S = some { cls := .type "list", dict := none, data := .seq items c, slots := #[] } → bestA st items →
    (∀ v h' tk, mxR ((List.range' i (n - i)).foldl (fun st j => mx st (val j)) st) d v → (∀ b o, b ∉ wr → b ≠ S → s.heap.get? b = some o → h'.get? b = some o) → R (.ok (.ret v)) { s with heap := h', toks := tk }) →
    codeAny (model P w) A (.builtin "max.loop" ⟨[.ref I, .none, .ref S], [(Str.ofString "default", d)]⟩) R s := by
  have hSw : S ∉ wr := fun h => hSf (W.sub _ h)
  have hname : (toString "max" ++ toString ".loop" : String) = "max.loop" := by decide
  intro k
  induction k with
  | zero =>
    intro i s st items c hk hi hst hS hb hR
    obtain rfl : i = n := by omega
    refine codeAny_builtin F.entry_max_loop ?_
    rw [Around.under_plainId F.plain_max_loop _]
    show wpAny _ A.in1 (seqItems? (.ref S) >>= _) _ _ s
    refine wpAny_bind (wpAny_seqItems hS rfl ?_)
    show wpAny _ A.in1 (tryCatch (pyNext (.ref I)) _ >>= _) _ _ s
    refine wpAny_bind (wpAny_tryCatch (W.done s _ _ hst fun h' tk hk' => ?_))
    have hS' := hk' S _ hSw hS
    rw [Nat.sub_self] at hR
    cases st with
    | none =>
      obtain rfl : items = #[] := hb
      show wpAny _ A.in1 (rule _ >>= fun _ => ret d) _ _ _
      refine wpAny_bind (wpAny_rule (wpAny_pure ?_))
      exact hR d h' tk rfl fun b o hbw hbS e => hk' b o hbw e
    | some m =>
      obtain ⟨t, rfl⟩ : ∃ t, items = #[.int m t, .int m t] := hb
      show wpAny _ A.in1 (updateSeq S (fun _ => #[]) >>= _) _ _ _
      refine wpAny_bind ?_
      refine wpAny_updateSeq hS' rfl (wpAny_bind (wpAny_letGo (wpAny_pure ?_)))
      exact hR (.int m t) _ tk ⟨t, rfl⟩ fun b o hbw hbS e => (Heap.get?_update_other _ _ (Ne.symm hbS)).trans (hk' b o hbw e)
  | succ k ih =>
    intro i s st items c hk hi hst hS hb hR
    have hlt : i < n := by omega
    rw [show n - i = (n - (i + 1)) + 1 by omega, List.range'_succ, List.foldl_cons] at hR
    refine codeAny_builtin F.entry_max_loop ?_
    rw [Around.under_plainId F.plain_max_loop _]
    show wpAny _ A.in1 (seqItems? (.ref S) >>= _) _ _ s
    refine wpAny_bind (wpAny_seqItems hS rfl ?_)
    show wpAny _ A.in1 (tryCatch (pyNext (.ref I)) _ >>= _) _ _ s
    refine wpAny_bind (wpAny_tryCatch (W.item i s _ _ hlt hst fun v h' tk hP hst' hk' => ?_))
    have hS' := hk' S _ hSw hS
    obtain ⟨u, rfl⟩ := hval i v hP
    have frame : ∀ (h2 : Heap), (∀ b o, b ≠ S → h'.get? b = some o → h2.get? b = some o) → St (i + 1) h2 := fun h2 q => W.frame _ _ _ hst' fun b hbf o e => q b o (fun z => hSf (z ▸ hbf)) e
    cases st with
    | none =>
      obtain rfl : items = #[] := hb
      show wpAny _ A.in1 (updateSeq S (fun _ => #[.int (val i) u, .int (val i) u]) >>= _) _ _ _
      refine wpAny_bind ?_
      refine wpAny_updateSeq hS' rfl ?_
      rw [hname]
      refine wpAny_pure ⟨plainId_quiet F.plain_max_loop _, ih (i + 1) _ (some (val i)) _ _ (by omega) hlt (frame _ fun b o hb e => (Heap.get?_update_other _ _ (Ne.symm hb)).trans e) (Heap.get?_update_self _ hS' rfl) ⟨u, rfl⟩ fun v' h'' tk'' hP' hk'' => ?_⟩
      exact hR v' h'' tk'' hP' fun b o hbw hbS e => hk'' b o hbw hbS ((Heap.get?_update_other _ _ (Ne.symm hbS)).trans (hk' b o hbw e))
    | some m =>
      obtain ⟨t, rfl⟩ : ∃ t, items = #[.int m t, .int m t] := hb
      show wpAny _ A.in1 (tryCatch (holding [.int (val i) u, .int (val i) u] (richCompare .Gt (.int (val i) u) (.int m t) >>= _)) _ >>= _) _ _ _
      refine wpAny_bind (wpAny_tryCatch (wpAny_holding (wpAny_bind (gt_int (M := fun _ => True) ?_))))
      refine wpAny_bind (wpAny_holding (wpAny_truthy_bool ?_))
      refine wpAny_bind (wpAny_letGo (wpAny_pure ?_))
      by_cases hgt : val i > m
      · rw [if_pos (decide_eq_true hgt)]
        refine wpAny_bind ?_
        refine wpAny_updateSeq hS' rfl (wpAny_bind (wpAny_letGo ?_))
        rw [hname]
        have em : mx (some m) (val i) = some (val i) := by unfold mx; simp only [hgt, if_true]
        rw [em] at hR
        refine wpAny_pure ⟨plainId_quiet F.plain_max_loop _, ih (i + 1) _ (some (val i)) _ _ (by omega) hlt (frame _ fun b o hb e => (Heap.get?_update_other _ _ (Ne.symm hb)).trans e) (Heap.get?_update_self _ hS' rfl) ⟨u, rfl⟩ fun v' h'' tk'' hP' hk'' => ?_⟩
        exact hR v' h'' tk'' hP' fun b o hbw hbS e => hk'' b o hbw hbS ((Heap.get?_update_other _ _ (Ne.symm hbS)).trans (hk' b o hbw e))
      · rw [if_neg (fun z => hgt (of_decide_eq_true z))]
        refine wpAny_bind (wpAny_letGo ?_)
        rw [hname]
        have em : mx (some m) (val i) = some m := by unfold mx; simp only [hgt, if_false]
        rw [em] at hR
        refine wpAny_pure ⟨plainId_quiet F.plain_max_loop _, ih (i + 1) _ (some m) _ c (by omega) hlt hst' hS' ⟨t, rfl⟩ fun v' h'' tk'' hP' hk'' => ?_⟩
        exact hR v' h'' tk'' hP' fun b o hbw hbS e => hk'' b o hbw hbS (hk' b o hbw e)
theorem fold_at : ∀ (ns : List Int) (st : Option Int) (f : Nat → Int) (i : Nat), (∀ j, j < ns.length → f (i + j) = ns.getD j 0) → (List.range' i ns.length).foldl (fun st j => mx st (f j)) st = ns.foldl mx st
  | [], _, _, _, _ => rfl
  | n :: ns, st, f, i, h => by
    rw [List.length_cons, List.range'_succ, List.foldl_cons, List.foldl_cons]
    have h0 := h 0 (by simp)
    rw [Nat.add_zero] at h0
    rw [h0]
    refine fold_at ns _ f (i + 1) fun j hj => ?_
    have := h (j + 1) (by rw [List.length_cons]; omega)
    rw [show i + 1 + j = i + (j + 1) by omega, this]
    rfl
theorem call_maxListD {l : Addr} {its : List Value} {ns : List Int} {d : Value} {Q : Value → Shared → Prop} (hh : A.handled = none) (hl : s.heap.IsList l its.toArray) (hi : IntsAre its ns)
    (h : ∀ v h' tk, mxR (maxO ns) d v → (∀ b o, s.heap.get? b = some o → h'.get? b = some o) → Q v { s with heap := h', toks := tk }) :
    wpAny (model P w) A (call (.builtin "max") [.ref l] [(Str.ofString "default", d)]) Q E s := by
  have hname : (toString "max" ++ toString ".loop" : String) = "max.loop" := by decide
  refine PyProof.Rows.kmk_tree F.kind_max F.plain_max F.entry_max (args_max_default _ _) ?_
  show wpAny _ A.in1 (Builtin.Builtins.bindParams "max" ["key", "default"] 0 ⟨[], [(Str.ofString "default", d)]⟩ >>= _) _ _ s
  refine wpAny_bind (wpAny_of_eq (show Builtin.Builtins.bindParams "max" ["key", "default"] 0 ⟨[], [(Str.ofString "default", d)]⟩ = pure [none, some d] from rfl) ?_)
  refine wpAny_bind (wpAny_pure ?_)
  have hlt : l < s.heap.objs.size := by obtain ⟨_, e, _⟩ := hl; exact Heap.lt_size e
  refine wpAny_bind (wpAny_pyIter_list hl ?_)
  refine wpAny_bind (wpAny_newObj_type ?_)
  rw [hname]
  have z1 : (s.heap.push { cls := .type "list_iterator", data := .fields #[.ref l, .int 0 0] }).objs.size = s.heap.objs.size + 1 := Heap.size_push ..
  have hl1 : (s.heap.push { cls := .type "list_iterator", data := .fields #[.ref l, .int 0 0] }).IsList l its.toArray := hl.push _
  have hlen : its.length = ns.length := IntsAre.length hi
  refine wpAny_pure ⟨plainId_quiet F.plain_max_loop _, ?_⟩
  refine max_walkD (n := its.toArray.size) (val := fun i => ns.getD i 0) (Walks.list (A := A.in1) hh s.heap.objs.size l (Nat.ne_of_lt hlt) its.toArray) (fun i v e => IntsAre.int_at hi i v (by simpa using e)) (fun hm => ?_) _ 0 _ none #[] 0 rfl (Nat.zero_le _) ⟨⟨_, Heap.get?_push_of_some _ (Heap.get?_push_size _ rfl), rfl, rfl⟩, hl1.push _⟩ (Heap.get?_push_size _ rfl) rfl fun v h' tk hv hk => ?_
  · rw [z1] at hm
    have : s.heap.objs.size + 1 = s.heap.objs.size ∨ s.heap.objs.size + 1 = l := (List.mem_cons.mp hm).imp id List.mem_singleton.mp
    have hlt' : (l : Nat) < s.heap.objs.size := hlt
    rcases this with e | e
    · exact absurd e (Nat.succ_ne_self _)
    · rw [← e] at hlt'
      exact absurd hlt' (Nat.not_lt_of_le (Nat.le_succ _))
  · rw [Nat.sub_zero, List.size_toArray, hlen, fold_at ns none _ 0 fun j hj => by rw [Nat.zero_add]] at hv
    refine h v h' tk hv fun b o e => hk b o (fun hm => ?_) (fun z => ?_) (Heap.get?_push_of_some _ (Heap.get?_push_of_some _ e))
    · have hb := Heap.lt_size e
      rw [List.mem_singleton.mp hm] at hb
      exact Nat.lt_irrefl _ hb
    · have hb := Heap.lt_size e
      rw [z, z1] at hb
      exact absurd hb (Nat.not_lt_of_le (Nat.le_succ _))
end
section
variable {X : Cx}
/-- a keyword's value, a constant number -/
def KwC (X : Cx) (ed : Expr) (z : Int) : Prop := ∀ (s : Shared) (Q : Value → Shared → Prop), (∀ t tk, Q (.int z t) { s with toks := tk }) → wpAny (model X.prog X.w) X.A (eval ed X.env) Q X.xe s
theorem kwc_pos {i : Int} {j pos} : KwC X (.Constant (.int i) j pos) i := fun s Q h => wpAny_Constant_int (h _ _)
theorem kwc_neg {i : Int} {j p pos} : KwC X (.UnaryOp .USub (.Constant (.int i) j p) pos) (-i) := fun s Q h => UnaryOp_ (wpAny_Constant_int (neg_int (h _ _)))
theorem pk_kwc {ed : Expr} {z : Int} (h : KwC X ed z) : PE X ed (tC (.int z)) := ⟨fun pins s σ H Q I q => h s _ fun t tk => ⟨.int z, H, I.tok tk, ⟨t, rfl⟩, q⟩⟩
def rMaxD (K : PySem.W.Frag) : List V → List V → Hp → VK → Prop := fun xs zs H Q => ∃ (a : Addr) (ns : List Int) (z : Int), xs = [.ref a] ∧ zs = [.int z] ∧ SqL K H a (ns.map V.int) ∧ Q (.int ((maxO ns).getD z)) H
theorem cr_maxD (hc : X.calm = true) : CallRK X (.builtin "max") [Str.ofString "default"] (rMaxD X.K) := by
  rintro pins s σ H xs zs us ws Q I r1 r2 ⟨a, ns, z, rfl, rfl, hs, q⟩
  rw [Vals.ref1 r1]
  obtain ⟨u, rfl, t, rfl⟩ := vals1 r2
  obtain ⟨its, rv, hl, _⟩ := I.list hs
  show wpAny _ _ (call (.builtin "max") [.ref a] [(Str.ofString "default", .int z t)]) _ _ _
  refine call_maxListD (I.ok.hd hc) hl.isList rv.ints fun v h' tk hv hk => ?_
  refine ⟨.int ((maxO ns).getD z), H, I.kept hk, ?_, q⟩
  unfold mxR at hv
  cases e : maxO ns with
  | none => rw [e] at hv; exact ⟨t, hv⟩
  | some m => rw [e] at hv; obtain ⟨t', rfl⟩ := hv; exact ⟨t', rfl⟩
end
def vMaxD (ev : EvT) (z : Int) : EvT := fun ρ Q => ev ρ fun r ρ1 => ∃ ns : List Int, r.2 = .lst (ns.map D.int) ∧ Q (.fz, .int ((maxO ns).getD z)) ρ1
section
variable {O : ObjI} {TB : List Addr} {X : Cx} {e ed : Expr} {ev : EvT} {z : Int} {p kp pos : Pos}
theorem de_maxD (hcalm : X.calm = true) (hg : Gl X "max") (hm : X.mg "max" = none) (hv : bootBuiltins "max" = some (.builtin "max")) (hk : KwC X ed z) (he : DE O TB X e ev)
    (hs1 : starEach [e] X.env = [(false, eval e X.env)] := by rfl) (hs2 : backTo pos (starEach [e] X.env) = (false, eval e X.env) :: backTo pos (starEach [] X.env) := by rfl) (hs3 : (backTo pos (starEach [e] X.env)).any (·.1) = false := by rfl) :
    DE O TB X (.Call (.Name "max" p) [e] [⟨some "default", ed, kp⟩] pos) (vMaxD ev z) := by
  refine (pe_callBK (cr_maxD hcalm) hg hm hv (pa_cons he pa_nil hs1) (pk_cons (pk_kwc hk) pk_nil) (by decide) (by decide) hs2 hs3).imp ?_
  rintro σ H Q ⟨G, W, ρ, Qd, s, h, fin⟩
  refine ⟨G, W, ρ, _, s, h, fun v H1 W1 ρ1 k d le fr s1 r1 q1 => ?_⟩
  obtain ⟨ns, hd, q1⟩ := q1
  have vw := s1.view r1
  obtain ⟨k, d⟩ := (⟨k, d⟩ : Kd × D)
  simp only at hd
  subst hd
  cases vw with
  | @lst _ a vs e1 rr =>
    obtain rfl := rr.ints
    exact ⟨a, ns, z, rfl, rfl, SqL.of e1, fin _ H1 W1 ρ1 .fz (.int _) le fr s1 (show Rep O W1 (.int _) (.int _) from .int) q1⟩
end
end TC

/-! max(generator, default=c). -/
namespace TC
open PySem PySem.Spec PyProof.Rows L2 GenW
def mEm : Option Int → D → (Option Int → Prop) → Prop := fun st d k => match d with
  | .int i => k (mx st i)
  | _ => False
def mCon (Qn : Option Int → Prop) : Con (Option Int) where
  coh := fun st cp _ => ∃ S items c, cp = [(S, lstObj items c)] ∧ bestA st items
  em := mEm
  dn := Qn
  mono := fun _ h => h
theorem bestA_inj {st st' : Option Int} {items : Array Value} (h : bestA st items) (h' : bestA st' items) : st = st' := by
  cases st with
  | none =>
    obtain rfl : items = #[] := h
    cases st' with
    | none => rfl
    | some m => obtain ⟨t, e⟩ : ∃ t, #[] = #[Value.int m t, .int m t] := h'; cases e
  | some m =>
    obtain ⟨t, rfl⟩ : ∃ t, items = #[Value.int m t, .int m t] := h
    cases st' with
    | none => cases h'
    | some m' =>
      obtain ⟨t', e⟩ : ∃ t', #[Value.int m t, .int m t] = #[Value.int m' t', .int m' t'] := h'
      have e1 := congrArg (fun a : Array Value => a[0]?) e
      simp at e1
      rw [e1.1]
section
variable {O : ObjI} {TB : List Addr} {P : Program} {w : World} {Z : Cx} {G : Kp} {W0 : Wd} {a gn S : Nat} {oa : Obj}
theorem max_loopG {A : Around} {R : Result → Shared → Prop} {Qn : Option Int → Prop} {d : Value} (hh : A.handled = none) (hd : A.in1.depth < recursionLimit) (isg : ∀ h : Heap, h.get? a = some oa → h.IsGen a gn) (hpn : Z.pn = [(a, oa)]) (hca : CaOk Z [S])
    (hR : ∀ cp σ H W ρ st s1 v h' tk, GSt O TB Z G W0 [S] (mCon Qn) cp [] σ H W ρ st s1 → Qn st → mxR st d v → (∀ b o, b ≠ S → s1.heap.get? b = some o → h'.get? b = some o) → R (.ok (.ret v)) { s1 with heap := h', toks := tk }) :
    ∀ (n : Nat) (s : Shared) (st : Option Int) (items : Array Value) (c : Nat), Susp O TB P w A.in1.in1 Z G W0 [S] (mCon Qn) a gn oa n s → s.heap.get? S = some (lstObj items c) → bestA st items →
      codeAny (model P w) A (.builtin "max.loop" ⟨[.ref a, .none, .ref S], [(Str.ofString "default", d)]⟩) R s := by
  have hname : (toString "max" ++ toString ".loop" : String) = "max.loop" := by decide
  -- what the box holds behind a step is what it held before
  have same : ∀ {cp ip : List (Addr × Obj)} {σ : L2.St} {H : Hp} {W : Wd} {ρ : Rho} {st st0 : Option Int} {s s1 : Shared} {items : Array Value} {c : Nat}, GSt O TB Z G W0 [S] (mCon Qn) cp ip σ H W ρ st s1 → At cp s → s.heap.get? S = some (lstObj items c) → bestA st0 items → st = st0 ∧ s1.heap.get? S = some (lstObj items c) ∧ cp = [(S, lstObj items c)] := fun {cp ip σ H W ρ st st0 s s1 items c} gst hat hS hb => by
    obtain ⟨S', it, c', e, b⟩ := gst.coh
    have ad := gst.ad
    subst e
    obtain rfl : S' = S := by simpa using ad
    have h1 := hat (S', lstObj it c') (List.mem_singleton.mpr rfl)
    have h1 : s.heap.get? S' = some (lstObj it c') := h1
    rw [hS] at h1
    have e2 : lstObj items c = lstObj it c' := Option.some.inj h1
    have hp := gst.inv.pin (S', lstObj it c') (List.mem_append_right _ (List.mem_append_left _ (List.mem_singleton.mpr rfl)))
    have e3 : items = it := by
      have := congrArg (fun o : Obj => o.data) e2
      injection this with h _
    subst e3
    exact ⟨bestA_inj b hb, by rw [e2]; exact hp.1, by rw [e2]⟩
  have wk1 : ∀ {cp ip : List (Addr × Obj)} {σ : L2.St} {H : Hp} {W : Wd} {ρ : Rho} {st : Option Int} {s1 : Shared}, GSt O TB Z G W0 [S] (mCon Qn) cp ip σ H W ρ st s1 → Woke cp cp s1 s1 := fun {cp ip σ H W ρ st s1} gst =>
    ⟨rfl, gst.inv.bare, rfl, fun b o _ e => e, fun p hp => by
      have z := gst.inv.pin p (List.mem_append_right _ (List.mem_append_left _ hp))
      exact ⟨z.1, z.2.2.2.2⟩⟩
  have wk2 : ∀ {cp ip : List (Addr × Obj)} {σ : L2.St} {H : Hp} {W : Wd} {ρ : Rho} {st : Option Int} {s1 : Shared} {items : Array Value} {c : Nat}, GSt O TB Z G W0 [S] (mCon Qn) cp ip σ H W ρ st s1 → s1.heap.get? S = some (lstObj items c) → ∀ (i : Int) (u : Tok), ∃ c', (s1.heap.update S (Obj.mapSeq fun _ => #[.int i u, .int i u])).get? S = some (lstObj #[.int i u, .int i u] c') ∧ Woke cp [(S, lstObj #[.int i u, .int i u] c')] s1 { s1 with heap := s1.heap.update S (Obj.mapSeq fun _ => #[.int i u, .int i u]) } := fun {cp ip σ H W ρ st s1 items c} gst hS1 i u => by
    have ad := gst.ad
    have h2 := Heap.get?_update_self (Obj.mapSeq fun _ => #[Value.int i u, .int i u]) hS1 rfl
    refine ⟨_, h2, rfl, gst.inv.bare, ad.symm, fun b o hb e => ?_, fun p hp => ?_⟩
    · rw [ad] at hb
      exact (Heap.get?_update_other _ _ (fun z => hb (by rw [← z]; exact List.mem_singleton.mpr rfl))).trans e
    · have e : p = _ := List.mem_singleton.mp hp
      subst e
      exact ⟨h2, fun v z => by cases z⟩
  have mxgt : ∀ {m i : Int}, i > m → mx (some m) i = some i := fun {m i} h => by unfold mx; simp only [h, if_true]
  have mxle : ∀ {m i : Int}, ¬ i > m → mx (some m) i = some m := fun {m i} h => by unfold mx; simp only [h, if_false]
  intro n
  induction n with
  | zero =>
    intro s st items c hS hbx hb
    refine codeAny_builtin F.entry_max_loop ?_
    rw [Around.under_plainId F.plain_max_loop _]
    show wpAny _ A.in1 (seqItems? (.ref S) >>= _) _ _ s
    refine wpAny_bind (wpAny_seqItems hbx rfl ?_)
    show wpAny _ A.in1 (tryCatch (pyNext (.ref a)) _ >>= _) _ _ s
    refine wpAny_bind (wpAny_tryCatch (gnext hh hd isg hpn hca hS (fun v s1 cp ip σ H W ρ st' d' kk x hat gst rv rp em next => ?_) fun s1 cp σ H W ρ st' hat gst dn => ?_))
    · cases d' with
      | int i =>
        obtain ⟨rfl, hS1, ecp⟩ := same gst hat hbx hb
        have em : kk (mx st' i) := em
        cases st' with
        | none =>
          obtain ⟨c', _, wk⟩ := wk2 gst hS1 i 0
          exact (next _ (some i) _ wk rfl ⟨S, _, c', rfl, ⟨0, rfl⟩⟩ em).elim
        | some m =>
          by_cases hgt : i > m
          · obtain ⟨c', _, wk⟩ := wk2 gst hS1 i 0
            rw [mxgt hgt] at em
            exact (next _ (some i) _ wk rfl ⟨S, _, c', rfl, ⟨0, rfl⟩⟩ em).elim
          · rw [mxle hgt] at em
            exact (next _ (some m) _ (wk1 gst) rfl gst.coh em).elim
      | _ => exact (show False from em).elim
    · obtain ⟨rfl, hS1, ecp⟩ := same gst hat hbx hb
      cases st' with
      | none =>
        obtain rfl : items = #[] := hb
        show wpAny _ A.in1 (rule _ >>= fun _ => ret d) _ _ _
        refine wpAny_bind (wpAny_rule (wpAny_pure ?_))
        exact hR cp σ H W ρ none s1 d _ s1.toks gst dn rfl fun b o _ e => e
      | some m =>
        obtain ⟨t, rfl⟩ : ∃ t, items = #[.int m t, .int m t] := hb
        show wpAny _ A.in1 (updateSeq S (fun _ => #[]) >>= _) _ _ _
        refine wpAny_bind ?_
        refine wpAny_updateSeq hS1 rfl (wpAny_bind (wpAny_letGo (wpAny_pure ?_)))
        exact hR cp σ H W ρ (some m) s1 (.int m t) _ s1.toks gst dn ⟨t, rfl⟩ fun b o hb e => (Heap.get?_update_other _ _ (Ne.symm hb)).trans e
  | succ n ih =>
    intro s st items c hS hbx hb
    refine codeAny_builtin F.entry_max_loop ?_
    rw [Around.under_plainId F.plain_max_loop _]
    show wpAny _ A.in1 (seqItems? (.ref S) >>= _) _ _ s
    refine wpAny_bind (wpAny_seqItems hbx rfl ?_)
    show wpAny _ A.in1 (tryCatch (pyNext (.ref a)) _ >>= _) _ _ s
    refine wpAny_bind (wpAny_tryCatch (gnext hh hd isg hpn hca hS (fun v s1 cp ip σ H W ρ st' d' kk x hat gst rv rp em next => ?_) fun s1 cp σ H W ρ st' hat gst dn => ?_))
    · cases d' with
      | int i =>
        obtain ⟨rfl, hS1, ecp⟩ := same gst hat hbx hb
        have em : kk (mx st' i) := em
        cases rp
        obtain ⟨u, rfl⟩ : ∃ u, v = .int i u := rv
        cases st' with
        | none =>
          obtain rfl : items = #[] := hb
          obtain ⟨c', hS2, wk⟩ := wk2 gst hS1 i u
          show wpAny _ A.in1 (updateSeq S (fun _ => #[.int i u, .int i u]) >>= _) _ _ _
          refine wpAny_bind ?_
          refine wpAny_updateSeq hS1 rfl ?_
          rw [hname]
          exact wpAny_pure ⟨plainId_quiet F.plain_max_loop _, ih _ (some i) _ c' (next _ (some i) _ wk rfl ⟨S, _, c', rfl, ⟨u, rfl⟩⟩ em) hS2 ⟨u, rfl⟩⟩
        | some m =>
          obtain ⟨t, rfl⟩ : ∃ t, items = #[.int m t, .int m t] := hb
          show wpAny _ A.in1 (tryCatch (holding [.int i u, .int i u] (richCompare .Gt (.int i u) (.int m t) >>= _)) _ >>= _) _ _ _
          refine wpAny_bind (wpAny_tryCatch (wpAny_holding (wpAny_bind (gt_int (M := fun _ => True) ?_))))
          refine wpAny_bind (wpAny_holding (wpAny_truthy_bool ?_))
          refine wpAny_bind (wpAny_letGo (wpAny_pure ?_))
          by_cases hgt : i > m
          · rw [if_pos (decide_eq_true hgt)]
            rw [mxgt hgt] at em
            obtain ⟨c', hS2, wk⟩ := wk2 gst hS1 i u
            refine wpAny_bind ?_
            refine wpAny_updateSeq hS1 rfl (wpAny_bind (wpAny_letGo ?_))
            rw [hname]
            exact wpAny_pure ⟨plainId_quiet F.plain_max_loop _, ih _ (some i) _ c' (next _ (some i) _ wk rfl ⟨S, _, c', rfl, ⟨u, rfl⟩⟩ em) hS2 ⟨u, rfl⟩⟩
          · rw [if_neg (fun z => hgt (of_decide_eq_true z))]
            rw [mxle hgt] at em
            refine wpAny_bind (wpAny_letGo ?_)
            rw [hname]
            exact wpAny_pure ⟨plainId_quiet F.plain_max_loop _, ih _ (some m) _ c (next _ (some m) _ (wk1 gst) rfl gst.coh em) hS1 ⟨t, rfl⟩⟩
      | _ => exact (show False from em).elim
    · obtain ⟨rfl, hS1, ecp⟩ := same gst hat hbx hb
      cases st' with
      | none =>
        obtain rfl : items = #[] := hb
        show wpAny _ A.in1 (rule _ >>= fun _ => ret d) _ _ _
        refine wpAny_bind (wpAny_rule (wpAny_pure ?_))
        exact hR cp σ H W ρ none s1 d _ s1.toks gst dn rfl fun b o _ e => e
      | some m =>
        obtain ⟨t, rfl⟩ : ∃ t, items = #[.int m t, .int m t] := hb
        show wpAny _ A.in1 (updateSeq S (fun _ => #[]) >>= _) _ _ _
        refine wpAny_bind ?_
        refine wpAny_updateSeq hS1 rfl (wpAny_bind (wpAny_letGo (wpAny_pure ?_)))
        exact hR cp σ H W ρ (some m) s1 (.int m t) _ s1.toks gst dn ⟨t, rfl⟩ fun b o hb e => (Heap.get?_update_other _ _ (Ne.symm hb)).trans e
end
def vMaxG (iv : IvT) (own : List Nat) (g : GtT) (ts : TvT) (bd : BdG) (z : Int) : EvT := fun ρ Q => iv ρ fun items ρ1 => loopD g ts (bd _ mEm) (blkR own ρ1) items none fun st => Q (.fz, .int (st.getD z)) ρ1
section
variable {O : ObjI} {TB : List Addr} {X : Cx} {k m : Nat} {e ed : Expr} {iv : IvT} {own : List Nat} {g : GtT} {ts : TvT} {bd : BdG} {z : Int} {p kp pos : Pos}
theorem de_maxG (hr : Room (k + 3) X.A) (hg : Gl X "max") (hm : X.mg "max" = none) (hb : bootBuiltins "max" = some (.builtin "max")) (hk : KwC X ed z) (hG : GExp O TB X k e iv own g ts bd m)
    (hs1 : starEach [e] X.env = (false, eval e X.env) :: starEach [] X.env := by rfl) (hs2 : backTo pos (starEach [e] X.env) = (false, eval e X.env) :: backTo pos (starEach [] X.env) := by rfl) (hs3 : (backTo pos (starEach [e] X.env)).any (·.1) = false := by rfl) :
    DE O TB X (.Call (.Name "max" p) [e] [⟨some "default", ed, kp⟩] pos) (vMaxG iv own g ts bd z) := by
  refine ⟨fun pins s σ H Q I h => ?_⟩
  obtain ⟨G, W, ρ, Qd, so, hq, fin⟩ := h
  have hname : (toString "max" ++ toString ".loop" : String) = "max.loop" := by decide
  refine wpAny_Call_Name_kw (ld_blt I hg hm hb ?_)
  refine PyProof.Rows.callWith_kw ?_ hs2 hs3
  rw [hs2]
  refine Calls.spliced_cons (hG I so hq fun a gn s5 H3 W3 ρ3 items Zf G' oa I5 so5 le5 fr5 q5 R => ?_)
  refine Calls.spliced_nil ?_
  show wpAny _ _ (evalAll [(do let v ← eval ed X.env; standAt pos; pure v)]) _ _ s5
  refine wpAny_evalAll_cons (wpAny_bind (hk s5 _ fun t tk => wpAny_bind (wpAny_standAt (wpAny_pure ?_))))
  refine wpAny_evalAll_nil ?_
  show wpAny _ _ (call (.builtin "max") [.ref a] [(Str.ofString "default", .int z t)]) _ _ _
  refine PyProof.Rows.kmk_tree F.kind_max F.plain_max F.entry_max (args_max_default _ _) ?_
  show wpAny _ X.A.in1 (Builtin.Builtins.bindParams "max" ["key", "default"] 0 ⟨[], [(Str.ofString "default", .int z t)]⟩ >>= _) _ _ _
  refine wpAny_bind (wpAny_of_eq (show Builtin.Builtins.bindParams "max" ["key", "default"] 0 ⟨[], [(Str.ofString "default", .int z t)]⟩ = pure [none, some (.int z t)] from rfl) ?_)
  refine wpAny_bind (wpAny_pure ?_)
  refine wpAny_bind (wpAny_pyIter_gen (s := { s5 with toks := tk }) (R.isg _ R.obj) ?_)
  refine wpAny_bind (wpAny_newObj_type ?_)
  rw [hname]
  have hS : (s5.heap.push { cls := .type "list", data := .seq #[] 0 }).get? s5.heap.objs.size = some (lstObj #[] 0) := Heap.get?_push_size _ rfl
  have r1 : Room (k + 1) X.A.in1.in1 := (Room.in1 (Room.in1 hr))
  refine wpAny_pure ⟨plainId_quiet F.plain_max_loop _, max_loopG (O := O) (TB := TB) (A := X.A) (Z := Zf X.A.in1.in1) (G := G') (W0 := W3) (S := s5.heap.objs.size) (Qn := fun st => Qd (.fz, .int (st.getD z)) ρ3) hr.hd (by have := hr.dp; show X.A.depth < _; omega) R.isg (R.pw _).2.2 (R.ca _ [s5.heap.objs.size] (by simp)) (fun cp σ1 H1 W1 ρ1 st s1 v h' tk' gst qn hv hk2 => ?_) (items.length * m) _ none #[] 0
    (susp0 (mCon _) R (cp := [(s5.heap.objs.size, lstObj #[] 0)]) (st := none) r1 I5.ok.frames rfl rfl I5.bare I5.nolimit (fun b o e => Heap.get?_push_of_some _ e) (fun p hp => ?_) ⟨_, _, _, rfl, rfl⟩ q5) hS rfl⟩
  · obtain ⟨I6, so6⟩ := R.back _ _ _ _ _ _ _ _ _ _ _ gst
    have fS : FpOk X pins H3 s5.heap.objs.size := I5.fpOk (Nat.le_refl _) (I5.hok.fresh (Nat.le_refl _))
    obtain ⟨S', it, c', ecp, _⟩ := gst.coh
    have ad := gst.ad
    subst ecp
    obtain rfl : S' = s5.heap.objs.size := by simpa using ad
    have hp := gst.inv.pin (s5.heap.objs.size, lstObj it c') (List.mem_append_right _ (List.mem_append_left _ (List.mem_singleton.mpr rfl)))
    obtain ⟨_, f1, f2, f3, f4, f5⟩ := fS
    have I7 : Inv X pins σ H1 { s1 with heap := h', toks := tk' } := I6.turned (t' := tk') (fun b o hb e => hk2 b o hb e) hp.2.1 f1 f3 f4 f5
    refine ⟨.int (st.getD z), H1, I7, ?_, fin _ _ W1 ρ3 .fz (.int (st.getD z)) (le5.trans gst.le) fr5 so6 (show Rep O W1 (.int _) (.int _) from .int) qn⟩
    unfold mxR at hv
    cases st with
    | none => exact ⟨t, hv⟩
    | some m => obtain ⟨t', rfl⟩ := hv; exact ⟨t', rfl⟩
  · have e : p = _ := List.mem_singleton.mp hp
    subst e
    exact ⟨Nat.le_refl _, hS, fun v z => by cases z⟩
end
end TC

/-! x.index(c, k); list(range(a, b, -1)); found.extend(list); what is never reached. -/
namespace TC
open PySem PySem.Spec PyProof.Rows L2 GenW
theorem occ_from (s : List Nat) (c lo : Nat) (limit : Nat) : Builtin.Str.occurrences (mkS s) (mkS [c]) lo (mkS s).length limit = (((List.range' lo (s.length + 1 - lo)).filter fun i => decide (s[i]? = some c))).take limit := by
  rw [StrLaws.occ_eq]
  have h := occ_run (mkS s) c (mkS s).length limit ((mkS s).length + 1 - lo) lo lo #[] (Nat.le_refl _) rfl
  refine h.trans ?_
  rw [mkS_toList, mkS_len]
  show [] ++ _ = _
  rw [List.nil_append]
  rfl
theorem places_from {c : Nat} {s : List Nat} {lo : Nat} (h : c ∈ s.drop lo) (hl : lo ≤ s.length) : ∃ r, ((List.range' lo (s.length + 1 - lo)).filter fun i => decide (s[i]? = some c)) = (lo + (s.drop lo).idxOf c) :: r := by
  have key : ∀ (t : List Nat) (a : Nat), c ∈ t → ∃ r, ((List.range' a (t.length + 1)).filter fun i => decide (t[i - a]? = some c)) = (a + t.idxOf c) :: r := by
    intro s
    induction s with
    | nil => intro a h; cases h
    | cons x s ih =>
      intro a h
      rw [List.length_cons, List.range'_succ]
      by_cases hx : x = c
      · subst hx
        rw [List.filter_cons_of_pos (by simp), List.idxOf_cons_self, Nat.add_zero]
        exact ⟨_, rfl⟩
      · have hm : c ∈ s := by
          rcases List.mem_cons.mp h with e | e
          · exact absurd e.symm hx
          · exact e
        rw [List.filter_cons_of_neg (by simp [hx])]
        obtain ⟨r, hr⟩ := ih (a + 1) hm
        refine ⟨r, ?_⟩
        have e : (List.range' (a + 1) (s.length + 1)).filter (fun i => decide ((x :: s)[i - a]? = some c)) = (List.range' (a + 1) (s.length + 1)).filter (fun i => decide (s[i - (a + 1)]? = some c)) := by
          refine List.filter_congr fun i hi => ?_
          have := (List.mem_range'_1.mp hi).1
          rw [show i - a = (i - (a + 1)) + 1 by omega]
          rfl
        have e2 : (x :: s).idxOf c = s.idxOf c + 1 := by
          rw [List.idxOf_cons, show (x == c) = false by simpa using hx]
          rfl
        rw [e, hr, e2]
        congr 1
        omega
  obtain ⟨r, hr⟩ := key (s.drop lo) lo h
  refine ⟨r, ?_⟩
  rw [← hr, List.length_drop, show s.length - lo + 1 = s.length + 1 - lo by omega]
  refine List.filter_congr fun i hi => ?_
  have := (List.mem_range'_1.mp hi).1
  rw [List.getElem?_drop, show lo + (i - lo) = i by omega]
section
variable {O : ObjI} {Y : ExI} {TB : List Addr} {E : ExT} {X : Cx}
/-- x.index(c), x.index(c, k) -/
def sindexXD : OpM := fun d ds Q => match d, ds with
  | .str s, [.str [c]] => c ∈ s ∧ Q (.fz, .int (s.idxOf c))
  | .str s, [.str [c], .int k] => 0 ≤ k ∧ k.toNat ≤ s.length ∧ c ∈ s.drop k.toNat ∧ Q (.fz, .int (k + (s.drop k.toNat).idxOf c))
  | _, _ => False
theorem sindexX2 {d e k : D} {Q : Kd × D → Prop} (h : sindexXD d [e, k] Q) : ∃ a c i, d = .str a ∧ e = .str [c] ∧ k = .int i ∧ 0 ≤ i ∧ i.toNat ≤ a.length ∧ c ∈ a.drop i.toNat ∧ Q (.fz, .int (i + (a.drop i.toNat).idxOf c)) := by
  unfold sindexXD at h
  split at h
  · next heq => simp at heq
  · next a c i heq =>
    simp only [List.cons.injEq, and_true] at heq
    obtain ⟨rfl, rfl⟩ := heq
    exact ⟨_, _, _, rfl, rfl, rfl, h⟩
  · exact h.elim
theorem sindexX3 {d a b c : D} {l : List D} {Q : Kd × D → Prop} (h : sindexXD d (a :: b :: c :: l) Q) : False := by
  unfold sindexXD at h
  split at h
  · next heq => simp at heq
  · next heq => simp at heq
  · exact h
theorem mt_sindexXD : MtR X "str.index" (rM O TB sindexXD) := by
  rintro pins s σ' H x xs v us Q I rx rs ⟨G, W, ρ, σ, d, ds, Qd, S, vx, vw, ho, fin⟩
  match ds, vw, ho with
  | [e], .cons vy .nil, ho =>
    refine mt_sindexD (O := O) (TB := TB) pins s σ' H x _ v us Q I rx rs ⟨G, W, ρ, σ, d, [e], Qd, S, vx, .cons vy .nil, ?_, fin⟩
    cases d <;> cases e <;> first | exact (show False from ho).elim | skip
    rename_i a b
    match b, ho with
    | [c], ho => exact ho
    | [], ho => exact (show False from ho).elim
    | _ :: _ :: _, ho => exact (show False from ho).elim
  | [e, k], .cons vy (.cons vk .nil), ho =>
    obtain ⟨a, c, i, rfl, rfl, rfl, h0, h1, h2, q⟩ := sindexX2 ho
    cases vx; cases vy; cases vk
    obtain ⟨t, rfl⟩ := rx
    obtain ⟨u1, u2, rfl, r1, r2⟩ := vals2 rs
    obtain ⟨t1, rfl⟩ := r1
    obtain ⟨t2, rfl⟩ := r2
    obtain ⟨r, hr⟩ := places_from h2 h1
    have hf : fromIndex (mkS a).length i = i.toNat := by
      unfold fromIndex
      rw [if_neg (by omega)]
      omega
    have hk : ((i.toNat + (a.drop i.toNat).idxOf c : Nat) : Int) = i + (a.drop i.toNat).idxOf c := by omega
    refine call_gives PySem.F.slot_str_index (typeIs_str _ _ _) PySem.F.entry_str_index (PySem.F.args_str_index_3 _ _ _) (gives_str_index_from (mkS a) (mkS [c]) i t t1 t2 (i.toNat + (a.drop i.toNat).idxOf c) [] (by rw [hf, occ_from, hr]; rfl)) ?_
    exact ⟨.int (i + (a.drop i.toNat).idxOf c), H, I.tok _, ⟨_, by rw [← hk]⟩, S.plain fin .int q⟩
  | [], .nil, ho => cases d <;> exact (show False from ho).elim
  | _ :: _ :: _ :: _, _, ho =>
    exact (sindexX3 ho).elim
/-! ### list(range(a, b, -1)) -/
def rngDV (hi : Int) (n : Nat) : List V := (List.range n).map fun (i : Nat) => V.int (hi - (i : Int))
theorem vals_rgD {hi : Int} {n : Nat} {acc : Array Value} (h : ItemsOf (fun i v => ∃ t, v = .int (hi + i * (-1)) t) acc n) : Vals (rngDV hi n) acc.toList := by
  have e : acc.toList.length = n := by rw [Array.length_toList]; exact h.1
  unfold rngDV
  rw [← e]
  refine vals_of_get acc.toList _ fun j u hj => ?_
  obtain ⟨t, rfl⟩ := h.2 j u (by rw [← hj, Array.getElem?_toList])
  exact ⟨t, by rw [show hi + (j : Int) * (-1) = hi - j by omega]⟩
def PRgD (X : Cx) (e : Expr) (t : L2.St → Hp → (Int → Int → Hp → Prop) → Prop) : Prop :=
  ∀ (pins : List (Addr × Obj)) (s : Shared) (σ : L2.St) (H : Hp) (Q : Int → Int → Hp → Prop), Inv X pins σ H s → t σ H Q →
    wpAny (model X.prog X.w) X.A (eval e X.env) (fun x s' => ∃ r a b t u v H', x = .ref r ∧ IsRange s'.heap r a b (-1) t u v ∧ Inv X pins σ H' s' ∧ Q a b H') X.xe s
theorem prgD {a b c : Expr} {ta : TA} {p pos : Pos} (hg : Gl X "range") (hm : X.mg "range" = none) (ha : PA X [a, b, c] ta)
    (hs : starEach [a, b, c] X.env = (false, eval a X.env) :: starEach [b, c] X.env := by rfl) (hpl : (backTo pos (starEach [b, c] X.env)).any (·.1) = false := by rfl) :
    PRgD X (.Call (.Name "range" p) [a, b, c] [] pos) (fun σ H Q => ta σ H fun vs H1 => ∃ i j, vs = [.int i, .int j, .int (-1)] ∧ Q i j H1) := by
  intro pins s σ H Q I h
  refine Call_ (ld_blt I hg hm boot_range (PyProof.Rows.callWith_type1 (thn (ha.run pos pins s σ H _ I h) fun us s1 ⟨vs, H1, I1, r1, q1⟩ => ?_) hs hpl))
  obtain ⟨i, j, rfl, q⟩ := q1
  cases r1 with
  | cons r rr =>
    cases rr with
    | cons r' rr =>
      cases rr with
      | cons r'' rr =>
        cases rr
        obtain ⟨t, rfl⟩ := r
        obtain ⟨t', rfl⟩ := r'
        obtain ⟨t'', rfl⟩ := r''
        refine call_range_3 (by decide) ?_ (.inl (PyProof.noPylong_small (by decide)))
        exact ⟨_, i, j, _, _, _, H1, rfl, IsRange.new .., I1.kept (t' := s1.toks) fun b o e => Heap.get?_push_of_some _ e, q⟩
theorem pe_lrD {e : Expr} {te : L2.St → Hp → (Int → Int → Hp → Prop) → Prop} {p pos : Pos} (hc : X.calm = true) (hg : Gl X "list") (hm : X.mg "list" = none) (he : PRgD X e te) (na : starEach [e] X.env = (false, eval e X.env) :: starEach [] X.env := by rfl) :
    PE X (.Call (.Name "list" p) [e] [] pos) (fun σ H Q => te σ H fun a b H1 => (-(2 ^ 62) ≤ a ∧ a < 2 ^ 62 ∧ -(2 ^ 62) ≤ b ∧ b < 2 ^ 62 ∧ (a - b).toNat ≤ 2 ^ 24) ∧ ∀ q, H1 q = none → Q (.ref q) (upd H1 q (.lst (rngDV a (a - b).toNat)))) := by
  refine ⟨fun pins s σ H Q I h => ?_⟩
  refine Call_ (ld_blt I hg hm boot_list (PyProof.Rows.callWith_type1 (args_cons (thn (he pins s σ H _ I h) fun x s1 ⟨r, a, b, t, u, v, H1, ex, hr, I1, ok, q⟩ => args_nil ?_) na) na))
  subst ex
  obtain ⟨b1, b2, b3, b4, b5⟩ := ok
  refine call_list_range (n := (a - b).toNat) (I1.ok.hd hc) hr (PySem.W.small_down b1 b2 b3 b4) (PySem.W.rangeSize_downNat a b) b5 fun h' tk acc c' hk e' hi => ?_
  refine ⟨.ref s1.heap.objs.size, upd H1 s1.heap.objs.size (.lst (rngDV a (a - b).toNat)), I1.laid hk (Nat.le_refl _) (show ObjOk X.prog X.w _ _ _ (.lst (rngDV a (a - b).toNat)) from ⟨?_, acc.toList, c', vals_rgD hi, ?_⟩), rfl, q _ (I1.hok.fresh (Nat.le_refl _))⟩
  · unfold rngDV; rw [List.length_map, List.length_range, sizeLine_eq]; omega
  · rw [Array.toArray_toList]; exact e'
/-- list(range(i, j, -1)) -/
def vLrD (ar : ArT) : EvT := fun ρ Q => ar ρ fun rs ρ1 => match rs with
  | [(_, .int i), (_, .int j), (_, .int c)] => (-(2 ^ 62) ≤ i ∧ i < 2 ^ 62 ∧ -(2 ^ 62) ≤ j ∧ j < 2 ^ 62 ∧ c = -1 ∧ (i - j).toNat ≤ 2 ^ 24) ∧ Q (.fr, .lst (rngDn i (i - j).toNat)) ρ1
  | _ => False
theorem rngDn_rep {W : Wd} {hi : Int} {n : Nat} : RepL O W (rngDn hi n) (rngDV hi n) := by
  unfold rngDn rngDV
  generalize List.range n = l
  induction l with
  | nil => exact .nil
  | cons i l ih => exact .cons .int ih
theorem de_lrD {a b c : Expr} {ar : ArT} {p p2 pos pos2 : Pos} (hc : X.calm = true) (hgl : Gl X "list") (hml : X.mg "list" = none) (hg : Gl X "range") (hm : X.mg "range" = none) (ha : DA O TB X [a, b, c] ar)
    (hs : starEach [a, b, c] X.env = (false, eval a X.env) :: starEach [b, c] X.env := by rfl) (hpl : (backTo pos2 (starEach [b, c] X.env)).any (·.1) = false := by rfl)
    (na : starEach [(Expr.Call (.Name "range" p2) [a, b, c] [] pos2)] X.env = (false, eval (Expr.Call (.Name "range" p2) [a, b, c] [] pos2) X.env) :: starEach [] X.env := by rfl) :
    DE O TB X (.Call (.Name "list" p) [.Call (.Name "range" p2) [a, b, c] [] pos2] [] pos) (vLrD ar) := by
  refine L2.PE.imp (pe_lrD hc hgl hml (prgD hg hm ha hs hpl) na) ?_
  rintro σ H Q ⟨G, W, ρ, Qd, s, ev, fin⟩
  refine ⟨G, W, ρ, _, s, ev, fun vs H' W' ρ' rs le fr s' r q => ?_⟩
  split at q
  · cases r with
    | cons r1 t =>
      cases t with
      | cons r2 t =>
        cases t with
        | cons r3 t =>
          cases t
          have e1 := RepK.int s' r1
          have e2 := RepK.int s' r2
          have e3 := RepK.int s' r3
          subst e1; subst e2; subst e3
          obtain ⟨⟨h1, h2, h3, h4, rfl, h5⟩, q⟩ := q
          exact ⟨_, _, rfl, ⟨h1, h2, h3, h4, h5⟩, s'.newL (Qd := fun r => Qd r ρ') (fun z H2 W2 k dz le2 s2 r2 q2 => fin z H2 W2 ρ' k dz (le.trans le2) fr s2 r2 q2) rngDn_rep q⟩
  · exact q.elim
/-! ### found.extend(list) -/
def sExt (i : Nat) (ev : EvT) : StT := fun ρ D => (∃ l0, ρ[i]? = some (.ow (.lst l0))) ∧ ev ρ fun r ρ1 => ∃ l l2, ρ1[i]? = some (.ow (.lst l)) ∧ r.2 = .lst l2 ∧ l.length + l2.length ≤ sizeLine ∧ D.nx (ρ1.set i (.ow (.lst (l ++ l2))))
theorem RepL.appendL {W : Wd} : ∀ {a b : List D} {va vb : List V}, RepL O W a va → RepL O W b vb → RepL O W (a ++ b) (va ++ vb)
  | _, _, _, _, .nil, h => h
  | _, _, _, _, .cons r t, h => .cons r (RepL.appendL t h)
theorem ds_ext {E : XK} {i : Nat} {x : Str} {e : Expr} {ev : EvT} {p1 ap cp pos : Pos} (he : DE O TB X e ev) (hN : X.N[i]? = some x := by rfl) (hv : Vis X.env.scope x := by first | exact Or.inl rfl | exact Or.inr (Or.inl rfl) | exact Or.inr (Or.inr rfl)) (hd : (x == ("__debug__" : Str)) = false := by decide)
    (hcd : (x == ("__classdict__" : Str)) = false := by decide) (hs : swapsWith (.Call (.Attribute (.Name x p1) "extend" ap) [e] [] cp) none pos.line X.env = pure false := by rfl)
    (hbase : attributeBase (.Name x p1) "extend" X.env (eval (.Name x p1) X.env) = eval (.Name x p1) X.env := by rfl)
    (hfew : ((backTo cp (starEach [e] X.env)).all (fun x => !x.1) && (backToKw cp (keywordEach [] X.env)).all (fun x => x.1.isSome)
      && decide (([e] : List Expr).length + ([] : List Keyword).length + (if ([] : List Keyword).isEmpty then 0 else 1) < 30)) = true := by rfl)
    (hline : (ap.endLine == cp.line) = true := by rfl) (hst : starEach [e] X.env = (false, eval e X.env) :: starEach [] X.env := by rfl) (hplain : (backTo cp (starEach [] X.env)).any (·.1) = false := by rfl) :
    DS O Y TB E X (.Expr (.Call (.Attribute (.Name x p1) "extend" ap) [e] [] cp) pos) (sExt i ev) := by
  refine L2.PS.imp (ps_expr (pe_bm F.plainAttrs_list F.slot_list_extend F.type_list_extend mt_extend (pe_var hN hv hd hcd) (pa_cons he pa_nil hst) hbase hfew hline hst hplain) hs) ?_
  rintro D σ H ⟨G, W, ρ, Dd, s, ⟨⟨l0, e0⟩, h⟩, n, _⟩
  obtain ⟨ov, h1, h2⟩ := s.sl i _ e0
  obtain ⟨a, o, rfl, hw, ho, c⟩ := h2
  obtain ⟨vs0, ho0⟩ : ∃ vs0, H a = some (.lst vs0) := by cases c with | lst r => exact ⟨_, ho⟩
  refine ⟨.ref a, h1, .inl ⟨rfl, _, SqL.of ho0⟩, ?_⟩
  refine ⟨G, W, ρ, _, s, h, fun v H' W' ρ' k d le fr s' r q => ?_⟩
  obtain ⟨l, l2, e2, ed, hl, q2⟩ := q
  obtain rfl : d = .lst l2 := ed
  obtain ⟨ov2, g1, g2⟩ := s'.sl i _ e2
  obtain ⟨a2, o2, rfl, hw2, ho2, c2⟩ := g2
  rw [h1] at g1; cases g1
  have vw := s'.view r
  cases c2 with
  | @lst _ vs r2 =>
    cases vw with
    | @lst _ b zs eb rb =>
      refine ⟨a, b, vs, zs, rfl, rfl, ho2, eb, by rw [← r2.length, ← rb.length]; exact hl, ?_⟩
      exact n σ _ W' _ le (s'.write e2 h1 (.lst (RepL.appendL r2 rb))) q2
/-! ### what is never reached -/
def sBad : StT := fun _ _ => False
theorem ds_bad {E : XK} {st : Stmt} : DS O Y TB E X st sBad := ⟨fun _ _ _ _ _ _ h => by obtain ⟨_, _, _, _, _, h, _⟩ := h; exact h.elim⟩
end
end TC

namespace PySem
open Spec PyProof.Rows
theorem meets_enumerate_new1B {v : Value} {o : Obj} {H : Heap → Prop} (B : Begins v o H) :
    Meets (Builtin.«enumerate.__new__» ⟨[.type "enumerate", v], []⟩) (fun _ R s => H s.heap ∧
      R (.ok (.ret (.ref (s.heap.push o).objs.size))) { s with heap := (s.heap.push o).push { cls := .type "enumerate", data := .fields #[.none, .bool false, .ref s.heap.objs.size, rawInt 0, .none, .none] } }) :=
  .of_wp fun prog w A R s h => by
    obtain ⟨hp, g, d, tk, os⟩ := s; obtain ⟨h1, h⟩ := h
    have hsub := sub_enumerate
    have q1 : ∀ {A' : Around} {E : Value → Shared → Prop} {Q : Value → Shared → Prop}, Q (.ref hp.objs.size) ⟨hp.push o, g, d, tk, os⟩ → wpAny (model prog w) A' (pyIter v) Q E ⟨hp, g, d, tk, os⟩ :=
      fun q => B.iter prog w _ _ ⟨hp, g, d, tk, os⟩ _ h1 q
    wp_walk using q1
    refine wpAny_stack_any fun st => wpAny_pure ?_
    split
    · rename_i c _ _ _ _ _
      cases (c == Value.type "enumerate")
      · wp_walk using q1
        exact ⟨_, rfl, h⟩
      · wp_walk using q1
        exact ⟨_, rfl, h⟩
    · wp_walk using q1
      exact ⟨_, rfl, h⟩
section
variable {prog : Program} {w : World} {A : Around} {E : Value → Shared → Prop} {s : Shared}
theorem enum_begins1 {v : Value} {o : Obj} {H : Heap → Prop} {Q : Value → Shared → Prop} (B : Begins v o H) (h1 : H s.heap)
    (h : ∀ h', IsEnum h' (s.heap.objs.size + 1) s.heap.objs.size 0 .none → h'.get? s.heap.objs.size = some o → h'.objs.size = s.heap.objs.size + 2 →
      (∀ b o, s.heap.get? b = some o → h'.get? b = some o) → Q (.ref (s.heap.objs.size + 1)) { s with heap := h' }) :
    wpAny (model prog w) A (call (.type "enumerate") [v]) Q E s := by
  refine callType_new F.called_enumerate (by decide) (F.typeCall_enumerate_1 _) (F.newCall_enumerate_1 _) (fun obj => F.args_object_init_2 obj _) F.entry_enumerate_new
    (meets_enumerate_new1B B) ⟨h1, ?_⟩
  have hz : (s.heap.push o).objs.size = s.heap.objs.size + 1 := Heap.size_push ..
  show _ ∧ _
  rw [hz]
  have he : IsEnum ((s.heap.push o).push { cls := .type "enumerate", data := .fields #[.none, .bool false, .ref s.heap.objs.size, rawInt 0, .none, .none] }) (s.heap.objs.size + 1) s.heap.objs.size 0 .none := by
    have := Heap.get?_push_size (s.heap.push o) (o := { cls := .type "enumerate", data := .fields #[.none, .bool false, .ref s.heap.objs.size, rawInt 0, .none, .none] }) rfl
    rw [hz] at this; exact this
  refine ⟨⟨_, he, rfl⟩, h _ he (Heap.get?_push_of_some _ (Heap.get?_push_size _ B.free)) (by rw [Heap.size_push, hz]) fun b o x => Heap.get?_push_of_some _ (Heap.get?_push_of_some _ x)⟩
end
end PySem
/-! enumerate of tuples. -/
namespace TC
open PySem PySem.Spec PyProof.Rows L2
def Itet (K : PySem.W.Frag) (a : Addr) (n : Nat) : It :=
  ⟨fun i H => ∃ (xs : List V) (x : V), SqT K H a xs ∧ xs[i]? = some x ∧ xs.length = n, fun i H v H' => ∃ T x, v = .ref T ∧ H T = none ∧ H' = upd H T (.tup [.int (i : Nat), x]) ∧ ∀ xs, SqT K H a xs → xs[i]? = some x, fun i H => ∃ xs : List V, SqT K H a xs ∧ xs.length = n ∧ n ≤ i⟩
theorem turn_enumT {P : Program} {w : World} {K : PySem.W.Frag} {elts : List Expr} {kk : Nat} {tpos : Pos} (a e it : Addr) (n : Nat) :
    Turn P w K (.Tuple elts kk tpos) (Itet K a n) [e, it] e (fun i h => (∃ old, IsEnum h e it ((i : Nat) : Int) old) ∧ h.IsTupleIter it a i ∧ e ≠ it ∧ (a ≠ it ∧ a ≠ e) ∧ i ≤ n) where
  mem := by simp
  obj := fun i h st b hb => by
    obtain ⟨⟨old, he⟩, ⟨o, ho, hc, hd⟩, _⟩ := st
    have e' : b = e ∨ b = it := by simpa using hb
    rcases e' with z | z
    · rw [z]; exact ⟨_, he, fun v q => nomatch q⟩
    · rw [z]; exact ⟨o, ho, fun v q => by rw [hd] at q; cases q⟩
  keep := fun i h h' st k => let ⟨⟨old, he⟩, hi, hne⟩ := st; ⟨⟨old, k e (by simp) _ he⟩, hi.at fun o q => k it (by simp) o q, hne⟩
  item := by
    intro X hP hw hK hc i pins s σ H E I hf st hg
    subst hP hw hK
    obtain ⟨⟨old, he⟩, hit, hne, ⟨hai, hae⟩, hi0⟩ := st
    obtain ⟨xs, x, hq, hx, hn⟩ := hg
    obtain ⟨its, rv, p, hz⟩ := I.tuple hq
    obtain ⟨u, hu, ru⟩ := rv.get hx
    have hlen := rv.length
    have hlt : i < xs.length := (List.getElem?_eq_some_iff.mp hx).1
    have hel : e < s.heap.objs.size := Heap.lt_size he
    have hil : it < s.heap.objs.size := by obtain ⟨_, q, _⟩ := hit; exact Heap.lt_size q
    have D := Draws.tuple (prog := X.prog) (w := X.w) (A := X.A.in1) (I.ok.hd hc) it a hai its.toArray
    refine wpAny_pyNext_enum_itemD D he ⟨hit, p⟩ (by rw [List.size_toArray]; omega) hne (by simp only [List.mem_cons, List.not_mem_nil, or_false, not_or]; exact ⟨hne, Ne.symm hae⟩) fun u' h' tk hP ho hit' hT hsz hk => ?_
    have eu : u' = u := by
      have : its.toArray[i]? = some u := by simpa using hu
      rw [this] at hP; injection hP with hP; exact hP.symm
    subst eu
    refine ⟨_, rfl, wpAny_letOwnedTupleGo_enum (s := { s with heap := h', toks := tk + 1 }) ho fun h'' he' sb => ?_⟩
    have hT2 : h''.get? s.heap.objs.size = some { cls := .type "tuple", data := .seq #[.int i tk, u'] } := (sb.2 _ (Nat.ne_of_gt hel)).trans hT
    have new : ObjOk X.prog X.w (upd H s.heap.objs.size (.tup [.int (i : Nat), x])) h'' s.heap.objs.size (.tup [.int (i : Nat), x]) :=
      ⟨by show 2 ≤ sizeLine; decide, [.int i tk, u'], .cons ⟨_, rfl⟩ (.cons ru .nil), ⟨_, hT2, rfl, _, rfl⟩⟩
    have I1 : Inv X pins σ (upd H s.heap.objs.size (.tup [.int (i : Nat), x])) { s with heap := h'', toks := tk + 1 } :=
      I.turnedNew (ch := [e, it]) (fun b ob hb q => (sb.2 b (fun z => hb (by simp [z]))).trans (hk b ob (fun z => hb (by simp [z])) (fun z => hb (by simp [z])) q)) hf (Nat.le_refl _) new
    refine ⟨.ref s.heap.objs.size, _, I1, rfl, ⟨_, x, rfl, I.hok.fresh (Nat.le_refl _), rfl, fun ys hy => by rw [I.tuple_inj hy hq]; exact hx⟩, ⟨⟨u', ?_⟩, hit'.1.at fun o q => (sb.2 it (Ne.symm hne)).trans q, hne, ⟨hai, hae⟩, by omega⟩, fun b hb => ?_⟩
    · have e1 : ((i + 1 : Nat) : Int) = (i : Int) + 1 := by omega
      rw [e1]; exact he'
    · have hb' : b < s.heap.objs.size := by
        have e' : b = e ∨ b = it := by simpa using hb
        rcases e' with z | z
        · rw [z]; exact hel
        · rw [z]; exact hil
      rw [upd_ne (Nat.ne_of_lt hb')]
      exact (hf b hb).1
  done := by
    intro X hP hw hK hc i pins s σ H E I hf st hg
    subst hP hw hK
    obtain ⟨⟨old, he⟩, hit, hne, ⟨hai, hae⟩, hi0⟩ := st
    obtain ⟨xs, hq, hx, hn⟩ := hg
    obtain ⟨its, rv, p, hz⟩ := I.tuple hq
    have hlen := rv.length
    have ei : i = its.toArray.size := by rw [List.size_toArray]; omega
    obtain ⟨f0, f1, f2, f3, f4, f5⟩ := hf it (by simp)
    have D := Draws.tuple (prog := X.prog) (w := X.w) (A := X.A.in1) (I.ok.hd hc) it a hai its.toArray
    exact wpAny_pyNext_enum_endD D he ⟨ei ▸ hit, p⟩ fun h' eb => ⟨rfl, I.turned (t' := s.toks) (fun b o hb q => eb b o hb q) f0 f1 f3 f4 f5⟩
  self := fun A i s Q E st h => let ⟨⟨_, he⟩, _⟩ := st; wpAny_pyIter_enum he h
section
variable {O : ObjI} {TB : List Addr} {X : Cx}
/-- enumerate(tuple) -/
def vEnumT (ev : EvT) : IvT := fun ρ Q => ev ρ fun r ρ1 => settle r ρ1 fun d ρ2 => ∃ l, d = .tup l ∧ Q (enumL l) ρ2
theorem di_enumT {e : Expr} {ev : EvT} {p pos tpos : Pos} {elts : List Expr} {kk : Nat} (hg : Gl X "enumerate") (hm : X.mg "enumerate" = none) (ha : DE O TB X e ev) (hs : starEach [e] X.env = [(false, eval e X.env)] := by rfl) :
    DI O TB X (.Tuple elts kk tpos) (.Call (.Name "enumerate" p) [e] [] pos) (vEnumT ev) := by
  refine ⟨fun pins s σ H R I h => ?_⟩
  obtain ⟨G, W, ρ, Qd, so, hq, fin⟩ := h
  refine Call_ (ld_blt I hg hm boot_enumerate (PyProof.Rows.callWith_type1 (thn ((pa_cons ha pa_nil hs).run pos pins s σ H (fun vs H1 => ∃ v W2 ρ2 l, vs = [v] ∧ WLe W W2 ∧ Fro ρ ρ2 ∧ SOk O TB G W2 ρ2 σ H1 ∧ Rep O W2 (.tup l) v ∧ Qd (enumL l) ρ2) I ?_) fun us s1 ⟨vs, H1, I1, r1, v, W2, ρ2, l, ev2, le2, fr2, so2, rp, q⟩ => ?_) hs rfl))
  · refine ⟨G, W, ρ, _, so, hq, fun v H' W' ρ' k d le fr s' r q => ?_⟩
    obtain ⟨W2, ρ2, le2, fr2, s2, rp, l, rfl, q2⟩ := s'.settle r q
    exact ⟨v, W2, ρ2, l, rfl, le.trans le2, fr.trans fr2, s2, rp, q2⟩
  subst ev2
  obtain ⟨u, rfl, r⟩ := vals1 r1
  cases rp with
  | @tup l a vs ew rr =>
    obtain rfl : u = .ref a := r
    obtain ⟨o, ho, hp⟩ := so2.w.at_ _ _ ew
    have hp : o = _ := hp
    subst hp
    obtain ⟨its, rv, p', hz⟩ := I1.tuple (SqT.of ho)
    have hal : a < s1.heap.objs.size := by obtain ⟨_, q0, _⟩ := p'; exact Heap.lt_size q0
    refine enum_begins1 (begins_tuple a its.toArray) p' fun h' he hit hsz hk => wpAny_pyIter_enum he ?_
    have I2 : Inv X pins σ H1 { s1 with heap := h' } := I1.kept (t' := s1.toks) hk
    refine ⟨s1.heap.objs.size + 1, [s1.heap.objs.size + 1, s1.heap.objs.size], _, _, H1, rfl, I2, turn_enumT a (s1.heap.objs.size + 1) s1.heap.objs.size l.length, ⟨⟨.none, he⟩, ⟨_, hit, rfl, rfl⟩, Nat.succ_ne_self _, ⟨Nat.ne_of_lt hal, Nat.ne_of_lt (Nat.lt_succ_of_lt hal)⟩, Nat.zero_le _⟩, fun b hb => ?_, fin _ H1 W2 ρ2 (enumL l) le2 fr2 so2 ?_ q⟩
    · have e' : b = s1.heap.objs.size + 1 ∨ b = s1.heap.objs.size := by simpa using hb
      have hle : s1.heap.objs.size ≤ b := by
        rcases e' with z | z
        · rw [z]; exact Nat.le_add_right _ _
        · rw [z]; exact Nat.le_refl _
      exact I1.fpOk hle (I1.hok.fresh hle)
    · intro W1 H2 le w hgk
      have ha : H2 a = some (.tup vs) := by
        obtain ⟨o, ho, hp⟩ := w.at_ a _ (le _ _ ew)
        rw [ho]; exact congrArg some hp
      have sq : SqT X.K H2 a vs := SqT.of ha
      refine ⟨fun i hi => ?_, fun i hi => ⟨vs, sq, rr.length.symm, by rw [← enumL_len l]; exact hi⟩⟩
      rw [enumL_len] at hi
      obtain ⟨x, hx, rx⟩ := rr.get (List.getElem?_eq_getElem hi)
      refine ⟨⟨vs, x, sq, hx, rr.length.symm⟩, fun y H3 hy => ?_⟩
      obtain ⟨T, x', rfl, hT, rfl, hx'⟩ := hy
      have e2 := hx' vs sq
      rw [hx] at e2; cases e2
      refine ⟨.tup [.int i, l[i]], wup W1 T (Fz (.tup [.int (i : Nat), x])), ?_, wup_le (w.none_of hT), (w.upd (w.none_of hT)).wup (w.none_of hT) upd_same rfl, fun b o e1 e2 => ?_, ?_⟩
      · rw [enumL_get, List.getElem?_eq_getElem hi]; rfl
      · have ne := ne_of_none e1 hT
        exact ⟨by rw [upd_ne ne]; exact e1, by rw [wup_ne ne]; exact e2⟩
      · exact .tup wup_same (.cons .int (.cons ((rx.mono le).mono (wup_le (w.none_of hT))) .nil))
end
end TC

/-! sum(generator). -/
namespace TC
open PySem PySem.Spec PyProof.Rows L2 GenW
def sEm : Int → D → (Int → Prop) → Prop := fun st d k => match d with
  | .int i => k (st + i)
  | _ => False
def sCon (Qn : Int → Prop) : Con Int where
  coh := fun st cp _ => ∃ S t c, cp = [(S, lstObj #[.int st t] c)]
  em := sEm
  dn := Qn
  mono := fun _ h => h
section
variable {O : ObjI} {TB : List Addr} {P : Program} {w : World} {Z : Cx} {G : Kp} {W0 : Wd} {a gn S : Nat} {oa : Obj}
theorem sum_loopG {A : Around} {R : Result → Shared → Prop} {Qn : Int → Prop} (hh : A.handled = none) (hd : A.in1.depth < recursionLimit) (isg : ∀ h : Heap, h.get? a = some oa → h.IsGen a gn) (hpn : Z.pn = [(a, oa)]) (hca : CaOk Z [S])
    (hR : ∀ cp σ H W ρ st s1 t, GSt O TB Z G W0 [S] (sCon Qn) cp [] σ H W ρ st s1 → Qn st → R (.ok (.ret (.int st t))) s1) :
    ∀ (n : Nat) (s : Shared) (st : Int) (t : Tok) (c : Nat) (stage : Int), (stage = 0 ∨ stage = 2) → Susp O TB P w A.in1.in1 Z G W0 [S] (sCon Qn) a gn oa n s → s.heap.get? S = some (lstObj #[.int st t] c) →
      codeAny (model P w) A (.builtin "sum.loop" ⟨[.ref a, .ref S, rawInt stage, rawInt 0], []⟩) R s := by
  have same : ∀ {cp ip : List (Addr × Obj)} {σ : L2.St} {H : Hp} {W : Wd} {ρ : Rho} {st st0 : Int} {s s1 : Shared} {t : Tok} {c : Nat}, GSt O TB Z G W0 [S] (sCon Qn) cp ip σ H W ρ st s1 → At cp s → s.heap.get? S = some (lstObj #[.int st0 t] c) → st = st0 ∧ s1.heap.get? S = some (lstObj #[.int st t] c) ∧ cp = [(S, lstObj #[.int st t] c)] := fun {cp ip σ H W ρ st st0 s s1 t c} gst hat hS => by
    obtain ⟨S', t', c', e⟩ := gst.coh
    have ad := gst.ad
    subst e
    obtain rfl : S' = S := by simpa using ad
    have h1 : s.heap.get? S' = some (lstObj #[.int st t'] c') := hat (S', lstObj #[.int st t'] c') (List.mem_singleton.mpr rfl)
    rw [hS] at h1
    have e2 : lstObj #[.int st0 t] c = lstObj #[.int st t'] c' := Option.some.inj h1
    have hp := gst.inv.pin (S', lstObj #[.int st t'] c') (List.mem_append_right _ (List.mem_append_left _ (List.mem_singleton.mpr rfl)))
    have e3 := congrArg (fun o : Obj => o.data) e2
    injection e3 with e4 e5
    have e6 := congrArg (fun a : Array Value => a[0]?) e4
    simp at e6
    obtain ⟨e7, e8⟩ := e6
    subst e7; subst e8
    exact ⟨rfl, by rw [e2]; exact hp.1, by rw [e2]⟩
  have wk2 : ∀ {cp ip : List (Addr × Obj)} {σ : L2.St} {H : Hp} {W : Wd} {ρ : Rho} {st : Int} {s1 : Shared} {items : Array Value} {c : Nat}, GSt O TB Z G W0 [S] (sCon Qn) cp ip σ H W ρ st s1 → s1.heap.get? S = some (lstObj items c) → ∀ (i : Int) (u : Tok) (tk : Nat), ∃ c', (s1.heap.update S (Obj.mapSeq fun _ => #[.int i u])).get? S = some (lstObj #[.int i u] c') ∧ Woke cp [(S, lstObj #[.int i u] c')] s1 { s1 with heap := s1.heap.update S (Obj.mapSeq fun _ => #[.int i u]), toks := tk } := fun {cp ip σ H W ρ st s1 items c} gst hS1 i u tk => by
    have ad := gst.ad
    have h2 := Heap.get?_update_self (Obj.mapSeq fun _ => #[Value.int i u]) hS1 rfl
    refine ⟨_, h2, rfl, gst.inv.bare, ad.symm, fun b o hb e => ?_, fun p hp => ?_⟩
    · rw [ad] at hb
      exact (Heap.get?_update_other _ _ (fun z => hb (by rw [← z]; exact List.mem_singleton.mpr rfl))).trans e
    · have e : p = _ := List.mem_singleton.mp hp
      subst e
      exact ⟨h2, fun v z => by cases z⟩
  have wk3 : ∀ {cp ip : List (Addr × Obj)} {σ : L2.St} {H : Hp} {W : Wd} {ρ : Rho} {st : Int} {s1 : Shared} {items : Array Value} {c : Nat}, GSt O TB Z G W0 [S] (sCon Qn) cp ip σ H W ρ st s1 → s1.heap.get? S = some (lstObj items c) → ∀ (i : Int) (u : Tok) (tk : Nat), ∃ c', ((s1.heap.update S (Obj.mapSeq fun _ => #[.int i u])).update S (Obj.mapSeq fun _ => #[.int i u])).get? S = some (lstObj #[.int i u] c') ∧ Woke cp [(S, lstObj #[.int i u] c')] s1 { s1 with heap := (s1.heap.update S (Obj.mapSeq fun _ => #[.int i u])).update S (Obj.mapSeq fun _ => #[.int i u]), toks := tk } := fun {cp ip σ H W ρ st s1 items c} gst hS1 i u tk => by
    have ad := gst.ad
    have h1 := Heap.get?_update_self (Obj.mapSeq fun _ => #[Value.int i u]) hS1 rfl
    have h2 := Heap.get?_update_self (Obj.mapSeq fun _ => #[Value.int i u]) h1 rfl
    refine ⟨_, h2, rfl, gst.inv.bare, ad.symm, fun b o hb e => ?_, fun p hp => ?_⟩
    · rw [ad] at hb
      have nb : S ≠ b := fun z => hb (by rw [← z]; exact List.mem_singleton.mpr rfl)
      exact (Heap.get?_update_other _ _ nb).trans ((Heap.get?_update_other _ _ nb).trans e)
    · have e : p = _ := List.mem_singleton.mp hp
      subst e
      exact ⟨h2, fun v z => by cases z⟩
  intro n
  induction n with
  | zero =>
    intro s st t c stage hstage hS hbx
    refine codeAny_builtin F.entry_sum_loop ?_
    rw [Around.under_plainId F.plain_sum_loop _]
    show wpAny _ A.in1 (seqItems? (.ref S) >>= _) _ _ s
    refine wpAny_bind (wpAny_seqItems hbx rfl ?_)
    show wpAny _ A.in1 (tryCatch (pyNext (.ref a)) _ >>= _) _ _ s
    refine wpAny_bind (wpAny_tryCatch (gnext hh hd isg hpn hca hS (fun v s1 cp ip σ H W ρ st' d' kk x hat gst rv rp em next => ?_) fun s1 cp σ H W ρ st' hat gst dn => ?_))
    · cases d' with
      | int i =>
        obtain ⟨rfl, hS1, ecp⟩ := same gst hat hbx
        have em : kk (st' + i) := em
        obtain ⟨c', _, wk⟩ := wk2 gst hS1 (st' + i) 0 s1.toks
        exact (next _ (st' + i) _ wk rfl ⟨S, _, c', rfl⟩ em).elim
      | _ => exact (show False from em).elim
    · obtain ⟨rfl, hS1, ecp⟩ := same gst hat hbx
      exact wpAny_pure (hR cp σ H W ρ st' s1 t gst dn)
  | succ n ih =>
    intro s st t c stage hstage hS hbx
    refine codeAny_builtin F.entry_sum_loop ?_
    rw [Around.under_plainId F.plain_sum_loop _]
    show wpAny _ A.in1 (seqItems? (.ref S) >>= _) _ _ s
    refine wpAny_bind (wpAny_seqItems hbx rfl ?_)
    show wpAny _ A.in1 (tryCatch (pyNext (.ref a)) _ >>= _) _ _ s
    refine wpAny_bind (wpAny_tryCatch (gnext hh hd isg hpn hca hS (fun v s1 cp ip σ H W ρ st' d' kk x hat gst rv rp em next => ?_) fun s1 cp σ H W ρ st' hat gst dn => ?_))
    · cases d' with
      | int i =>
        obtain ⟨rfl, hS1, ecp⟩ := same gst hat hbx
        have em : kk (st' + i) := em
        cases rp
        obtain ⟨u, rfl⟩ : ∃ u, v = .int i u := rv
        rcases hstage with rfl | rfl
        · show wpAny _ A.in1 (if (_ : Bool) = true then (mkInt (st' + i) >>= _) else _) _ _ _
          split
          · refine wpAny_bind (wpAny_mkInt ?_)
            obtain ⟨c', hS2, wk⟩ := wk2 gst hS1 (st' + i) s1.toks (s1.toks + 1)
            show wpAny _ A.in1 (updateSeq S (fun _ => #[.int (st' + i) s1.toks]) >>= _) _ _ _
            refine wpAny_bind ?_
            refine wpAny_updateSeq hS1 rfl ?_
            exact wpAny_pure ⟨plainId_quiet F.plain_sum_loop _, ih _ (st' + i) _ c' 0 (.inl rfl) (next _ (st' + i) _ wk rfl ⟨S, _, c', rfl⟩ em) hS2⟩
          · refine wpAny_bind (wpAny_rule ?_)
            refine wpAny_bind (wpAny_attempt (wpAny_holding (PySem.P.add_int ?_)))
            obtain ⟨c', hS2, wk⟩ := wk3 gst hS1 (st' + i) s1.toks (s1.toks + 1)
            show wpAny _ A.in1 (updateSeq S (fun _ => #[.int (st' + i) s1.toks]) >>= _) _ _ _
            refine wpAny_bind ?_
            refine wpAny_updateSeq hS1 rfl ?_
            have hS3 := Heap.get?_update_self (Obj.mapSeq fun _ => #[Value.int (st' + i) s1.toks]) hS1 rfl
            refine wpAny_bind (wpAny_letGo ?_)
            refine wpAny_bind ?_
            refine wpAny_updateSeq hS3 rfl ?_
            exact wpAny_pure ⟨plainId_quiet F.plain_sum_loop _, ih _ (st' + i) _ c' 2 (.inr rfl) (next _ (st' + i) _ wk rfl ⟨S, _, c', rfl⟩ em) hS2⟩
        · show wpAny _ A.in1 ((holding [Value.int i u] (binaryOp .Add (.int st' t) (.int i u))).attempt >>= _) _ _ _
          refine wpAny_bind (wpAny_attempt (wpAny_holding (PySem.P.add_int ?_)))
          obtain ⟨c', hS2, wk⟩ := wk3 gst hS1 (st' + i) s1.toks (s1.toks + 1)
          show wpAny _ A.in1 (updateSeq S (fun _ => #[.int (st' + i) s1.toks]) >>= _) _ _ _
          refine wpAny_bind ?_
          refine wpAny_updateSeq hS1 rfl ?_
          have hS3 := Heap.get?_update_self (Obj.mapSeq fun _ => #[Value.int (st' + i) s1.toks]) hS1 rfl
          refine wpAny_bind (wpAny_letGo ?_)
          refine wpAny_bind ?_
          refine wpAny_updateSeq hS3 rfl ?_
          exact wpAny_pure ⟨plainId_quiet F.plain_sum_loop _, ih _ (st' + i) _ c' 2 (.inr rfl) (next _ (st' + i) _ wk rfl ⟨S, _, c', rfl⟩ em) hS2⟩
      | _ => exact (show False from em).elim
    · obtain ⟨rfl, hS1, ecp⟩ := same gst hat hbx
      exact wpAny_pure (hR cp σ H W ρ st' s1 t gst dn)
end
def vSumG (iv : IvT) (own : List Nat) (g : GtT) (ts : TvT) (bd : BdG) : EvT := fun ρ Q => iv ρ fun items ρ1 => loopD g ts (bd _ sEm) (blkR own ρ1) items 0 fun st => Q (.fz, .int st) ρ1
section
variable {O : ObjI} {TB : List Addr} {X : Cx} {k m : Nat} {e : Expr} {iv : IvT} {own : List Nat} {g : GtT} {ts : TvT} {bd : BdG} {p pos : Pos}
theorem de_sumG (hr : Room (k + 3) X.A) (hg : Gl X "sum") (hm : X.mg "sum" = none) (hb : bootBuiltins "sum" = some (.builtin "sum")) (hG : GExp O TB X k e iv own g ts bd m)
    (he : starEach [e] X.env = (false, eval e X.env) :: starEach [] X.env := by rfl) : DE O TB X (.Call (.Name "sum" p) [e] [] pos) (vSumG iv own g ts bd) := by
  refine ⟨fun pins s σ H Q I h => ?_⟩
  obtain ⟨G, W, ρ, Qd, so, hq, fin⟩ := h
  refine wpAny_Call_Name_kw (ld_blt I hg hm hb ?_)
  refine PyProof.Rows.callWith_builtin1 ?_ he (by rfl)
  rw [he]
  show wpAny _ _ (spliced ((false, eval e X.env) :: backTo pos (starEach [] X.env))) _ _ s
  refine Calls.spliced_cons (hG I so hq fun a gn s5 H3 W3 ρ3 items Zf G' oa I5 so5 le5 fr5 q5 R => ?_)
  refine Calls.spliced_nil ?_
  refine PyProof.Rows.kmk_tree F.kind_sum F.plain_sum F.entry_sum (F.args_sum1 _) ?_
  unfold Builtin.«sum»
  simp only [List.length_cons, List.length_nil]
  rw [if_neg (by decide)]
  refine wpAny_bind (wpAny_of_eq (show Builtin.Builtins.bindParams "sum" ["start"] 0 { } = pure [none] from rfl) ?_)
  refine wpAny_bind (wpAny_pyIter_gen (s := s5) (R.isg _ R.obj) ?_)
  refine wpAny_bind (wpAny_mkInt ?_)
  refine wpAny_bind (wpAny_pure ?_)
  simp only [List.forIn_cons, List.forIn_nil]
  refine wpAny_bind (wpAny_bind (wpAny_bind (wpAny_isInstance (T := "int") (b := false) (typeIs_int _ _ _) PySem.sub_int_str ?_)))
  simp only [Bool.false_eq_true, if_false]
  refine wpAny_pure (wpAny_bind (wpAny_bind (wpAny_isInstance (T := "int") (b := false) (typeIs_int _ _ _) PySem.sub_int_bytes ?_)))
  simp only [Bool.false_eq_true, if_false]
  refine wpAny_pure (wpAny_bind (wpAny_bind (wpAny_isInstance (T := "int") (b := false) (typeIs_int _ _ _) PySem.sub_int_bytearray ?_)))
  simp only [Bool.false_eq_true, if_false]
  refine wpAny_pure (wpAny_pure ?_)
  refine wpAny_bind (wpAny_newObj_type ?_)
  have hS : (s5.heap.push { cls := .type "list", data := .seq #[.int 0 s5.toks] 0 }).get? s5.heap.objs.size = some (lstObj #[.int 0 s5.toks] 0) := Heap.get?_push_size _ rfl
  have r1 : Room (k + 1) X.A.in1.in1 := (Room.in1 (Room.in1 hr))
  refine wpAny_pure ⟨plainId_quiet F.plain_sum_loop _, sum_loopG (O := O) (TB := TB) (A := X.A) (Z := Zf X.A.in1.in1) (G := G') (W0 := W3) (S := s5.heap.objs.size) (Qn := fun st => Qd (.fz, .int st) ρ3) hr.hd (by have := hr.dp; show X.A.depth < _; omega) R.isg (R.pw _).2.2 (R.ca _ [s5.heap.objs.size] (by simp)) (fun cp σ1 H1 W1 ρ1 st s1 t gst qn => ?_) (items.length * m) _ 0 s5.toks 0 0 (.inl rfl)
    (susp0 (sCon _) R (cp := [(s5.heap.objs.size, lstObj #[.int 0 s5.toks] 0)]) (st := 0) r1 I5.ok.frames rfl rfl I5.bare I5.nolimit (fun b o e => Heap.get?_push_of_some _ e) (fun p hp => ?_) ⟨_, _, _, rfl⟩ q5) hS⟩
  · obtain ⟨I6, so6⟩ := R.back _ _ _ _ _ _ _ _ _ _ _ gst
    exact ⟨.int st, H1, I6, ⟨t, rfl⟩, fin _ _ W1 ρ3 .fz (.int st) (le5.trans gst.le) fr5 so6 (show Rep O W1 (.int _) (.int _) from .int) qn⟩
  · have e : p = _ := List.mem_singleton.mp hp
    subst e
    exact ⟨Nat.le_refl _, hS, fun v z => by cases z⟩
end
end TC

/-! Instances of a class that keeps what it has counted: a field of data, a dict of numbers. -/
namespace TC
open PySem PySem.Spec PyProof.Rows L2
/-! ### data without objects -/
mutual
def pureD : D → Bool
  | .tup l => pureL l
  | .lst l => pureL l
  | .dct _ => false
  | .dtt _ => false
  | .obj _ _ => false
  | _ => true
def pureL : List D → Bool
  | [] => true
  | d :: l => pureD d && pureL l
end
section
variable {O O' : ObjI} {W : Wd}
mutual
theorem Rep.swap : ∀ {d : D} {v : V}, pureD d = true → Rep O W d v → Rep O' W d v
  | _, _, _, .non => .non
  | _, _, _, .bl => .bl
  | _, _, _, .int => .int
  | _, _, _, .str h => .str h
  | .tup l, _, p, .tup e r => .tup e (RepL.swap (by rw [pureD] at p; exact p) r)
  | .lst l, _, p, .lst e r => .lst e (RepL.swap (by rw [pureD] at p; exact p) r)
  | _, _, p, .dct e r => by rw [pureD] at p; cases p
  | _, _, p, .dtt e r => by rw [pureD] at p; cases p
  | _, _, p, .obj e => by rw [pureD] at p; cases p
theorem RepL.swap : ∀ {l : List D} {vs : List V}, pureL l = true → RepL O W l vs → RepL O' W l vs
  | _, _, _, .nil => .nil
  | d :: l, _, p, .cons r t => by
    rw [pureL, Bool.and_eq_true] at p
    exact .cons (Rep.swap p.1 r) (RepL.swap p.2 t)
end
end
/-- alphabet, what it is made for, key, number -/
abbrev MemF := D → D → D → Int → Prop
def MemFin (MF : MemF) : Prop := ∀ al g, ∃ L : List D, L.length < 16000000 ∧ ∀ k i, MF al g k i → k ∈ L
def InsP (C dx kd : Addr) (va : V) : HO → Prop := fun o => o = .ins C dx [("alphabet", va), ("known", .ref kd)]
def OwnP (a : Addr) : HO → Prop := fun o => o = .own a
structure MemOk {κ : Type} (f : κ → D) (MF : MemF) (RK : List D) (al g : D) (kvs : List (κ × V)) : Prop where
  nd : (kvs.map (·.1)).Nodup
  ok : ∀ p ∈ kvs, ∃ i : Int, p.2 = .int i ∧ MF al g (f p.1) i
  rk : ∀ k ∈ RK, ∃ p ∈ kvs, f p.1 = k
/-- keys that are there from the start -/
def rkT (tp : Bool) : List D := if tp = true then [] else [.str []]
def keyTD (k : List Key) : D := .tup (k.map keyDD)
def MemoP (tp : Bool) (MF : MemF) (RK : List D) (al g : D) : HO → Prop := fun o => match tp with
  | false => ∃ kvs, o = .dK kvs ∧ MemOk keyDD MF RK al g kvs
  | true => ∃ kvs, o = .dT kvs ∧ MemOk keyTD MF RK al g kvs
def insO (C : Addr) (tp : Bool) (MF : MemF) : ObjI where
  rel := fun n l W a => match n with
    | 0 => ∃ al g dx kd va, l = [al, g] ∧ pureD al = true ∧ W a = some (InsP C dx kd va) ∧ W dx = some (OwnP a) ∧ W kd = some (MemoP tp MF (rkT tp) al g) ∧ Rep noE W al va
    | 1 => ∃ al g, l = [al, g] ∧ W a = some (MemoP tp MF [] al g)
    | _ => False
  mono := fun {n l W W' a} le h => by
    match n, h with
    | 0, ⟨al, g, dx, kd, va, h2, hp, h3, h4, h5, h6⟩ => exact ⟨al, g, dx, kd, va, h2, hp, le _ _ h3, le _ _ h4, le _ _ h5, h6.mono le⟩
    | 1, ⟨al, g, h1, h2⟩ => exact ⟨al, g, h1, le _ _ h2⟩
section
variable {κ : Type} [DecidableEq κ] {f : κ → D} {MF : MemF} {RK : List D} {al g : D} {kvs : List (κ × V)}
theorem MemOk.val (h : MemOk f MF RK al g kvs) {k : κ} {v : V} (e : valV kvs k = some v) : ∃ i : Int, v = .int i ∧ MF al g (f k) i := by
  unfold valV at e
  cases hf : kvs.find? (fun kv => decide (kv.1 = k)) with
  | none => rw [hf] at e; cases e
  | some p =>
    rw [hf] at e
    injection e with e
    obtain ⟨i, h1, h2⟩ := h.ok p (List.mem_of_find?_eq_some hf)
    have hk : p.1 = k := by simpa using List.find?_some hf
    rw [hk] at h2
    exact ⟨i, by rw [← e]; exact h1, h2⟩
theorem MemOk.len (hf : ∀ a b, f a = f b → a = b) (h : MemOk f MF RK al g kvs) (fin : MemFin MF) : kvs.length < 16000000 := by
  classical
  obtain ⟨L, hL, hk⟩ := fin al g
  have nd : (kvs.map fun p => f p.1).Nodup := by
    have h1 := h.nd
    rw [List.Nodup, List.pairwise_map] at h1 ⊢
    exact h1.imp fun hne e => hne (hf _ _ e)
  have : (kvs.map fun p => f p.1).length ≤ L.length := nodup_le nd fun x hx => by
    obtain ⟨p, hp, rfl⟩ := List.mem_map.mp hx
    obtain ⟨i, _, h2⟩ := h.ok p hp
    exact hk _ i h2
  rw [List.length_map] at this
  omega
theorem MemOk.put (h : MemOk f MF RK al g kvs) {k : κ} {i : Int} (hi : MF al g (f k) i) : MemOk f MF RK al g (putK kvs k (.int i)) := by
  unfold putK
  split
  · constructor
    · rw [List.map_map]
      have : (kvs.map ((fun p => p.1) ∘ fun kv : κ × V => if kv.1 = k then (kv.1, V.int i) else kv)) = kvs.map (·.1) := List.map_congr_left fun p _ => by
        show (if p.1 = k then (p.1, V.int i) else p).1 = p.1
        split <;> rfl
      rw [this]; exact h.nd
    · intro p hp
      obtain ⟨q, hq, rfl⟩ := List.mem_map.mp hp
      by_cases e : q.1 = k
      · simp only [e, if_true]
        exact ⟨i, rfl, hi⟩
      · simp only [e, if_false]
        exact h.ok q hq
    · intro k' hk'
      obtain ⟨q, hq, e⟩ := h.rk k' hk'
      refine ⟨_, List.mem_map.mpr ⟨q, hq, rfl⟩, ?_⟩
      show f (if q.1 = k then (q.1, V.int i) else q).1 = k'
      split <;> exact e
  · rename_i hn
    constructor
    · rw [List.map_append, List.nodup_append]
      refine ⟨h.nd, by simp, fun a ha b hb e => ?_⟩
      obtain ⟨p, hp, rfl⟩ := List.mem_map.mp ha
      have hb : b = k := by simpa using hb
      exact hn (List.any_eq_true.mpr ⟨p, hp, decide_eq_true (e.trans hb)⟩)
    · intro p hp
      rcases List.mem_append.mp hp with hp | hp
      · exact h.ok p hp
      · rw [List.mem_singleton.mp hp]; exact ⟨i, rfl, hi⟩
    · intro k' hk'
      obtain ⟨q, hq, e⟩ := h.rk k' hk'
      exact ⟨q, List.mem_append_left _ hq, e⟩
end
theorem MemOk.has {κ : Type} [DecidableEq κ] {f : κ → D} {MF : MemF} {RK : List D} {al g : D} {kvs : List (κ × V)} (hf : ∀ a b, f a = f b → a = b) (h : MemOk f MF RK al g kvs) {k : κ} (hk : f k ∈ RK) : (valV kvs k).isSome = true := by
  obtain ⟨p, hp, e⟩ := h.rk _ hk
  have e := hf _ _ e
  unfold valV
  rw [Option.isSome_map, List.find?_isSome]
  exact ⟨p, hp, by simpa using e⟩
theorem keyDD_inj : ∀ a b : Key, keyDD a = keyDD b → a = b
  | .inl i, .inl j, h => by injection h with h; rw [h]
  | .inl i, .inr s, h => by cases h
  | .inr s, .inl j, h => by cases h
  | .inr s, .inr t, h => by
    injection h with h
    obtain ⟨a⟩ := s
    obtain ⟨b⟩ := t
    have : a = b := Array.toList_inj.mp h
    rw [this]
theorem keyTD_inj : ∀ a b : List Key, keyTD a = keyTD b → a = b := by
  intro a b h
  injection h with h
  have : ∀ a b : List Key, a.map keyDD = b.map keyDD → a = b := by
    intro a
    induction a with
    | nil => intro b h; cases b with | nil => rfl | cons y b => cases h
    | cons x a ih =>
      intro b h
      cases b with
      | nil => cases h
      | cons y b =>
        rw [List.map_cons, List.map_cons] at h
        injection h with h1 h2
        rw [keyDD_inj _ _ h1, ih _ h2]
  exact this a b h
section
variable {Y : ExI} {TB : List Addr} {E : XK} {X : Cx} {C : Addr} {tp : Bool} {MF : MemF} {EO : ObjI}
/-- self.alphabet -/
def vFldA (eo : EvT) : EvT := fun ρ Q => eo ρ fun r ρ1 => ∃ al g, r.2 = .obj 2 [al, g] ∧ Q (.fz, al) ρ1
theorem view_ins {K : PySem.W.Frag} {W : Wd} {H : Hp} {al g : D} {v : V} (h : View (bxO K (insO C tp MF)) W H (.obj 2 [al, g]) v) : ∃ a dx kd va, v = .ref a ∧ pureD al = true ∧ W a = some (InsP C dx kd va) ∧ W dx = some (OwnP a) ∧ W kd = some (MemoP tp MF (rkT tp) al g) ∧ Rep noE W al va := by
  obtain ⟨a, e, h⟩ := view_obj h
  obtain ⟨al', g', dx, kd, va, h2, h3⟩ := h
  cases h2
  exact ⟨a, dx, kd, va, e, h3⟩
theorem de_fldA {e : Expr} {eo : EvT} {pos : Pos} (he : DE (bxO X.K (insO C tp MF)) TB X e eo) (c : Cls X.K C) (hn : NoAttr X.K C "alphabet") (hb : attributeBase e "alphabet" X.env (eval e X.env) = eval e X.env := by rfl) :
    DE (bxO X.K (insO C tp MF)) TB X (.Attribute e "alphabet" pos) (vFldA eo) := by
  refine (pe_fld he hb).imp ?_
  rintro σ H Q ⟨G, W, ρ, Qd, s, h, fin⟩
  refine ⟨G, W, ρ, _, s, h, fun v H1 W1 ρ1 k d le fr s1 r q => ?_⟩
  obtain ⟨al, g, hd, q⟩ := q
  simp only at hd
  subst hd
  obtain ⟨a, dx, kd, va, rfl, hp, h1, h2, h3, rp⟩ := view_ins (s1.view r)
  obtain ⟨o, ho, rfl⟩ := s1.w.at_ _ _ h1
  exact ⟨a, C, dx, _, va, rfl, ho, c, hn, rfl, fin va H1 W1 ρ1 .fz al le fr s1 (rp.swap hp) q⟩
/-- what a key may be -/
def KeyOk (tp : Bool) (key : D) : Prop := match tp with
  | false => (keyD key).isSome = true
  | true => ∃ ds, key = .tup ds ∧ (keysD ds).isSome = true
theorem keyD_DD {key : D} {k : Key} (h : keyD key = some k) : keyDD k = key := by
  cases key with
  | int i => simp only [keyD, Option.some.injEq] at h; subst h; rfl
  | str s =>
    simp only [keyD, Option.some.injEq] at h
    subst h
    show D.str (mkS s).cps.toList = D.str s
    rw [mkS_toList]
  | _ => simp [keyD] at h
theorem keysD_DD : ∀ {l : List D} {ks : List Key}, keysD l = some ks → ks.map keyDD = l
  | [], _, h => by simp only [keysD, Option.some.injEq] at h; subst h; rfl
  | d :: l, ks, h => by
    unfold keysD at h
    split at h
    · rename_i k ks' h1 h2
      injection h with h
      subst h
      rw [List.map_cons, keyD_DD h1, keysD_DD h2]
    · cases h
/-- what the dict holds at a key -/
def mlook (o : HO) (key : D) : Option V := match o with
  | .dT kvs => (match key with | .tup ds => (match keysD ds with | some ks => valV kvs ks | none => none) | _ => none)
  | .dK kvs => (match keyD key with | some k => valV kvs k | none => none)
  | _ => none
theorem mlookK {kvs : List (Key × V)} {key : D} {k : Key} (h : keyD key = some k) : mlook (.dK kvs) key = valV kvs k := by
  show (match keyD key with | some k => valV kvs k | none => none) = _
  rw [h]
theorem mlookT {kvs : List (List Key × V)} {ds : List D} {ks : List Key} (h : keysD ds = some ks) : mlook (.dT kvs) (.tup ds) = valV kvs ks := by
  show (match keysD ds with | some ks => valV kvs ks | none => none) = _
  rw [h]
theorem memo_get {RK : List D} {O : ObjI} {W : Wd} {H : Hp} {kd : Addr} {al g key : D} {u : V} {o : HO} (ho : H kd = some o) (hp : MemoP tp MF RK al g o) (hv : View O W H key u) (hk : KeyOk tp key) : DGet H kd u (mlook o key) ∧ (∀ v, mlook o key = some v → ∃ i : Int, v = .int i ∧ MF al g key i) ∧ (key ∈ RK → (mlook o key).isSome = true) := by
  cases tp with
  | false =>
    obtain ⟨kvs, rfl, mk⟩ := hp
    obtain ⟨k, hk⟩ := Option.isSome_iff_exists.mp hk
    have e := mlookK (kvs := kvs) hk
    rw [keyD_rep hk hv, e]
    refine ⟨DGet.k ho, fun v e => ?_, fun hr => mk.has keyDD_inj (by rw [keyD_DD hk]; exact hr)⟩
    rw [← keyD_DD hk]
    exact mk.val e
  | true =>
    obtain ⟨kvs, rfl, mk⟩ := hp
    obtain ⟨ds, rfl, hk⟩ := hk
    obtain ⟨ks, hk⟩ := Option.isSome_iff_exists.mp hk
    have e := mlookT (kvs := kvs) hk
    rw [e]
    cases hv with
    | @tup _ b vs ew e2 rr =>
      have := keysD_rep hk rr
      subst this
      refine ⟨DGet.t ho e2, fun v e => ?_, fun hr => mk.has keyTD_inj (by unfold keyTD; rw [keysD_DD hk]; exact hr)⟩
      have z := mk.val e
      unfold keyTD at z
      rw [keysD_DD hk] at z
      exact z
theorem memo_put {RK : List D} {O : ObjI} {G : Kp} {W : Wd} {ρ : Rho} {σ : L2.St} {H : Hp} {kd : Addr} {al g key : D} {u : V} {i : Int} (fin : MemFin MF) (s : SOk O TB G W ρ σ H) (hw : W kd = some (MemoP tp MF RK al g)) (hv : View O W H key u) (hk : KeyOk tp key) (hi : MF al g key i) :
    ∃ o', DPut H kd u (.int i) (upd H kd o') ∧ SOk O TB G W ρ σ (upd H kd o') ∧ mlook o' key = some (.int i) := by
  obtain ⟨o, ho, hp⟩ := s.w.at_ _ _ hw
  have sz : (16000000 : Nat) < sizeLine := by rw [sizeLine_eq]; decide
  have keep : ∀ o', MemoP tp MF RK al g o' → SOk O TB G W ρ σ (upd H kd o') := fun o' hp' => by
    have nt' : ∀ ps, o' ≠ .tbl ps := fun ps e => by
      subst e
      cases tp with
      | false => obtain ⟨_, z, _⟩ := hp'; cases z
      | true => obtain ⟨_, z, _⟩ := hp'; cases z
    refine s.keep (WLe.refl _) ⟨fun c P hc => ?_, s.w.tb, fun P hP ps e => s.w.cd P hP ps ?_⟩ fun c u e1 e2 _ => ⟨?_, e2⟩
    · by_cases hca : c = kd
      · subst hca
        rw [hw] at hc; cases hc
        exact ⟨_, upd_same, hp'⟩
      · rw [upd_ne hca]; exact s.w.at_ c P hc
    · by_cases hca : P = kd
      · subst hca
        rw [upd_same] at e
        exact absurd (Option.some.inj e) (nt' ps)
      · rw [upd_ne hca] at e; exact e
    · rw [upd_ne (fun z => by subst z; rw [hw] at e2; cases e2)]; exact e1
  cases tp with
  | false =>
    obtain ⟨kvs, rfl, mk⟩ := hp
    obtain ⟨k, hk⟩ := Option.isSome_iff_exists.mp hk
    rw [keyD_rep hk hv]
    have hl := mk.len keyDD_inj fin
    refine ⟨_, DPut.k ho (by omega), keep _ ⟨_, rfl, mk.put (by rw [keyD_DD hk]; exact hi)⟩, ?_⟩
    rw [mlookK hk, valV_put, if_pos rfl]
  | true =>
    obtain ⟨kvs, rfl, mk⟩ := hp
    obtain ⟨ds, rfl, hk⟩ := hk
    obtain ⟨ks, hk⟩ := Option.isSome_iff_exists.mp hk
    cases hv with
    | @tup _ b vs ew e rr =>
      have := keysD_rep hk rr
      subst this
      have hl := mk.len keyTD_inj fin
      refine ⟨_, DPut.t ho e (by omega), keep _ ⟨_, rfl, mk.put (by unfold keyTD; rw [keysD_DD hk]; exact hi)⟩, ?_⟩
      rw [mlookT hk, valV_put, if_pos rfl]
/-- self, where it stands -/
def Slf (ρ : Rho) (al g : D) : Prop := ρ[0]? = some (.fz (.obj 2 [al, g]))
/-- an expression that reads a key and changes nothing -/
def KRead (O : ObjI) (TB : List Addr) (tk : TE) (KA : Rho → D → Prop) : Prop := ∀ {G : Kp} {W : Wd} {ρ : Rho} {σ : L2.St} {H : Hp} {key : D} (Q : VK), SOk O TB G W ρ σ H → KA ρ key →
  (∀ y H' W', WLe W W' → SOk O TB G W' ρ σ H' → View O W' H' key y → (∀ b o, H b = some o → H' b = some o) → Q y H') → tk σ H Q
/-- a variable as key -/
def KVar (i : Nat) : Rho → D → Prop := fun ρ key => ρ[i]? = some (.fz key)
theorem kread_var {O : ObjI} {i : Nat} : KRead O TB (tVar i) (KVar i) := fun {G W ρ σ H key} Q s hk fin => by
  obtain ⟨ov, q1, q2⟩ := s.sl i _ hk
  obtain ⟨v, rfl, rp⟩ := q2
  exact ⟨v, q1, fin v H W (WLe.refl _) s (Rep.view s.w rp) fun _ _ e => e⟩
/-- if key not in self.known: self.known[key] = e; return self.known[key] -/
def sMemo (tp : Bool) (MF : MemF) (KA : Rho → D → Prop) (ev : EvT) : StT := fun ρ D => ∃ al g key, KeyOk tp key ∧ Slf ρ al g ∧ KA ρ key ∧ (∀ v : Int, MF al g key v → D.rt (.int v)) ∧
  (key ∉ rkT tp → ev ρ fun r2 ρ2 => KA ρ2 key ∧ ∃ v : Int, r2.2 = .int v ∧ MF al g key v)
theorem dss_memo {x0 : Str} {k1 k2 k3 e : Expr} {tk : TE} {KA : Rho → D → Prop} {ev : EvT} {p1 p2 p3 p4 p5 p6 p7 p8 p9 p10 p11 p12 : Pos} (hu : X.A.units + 1 < cLine) (fin : MemFin MF) (c : Cls X.K C) (hn : NoAttr X.K C "known")
    (kr : KRead (bxO X.K (insO C tp MF)) TB tk KA) (h1 : PE X k1 tk) (h2 : PE X k2 tk) (h3 : PE X k3 tk) (he : DE (bxO X.K (insO C tp MF)) TB X e ev)
    (hN : X.N[0]? = some x0 := by rfl) (hv : Vis X.env.scope x0 := by first | exact Or.inl rfl | exact Or.inr (Or.inl rfl) | exact Or.inr (Or.inr rfl)) (hd : (x0 == ("__debug__" : Str)) = false := by decide) (hcd : (x0 == ("__classdict__" : Str)) = false := by decide)
    (hb : ∀ p, attributeBase (.Name x0 p) "known" X.env (eval (.Name x0 p) X.env) = eval (.Name x0 p) X.env := by intro _; rfl)
    (hs : swapsWith e (some (.Subscript (.Attribute (.Name x0 p4) "known" p5) k2 p6)) p7.line X.env = pure false := by rfl) (hs3 : NoSl k3 := by intro _ _; rfl)
    (hm : behindInMarks .NotIn (.Attribute (.Name x0 p1) "known" p2) = false := by rfl) :
    DSs (bxO X.K (insO C tp MF)) Y TB E X [.If (.Compare k1 [.NotIn] [.Attribute (.Name x0 p1) "known" p2] p3) [.Assign [.Subscript (.Attribute (.Name x0 p4) "known" p5) k2 p6] e p7] [] p8, .Return (some (.Subscript (.Attribute (.Name x0 p9) "known" p10) k3 p11)) p12] (sMemo tp MF KA ev) := by
  refine (pss_cons (ps_if (pt_cmp (pc_dnotin hu h1 (pe_fld (pe_var hN hv hd hcd) (hb _))) hm) (pss_one (ps_dput hu (pe_fld (pe_var hN hv hd hcd) (hb _)) h2 he hs)) pss_nil) (pss_one (ps_ret (pe_dget hu (pe_fld (pe_var hN hv hd hcd) (hb _)) h3 hs3)))).imp ?_
  rintro D σ H ⟨G, W, ρ, Dd, s, ⟨al, g, key, hk, hsf, hka, hrt, hev⟩, n, r, _⟩
  -- the object, its dict
  obtain ⟨ov, g1, q2⟩ := s.sl 0 _ hsf
  obtain ⟨v0, rfl, rp⟩ := q2
  obtain ⟨a, dx, kd, va, rfl, hp, w1, w2, w3, rpa⟩ := view_ins (Rep.view s.w rp)
  have obj : ∀ {W' H'}, WLe W W' → WOk TB W' H' → H' a = some (.ins C dx [("alphabet", va), ("known", .ref kd)]) ∧ W' kd = some (MemoP tp MF (rkT tp) al g) ∧ ∃ o, H' kd = some o ∧ MemoP tp MF (rkT tp) al g o := fun {W' H'} le w => by
    obtain ⟨o, ho, rfl⟩ := w.at_ _ _ (le _ _ w1)
    exact ⟨ho, le _ _ w3, w.at_ _ _ (le _ _ w3)⟩
  -- self.known, read
  have fld : ∀ {H' : Hp} {Q : VK}, H' a = some (.ins C dx [("alphabet", va), ("known", .ref kd)]) → Q (.ref kd) H' → tFld X.K (tVar 0) "known" σ H' Q := fun {H' Q} ha q => ⟨_, g1, a, C, dx, _, _, rfl, ha, c, hn, rfl, q⟩
  -- the end: it is read
  have last : ∀ {G' : Kp} {W' H' ρ' o}, WLe W W' → SOk (bxO X.K (insO C tp MF)) TB G' W' ρ' σ H' → (∀ a o, G.g a = some o → G'.g a = some o) → KA ρ' key → H' kd = some o → (∃ v, mlook o key = some v) → tDGet (tFld X.K (tVar 0) "known") tk σ H' D.rt := fun {G' W' H' ρ' o} le s' hg hka' ho ⟨v, hv'⟩ => by
    obtain ⟨ha, hkd, o2, ho2, hmp⟩ := obj le s'.w
    rw [ho] at ho2; cases ho2
    refine fld ha (kr _ s' hka' fun y H2 W2 le2 s2 vw hx => ?_)
    obtain ⟨dg, hval, _⟩ := memo_get (hx _ _ ho) hmp vw hk
    rw [hv'] at dg
    obtain ⟨i, rfl, hi⟩ := hval v hv'
    exact ⟨kd, _, rfl, dg, r (.int i) H2 W2 (.int i) (le.trans le2) s2.w (fun a o e => s2.g a o (hg a o e)) .int (hrt i hi)⟩
  show tIfS _ _ _ _ σ H
  refine kr _ s hka fun y H1 W1 le1 s1 vw hx => ?_
  obtain ⟨ha, hkd, o, ho, hmp⟩ := obj le1 s1.w
  obtain ⟨dg, hval, hrk⟩ := memo_get ho hmp vw hk
  refine fld ha ⟨kd, _, rfl, dg, _, rfl, ?_⟩
  cases hl : mlook o key with
  | some v =>
    show tDGet (tFld X.K (tVar 0) "known") tk σ H1 D.rt
    exact last le1 s1 (fun _ _ e => e) hka ho ⟨v, hl⟩
  | none =>
    show sDPut (tFld X.K (tVar 0) "known") tk (tEv _ TB ev) _ σ H1
    refine ⟨G, W1, ρ, _, s1, hev (fun z => by have := hrk z; rw [hl] at this; cases this), fun v H2 W2 ρ2 k d le2 fr2 s2 r2 q2 => ?_⟩
    obtain ⟨hka2, i, hd2, hi⟩ := q2
    simp only at hd2
    subst hd2
    have hv2 : v = .int i := by
      have z := s2.view r2
      cases z; rfl
    subst hv2
    obtain ⟨ha2, hkd2, o2, ho2, hmp2⟩ := obj (le1.trans le2) s2.w
    refine fld ha2 (kr _ s2 hka2 fun y3 H3 W3 le3 s3 vw3 hx3 => ?_)
    obtain ⟨o4, dp, s4, hl4⟩ := memo_put fin s3 (le3 _ _ hkd2) vw3 hk hi
    refine ⟨kd, _, rfl, dp, ?_⟩
    show tDGet (tFld X.K (tVar 0) "known") tk σ _ D.rt
    exact last (le1.trans (le2.trans le3)) s4 (fun _ _ e => e) hka2 upd_same ⟨_, hl4⟩
/-- self.m(..), C(..).m(..) -/
def vMeth (S : Spc) (eo : EvT) (as : AsT) : EvT := fun ρ Q => eo ρ fun r ρ1 => ∃ al g, r.2 = .obj 2 [al, g] ∧ as ρ1 fun ds ρ2 => S (.obj 2 [al, g] :: ds) (fun d => Q (.fz, d) ρ2) (fun _ _ => False)
theorem de_meth {S : Spc} {k : Nat} {f : Addr} {fd : FuncData} {ps : List Str} {m : Str} {e0 a : Expr} {es : List Expr} {eo : EvT} {as : AsT} {pos apos : Pos} {pl : Sem Bool} (F : FnOk X.prog X.w X.K X.mg X.base CX0 k f fd ps (spD (bxO X.K (insO C tp MF)) Y TB S)) (c : Cls X.K C) (hm : Meth X.K C m f) (hr : Room k X.A) (hb : Binds X.K fd ps [])
    (he : DE (bxO X.K (insO C tp MF)) TB X e0 eo) (ha : DAs (bxO X.K (insO C tp MF)) TB X (a :: es) as) (hne : m ≠ "alphabet" ∧ m ≠ "known" := by decide)
    (hst : starEach (a :: es) X.env = (false, eval a X.env) :: starEach es X.env := by rfl) (hpl : (backTo pos (starEach es X.env)).any (·.1) = false := by rfl)
    (ht : eval (.Call (.Attribute e0 m apos) (a :: es) [] pos) X.env = (do
      let ov ← eval e0 X.env
      standAt apos.atName
      let (f, first) ← holding [ov] (getMethod ov m pl)
      callWith pos f first (backTo pos (starEach (a :: es) X.env)) (backToKw pos (keywordEach [] X.env))) := by rfl) :
    DE (bxO X.K (insO C tp MF)) TB X (.Call (.Attribute e0 m apos) (a :: es) [] pos) (vMeth S eo as) := by
  refine (pe_meth he c hm F hr hb .nil pass0 ha hst hpl ht).imp ?_
  rintro σ H Q ⟨G, W, ρ, Qd, s, h, fin⟩
  refine ⟨G, W, ρ, _, s, h, fun v H1 W1 ρ1 k d le fr s1 r q => ?_⟩
  obtain ⟨al, g, hd, q⟩ := q
  simp only at hd
  subst hd
  have vo := s1.view r
  obtain ⟨b, dx, kd, va, rfl, hp, w1, w2, w3, rp⟩ := view_ins vo
  obtain ⟨o, ho, rfl⟩ := s1.w.at_ _ _ w1
  refine ⟨b, dx, _, rfl, ho, ?_, ?_⟩
  · obtain ⟨n1, n2⟩ := hne
    show List.lookup m [("alphabet", va), ("known", V.ref kd)] = none
    rw [List.lookup_cons, List.lookup_cons]
    have e1 : (m == ("alphabet" : Str)) = false := by simpa using n1
    have e2 : (m == ("known" : Str)) = false := by simpa using n2
    rw [e1, e2]
    rfl
  · refine ⟨G, W1, ρ1, _, s1, q, fun vs H2 W2 ρ2 ds le2 fr2 s2 r2 q2 => ?_⟩
    show spD _ Y TB S (V.ref b :: (vs ++ [])) H2 Q E0
    rw [List.append_nil]
    have ro : Rep (bxO X.K (insO C tp MF)) W2 (.obj 2 [al, g]) (.ref b) := Rep.obj ⟨al, g, dx, kd, va, rfl, hp, le2 _ _ w1, le2 _ _ w2, le2 _ _ w3, rp.mono le2⟩
    exact ⟨W2, _ :: ds, _, _, s2.w, .cons ro r2, q2, fun v H' W' d le' w' kp rd qd => fin v H' W' ρ2 .fz d (le.trans (le2.trans le')) (fr.trans fr2) (s2.after le' w' kp) rd qd, fun _ _ _ _ _ _ _ _ _ _ z => z.elim⟩
/-! ### a new instance -/
def spInit (C : Addr) (o0 : HO) : Sp := fun vs H Q _ => ∃ x dx va, vs = [.ref x, va] ∧ H x = some (.ins C dx []) ∧ ∀ kd, H kd = none → kd ≠ x → Q .non (upd (upd (upd H x (.ins C dx [("alphabet", va)])) kd o0) x (.ins C dx [("alphabet", va), ("known", .ref kd)]))
def DNew (td : TE) (o0 : HO) : Prop := ∀ (σ : L2.St) (H : Hp) (Q : VK), (∀ kd, H kd = none → Q (.ref kd) (upd H kd o0)) → td σ H Q
theorem dnew_T : DNew tDNewT (.dT []) := fun _ _ _ h => h
theorem dnew_K : DNew tDNewK (.dK []) := fun _ _ _ h => h
theorem init_pss {dE : Expr} {td : TE} {p1 p2 p3 p4 p5 p6 p7 : Pos} (hdE : PE X dE td) (h0 : X.N[0]? = some ("self" : Str) := by rfl) (h1 : X.N[1]? = some ("alphabet" : Str) := by rfl) (v0 : Vis X.env.scope "self" := by first | exact Or.inl rfl | exact Or.inr (Or.inl rfl) | exact Or.inr (Or.inr rfl)) (v1 : Vis X.env.scope "alphabet" := by first | exact Or.inl rfl | exact Or.inr (Or.inl rfl) | exact Or.inr (Or.inr rfl))
    (hs1 : swapsWith (.Name "alphabet" p3) (some (.Attribute (.Name "self" p1) "alphabet" p2)) p4.line X.env = pure false := by rfl) (hs2 : swapsWith dE (some (.Attribute (.Name "self" p5) "known" p6)) p7.line X.env = pure false := by rfl) :
    PSs X [.Assign [.Attribute (.Name "self" p1) "alphabet" p2] (.Name "alphabet" p3) p4, .Assign [.Attribute (.Name "self" p5) "known" p6] dE p7] (tSeq (sFld X.K (tVar 0) (tVar 1) "alphabet") (sFld X.K (tVar 0) td "known")) :=
  pss_cons (ps_fld (pe_var h0 v0) (pe_var h1 v1) hs1) (pss_one (ps_fld (pe_var h0 v0) hdE hs2))
theorem init_run {K : PySem.W.Frag} {td : TE} {o0 : HO} {vs : List V} {H : Hp} {Q : VK} {EE : XK} {N : List Str} (c : Cls K C) (n1 : NoAttr K C "alphabet") (n2 : NoAttr K C "known") (hd : DNew td o0) (h : spInit C o0 vs H Q EE) :
    tSeq (sFld K (tVar 0) (tVar 1) "alphabet") (sFld K (tVar 0) td "known") { nx := fun _ H' => Q .non H', rt := Q } (L2.start N vs) H := by
  obtain ⟨x, dx, va, rfl, hx, h⟩ := h
  refine ⟨va, rfl, .ref x, rfl, x, C, dx, [], rfl, hx, c, n1, by rw [List.length_nil]; decide, ?_⟩
  refine hd _ _ _ fun kd hk => ⟨.ref x, rfl, x, C, dx, [("alphabet", va)], rfl, ?_, c, n2, by rw [List.length_singleton]; decide, ?_⟩
  · have ne : x ≠ kd := fun e => by subst e; rw [upd_same] at hk; cases hk
    rw [upd_ne ne]
    exact upd_same
  · have ne : kd ≠ x := fun e => by subst e; rw [upd_same] at hk; cases hk
    rw [upd_ne ne] at hk
    exact h kd hk ne
/-- C(alphabet) -/
def vMake (ok0 : D → D → Prop) (as : AsT) : EvT := fun ρ Q => as ρ fun ds ρ1 => ∃ al g, ds = [al] ∧ pureD al = true ∧ ok0 al g ∧ Q (.fz, .obj 2 [al, g]) ρ1
theorem de_make {o0 : HO} {ok0 : D → D → Prop} {k : Nat} {f : Addr} {fd : FuncData} {ps : List Str} {x : Str} {a : Expr} {es : List Expr} {as : AsT} {p pos : Pos} (h0 : ∀ al g, ok0 al g → MemoP tp MF (rkT tp) al g o0) (M : Mk X.K C f) (F : FnOk X.prog X.w X.K X.mg X.base CX0 k f fd ps (spInit C o0)) (hr : Room (k + 1) X.A) (hg : Gl X x) (hm : X.mg x = some (.ref C)) (hb : Binds X.K fd ps [])
    (ha : DAs (bxO X.K (insO C tp MF)) TB X (a :: es) as) (hdb : (x == ("__debug__" : Str)) = false := by decide) (he : starEach (a :: es) X.env = (false, eval a X.env) :: starEach es X.env := by rfl) (hpl : (backTo pos (starEach es X.env)).any (·.1) = false := by rfl) :
    DE (bxO X.K (insO C tp MF)) TB X (.Call (.Name x p) (a :: es) [] pos) (vMake ok0 as) := by
  refine (pe_make M F hr hg hm hb .nil pass0 ha hdb he hpl).imp ?_
  rintro σ H Q ⟨G, W, ρ, Qd, s, h, fin⟩
  refine ⟨G, W, ρ, _, s, h, fun vs H1 W1 ρ1 ds le fr s1 r q => ?_⟩
  obtain ⟨al, g, rfl, hp, hok, q⟩ := q
  cases r with
  | @cons _ _ va _ rv t =>
    cases t
    intro b dx hb hdx hne
    refine ⟨b, dx, va, rfl, upd_same, fun kd hk hkb => ⟨rfl, ?_⟩⟩
    rw [upd_ne hkb] at hk
    have hkd : kd ≠ dx := fun e => by subst e; rw [upd_same] at hk; cases hk
    rw [upd_ne hkd] at hk
    have wb := s1.w.none_of hb
    have wd := s1.w.none_of hdx
    have wk := s1.w.none_of hk
    generalize hH : upd (upd (upd (upd (upd H1 dx (.own b)) b (.ins C dx [])) b (.ins C dx [("alphabet", va)])) kd o0) b (.ins C dx [("alphabet", va), ("known", .ref kd)]) = H3
    have e1 : H3 b = some (.ins C dx [("alphabet", va), ("known", .ref kd)]) := by rw [← hH]; exact upd_same
    have e2 : H3 kd = some o0 := by rw [← hH, upd_ne hkb]; exact upd_same
    have e3 : H3 dx = some (.own b) := by rw [← hH, upd_ne hne, upd_ne (Ne.symm hkd), upd_ne hne, upd_ne hne]; exact upd_same
    have e4 : ∀ c, c ≠ b → c ≠ dx → c ≠ kd → H3 c = H1 c := fun c n1 n2 n3 => by rw [← hH, upd_ne n1, upd_ne n3, upd_ne n1, upd_ne n1, upd_ne n2]
    have w3 : WOk TB W1 H3 := by
      rw [← hH]
      exact ((((s1.w.upd wd).upd wb).upd wb).upd wk).upd wb
    have l1 := wup_le (P := InsP C dx kd va) wb
    have w4 := w3.wup wb e1 (show InsP C dx kd va _ from rfl)
    have wd2 : wup W1 b (InsP C dx kd va) dx = none := by rw [wup_ne hne]; exact wd
    have l2 := wup_le (P := OwnP b) wd2
    have w5 := w4.wup wd2 e3 (show OwnP b _ from rfl)
    have wk2 : wup (wup W1 b (InsP C dx kd va)) dx (OwnP b) kd = none := by rw [wup_ne hkd, wup_ne hkb]; exact wk
    have l3 := wup_le (P := MemoP tp MF (rkT tp) al g) wk2
    have w6 := w5.wup wk2 e2 (h0 al g hok)
    have le4 : WLe W1 (wup (wup (wup W1 b (InsP C dx kd va)) dx (OwnP b)) kd (MemoP tp MF (rkT tp) al g)) := l1.trans (l2.trans l3)
    refine fin (.ref b) H3 _ ρ1 .fz (.obj 2 [al, g]) (le.trans le4) fr (s1.keep le4 w6 fun c o c1 c2 _ => ?_) (Rep.obj ⟨al, g, dx, kd, va, rfl, hp, ?_, ?_, wup_same, ((rv.mono le4).swap hp)⟩) q
    · have nb := ne_of_none c1 hb
      have nd := ne_of_none c1 hdx
      have nk := ne_of_none c1 hk
      refine ⟨by rw [e4 c nb nd nk]; exact c1, ?_⟩
      rw [wup_ne nk, wup_ne nd, wup_ne nb]
      exact c2
    · rw [wup_ne (Ne.symm hkb), wup_ne (Ne.symm hne)]; exact wup_same
    · rw [wup_ne (Ne.symm hkd)]; exact wup_same
/-! ### a dict of numbers alone -/
theorem view_mem {K : PySem.W.Frag} {W : Wd} {H : Hp} {al g : D} {v : V} (h : View (bxO K (insO C tp MF)) W H (.obj 3 [al, g]) v) : ∃ a, v = .ref a ∧ W a = some (MemoP tp MF [] al g) := by
  obtain ⟨a, e, h⟩ := view_obj h
  obtain ⟨al', g', h2, h3⟩ := h
  cases h2
  exact ⟨a, e, h3⟩
/-- {}, to be filled -/
def vNewM : EvT := fun ρ Q => ∃ al g, Q (.fz, .obj 3 [al, g]) ρ
theorem de_newM {pos : Pos} : DE (bxO X.K (insO C false MF)) TB X (.Dict [] [] pos) vNewM := by
  refine pe_dnewK.imp ?_
  rintro σ H Q ⟨G, W, ρ, Qd, s, ⟨al, g, h⟩, fin⟩
  intro p hp
  have nw := s.w.none_of hp
  have l4 := wup_le (P := MemoP false MF [] al g) nw
  refine fin _ _ (wup W p (MemoP false MF [] al g)) ρ .fz (.obj 3 [al, g]) l4 (Fro.refl ρ) (s.keep l4 ((s.w.upd nw).wup nw upd_same ⟨[], rfl, ⟨List.nodup_nil, fun p hp => (by cases hp), fun p hp => (by cases hp)⟩⟩) fun c o e1 e2 _ => ?_) (Rep.obj ⟨al, g, rfl, wup_same⟩) h
  have ne := ne_of_none e1 hp
  exact ⟨by rw [upd_ne ne]; exact e1, by rw [wup_ne ne]; exact e2⟩
/-- if key not in d: s1; s2; d[key] = e; return d[key] -/
def sMemoD (j : Nat) (tp : Bool) (MF : MemF) (KA : Rho → D → Prop) (t1 t2 : StT) (ev : EvT) : StT := fun ρ D => ∃ al g key, KeyOk tp key ∧ ρ[j]? = some (.fz (.obj 3 [al, g])) ∧ KA ρ key ∧ (∀ v : Int, MF al g key v → D.rt (.int v)) ∧
  t1 ρ { nx := fun ρ1 => t2 ρ1 { nx := fun ρ2 => ev ρ2 fun r ρ3 => KA ρ3 key ∧ ρ3[j]? = some (.fz (.obj 3 [al, g])) ∧ ∃ v : Int, r.2 = .int v ∧ MF al g key v, rt := D.rt }, rt := D.rt }
theorem dss_memoD {j : Nat} {x0 : Str} {k1 k2 k3 e : Expr} {st1 st2 : Stmt} {t1 t2 : StT} {tk : TE} {KA : Rho → D → Prop} {ev : EvT} {p1 p3 p4 p6 p7 p8 p9 p11 p12 : Pos} (hu : X.A.units + 1 < cLine) (fin : MemFin MF)
    (kr : KRead (bxO X.K (insO C tp MF)) TB tk KA) (h1 : PE X k1 tk) (h2 : PE X k2 tk) (h3 : PE X k3 tk) (he : DE (bxO X.K (insO C tp MF)) TB X e ev) (hs1 : DS (bxO X.K (insO C tp MF)) Y TB E X st1 t1) (hs2 : DS (bxO X.K (insO C tp MF)) Y TB E X st2 t2)
    (hN : X.N[j]? = some x0 := by rfl) (hv : Vis X.env.scope x0 := by first | exact Or.inl rfl | exact Or.inr (Or.inl rfl) | exact Or.inr (Or.inr rfl)) (hd : (x0 == ("__debug__" : Str)) = false := by decide) (hcd : (x0 == ("__classdict__" : Str)) = false := by decide)
    (hs : swapsWith e (some (.Subscript (.Name x0 p4) k2 p6)) p7.line X.env = pure false := by rfl) (hs3 : NoSl k3 := by intro _ _; rfl)
    (hm : behindInMarks .NotIn (.Name x0 p1) = false := by rfl) :
    DSs (bxO X.K (insO C tp MF)) Y TB E X [.If (.Compare k1 [.NotIn] [.Name x0 p1] p3) [st1, st2, .Assign [.Subscript (.Name x0 p4) k2 p6] e p7] [] p8, .Return (some (.Subscript (.Name x0 p9) k3 p11)) p12] (sMemoD j tp MF KA t1 t2 ev) := by
  have hvar : ∀ p, PE X (.Name x0 p) (tVar j) := fun p => pe_var hN hv hd hcd
  refine (pss_cons (ps_if (pt_cmp (pc_dnotin hu h1 (hvar _)) hm) (pss_cons hs1 (pss_cons hs2 (pss_one (ps_dput hu (hvar _) h2 he hs)))) pss_nil) (pss_one (ps_ret (pe_dget hu (hvar _) h3 hs3)))).imp ?_
  rintro D σ H ⟨G, W, ρ, Dd, s, ⟨al, g, key, hk, hsf, hka, hrt, hev⟩, n, r, _⟩
  have obj : ∀ {G' : Kp} {W' H' ρ' σ'}, SOk (bxO X.K (insO C tp MF)) TB G' W' ρ' σ' H' → ρ'[j]? = some (.fz (.obj 3 [al, g])) → ∃ kd, σ'[j]? = some (some (V.ref kd)) ∧ W' kd = some (MemoP tp MF [] al g) ∧ ∃ o, H' kd = some o ∧ MemoP tp MF [] al g o := fun {G' W' H' ρ' σ'} s' hs' => by
    obtain ⟨ov, g1, q2⟩ := s'.sl j _ hs'
    obtain ⟨v0, rfl, rp⟩ := q2
    obtain ⟨kd, rfl, w3⟩ := view_mem (Rep.view s'.w rp)
    exact ⟨kd, g1, w3, s'.w.at_ _ _ w3⟩
  -- the end: it is read
  have last : ∀ {W' H' ρ' σ' o kd}, WLe W W' → SOk (bxO X.K (insO C tp MF)) TB G W' ρ' σ' H' → KA ρ' key → σ'[j]? = some (some (V.ref kd)) → W' kd = some (MemoP tp MF [] al g) → H' kd = some o → (∃ v, mlook o key = some v) → tDGet (tVar j) tk σ' H' D.rt := fun {W' H' ρ' σ' o kd} le s' hka' hsl hw ho ⟨v, hv'⟩ => by
    obtain ⟨o2, ho2, hmp⟩ := s'.w.at_ _ _ hw
    rw [ho] at ho2; cases ho2
    refine ⟨.ref kd, hsl, kr _ s' hka' fun y H2 W2 le2 s2 vw hx => ?_⟩
    obtain ⟨dg, hval, _⟩ := memo_get (hx _ _ ho) hmp vw hk
    rw [hv'] at dg
    obtain ⟨i, rfl, hi⟩ := hval v hv'
    exact ⟨kd, _, rfl, dg, r (.int i) H2 W2 (.int i) (le.trans le2) s2.w (fun a o e => s2.g a o e) .int (hrt i hi)⟩
  show tIfS _ _ _ _ σ H
  refine kr _ s hka fun y H1 W1 le1 s1 vw hx => ?_
  obtain ⟨kd, hsl, hw, o, ho, hmp⟩ := obj s1 hsf
  obtain ⟨dg, hval, _⟩ := memo_get ho hmp vw hk
  refine ⟨.ref kd, hsl, kd, _, rfl, dg, _, rfl, ?_⟩
  cases hl : mlook o key with
  | some v =>
    show tDGet (tVar j) tk σ H1 D.rt
    exact last le1 s1 hka hsl hw ho ⟨v, hl⟩
  | none =>
    have ret : ∀ {W0}, WLe W W0 → ∀ v H' W' d, WLe W0 W' → WOk TB W' H' → (∀ a o, G.g a = some o → H' a = some o ∧ W' a = none) → Rep (bxO X.K (insO C tp MF)) W' d v → Dd.rt d → D.rt v H' := fun {W0} le v H' W' d le' => r v H' W' d (le.trans le')
    show tSt _ Y TB E t1 _ σ H1
    refine ⟨G, W1, ρ, _, s1, hev, fun σ2 H2 W2 ρ2 le2 s2 q2 => ?_, ret le1, fun _ _ _ _ _ _ q => q.elim, fun _ _ _ _ _ _ q => q.elim, fun _ _ _ _ _ _ _ _ _ _ q => q.elim⟩
    show tSt _ Y TB E t2 _ σ2 H2
    refine ⟨G, W2, ρ2, _, s2, q2, fun σ3 H3 W3 ρ3 le3 s3 q3 => ?_, ret (le1.trans le2), fun _ _ _ _ _ _ q => q.elim, fun _ _ _ _ _ _ q => q.elim, fun _ _ _ _ _ _ _ _ _ _ q => q.elim⟩
    show sDPut (tVar j) tk (tEv _ TB ev) _ σ3 H3
    refine ⟨G, W3, ρ3, _, s3, q3, fun v H4 W4 ρ4 k d le4 fr4 s4 r4 q4 => ?_⟩
    obtain ⟨hka4, hsf4, i, hd4, hi⟩ := q4
    simp only at hd4
    subst hd4
    have hv4 : v = .int i := by
      have z := s4.view r4
      cases z; rfl
    subst hv4
    obtain ⟨kd4, hsl4, hw4, _⟩ := obj s4 hsf4
    refine ⟨.ref kd4, hsl4, kr _ s4 hka4 fun y5 H5 W5 le5 s5 vw5 hx5 => ?_⟩
    obtain ⟨o6, dp, s6, hl6⟩ := memo_put fin s5 (le5 _ _ hw4) vw5 hk hi
    refine ⟨kd4, _, rfl, dp, ?_⟩
    show tDGet (tVar j) tk σ3 _ D.rt
    exact last (le1.trans (le2.trans (le3.trans (le4.trans le5)))) s6 hka4 hsl4 (le5 _ _ hw4) upd_same ⟨_, hl6⟩
end
/-! ### what the head tells of a class -/
section
variable {fa : List He.Fa} {fn : List He.DefD} {tf : List He.Defn} {K : PySem.W.Frag} {mg : Str → Option Value} {base : Heap}
theorem Kn.cls (k : Kn fa fn tf K mg base) (i : Nat) {x : Str} (h : fa[i]? = some (.cls x) := by rfl) : Cls K (He.ga K x) := He.cls_ok (k.c.fact i (f := .cls x) h)
theorem Kn.noat (k : Kn fa fn tf K mg base) (i : Nat) {x f : Str} (h : fa[i]? = some (.noat x f) := by rfl) : NoAttr K (He.ga K x) f := He.noat_ok (k.c.fact i (f := .noat x f) h)
theorem Kn.meth (k : Kn fa fn tf K mg base) (i : Nat) {x m : Str} (h : fa[i]? = some (.meth x m) := by rfl) : Meth K (He.ga K x) m (He.fAd K (x, some m)) := He.meth_ok (k.c.fact i (f := .meth x m) h)
theorem Kn.mkr (k : Kn fa fn tf K mg base) (i : Nat) {x : Str} (h : fa[i]? = some (.mkr x) := by rfl) : Mk K (He.ga K x) (He.fAd K (x, some "__init__")) := He.mkr_ok (k.c.fact i (f := .mkr x) h)
end
section
variable {Y : ExI} {TB : List Addr} {X : Cx} {tp : Bool} {MF : MemF} {cn : Str}
theorem de_methD {S : Spc} {k j : Nat} {ps : List Str} {m : Str} {e0 a : Expr} {es : List Expr} {eo : EvT} {as : AsT} {pos apos : Pos} {pl : Sem Bool} (F : OkD X.prog X.w X.K X.mg X.base (bxO X.K (insO (He.ga X.K cn) tp MF)) Y TB k (cn, some m) ps S) (hr : Room j X.A) (hk : k ≤ j) (c : Cls X.K (He.ga X.K cn)) (hm : Meth X.K (He.ga X.K cn) m (He.fAd X.K (cn, some m)))
    (he : DE (bxO X.K (insO (He.ga X.K cn) tp MF)) TB X e0 eo) (ha : DAs (bxO X.K (insO (He.ga X.K cn) tp MF)) TB X (a :: es) as) (hne : m ≠ "alphabet" ∧ m ≠ "known" := by decide)
    (hst : starEach (a :: es) X.env = (false, eval a X.env) :: starEach es X.env := by rfl) (hpl : (backTo pos (starEach es X.env)).any (·.1) = false := by rfl)
    (ht : eval (.Call (.Attribute e0 m apos) (a :: es) [] pos) X.env = (do
      let ov ← eval e0 X.env
      standAt apos.atName
      let (f, first) ← holding [ov] (getMethod ov m pl)
      callWith pos f first (backTo pos (starEach (a :: es) X.env)) (backToKw pos (keywordEach [] X.env))) := by rfl) :
    DE (bxO X.K (insO (He.ga X.K cn) tp MF)) TB X (.Call (.Attribute e0 m apos) (a :: es) [] pos) (vMeth S eo as) := by
  obtain ⟨fd, F, kp, b⟩ := F
  exact de_meth F c hm (hr.mono hk) b he ha hne hst hpl ht
/-- an __init__ by its facts -/
def OkI (P : Program) (w : World) (K : PySem.W.Frag) (mg : Str → Option Value) (base : Heap) (k : Nat) (cn : Str) (o0 : HO) : Prop :=
  ∃ fd, FnOk P w K mg base CX0 k (He.fAd K (cn, some "__init__")) fd ["self", "alphabet"] (spInit (He.ga K cn) o0) ∧ Binds K fd ["self", "alphabet"] []
theorem OkI.mk {P : Program} {w : World} {K : PySem.W.Frag} {mg : Str → Option Value} {base : Heap} {x qual : Str} {params : Arguments} {body : List Stmt} {scope : Scope} {fd : FuncData} {N : List Str} {k : Nat} {o0 : HO} {td : TE} (F : FunD K x qual params body scope [] [] (He.fAd K (cn, some "__init__")) fd) (sc : FnScope N ["self", "alphabet"] scope)
    (c : Cls K (He.ga K cn)) (n1 : NoAttr K (He.ga K cn) "alphabet") (n2 : NoAttr K (He.ga K cn) "known") (hd0 : DNew td o0)
    (hd : ∀ (A : Around) (outer : List Env) (s : Shared) (H : Hp) (E : XK), PSs (cxOf CX0 P w K mg base N qual scope (He.fAd K (cn, some "__init__")) (.ref (He.codeOf K (cn, some "__init__"))) A outer s H E) body (tSeq (sFld K (tVar 0) (tVar 1) "alphabet") (sFld K (tVar 0) td "known")))
    (hb : ∀ (kV doc pm : Value) (an : Option Addr) (cdv ct : Value) (us : List Value), us.length = 2 → bindArgs (PySem.W.fnOf x qual params body scope .none kV doc pm an cdv ct) ⟨us, []⟩ = pure ((["self", "alphabet"] : List Str).zip us)) : OkI P w K mg base (k + 1) cn o0 := by
  refine ⟨fd, ?_, F.bindsN hb⟩
  obtain ⟨oc, od, dV, kV, doc, pm, an, cdv, ct, osl, rfl, lk, hcd, _, _⟩ := F.ex
  obtain ⟨cc, rfl⟩ := He.codeIn_ref hcd
  have ec : He.codeOf K (cn, some "__init__") = cc := He.codeOf_eq lk rfl
  rw [ec] at hd
  refine fn_of lk hcd sc (fun vs H Q E h => by obtain ⟨x, dx, va, rfl, _⟩ := h; rfl) fun A outer s H vs Q E hr h => ?_
  exact ⟨_, hd A outer s H E, init_run c n1 n2 hd0 h⟩
theorem de_makeD {o0 : HO} {ok0 : D → D → Prop} {k j : Nat} {a : Expr} {es : List Expr} {as : AsT} {p pos : Pos} (h0 : ∀ al g, ok0 al g → MemoP tp MF (rkT tp) al g o0) (F : OkI X.prog X.w X.K X.mg X.base k cn o0) (hr : Room j X.A) (hk : k + 1 ≤ j) (M : Mk X.K (He.ga X.K cn) (He.fAd X.K (cn, some "__init__"))) (hm : X.mg cn = some (.ref (He.ga X.K cn)))
    (ha : DAs (bxO X.K (insO (He.ga X.K cn) tp MF)) TB X (a :: es) as) (hg : Gl X cn := by rfl) (hdb : (cn == ("__debug__" : Str)) = false := by decide) (he : starEach (a :: es) X.env = (false, eval a X.env) :: starEach es X.env := by rfl) (hpl : (backTo pos (starEach es X.env)).any (·.1) = false := by rfl) :
    DE (bxO X.K (insO (He.ga X.K cn) tp MF)) TB X (.Call (.Name cn p) (a :: es) [] pos) (vMake ok0 as) := by
  obtain ⟨fd, F, b⟩ := F
  exact de_make h0 M F (hr.mono hk) hg hm b ha hdb he hpl
/-- {'': 1} -/
theorem memo_K1 {MF : MemF} {al g : D} (h : MF al g (.str []) 1) : MemoP false MF (rkT false) al g (.dK [(.inr (mkS []), .int 1)]) :=
  ⟨_, rfl, ⟨by simp, fun p hp => by
    rw [List.mem_singleton.mp hp]
    exact ⟨1, rfl, h⟩, fun k hk => ⟨_, List.mem_singleton.mpr rfl, by
    have : k = .str [] := List.mem_singleton.mp hk
    rw [this]
    show D.str (mkS []).cps.toList = .str []
    rw [mkS_toList]⟩⟩⟩
theorem dnew_K1 : DNew (tDisp [(tC (.str (mkS [])), tC (.int 1))]) (.dK [(.inr (mkS []), .int 1)]) := fun σ H Q h kd hk => by
  refine ⟨upd_same, [(.inr (mkS []), .int 1)], rfl, by simp, ?_⟩
  rw [upd_upd]
  exact h kd hk
theorem memo_T0 {MF : MemF} {al g : D} : MemoP true MF (rkT true) al g (.dT []) := ⟨_, rfl, ⟨by simp, fun p hp => (by cases hp), fun k hk => (by cases hk)⟩⟩
end
/-- the statements of a class -/
def clsBody : Stmt → List Stmt
  | .ClassDef _ _ _ body .. => body
  | _ => []
theorem lawAt_ofE {l : PySem.W.OpenLaw} {w : World} {h : Heap} {K : PySem.W.Frag} {fa : List He.Fa} {fn : List He.DefD} {tf : List He.Defn} {ex : PySem.W.Frag → Bool} {mg : Str → Option Value} {f : Addr} {k : Nat} {x : Str} {EO : ObjI} (X : K.In h) (G : h.Ns mainGlobals mg) (c : He.SaysX fa fn [] tf ex w h K) (hfa : mg "law" = some (.ref f))
    {d : He.DefD} (i j : Nat) (hi : fa[i]? = some (.glo "law") := by rfl) (hj : fn[j]? = some d := by rfl) (hat : d.at_ = (("law" : Str), (none : Option Str)) := by rfl)
    (hb : ∀ (kV doc pm : Value) (an : Option Addr) (cdv ct : Value) (us : List Value), us.length = 1 → bindArgs (PySem.W.fnOf d.name d.qual d.params d.body d.scope .none kV doc pm an cdv ct) ⟨us, []⟩ = pure ([x].zip us))
    (h0 : d.dfl = [] := by rfl) (h1 : d.kwd = [] := by rfl)
    (ok : ∀ (base : Heap) (fd : FuncData), Kn fa fn tf K mg base → FunD K d.name d.qual d.params d.body d.scope [] [] (He.fAd K ("law", none)) fd → FnOk l.prog w K mg base CX0 k (He.fAd K ("law", none)) fd [x] (spD (bxO K EO) noY (tbs K tf) lawS)) :
    LamX.LawAtS l w K CX0 k 63 x mg f h := by
  have e : f = He.fAd K ("law", none) := by
    have z := hfa.symm.trans (He.glo_ok X G (c.t.d.fact i (f := .glo "law") hi))
    cases z; rfl
  subst e
  have F : ∃ fd, FunD K d.name d.qual d.params d.body d.scope [] [] (He.fAd K ("law", none)) fd := by
    obtain ⟨fd, F⟩ := c.t.d.def_ j (d := d) hj
    refine ⟨fd, ?_⟩
    have e0 : d.dvs K = [] := by unfold He.DefD.dvs; rw [h0]; rfl
    have e1 : d.kws K = [] := by unfold He.DefD.kws; rw [h1]; rfl
    rw [e0, e1, hat] at F
    exact F
  obtain ⟨fd, F⟩ := F
  refine ⟨fd, tf.map (He.cT K), spD (bxO K EO) noY (tbs K tf) lawS, fun p hp => ?_, fun p hp => ?_, fun p hp => ?_, fun s u => ?_, fun H a ns hl _ hT hS => lawSp hl hT hS, fun base hK hN hT => ok base fd ⟨c.t.d, hK, hN, fun p hp => let z := hT _ (List.mem_map.mpr ⟨p, hp, rfl⟩); ⟨z.code, z.bm, z.gP⟩⟩ F⟩
  · obtain ⟨q, hq, rfl⟩ := List.mem_map.mp hp
    exact c.empty q hq
  · obtain ⟨q, hq, rfl⟩ := List.mem_map.mp hp
    exact c.out q hq
  · obtain ⟨q, hq, rfl⟩ := List.mem_map.mp hp
    exact PySem.W.codeHd_of_K X (c.hd q hq)
  · exact FunD.bindsA (ps := [x]) F hb s [u] rfl
end TC

/-! Two variables as key. -/
namespace TC
open PySem PySem.Spec PyProof.Rows L2
def KPair (i j : Nat) : Rho → D → Prop := fun ρ key => ∃ a b, ρ[i]? = some (.fz a) ∧ ρ[j]? = some (.fz b) ∧ key = .tup [a, b]
def tPairK (i j : Nat) : TE := fun σ H Q => ∃ v u, σ[i]? = some (some v) ∧ σ[j]? = some (some u) ∧ ∀ p, H p = none → Q (.ref p) (upd H p (.tup [v, u]))
theorem pe_pairK {X : Cx} {i j : Nat} {x y : Str} {k : Nat} {p1 p2 pos : Pos} (h1 : X.N[i]? = some x) (h2 : X.N[j]? = some y) (v1 : Vis X.env.scope x) (v2 : Vis X.env.scope y) (d1 : (x == ("__debug__" : Str)) = false := by decide) (d2 : (y == ("__debug__" : Str)) = false := by decide) (c1 : (x == ("__classdict__" : Str)) = false := by decide) (c2 : (y == ("__classdict__" : Str)) = false := by decide)
    (hs : starEach [.Name x p1, .Name y p2] X.env = (false, eval (.Name x p1) X.env) :: starEach [.Name y p2] X.env := by rfl) (hs2 : starEach [.Name y p2] X.env = (false, eval (.Name y p2) X.env) :: starEach [] X.env := by rfl) :
    PE X (.Tuple [.Name x p1, .Name y p2] k pos) (tPairK i j) := by
  refine (pe_tup (pa_cons (pe_var h1 v1 d1 c1) (pa_cons (pe_var h2 v2 d2 c2) pa_nil hs2) hs)).imp ?_
  rintro σ H Q ⟨v, u, e1, e2, h⟩
  exact ⟨v, e1, u, e2, by show 2 ≤ sizeLine; decide, h⟩
theorem kread_pair {O : ObjI} {TB : List Addr} {i j : Nat} : KRead O TB (tPairK i j) (KPair i j) := fun {G W ρ σ H key} Q s hk fin => by
  obtain ⟨a, b, ha, hb, rfl⟩ := hk
  obtain ⟨ov, q1, q2⟩ := s.sl i _ ha
  obtain ⟨v, rfl, rp⟩ := q2
  obtain ⟨ov2, q3, q4⟩ := s.sl j _ hb
  obtain ⟨u, rfl, rp2⟩ := q4
  refine ⟨v, u, q1, q3, fun p hp => ?_⟩
  have le := wup_le (P := Fz (.tup [v, u])) (s.w.none_of hp)
  exact fin (.ref p) _ _ le (s.newF hp) (.tup wup_same upd_same (.cons (rp.mono le) (.cons (rp2.mono le) .nil))) fun b o e => by rw [upd_ne (ne_of_none e hp)]; exact e
end TC

namespace TC
open PySem PySem.Spec PyProof.Rows L2
/-! ### what the defs evaluate to, printed by gen.py -/
def e_independent : StT :=
  sRet (v2 inD (v2 addD (vB (on2 minD) (aCons (vVar 1) (aCons (vVar 2) (aNil)))) (vB (on2 maxD) (aCons (vVar 1) (aCons (vVar 2) (aNil))))) (v2 ixD (vVar 0) (vC (.int 2))))
def e_free (S_independent : Spc) : StT :=
  sRet (vAllAny false (iRaw (vVar 1)) [3, 4] (gSet 3) (tsNil) (bdN [4] (iVal (vVar 2)) (gSet 4) (tsNil) (bdE (vCall S_independent (sCons (vVar 0) (sCons (vVar 3) (sCons (vVar 4) (sNil))))))))
def l1_cliques (S_free : Spc) : StT :=
  sExt 1 (vLc [3] (iRaw (vVar 1)) (gSet 3) (tOf (vCall S_free (sCons (vVar 0) (sCons (vVar 3) (sCons (vVar 2) (sNil)))))) (v2 addD (vVar 3) (vVar 2)))
def e_cliques (S_free : Spc) : StT :=
  sSeq (sSet 1 (vLst (sCons (vC (.str [])) (sNil))))
    (sSeq (sFor (iVal (v2 ixD (vVar 0) (vC (.int 1)))) (gSet 2) (l1_cliques S_free))
    (sRet (vB (on1 tupD) (aCons (vSortK (vVar 1)) (aNil)))))
def e_barred_behind (S_independent : Spc) : StT :=
  sRet (vJoinG (vC (.str [])) (iRaw (v2 ixD (vVar 0) (vC (.int 1)))) [3] (gSet 3) (tAnd (tOf (vCall S_independent (sCons (vVar 0) (sCons (vVar 3) (sCons (vVar 2) (sNil)))))) (tOr (tBl (v2 inD (vVar 3) (vVar 1))) (tBl (v2 ltD (vVar 3) (vVar 2))))) (bdE (vVar 3)))
def e_count_traces (MF : MemF) (S_count : Spc) : StT :=
  sRet (vMeth S_count (vMake (fun _ _ => True) (sCons (vVar 0) (sNil))) (sCons (vVar 1) (sCons (vC (.str [])) (sNil))))
def e_traces (MF : MemF) (S_words : Spc) : StT :=
  sRet (vB (on1 tupD) (aCons (vMeth S_words (vMake (fun _ _ => True) (sCons (vVar 0) (sNil))) (sCons (vVar 1) (sCons (vC (.str [])) (sNil)))) (aNil)))
def e__law_free : StT :=
  sRet (vOr (v2 inD (v2 addD (vVar 1) (vVar 2)) (v2 ixD (vVar 0) (vC (.int 2)))) (v2 inD (v2 addD (vVar 2) (vVar 1)) (v2 ixD (vVar 0) (vC (.int 2)))))
def l2__law_apart (S__law_free : Spc) : StT :=
  sIf (tNot (tOf (vCall S__law_free (sCons (vVar 0) (sCons (vVar 3) (sCons (vVar 4) (sNil))))))) (sRet (vC (.bl false))) (sNext)
def l1__law_apart (S__law_free : Spc) : StT :=
  sFor (iVal (vVar 2)) (gSet 4) (l2__law_apart S__law_free)
def e__law_apart (S__law_free : Spc) : StT :=
  sSeq (sFor (iVal (vVar 1)) (gSet 3) (l1__law_apart S__law_free))
    (sRet (vC (.bl true)))
def e__law_cell : StT :=
  sSeq (sIf (tBl (v2 ltD (vVar 1) (vScLen (vVar 0)))) (sRet (vScIx (vVar 0) (vVar 1))) (sNext))
    (sRet (vC (.int 0)))
def l3__law_digits (S__law_cell : Spc) : StT :=
  sSeq (sSet 7 (v2 modD (vB (on1 intD) (aCons (v2 addD (v2 addD (v2 mulXD (vVar 7) (vC (.int 16807))) (v2 mulXD (vC (.int 7)) (vVar 6))) (vC (.int 1))) (aNil))) (vC (.int 2147483647))))
    (sApp 3 (v2 modD (vB (on1 intD) (aCons (v2 fdivD (vVar 7) (vC (.int 997))) (aNil))) (vC (.int 1000))))
def l2__law_digits (S__law_cell : Spc) : StT :=
  sIf (tBl (v2 gtD (vVar 5) (vC (.int 0)))) (sSeq (sApp 3 (v2 modD (vB (on1 intD) (aCons (vVar 5) (aNil))) (vC (.int 1000))))
    (sSet 5 (v2 fdivD (vVar 5) (vC (.int 1000))))) (sNext)
def l1__law_digits (S__law_cell : Spc) : StT :=
  sSeq (sSet 5 (vCall S__law_cell (sCons (vVar 0) (sCons (vVar 4) (sNil)))))
    (sSeq (sIf (tBl (v2 ltD (vVar 5) (vC (.int 0)))) (sSet 5 (v2 subD (vC (.int 1)) (v2 mulXD (vC (.int 2)) (vVar 5)))) (sNext))
    (sIf (tBl (v2 geD (vVar 5) (v2 powD (vC (.int 10)) (vC (.int 18))))) (sFor (iRange1 (aCons (vC (.int 60)) (aNil))) (gSet 6) (l2__law_digits S__law_cell)) (sSeq (sSet 7 (v2 modD (vB (on1 intD) (aCons (v2 addD (v2 addD (v2 mulXD (vVar 5) (vC (.int 48271))) (v2 mulXD (vVar 4) (vC (.int 69621)))) (vC (.int 11))) (aNil))) (vC (.int 2147483647))))
    (sFor (iRange1 (aCons (vC (.int 12)) (aNil))) (gSet 6) (l3__law_digits S__law_cell)))))
def e__law_digits (S__law_cell : Spc) : StT :=
  sSeq (sSet 3 (vLst (sNil)))
    (sSeq (sFor (iRange2 (aCons (vVar 1) (aCons (vVar 2) (aNil)))) (gSet 4) (l1__law_digits S__law_cell))
    (sRet (vVar 3)))
def e__law_box (S__law_digits : Spc) : StT :=
  sRet (vBxNew (vCall S__law_digits (sCons (vVar 0) (sCons (vVar 1) (sCons (vVar 2) (sNil))))) (vC (.int 0)))
def e__law_draw : StT :=
  sSeq (sSet 2 (vBxI (vVar 0)))
    (sSeq (sBxSet (vVar 0) (v2 addD (vVar 2) (vC (.int 1))))
    (sSeq (sIf (tBl (v2 ltD (vVar 2) (vB (on1 lenD) (aCons (vBxD (vVar 0)) (aNil))))) (sRet (v2 modD (vB (on1 intD) (aCons (v2 ixD (vBxD (vVar 0)) (vVar 2)) (aNil))) (vVar 1))) (sNext))
    (sRet (vC (.int 0)))))
def l2__law_alphabet (S__law_draw : Spc) : StT :=
  sIf (tBl (v2 ltD (vCall S__law_draw (sCons (vVar 0) (sCons (vC (.int 5)) (sNil)))) (vC (.int 2)))) (sApp 3 (v2 addD (v2 ixD (vVar 2) (vVar 4)) (v2 ixD (vVar 2) (vVar 5)))) (sNext)
def l1__law_alphabet (S__law_draw : Spc) : StT :=
  sFor (iRange2 (aCons (v2 addD (vVar 4) (vC (.int 1))) (aCons (vB (on1 lenD) (aCons (vVar 2) (aNil))) (aNil)))) (gSet 5) (l2__law_alphabet S__law_draw)
def e__law_alphabet (S__law_draw : Spc) : StT :=
  sSeq (sSet 2 (vSl (vC (.str [97, 98, 99, 100, 101, 102])) (pNo) (pSome (v2 addD (vC (.int 1)) (vCall S__law_draw (sCons (vVar 0) (sCons (vVar 1) (sNil))))))))
    (sSeq (sSet 3 (vLst (sNil)))
    (sSeq (sFor (iRange1 (aCons (vB (on1 lenD) (aCons (vVar 2) (aNil))) (aNil))) (gSet 4) (l1__law_alphabet S__law_draw))
    (sRet (vTup (sCons (vC (.str [97, 108, 112, 104, 97, 98, 101, 116])) (sCons (vVar 2) (sCons (vB (on1 tupD) (aCons (vB (on1 sortSDx) (aCons (vVar 3) (aNil))) (aNil))) (sNil))))))))
def l3__law_all : StT :=
  sApp 5 (v2 addD (vVar 6) (vVar 7))
def l2__law_all : StT :=
  sFor (iVal (v2 ixD (vVar 0) (vC (.int 1)))) (gSet 7) (l3__law_all)
def l1__law_all : StT :=
  sSeq (sSet 5 (vLst (sNil)))
    (sSeq (sFor (iVal (vVar 3)) (gSet 6) (l2__law_all))
    (sSeq (sSet 2 (v2 addD (vVar 2) (vVar 5)))
    (sSet 3 (vVar 5))))
def e__law_all : StT :=
  sSeq (sSet 2 (vLst (sCons (vC (.str [])) (sNil))))
    (sSeq (sSet 3 (vLst (sCons (vC (.str [])) (sNil))))
    (sSeq (sFor (iRange1 (aCons (vVar 1) (aNil))) (gSet 4) (l1__law_all))
    (sRet (vVar 2))))
def l1__law_leaders (S__law_free : Spc) : StT :=
  sSeq (sSet 4 (vSl (vVar 1) (pNo) (pSome (vM "str" sindexD (vVar 1) (aCons (vVar 3) (aNil))))))
    (sIf (tBl (v2 eqD (vB (on1 lenD) (aCons (vLc [5] (iRaw (vVar 4)) (gSet 5) (tNot (tOf (vCall S__law_free (sCons (vVar 0) (sCons (vVar 3) (sCons (vVar 5) (sNil))))))) (vVar 5)) (aNil))) (vC (.int 0)))) (sApp 2 (vVar 3)) (sNext))
def e__law_leaders (S__law_free : Spc) : StT :=
  sSeq (sSet 2 (vLst (sNil)))
    (sSeq (sFor (iVal (vSortSetX (vVar 1))) (gSet 3) (l1__law_leaders S__law_free))
    (sRet (vVar 2)))
def e__law_without : StT :=
  sSeq (sSet 2 (vM "str" sindexD (vVar 0) (aCons (vVar 1) (aNil))))
    (sRet (v2 addD (vSl (vVar 0) (pNo) (pSome (vVar 2))) (vSl (vVar 0) (pSome (v2 addD (vVar 2) (vC (.int 1)))) (pNo))))
def l1__law_least (S__law_leaders S__law_without : Spc) : StT :=
  sSeq (sSet 3 (v2 ixD (vCall S__law_leaders (sCons (vVar 0) (sCons (vVar 1) (sNil)))) (vC (.int 0))))
    (sSeq (sSet 2 (v2 addD (vVar 2) (vVar 3)))
    (sSet 1 (vCall S__law_without (sCons (vVar 1) (sCons (vVar 3) (sNil))))))
def e__law_least (S__law_leaders S__law_without : Spc) : StT :=
  sSeq (sSet 2 (vC (.str [])))
    (sSeq (sWhile (tBl (v2 gtD (vB (on1 lenD) (aCons (vVar 1) (aNil))) (vC (.int 0)))) (l1__law_least S__law_leaders S__law_without))
    (sRet (vVar 2)))
def l1__law_least_words (S__law_all S__law_least : Spc) : StT :=
  sIf (tAnd (tBl (v2 eqD (vB (on1 lenD) (aCons (vVar 3) (aNil))) (vVar 1))) (tBl (v2 eqD (vVar 3) (vCall S__law_least (sCons (vVar 0) (sCons (vVar 3) (sNil))))))) (sApp 2 (vVar 3)) (sNext)
def e__law_least_words (S__law_all S__law_least : Spc) : StT :=
  sSeq (sSet 2 (vLst (sNil)))
    (sSeq (sFor (iVal (vCall S__law_all (sCons (vVar 0) (sCons (vVar 1) (sNil))))) (gSet 3) (l1__law_least_words S__law_all S__law_least))
    (sRet (vB (on1 sortSDx) (aCons (vVar 2) (aNil)))))
def l1__law_same (S__law_same : Spc) : StT :=
  sIf (tNot (tOf (vCall S__law_same (sCons (v2 ixD (vVar 0) (vVar 2)) (sCons (v2 ixD (vVar 1) (vVar 2)) (sNil)))))) (sRet (vC (.bl false))) (sNext)
def e__law_same (S__law_same : Spc) : StT :=
  sSeq (sIf (tOf (vIsi "tuple" (vVar 1))) (sSeq (sIf (tOr (tNot (tOf (vIsi "tuple" (vVar 0)))) (tBl (v2 neD (vB (on1 lenD) (aCons (vVar 0) (aNil))) (vB (on1 lenD) (aCons (vVar 1) (aNil)))))) (sRet (vC (.bl false))) (sNext))
    (sSeq (sFor (iRange1 (aCons (vB (on1 lenD) (aCons (vVar 1) (aNil))) (aNil))) (gSet 2) (l1__law_same S__law_same))
    (sRet (vC (.bl true))))) (sNext))
    (sSeq (sIf (tBl (v2 isD (vVar 1) (vC .non))) (sRet (v2 isD (vVar 0) (vC .non))) (sNext))
    (sSeq (sIf (tOf (vIsi "bool" (vVar 1))) (sRet (vAnd (vIsi "bool" (vVar 0)) (v2 eqD (vVar 0) (vVar 1)))) (sNext))
    (sSeq (sIf (tOf (vIsi "int" (vVar 1))) (sRet (vAnd (vIsi "int" (vVar 0)) (vAnd (vNot (vIsi "bool" (vVar 0))) (v2 eqD (vVar 0) (vVar 1))))) (sNext))
    (sRet (vAnd (vIsi "str" (vVar 0)) (v2 eqD (vVar 0) (vVar 1)))))))
def l1__law_cliques (S__law_apart : Spc) : StT :=
  sSet 1 (v2 addD (vVar 1) (vLc [3] (iRaw (vVar 1)) (gSet 3) (tOf (vCall S__law_apart (sCons (vVar 0) (sCons (vVar 3) (sCons (vVar 2) (sNil)))))) (v2 addD (vVar 3) (vVar 2))))
def e__law_cliques (S__law_apart : Spc) : StT :=
  sSeq (sSet 1 (vLst (sCons (vC (.str [])) (sNil))))
    (sSeq (sFor (iVal (v2 ixD (vVar 0) (vC (.int 1)))) (gSet 2) (l1__law_cliques S__law_apart))
    (sRet (vSortK (vVar 1))))
def l3_law (S__law_box S__law_alphabet S__law_least_words S__law_same S_traces S_count_traces S__law_cliques S_cliques : Spc) : StT :=
  sIf (tBl (v2 leD (vB (on1 lenD) (aCons (vVar 9) (aNil))) (vVar 3))) (sSet 8 (v2 addD (vVar 8) (v2 mulXD (v2 subD (vC (.int 1)) (v2 mulXD (vC (.int 2)) (v2 modD (vB (on1 lenD) (aCons (vVar 9) (aNil))) (vC (.int 2))))) (v2 ixD (vVar 7) (v2 subD (vVar 3) (vB (on1 lenD) (aCons (vVar 9) (aNil)))))))) (sNext)
def l2_law (S__law_box S__law_alphabet S__law_least_words S__law_same S_traces S_count_traces S__law_cliques S_cliques : Spc) : StT :=
  sSeq (sSet 8 (vC (.int 0)))
    (sSeq (sFor (iVal (vVar 6)) (gSet 9) (l3_law S__law_box S__law_alphabet S__law_least_words S__law_same S_traces S_count_traces S__law_cliques S_cliques))
    (sIf (tBl (v2 neD (vVar 8) (vC (.int 0)))) (sRet (vC (.bl false))) (sNext)))
def l1_law (S__law_box S__law_alphabet S__law_least_words S__law_same S_traces S_count_traces S__law_cliques S_cliques : Spc) : StT :=
  sSeq (sSet 4 (vCall S__law_least_words (sCons (vVar 2) (sCons (vVar 3) (sNil)))))
    (sIf (tOr (tNot (tOf (vCall S__law_same (sCons (vCall S_traces (sCons (vVar 2) (sCons (vVar 3) (sNil)))) (sCons (vB (on1 tupD) (aCons (vVar 4) (aNil))) (sNil)))))) (tNot (tOf (vCall S__law_same (sCons (vCall S_count_traces (sCons (vVar 2) (sCons (vVar 3) (sNil)))) (sCons (vB (on1 lenD) (aCons (vVar 4) (aNil))) (sNil))))))) (sRet (vC (.bl false))) (sNext))
def e_law (S__law_box S__law_alphabet S__law_least_words S__law_same S_traces S_count_traces S__law_cliques S_cliques : Spc) : StT :=
  sSeq (sSet 1 (vCall S__law_box (sCons (vVar 0) (sCons (vC (.int 0)) (sCons (vC (.int 63)) (sNil))))))
    (sSeq (sSet 2 (vCall S__law_alphabet (sCons (vVar 1) (sCons (vC (.int 4)) (sNil)))))
    (sSeq (sFor (iRange1 (aCons (vC (.int 5)) (aNil))) (gSet 3) (l1_law S__law_box S__law_alphabet S__law_least_words S__law_same S_traces S_count_traces S__law_cliques S_cliques))
    (sSeq (sSet 5 (vCall S__law_alphabet (sCons (vVar 1) (sCons (vC (.int 6)) (sNil)))))
    (sSeq (sSet 6 (vCall S__law_cliques (sCons (vVar 5) (sNil))))
    (sSeq (sIf (tOr (tNot (tOf (vCall S__law_same (sCons (vCall S_cliques (sCons (vVar 5) (sNil))) (sCons (vB (on1 tupD) (aCons (vVar 6) (aNil))) (sNil)))))) (tNot (tOf (vCall S__law_same (sCons (vCall S_count_traces (sCons (vVar 5) (sCons (vC (.int 0)) (sNil)))) (sCons (vC (.int 1)) (sNil))))))) (sRet (vC (.bl false))) (sNext))
    (sSeq (sSet 7 (vLc [3] (iRange1 (aCons (vC (.int 15)) (aNil))) (gSet 3) (tsNil) (vCall S_count_traces (sCons (vVar 5) (sCons (vVar 3) (sNil))))))
    (sSeq (sFor (iRange2 (aCons (vC (.int 1)) (aCons (vC (.int 15)) (aNil)))) (gSet 3) (l2_law S__law_box S__law_alphabet S__law_least_words S__law_same S_traces S_count_traces S__law_cliques S_cliques))
    (sRet (vC (.bl true))))))))))
def e_next_letters (S_barred_behind : Spc) : StT :=
  sRet (vLc [2] (iRaw (v2 ixD (vFldA (vVar 0)) (vC (.int 1)))) (gSet 2) (tBl (v2 notInD (vVar 2) (vVar 1))) (vTup (sCons (vVar 2) (sCons (vCall S_barred_behind (sCons (vFldA (vVar 0)) (sCons (vVar 1) (sCons (vVar 2) (sNil))))) (sNil)))))
def e_count (MF : MemF) (S_next_letters S_count : Spc) : StT :=
  sSeq (sIf (tBl (v2 eqD (vVar 1) (vC (.int 0)))) (sRet (vC (.int 1))) (sNext))
    (sMemo true MF (KPair 1 2) (vSumG (iRaw (vMeth S_next_letters (vVar 0) (sCons (vVar 2) (sNil)))) [3, 4] (gTupD 2 (gConsD (gSet 3) (gConsD (gSet 4) (gNilD)))) (tsNil) (bdE (vMeth S_count (vVar 0) (sCons (v2 subD (vVar 1) (vC (.int 1))) (sCons (vVar 4) (sNil)))))))
def e_words (S_next_letters S_words : Spc) : StT :=
  sSeq (sIf (tBl (v2 eqD (vVar 1) (vC (.int 0)))) (sRet (vLst (sCons (vC (.str [])) (sNil)))) (sNext))
    (sRet (vLc2 [3, 4, 5] [5] (iRaw (vMeth S_next_letters (vVar 0) (sCons (vVar 2) (sNil)))) (gTupD 2 (gConsD (gSet 3) (gConsD (gSet 4) (gNilD)))) (tsNil) (iVal (vMeth S_words (vVar 0) (sCons (v2 subD (vVar 1) (vC (.int 1))) (sCons (vVar 4) (sNil))))) (gSet 5) (tsNil) (v2 addD (vVar 3) (vVar 5))))
end TC

namespace TC
open PySem PySem.Spec PyProof.Rows L2
/-! ### the law's helpers -/
def drawS : Spc := fun ds Q _ => ∃ (ns : List Int) (m : Int), ds = [bx ns, .int m] ∧ 0 < m ∧ ∀ d : Int, 0 ≤ d → d < m → Q (.int d)
theorem p_draw (ds : List D) (Q : D → Prop) (E : Nat → D → Prop) (h : drawS ds Q E) : e__law_draw (st0 3 ds) { nx := fun _ => Q .non, rt := Q } := by
  obtain ⟨ns, m, rfl, hm, hq⟩ := h
  simp only [e__law_draw, st0, List.map, List.length, List.replicate, List.cons_append, List.nil_append, sSeq, sSet, sIf, sRet, sRetN, sNext, sFor, sDrop, sApp, sStore, sBxSet, sAsg, put, settle, frz, vVar, vC, v2, v1, vB, vM, vTup, vLst, vSl, vCall, vIsi, vIf, vAnd, vOr, vNot, vChain, vDisp1, vDNewK, vBxI, vBxD, vBxNew, vScLen, vScIx, vEnum, enD, sNil, sCons, aNil, aCons, tOf, tBl, tAnd, tOr, tNot, truthD, boolD, iRange1, iRange2, iVal, iRaw, rawI, itemsD, pNo, pSome, slD, on1, on2, lenD, intD, addD, subD, mulD, fdivD, modD, powD, negD, ltD, leD, gtD, geD, eqD, neD, isD, isNotD, inD, notInD, ixD, tupD, listD, minD, maxD, gSet, gNilD, gConsD, gTupD, tyD, countD, sindexD, vLc, List.getElem?_cons_zero, List.getElem?_cons_succ, List.set_cons_zero, List.set_cons_succ, bx_eq, scr_eq, D.int.injEq, D.str.injEq, D.bl.injEq, Prod.mk.injEq, exists_eq_left, exists_eq_left', exists_and_left, exists_eq, exists_eq', true_and, and_true, List.length_map, decide_eq_true_eq, reduceCtorEq, if_true, if_false, Bool.not_true, Bool.not_false, Bool.false_eq_true, Option.some.injEq, Sl.ow.injEq, Sl.fz.injEq, D.lst.injEq, D.tup.injEq, D.dct.injEq, List.cons.injEq, and_assoc, and_self, Int.toNat_natCast, atI_0, atI_1, atI_2, strs_eq, bx_eq, scr_eq, sAug, iaddD, joinD, vSortSet, vSortK, listKD, dgetD, vSortG, iRangeD, mulXD, vRev, revD, vSortSetX, sortSetR, sortSDx, sPopTo, vLc2, noOwB, noOwB_blk, vMaxD, vMaxG, mEm, vZip, zipD, sindexXD, vLrD, sExt, sBad, vEnumT, vSumG, sEm, vFldA, vMeth, vMake, vNewM, sMemo, sMemoD, KVar, Slf, KPair]
  intro i hi
  refine ⟨by omega, ?_⟩
  split
  · rename_i hlt
    rw [atI_lt hi (by rw [List.length_map]; exact hlt)]
    simp only [List.getElem_map]
    exact ⟨hm, hq _ (Int.emod_nonneg _ (by omega)) (Int.emod_lt_of_pos _ hm)⟩
  · exact hq 0 (Int.le_refl _) hm
def cellS : Spc := fun ds Q _ => ∃ (n : Nat) (k : Int), ds = [scr n, .int k] ∧ 0 ≤ k ∧ ∀ d : Int, Q (.int d)
theorem p_cell (ds : List D) (Q : D → Prop) (E : Nat → D → Prop) (h : cellS ds Q E) : e__law_cell (st0 2 ds) { nx := fun _ => Q .non, rt := Q } := by
  obtain ⟨n, k, rfl, hk, hq⟩ := h
  simp only [e__law_cell, st0, List.map, List.length, List.replicate, List.cons_append, List.nil_append, sSeq, sSet, sIf, sRet, sRetN, sNext, sFor, sDrop, sApp, sStore, sBxSet, sAsg, put, settle, frz, vVar, vC, v2, v1, vB, vM, vTup, vLst, vSl, vCall, vIsi, vIf, vAnd, vOr, vNot, vChain, vDisp1, vDNewK, vBxI, vBxD, vBxNew, vScLen, vScIx, vEnum, enD, sNil, sCons, aNil, aCons, tOf, tBl, tAnd, tOr, tNot, truthD, boolD, iRange1, iRange2, iVal, iRaw, rawI, itemsD, pNo, pSome, slD, on1, on2, lenD, intD, addD, subD, mulD, fdivD, modD, powD, negD, ltD, leD, gtD, geD, eqD, neD, isD, isNotD, inD, notInD, ixD, tupD, listD, minD, maxD, gSet, gNilD, gConsD, gTupD, tyD, countD, sindexD, vLc, List.getElem?_cons_zero, List.getElem?_cons_succ, List.set_cons_zero, List.set_cons_succ, bx_eq, scr_eq, D.int.injEq, D.str.injEq, D.bl.injEq, Prod.mk.injEq, exists_eq_left, exists_eq_left', exists_and_left, exists_eq, exists_eq', true_and, and_true, List.length_map, decide_eq_true_eq, reduceCtorEq, if_true, if_false, Bool.not_true, Bool.not_false, Bool.false_eq_true, Option.some.injEq, Sl.ow.injEq, Sl.fz.injEq, D.lst.injEq, D.tup.injEq, D.dct.injEq, List.cons.injEq, and_assoc, and_self, Int.toNat_natCast, atI_0, atI_1, atI_2, strs_eq, bx_eq, scr_eq, sAug, iaddD, joinD, vSortSet, vSortK, listKD, dgetD, vSortG, iRangeD, mulXD, vRev, revD, vSortSetX, sortSetR, sortSDx, sPopTo, vLc2, noOwB, noOwB_blk, vMaxD, vMaxG, mEm, vZip, zipD, sindexXD, vLrD, sExt, sBad, vEnumT, vSumG, sEm, vFldA, vMeth, vMake, vNewM, sMemo, sMemoD, KVar, Slf, KPair]
  split
  · rename_i hlt
    exact ⟨hk, hlt, fun i => hq i⟩
  · exact hq 0
def digitsS : Spc := fun ds Q _ => ∃ (n : Nat) (hi : Int), ds = [scr n, .int 0, .int hi] ∧ 0 ≤ hi ∧ hi ≤ 63 ∧ ∀ l : List Int, Q (.lst (l.map D.int))
theorem dig_append (l : List Int) (x : Int) : l.map D.int ++ [D.int x] = (l ++ [x]).map D.int := by rw [List.map_append]; rfl
theorem digits_l2 {n : Nat} {Z : EndsD} : ∀ (m : Nat) (lo : Int) (c : Int) (l : List Int) (s4 s6 s7 : Sl), l.length + m < sizeLine → (∀ (l' : List Int) (c' : Int) (s6' : Sl), l'.length ≤ l.length + m → Z.nx [.fz (scr n), .fz (.int 0), .fz (.int hi), .ow (.lst (l'.map D.int)), s4, .fz (.int c'), s6', s7]) →
    forD (gSet 6) (l2__law_digits cellS) (rngL lo m) [.fz (scr n), .fz (.int 0), .fz (.int hi), .ow (.lst (l.map D.int)), s4, .fz (.int c), s6, s7] Z := by
  intro m
  induction m with
  | zero =>
    intro lo c l s4 s6 s7 hl hn
    rw [rngL_zero, forD_nil]
    exact hn l c s6 (by omega)
  | succ m ih =>
    intro lo c l s4 s6 s7 hl hn
    rw [rngL_succ, forD_cons]
    have ih' := ih (lo + 1)
    generalize forD (gSet 6) (l2__law_digits cellS) (rngL (lo + 1) m) = Fr at ih' ⊢
    simp only [l2__law_digits, st0, List.map, List.length, List.replicate, List.cons_append, List.nil_append, sSeq, sSet, sIf, sRet, sRetN, sNext, sFor, sDrop, sApp, sStore, sBxSet, sAsg, put, settle, frz, vVar, vC, v2, v1, vB, vM, vTup, vLst, vSl, vCall, vIsi, vIf, vAnd, vOr, vNot, vChain, vDisp1, vDNewK, vBxI, vBxD, vBxNew, vScLen, vScIx, vEnum, enD, sNil, sCons, aNil, aCons, tOf, tBl, tAnd, tOr, tNot, truthD, boolD, iRange1, iRange2, iVal, iRaw, rawI, itemsD, pNo, pSome, slD, on1, on2, lenD, intD, addD, subD, mulD, fdivD, modD, powD, negD, ltD, leD, gtD, geD, eqD, neD, isD, isNotD, inD, notInD, ixD, tupD, listD, minD, maxD, gSet, gNilD, gConsD, gTupD, tyD, countD, sindexD, vLc, List.getElem?_cons_zero, List.getElem?_cons_succ, List.set_cons_zero, List.set_cons_succ, bx_eq, scr_eq, D.int.injEq, D.str.injEq, D.bl.injEq, Prod.mk.injEq, exists_eq_left, exists_eq_left', exists_and_left, exists_eq, exists_eq', true_and, and_true, List.length_map, decide_eq_true_eq, reduceCtorEq, if_true, if_false, Bool.not_true, Bool.not_false, Bool.false_eq_true, Option.some.injEq, Sl.ow.injEq, Sl.fz.injEq, D.lst.injEq, D.tup.injEq, D.dct.injEq, List.cons.injEq, and_assoc, and_self, Int.toNat_natCast, atI_0, atI_1, atI_2, strs_eq, bx_eq, scr_eq, sAug, iaddD, joinD, vSortSet, vSortK, listKD, dgetD, vSortG, iRangeD, mulXD, vRev, revD, vSortSetX, sortSetR, sortSDx, sPopTo, vLc2, noOwB, noOwB_blk, vMaxD, vMaxG, mEm, vZip, zipD, sindexXD, vLrD, sExt, sBad, vEnumT, vSumG, sEm, vFldA, vMeth, vMake, vNewM, sMemo, sMemoD, KVar, Slf, KPair]
    split
    · refine ⟨by decide, by omega, ⟨by decide, by decide⟩, ?_⟩
      rw [dig_append]
      exact ih' _ _ _ _ _ (by rw [List.length_append, List.length_singleton]; omega) fun l' c' s6' h => hn l' c' s6' (by rw [List.length_append, List.length_singleton] at h; omega)
    · exact ih' _ _ _ _ _ (by omega) fun l' c' s6' h => hn l' c' s6' (by omega)
theorem digits_l3 {n : Nat} {Z : EndsD} : ∀ (m : Nat) (lo : Int) (c sd : Int) (l : List Int) (s4 s6 : Sl), l.length + m < sizeLine → (∀ (l' : List Int) (s6' s7' : Sl), l'.length ≤ l.length + m → Z.nx [.fz (scr n), .fz (.int 0), .fz (.int hi), .ow (.lst (l'.map D.int)), s4, .fz (.int c), s6', s7']) →
    forD (gSet 6) (l3__law_digits cellS) (rngL lo m) [.fz (scr n), .fz (.int 0), .fz (.int hi), .ow (.lst (l.map D.int)), s4, .fz (.int c), s6, .fz (.int sd)] Z := by
  intro m
  induction m with
  | zero =>
    intro lo c sd l s4 s6 hl hn
    rw [rngL_zero, forD_nil]
    exact hn l s6 _ (by omega)
  | succ m ih =>
    intro lo c sd l s4 s6 hl hn
    rw [rngL_succ, forD_cons]
    have ih' := ih (lo + 1)
    generalize forD (gSet 6) (l3__law_digits cellS) (rngL (lo + 1) m) = Fr at ih' ⊢
    simp only [l3__law_digits, st0, List.map, List.length, List.replicate, List.cons_append, List.nil_append, sSeq, sSet, sIf, sRet, sRetN, sNext, sFor, sDrop, sApp, sStore, sBxSet, sAsg, put, settle, frz, vVar, vC, v2, v1, vB, vM, vTup, vLst, vSl, vCall, vIsi, vIf, vAnd, vOr, vNot, vChain, vDisp1, vDNewK, vBxI, vBxD, vBxNew, vScLen, vScIx, vEnum, enD, sNil, sCons, aNil, aCons, tOf, tBl, tAnd, tOr, tNot, truthD, boolD, iRange1, iRange2, iVal, iRaw, rawI, itemsD, pNo, pSome, slD, on1, on2, lenD, intD, addD, subD, mulD, fdivD, modD, powD, negD, ltD, leD, gtD, geD, eqD, neD, isD, isNotD, inD, notInD, ixD, tupD, listD, minD, maxD, gSet, gNilD, gConsD, gTupD, tyD, countD, sindexD, vLc, List.getElem?_cons_zero, List.getElem?_cons_succ, List.set_cons_zero, List.set_cons_succ, bx_eq, scr_eq, D.int.injEq, D.str.injEq, D.bl.injEq, Prod.mk.injEq, exists_eq_left, exists_eq_left', exists_and_left, exists_eq, exists_eq', true_and, and_true, List.length_map, decide_eq_true_eq, reduceCtorEq, if_true, if_false, Bool.not_true, Bool.not_false, Bool.false_eq_true, Option.some.injEq, Sl.ow.injEq, Sl.fz.injEq, D.lst.injEq, D.tup.injEq, D.dct.injEq, List.cons.injEq, and_assoc, and_self, Int.toNat_natCast, atI_0, atI_1, atI_2, strs_eq, bx_eq, scr_eq, sAug, iaddD, joinD, vSortSet, vSortK, listKD, dgetD, vSortG, iRangeD, mulXD, vRev, revD, vSortSetX, sortSetR, sortSDx, sPopTo, vLc2, noOwB, noOwB_blk, vMaxD, vMaxG, mEm, vZip, zipD, sindexXD, vLrD, sExt, sBad, vEnumT, vSumG, sEm, vFldA, vMeth, vMake, vNewM, sMemo, sMemoD, KVar, Slf, KPair]
    refine ⟨cmR (by decide), cmL (by decide), by decide, ⟨by decide, by decide⟩, by decide, by omega, ?_⟩
    rw [dig_append]
    exact ih' _ _ _ _ _ (by rw [List.length_append, List.length_singleton]; omega) fun l' s6' s7' h => hn l' s6' s7' (by rw [List.length_append, List.length_singleton] at h; omega)
theorem digits_l1 {n : Nat} {hi : Int} {Z : EndsD} : ∀ (m : Nat) (lo : Int) (l : List Int) (s4 s5 s6 s7 : Sl), 0 ≤ lo → l.length + 60 * m < sizeLine → (∀ (l' : List Int) (s4' s5' s6' s7' : Sl), Z.nx [.fz (scr n), .fz (.int 0), .fz (.int hi), .ow (.lst (l'.map D.int)), s4', s5', s6', s7']) →
    forD (gSet 4) (l1__law_digits cellS) (rngL lo m) [.fz (scr n), .fz (.int 0), .fz (.int hi), .ow (.lst (l.map D.int)), s4, s5, s6, s7] Z := by
  intro m
  induction m with
  | zero =>
    intro lo l s4 s5 s6 s7 h0 hl hn
    rw [rngL_zero, forD_nil]
    exact hn l s4 s5 s6 s7
  | succ m ih =>
    intro lo l s4 s5 s6 s7 h0 hl hn
    rw [rngL_succ, forD_cons]
    have ih' := ih (lo + 1)
    generalize forD (gSet 4) (l1__law_digits cellS) (rngL (lo + 1) m) = Fr at ih' ⊢
    simp only [l1__law_digits, cellS, st0, List.map, List.length, List.replicate, List.cons_append, List.nil_append, sSeq, sSet, sIf, sRet, sRetN, sNext, sFor, sDrop, sApp, sStore, sBxSet, sAsg, put, settle, frz, vVar, vC, v2, v1, vB, vM, vTup, vLst, vSl, vCall, vIsi, vIf, vAnd, vOr, vNot, vChain, vDisp1, vDNewK, vBxI, vBxD, vBxNew, vScLen, vScIx, vEnum, enD, sNil, sCons, aNil, aCons, tOf, tBl, tAnd, tOr, tNot, truthD, boolD, iRange1, iRange2, iVal, iRaw, rawI, itemsD, pNo, pSome, slD, on1, on2, lenD, intD, addD, subD, mulD, fdivD, modD, powD, negD, ltD, leD, gtD, geD, eqD, neD, isD, isNotD, inD, notInD, ixD, tupD, listD, minD, maxD, gSet, gNilD, gConsD, gTupD, tyD, countD, sindexD, vLc, List.getElem?_cons_zero, List.getElem?_cons_succ, List.set_cons_zero, List.set_cons_succ, bx_eq, scr_eq, D.int.injEq, D.str.injEq, D.bl.injEq, Prod.mk.injEq, exists_eq_left, exists_eq_left', exists_and_left, exists_eq, exists_eq', true_and, and_true, List.length_map, decide_eq_true_eq, reduceCtorEq, if_true, if_false, Bool.not_true, Bool.not_false, Bool.false_eq_true, Option.some.injEq, Sl.ow.injEq, Sl.fz.injEq, D.lst.injEq, D.tup.injEq, D.dct.injEq, List.cons.injEq, and_assoc, and_self, Int.toNat_natCast, atI_0, atI_1, atI_2, strs_eq, bx_eq, scr_eq, sAug, iaddD, joinD, vSortSet, vSortK, listKD, dgetD, vSortG, iRangeD, mulXD, vRev, revD, vSortSetX, sortSetR, sortSDx, sPopTo, vLc2, noOwB, noOwB_blk, vMaxD, vMaxG, mEm, vZip, zipD, sindexXD, vLrD, sExt, sBad, vEnumT, vSumG, sEm, vFldA, vMeth, vMake, vNewM, sMemo, sMemoD, KVar, Slf, KPair]
    refine ⟨h0, fun d => ?_⟩
    split
    · refine ⟨cmL (by decide), ⟨by decide, by decide, by decide⟩, ?_⟩
      split
      · refine ⟨by decide, by decide, digits_l2 60 0 _ l _ _ _ (by omega) fun l' c' s6' h => ih' l' _ _ _ _ (by omega) (by omega) hn⟩
      · refine ⟨cmR (by decide), cmR (by decide), by decide, by decide, by decide, digits_l3 12 0 _ _ l _ _ (by omega) fun l' s6' s7' h => ih' l' _ _ _ _ (by omega) (by omega) hn⟩
    · refine ⟨⟨by decide, by decide, by decide⟩, ?_⟩
      split
      · refine ⟨by decide, by decide, digits_l2 60 0 _ l _ _ _ (by omega) fun l' c' s6' h => ih' l' _ _ _ _ (by omega) (by omega) hn⟩
      · refine ⟨cmR (by decide), cmR (by decide), by decide, by decide, by decide, digits_l3 12 0 _ _ l _ _ (by omega) fun l' s6' s7' h => ih' l' _ _ _ _ (by omega) (by omega) hn⟩
theorem p_digits (ds : List D) (Q : D → Prop) (E : Nat → D → Prop) (h : digitsS ds Q E) : e__law_digits cellS (st0 8 ds) { nx := fun _ => Q .non, rt := Q } := by
  obtain ⟨n, hi, rfl, h0, h1, hq⟩ := h
  simp only [e__law_digits, st0, List.map, List.length, List.replicate, List.cons_append, List.nil_append, sSeq, sSet, sIf, sRet, sRetN, sNext, sFor, sDrop, sApp, sStore, sBxSet, sAsg, put, settle, frz, vVar, vC, v2, v1, vB, vM, vTup, vLst, vSl, vCall, vIsi, vIf, vAnd, vOr, vNot, vChain, vDisp1, vDNewK, vBxI, vBxD, vBxNew, vScLen, vScIx, vEnum, enD, sNil, sCons, aNil, aCons, tOf, tBl, tAnd, tOr, tNot, truthD, boolD, iRange1, iRange2, iVal, iRaw, rawI, itemsD, pNo, pSome, slD, on1, on2, lenD, intD, addD, subD, mulD, fdivD, modD, powD, negD, ltD, leD, gtD, geD, eqD, neD, isD, isNotD, inD, notInD, ixD, tupD, listD, minD, maxD, gSet, gNilD, gConsD, gTupD, tyD, countD, sindexD, vLc, List.getElem?_cons_zero, List.getElem?_cons_succ, List.set_cons_zero, List.set_cons_succ, bx_eq, scr_eq, D.int.injEq, D.str.injEq, D.bl.injEq, Prod.mk.injEq, exists_eq_left, exists_eq_left', exists_and_left, exists_eq, exists_eq', true_and, and_true, List.length_map, decide_eq_true_eq, reduceCtorEq, if_true, if_false, Bool.not_true, Bool.not_false, Bool.false_eq_true, Option.some.injEq, Sl.ow.injEq, Sl.fz.injEq, D.lst.injEq, D.tup.injEq, D.dct.injEq, List.cons.injEq, and_assoc, and_self, Int.toNat_natCast, atI_0, atI_1, atI_2, strs_eq, bx_eq, scr_eq, sAug, iaddD, joinD, vSortSet, vSortK, listKD, dgetD, vSortG, iRangeD, mulXD, vRev, revD, vSortSetX, sortSetR, sortSDx, sPopTo, vLc2, noOwB, noOwB_blk, vMaxD, vMaxG, mEm, vZip, zipD, sindexXD, vLrD, sExt, sBad, vEnumT, vSumG, sEm, vFldA, vMeth, vMake, vNewM, sMemo, sMemoD, KVar, Slf, KPair]
  refine ⟨by decide, by decide, by decide, by omega, by omega, ?_⟩
  exact digits_l1 _ 0 [] .no .no .no .no (by decide) (by rw [List.length_nil, sizeLine_eq]; omega) fun l' _ _ _ _ => by
    simp only [st0, List.map, List.length, List.replicate, List.cons_append, List.nil_append, sSeq, sSet, sIf, sRet, sRetN, sNext, sFor, sDrop, sApp, sStore, sBxSet, sAsg, put, settle, frz, vVar, vC, v2, v1, vB, vM, vTup, vLst, vSl, vCall, vIsi, vIf, vAnd, vOr, vNot, vChain, vDisp1, vDNewK, vBxI, vBxD, vBxNew, vScLen, vScIx, vEnum, enD, sNil, sCons, aNil, aCons, tOf, tBl, tAnd, tOr, tNot, truthD, boolD, iRange1, iRange2, iVal, iRaw, rawI, itemsD, pNo, pSome, slD, on1, on2, lenD, intD, addD, subD, mulD, fdivD, modD, powD, negD, ltD, leD, gtD, geD, eqD, neD, isD, isNotD, inD, notInD, ixD, tupD, listD, minD, maxD, gSet, gNilD, gConsD, gTupD, tyD, countD, sindexD, vLc, List.getElem?_cons_zero, List.getElem?_cons_succ, List.set_cons_zero, List.set_cons_succ, bx_eq, scr_eq, D.int.injEq, D.str.injEq, D.bl.injEq, Prod.mk.injEq, exists_eq_left, exists_eq_left', exists_and_left, exists_eq, exists_eq', true_and, and_true, List.length_map, decide_eq_true_eq, reduceCtorEq, if_true, if_false, Bool.not_true, Bool.not_false, Bool.false_eq_true, Option.some.injEq, Sl.ow.injEq, Sl.fz.injEq, D.lst.injEq, D.tup.injEq, D.dct.injEq, List.cons.injEq, and_assoc, and_self, Int.toNat_natCast, atI_0, atI_1, atI_2, strs_eq, bx_eq, scr_eq, sAug, iaddD, joinD, vSortSet, vSortK, listKD, dgetD, vSortG, iRangeD, mulXD, vRev, revD, vSortSetX, sortSetR, sortSDx, sPopTo, vLc2, noOwB, noOwB_blk, vMaxD, vMaxG, mEm, vZip, zipD, sindexXD, vLrD, sExt, sBad, vEnumT, vSumG, sEm, vFldA, vMeth, vMake, vNewM, sMemo, sMemoD, KVar, Slf, KPair]
    exact hq l'
def boxS : Spc := fun ds Q _ => ∃ (n : Nat) (hi : Int), ds = [scr n, .int 0, .int hi] ∧ 0 ≤ hi ∧ hi ≤ 63 ∧ ∀ l : List Int, Q (bx l)
theorem p_box (ds : List D) (Q : D → Prop) (E : Nat → D → Prop) (h : boxS ds Q E) : e__law_box digitsS (st0 3 ds) { nx := fun _ => Q .non, rt := Q } := by
  obtain ⟨n, hi, rfl, h0, h1, hq⟩ := h
  simp only [e__law_box, digitsS, st0, List.map, List.length, List.replicate, List.cons_append, List.nil_append, sSeq, sSet, sIf, sRet, sRetN, sNext, sFor, sDrop, sApp, sStore, sBxSet, sAsg, put, settle, frz, vVar, vC, v2, v1, vB, vM, vTup, vLst, vSl, vCall, vIsi, vIf, vAnd, vOr, vNot, vChain, vDisp1, vDNewK, vBxI, vBxD, vBxNew, vScLen, vScIx, vEnum, enD, sNil, sCons, aNil, aCons, tOf, tBl, tAnd, tOr, tNot, truthD, boolD, iRange1, iRange2, iVal, iRaw, rawI, itemsD, pNo, pSome, slD, on1, on2, lenD, intD, addD, subD, mulD, fdivD, modD, powD, negD, ltD, leD, gtD, geD, eqD, neD, isD, isNotD, inD, notInD, ixD, tupD, listD, minD, maxD, gSet, gNilD, gConsD, gTupD, tyD, countD, sindexD, vLc, List.getElem?_cons_zero, List.getElem?_cons_succ, List.set_cons_zero, List.set_cons_succ, bx_eq, scr_eq, D.int.injEq, D.str.injEq, D.bl.injEq, Prod.mk.injEq, exists_eq_left, exists_eq_left', exists_and_left, exists_eq, exists_eq', true_and, and_true, List.length_map, decide_eq_true_eq, reduceCtorEq, if_true, if_false, Bool.not_true, Bool.not_false, Bool.false_eq_true, Option.some.injEq, Sl.ow.injEq, Sl.fz.injEq, D.lst.injEq, D.tup.injEq, D.dct.injEq, List.cons.injEq, and_assoc, and_self, Int.toNat_natCast, atI_0, atI_1, atI_2, strs_eq, bx_eq, scr_eq, sAug, iaddD, joinD, vSortSet, vSortK, listKD, dgetD, vSortG, iRangeD, mulXD, vRev, revD, vSortSetX, sortSetR, sortSDx, sPopTo, vLc2, noOwB, noOwB_blk, vMaxD, vMaxG, mEm, vZip, zipD, sindexXD, vLrD, sExt, sBad, vEnumT, vSumG, sEm, vFldA, vMeth, vMake, vNewM, sMemo, sMemoD, KVar, Slf, KPair]
  exact ⟨h0, h1, fun l => ⟨l, rfl, by decide, hq l⟩⟩
end TC

namespace TC
open PySem PySem.Spec PyProof.Rows L2
/-! ### alphabets, words -/
/-- the first m letters -/
def Lt (m : Nat) : List Nat := (List.range m).map (97 + ·)
theorem Lt_mem {m c : Nat} : c ∈ Lt m ↔ 97 ≤ c ∧ c < 97 + m := by
  unfold Lt
  rw [List.mem_map]
  constructor
  · rintro ⟨i, hi, rfl⟩
    have := List.mem_range.mp hi
    omega
  · rintro ⟨h1, h2⟩
    exact ⟨c - 97, List.mem_range.mpr (by omega), by omega⟩
theorem Lt_len (m : Nat) : (Lt m).length = m := by simp [Lt]
theorem Lt_get {m i : Nat} (h : i < (Lt m).length) : (Lt m)[i] = 97 + i := by simp [Lt]
/-- the pairs of an alphabet: below q -/
def Below (m : Nat) (ps : List (List Nat)) (q : List Nat) : Prop := (∀ p ∈ ps, (∃ a b, 97 ≤ a ∧ a < b ∧ b < 97 + m ∧ p = [a, b]) ∧ p < q) ∧ ps.Pairwise (· < ·)
structure GoodP (m : Nat) (ps : List (List Nat)) : Prop where
  at_ : ∀ p ∈ ps, ∃ a b, 97 ≤ a ∧ a < b ∧ b < 97 + m ∧ p = [a, b]
  pw : ps.Pairwise (· < ·)
def alD (m : Nat) (ps : List (List Nat)) : D := .tup [.str [97, 108, 112, 104, 97, 98, 101, 116], .str (Lt m), .tup (ps.map D.str)]
theorem pair_lt {a b c d : Nat} : ([a, b] : List Nat) < [c, d] ↔ a < c ∨ (a = c ∧ b < d) := by
  rw [List.cons_lt_cons_iff, List.cons_lt_cons_iff]
  simp
theorem Below.mono {m : Nat} {ps : List (List Nat)} {q r : List Nat} (h : Below m ps q) (k : q < r) : Below m ps r := ⟨fun p hp => ⟨(h.1 p hp).1, List.lt_trans (h.1 p hp).2 k⟩, h.2⟩
theorem nodup_len {α : Type} [DecidableEq α] : ∀ {l r : List α}, l.Nodup → (∀ x ∈ l, x ∈ r) → l.length ≤ r.length
  | [], _, _, _ => Nat.zero_le _
  | x :: l, r, hn, hs => by
    have hx : x ∈ r := hs x List.mem_cons_self
    have hn' := List.nodup_cons.mp hn
    have ih := nodup_len (l := l) (r := r.erase x) hn'.2 fun y hy => (List.mem_erase_of_ne (fun (e : y = x) => hn'.1 (e ▸ hy))).mpr (hs y (List.mem_cons_of_mem _ hy))
    rw [List.length_erase_of_mem hx] at ih
    have : 0 < r.length := List.length_pos_of_mem hx
    rw [List.length_cons]
    omega
theorem Below.add {m a b : Nat} {ps : List (List Nat)} {r : List Nat} (h : Below m ps [a, b]) (h1 : 97 ≤ a) (h2 : a < b) (h3 : b < 97 + m) (k : [a, b] < r) : Below m (ps ++ [[a, b]]) r := by
  refine ⟨fun p hp => ?_, ?_⟩
  · rcases List.mem_append.mp hp with hp | hp
    · exact ⟨(h.1 p hp).1, List.lt_trans (h.1 p hp).2 k⟩
    · rw [List.mem_singleton.mp hp]
      exact ⟨⟨a, b, h1, h2, h3, rfl⟩, k⟩
  · rw [List.pairwise_append]
    exact ⟨h.2, List.pairwise_singleton _ _, fun p hp q hq => by rw [List.mem_singleton.mp hq]; exact (h.1 p hp).2⟩
theorem Below.len {m : Nat} {ps : List (List Nat)} {q : List Nat} (hm : m ≤ 6) (h : Below m ps q) : ps.length ≤ 36 := by
  have key : (ps.map fun p => match p with | [a, b] => (a - 97) * 6 + (b - 97) | _ => 0).Nodup := by
    refine List.pairwise_map.mpr ?_
    refine (List.Pairwise.and_mem.mp h.2).imp fun {p q} ⟨hp, hq, hlt⟩ => ?_
    obtain ⟨a, b, h1, h2, h3, rfl⟩ := (h.1 p hp).1
    obtain ⟨c, d, k1, k2, k3, rfl⟩ := (h.1 q hq).1
    rcases pair_lt.mp hlt with e | e
    · show (a - 97) * 6 + (b - 97) ≠ (c - 97) * 6 + (d - 97)
      omega
    · show (a - 97) * 6 + (b - 97) ≠ (c - 97) * 6 + (d - 97)
      omega
  have := nodup_len key (r := List.range 36) fun x hx => by
    obtain ⟨p, hp, rfl⟩ := List.mem_map.mp hx
    obtain ⟨a, b, h1, h2, h3, rfl⟩ := (h.1 p hp).1
    refine List.mem_range.mpr ?_
    show (a - 97) * 6 + (b - 97) < 36
    omega
  simpa using this
theorem lettersTo (d : Int) (h0 : 0 ≤ d) (h6 : d < 6) : cutL [97, 98, 99, 100, 101, 102] none (some (1 + d)) = Lt (1 + d.toNat) := by
  have e : (1 + d) = ((1 + d.toNat : Nat) : Int) := by omega
  rw [e, cutL_to]
  have : d.toNat = 0 ∨ d.toNat = 1 ∨ d.toNat = 2 ∨ d.toNat = 3 ∨ d.toNat = 4 ∨ d.toNat = 5 := by omega
  rcases this with h | h | h | h | h | h <;> rw [h] <;> rfl
def alphabetS : Spc := fun ds Q _ => ∃ (ns : List Int) (mo : Int), ds = [bx ns, .int mo] ∧ 0 < mo ∧ mo ≤ 6 ∧ ∀ (m : Nat) (ps : List (List Nat)), 1 ≤ m → (m : Int) ≤ mo → GoodP m ps → Q (alD m ps)
theorem alphabet_l2 {ns : List Int} {mo : Int} {m j : Nat} {Z : EndsD} (hm : m ≤ 6) : ∀ (n k : Nat) (ps : List (List Nat)) (s5 : Sl), j < k → k + n = m → Below m ps [97 + j, 97 + k] →
    (∀ (ps' : List (List Nat)) (s5' : Sl), Below m ps' [97 + j, 97 + m] → Z.nx [.fz (bx ns), .fz (.int mo), .fz (.str (Lt m)), .ow (.lst (ps'.map D.str)), .fz (.int j), s5']) →
    forD (gSet 5) (l2__law_alphabet drawS) (rngL k n) [.fz (bx ns), .fz (.int mo), .fz (.str (Lt m)), .ow (.lst (ps.map D.str)), .fz (.int j), s5] Z := by
  intro n
  induction n with
  | zero =>
    intro k ps s5 hj hk hb hn
    rw [rngL_zero, forD_nil]
    obtain rfl : k = m := by omega
    exact hn ps s5 hb
  | succ n ih =>
    intro k ps s5 hj hk hb hn
    rw [rngL_succ, forD_cons]
    have ih' := fun ps s5 => ih (k + 1) ps s5 (by omega) (by omega)
    rw [show ((k + 1 : Nat) : Int) = (k : Int) + 1 by omega] at ih'
    generalize forD (gSet 5) (l2__law_alphabet drawS) (rngL ((k : Int) + 1) n) = Fr at ih' ⊢
    have l1 : j < (Lt m).length := by rw [Lt_len]; omega
    have l2 : k < (Lt m).length := by rw [Lt_len]; omega
    simp only [l2__law_alphabet, drawS, st0, List.map, List.length, List.replicate, List.cons_append, List.nil_append, sSeq, sSet, sIf, sRet, sRetN, sNext, sFor, sDrop, sApp, sStore, sBxSet, sAsg, put, settle, frz, vVar, vC, v2, v1, vB, vM, vTup, vLst, vSl, vCall, vIsi, vIf, vAnd, vOr, vNot, vChain, vDisp1, vDNewK, vBxI, vBxD, vBxNew, vScLen, vScIx, vEnum, enD, sNil, sCons, aNil, aCons, tOf, tBl, tAnd, tOr, tNot, truthD, boolD, iRange1, iRange2, iVal, iRaw, rawI, itemsD, pNo, pSome, slD, on1, on2, lenD, intD, addD, subD, mulD, fdivD, modD, powD, negD, ltD, leD, gtD, geD, eqD, neD, isD, isNotD, inD, notInD, ixD, tupD, listD, minD, maxD, gSet, gNilD, gConsD, gTupD, tyD, countD, sindexD, vLc, List.getElem?_cons_zero, List.getElem?_cons_succ, List.set_cons_zero, List.set_cons_succ, bx_eq, scr_eq, D.int.injEq, D.str.injEq, D.bl.injEq, Prod.mk.injEq, exists_eq_left, exists_eq_left', exists_and_left, exists_eq, exists_eq', true_and, and_true, List.length_map, decide_eq_true_eq, reduceCtorEq, if_true, if_false, Bool.not_true, Bool.not_false, Bool.false_eq_true, Option.some.injEq, Sl.ow.injEq, Sl.fz.injEq, D.lst.injEq, D.tup.injEq, D.dct.injEq, List.cons.injEq, and_assoc, and_self, Int.toNat_natCast, atI_0, atI_1, atI_2, strs_eq, bx_eq, scr_eq, sAug, iaddD, joinD, vSortSet, vSortK, listKD, dgetD, vSortG, iRangeD, mulXD, vRev, revD, vSortSetX, sortSetR, sortSDx, sPopTo, vLc2, noOwB, noOwB_blk, vMaxD, vMaxG, mEm, vZip, zipD, sindexXD, vLrD, sExt, sBad, vEnumT, vSumG, sEm, vFldA, vMeth, vMake, vNewM, sMemo, sMemoD, KVar, Slf, KPair]
    refine ⟨by decide, fun d hd0 hd1 => ?_⟩
    have nxt : ([97 + j, 97 + k] : List Nat) < [97 + j, 97 + (k + 1)] := pair_lt.mpr (.inr ⟨rfl, by omega⟩)
    split
    · rw [atI_nat l1, atI_nat l2]
      simp only [Lt_get, st0, List.map, List.length, List.replicate, List.cons_append, List.nil_append, sSeq, sSet, sIf, sRet, sRetN, sNext, sFor, sDrop, sApp, sStore, sBxSet, sAsg, put, settle, frz, vVar, vC, v2, v1, vB, vM, vTup, vLst, vSl, vCall, vIsi, vIf, vAnd, vOr, vNot, vChain, vDisp1, vDNewK, vBxI, vBxD, vBxNew, vScLen, vScIx, vEnum, enD, sNil, sCons, aNil, aCons, tOf, tBl, tAnd, tOr, tNot, truthD, boolD, iRange1, iRange2, iVal, iRaw, rawI, itemsD, pNo, pSome, slD, on1, on2, lenD, intD, addD, subD, mulD, fdivD, modD, powD, negD, ltD, leD, gtD, geD, eqD, neD, isD, isNotD, inD, notInD, ixD, tupD, listD, minD, maxD, gSet, gNilD, gConsD, gTupD, tyD, countD, sindexD, vLc, List.getElem?_cons_zero, List.getElem?_cons_succ, List.set_cons_zero, List.set_cons_succ, bx_eq, scr_eq, D.int.injEq, D.str.injEq, D.bl.injEq, Prod.mk.injEq, exists_eq_left, exists_eq_left', exists_and_left, exists_eq, exists_eq', true_and, and_true, List.length_map, decide_eq_true_eq, reduceCtorEq, if_true, if_false, Bool.not_true, Bool.not_false, Bool.false_eq_true, Option.some.injEq, Sl.ow.injEq, Sl.fz.injEq, D.lst.injEq, D.tup.injEq, D.dct.injEq, List.cons.injEq, and_assoc, and_self, Int.toNat_natCast, atI_0, atI_1, atI_2, strs_eq, bx_eq, scr_eq, sAug, iaddD, joinD, vSortSet, vSortK, listKD, dgetD, vSortG, iRangeD, mulXD, vRev, revD, vSortSetX, sortSetR, sortSDx, sPopTo, vLc2, noOwB, noOwB_blk, vMaxD, vMaxG, mEm, vZip, zipD, sindexXD, vLrD, sExt, sBad, vEnumT, vSumG, sEm, vFldA, vMeth, vMake, vNewM, sMemo, sMemoD, KVar, Slf, KPair]
      have e : ps.map D.str ++ [D.str [97 + j, 97 + k]] = (ps ++ [[97 + j, 97 + k]]).map D.str := by rw [List.map_append]; rfl
      refine ⟨by decide, Nat.lt_of_le_of_lt (hb.len hm) (by decide), ?_⟩
      rw [e]
      exact ih' _ _ (hb.add (by omega) (by omega) (by omega) nxt) hn
    · exact ih' _ _ (hb.mono nxt) hn
theorem alphabet_l1 {ns : List Int} {mo : Int} {m : Nat} {Z : EndsD} (hm : m ≤ 6) : ∀ (n j : Nat) (ps : List (List Nat)) (s4 s5 : Sl), j + n = m → Below m ps [97 + j, 97 + (j + 1)] →
    (∀ (ps' : List (List Nat)) (s4' s5' : Sl), GoodP m ps' → Z.nx [.fz (bx ns), .fz (.int mo), .fz (.str (Lt m)), .ow (.lst (ps'.map D.str)), s4', s5']) →
    forD (gSet 4) (l1__law_alphabet drawS) (rngL j n) [.fz (bx ns), .fz (.int mo), .fz (.str (Lt m)), .ow (.lst (ps.map D.str)), s4, s5] Z := by
  intro n
  induction n with
  | zero =>
    intro j ps s4 s5 hj hb hn
    rw [rngL_zero, forD_nil]
    exact hn ps s4 s5 ⟨fun p hp => (hb.1 p hp).1, hb.2⟩
  | succ n ih =>
    intro j ps s4 s5 hj hb hn
    rw [rngL_succ, forD_cons]
    have ih' := fun ps s4 s5 => ih (j + 1) ps s4 s5 (by omega)
    rw [show ((j + 1 : Nat) : Int) = (j : Int) + 1 by omega] at ih'
    generalize forD (gSet 4) (l1__law_alphabet drawS) (rngL ((j : Int) + 1) n) = Fr at ih' ⊢
    simp only [l1__law_alphabet, Lt_len, st0, List.map, List.length, List.replicate, List.cons_append, List.nil_append, sSeq, sSet, sIf, sRet, sRetN, sNext, sFor, sDrop, sApp, sStore, sBxSet, sAsg, put, settle, frz, vVar, vC, v2, v1, vB, vM, vTup, vLst, vSl, vCall, vIsi, vIf, vAnd, vOr, vNot, vChain, vDisp1, vDNewK, vBxI, vBxD, vBxNew, vScLen, vScIx, vEnum, enD, sNil, sCons, aNil, aCons, tOf, tBl, tAnd, tOr, tNot, truthD, boolD, iRange1, iRange2, iVal, iRaw, rawI, itemsD, pNo, pSome, slD, on1, on2, lenD, intD, addD, subD, mulD, fdivD, modD, powD, negD, ltD, leD, gtD, geD, eqD, neD, isD, isNotD, inD, notInD, ixD, tupD, listD, minD, maxD, gSet, gNilD, gConsD, gTupD, tyD, countD, sindexD, vLc, List.getElem?_cons_zero, List.getElem?_cons_succ, List.set_cons_zero, List.set_cons_succ, bx_eq, scr_eq, D.int.injEq, D.str.injEq, D.bl.injEq, Prod.mk.injEq, exists_eq_left, exists_eq_left', exists_and_left, exists_eq, exists_eq', true_and, and_true, List.length_map, decide_eq_true_eq, reduceCtorEq, if_true, if_false, Bool.not_true, Bool.not_false, Bool.false_eq_true, Option.some.injEq, Sl.ow.injEq, Sl.fz.injEq, D.lst.injEq, D.tup.injEq, D.dct.injEq, List.cons.injEq, and_assoc, and_self, Int.toNat_natCast, atI_0, atI_1, atI_2, strs_eq, bx_eq, scr_eq, sAug, iaddD, joinD, vSortSet, vSortK, listKD, dgetD, vSortG, iRangeD, mulXD, vRev, revD, vSortSetX, sortSetR, sortSDx, sPopTo, vLc2, noOwB, noOwB_blk, vMaxD, vMaxG, mEm, vZip, zipD, sindexXD, vLrD, sExt, sBad, vEnumT, vSumG, sEm, vFldA, vMeth, vMake, vNewM, sMemo, sMemoD, KVar, Slf, KPair]
    refine ⟨by omega, by omega, by omega, by omega, ?_⟩
    have e : ((m : Int) - ((j : Int) + 1)).toNat = n := by omega
    rw [e]
    have q := alphabet_l2 (ns := ns) (mo := mo) (m := m) (j := j) (Z := { nx := fun ρ2 => Fr ρ2 Z, rt := Z.rt, bk := Z.nx, ct := fun ρ2 => Fr ρ2 Z, ex := Z.ex }) hm n (j + 1) ps s5 (by omega) (by omega) hb fun ps' s5' hb' => ih' ps' _ s5' (hb'.mono ?_) hn
    · rw [show ((j + 1 : Nat) : Int) = (j : Int) + 1 by omega] at q
      exact q
    · exact pair_lt.mpr (.inl (by omega))
theorem GoodP.sort {m : Nat} {ps : List (List Nat)} (h : GoodP m ps) : sortT ps = ps := sorted_unique (sortT_perm ps) (sortT_sorted ps) (h.pw.imp fun h => List.le_of_lt h)
theorem p_alphabet (ds : List D) (Q : D → Prop) (E : Nat → D → Prop) (h : alphabetS ds Q E) : e__law_alphabet drawS (st0 6 ds) { nx := fun _ => Q .non, rt := Q } := by
  obtain ⟨ns, mo, rfl, hm, hm6, hq⟩ := h
  simp only [e__law_alphabet, drawS, st0, List.map, List.length, List.replicate, List.cons_append, List.nil_append, sSeq, sSet, sIf, sRet, sRetN, sNext, sFor, sDrop, sApp, sStore, sBxSet, sAsg, put, settle, frz, vVar, vC, v2, v1, vB, vM, vTup, vLst, vSl, vCall, vIsi, vIf, vAnd, vOr, vNot, vChain, vDisp1, vDNewK, vBxI, vBxD, vBxNew, vScLen, vScIx, vEnum, enD, sNil, sCons, aNil, aCons, tOf, tBl, tAnd, tOr, tNot, truthD, boolD, iRange1, iRange2, iVal, iRaw, rawI, itemsD, pNo, pSome, slD, on1, on2, lenD, intD, addD, subD, mulD, fdivD, modD, powD, negD, ltD, leD, gtD, geD, eqD, neD, isD, isNotD, inD, notInD, ixD, tupD, listD, minD, maxD, gSet, gNilD, gConsD, gTupD, tyD, countD, sindexD, vLc, List.getElem?_cons_zero, List.getElem?_cons_succ, List.set_cons_zero, List.set_cons_succ, bx_eq, scr_eq, D.int.injEq, D.str.injEq, D.bl.injEq, Prod.mk.injEq, exists_eq_left, exists_eq_left', exists_and_left, exists_eq, exists_eq', true_and, and_true, List.length_map, decide_eq_true_eq, reduceCtorEq, if_true, if_false, Bool.not_true, Bool.not_false, Bool.false_eq_true, Option.some.injEq, Sl.ow.injEq, Sl.fz.injEq, D.lst.injEq, D.tup.injEq, D.dct.injEq, List.cons.injEq, and_assoc, and_self, Int.toNat_natCast, atI_0, atI_1, atI_2, strs_eq, bx_eq, scr_eq, sAug, iaddD, joinD, vSortSet, vSortK, listKD, dgetD, vSortG, iRangeD, mulXD, vRev, revD, vSortSetX, sortSetR, sortSDx, sPopTo, vLc2, noOwB, noOwB_blk, vMaxD, vMaxG, mEm, vZip, zipD, sindexXD, vLrD, sExt, sBad, vEnumT, vSumG, sEm, vFldA, vMeth, vMake, vNewM, sMemo, sMemoD, KVar, Slf, KPair]
  refine ⟨hm, fun d hd0 hd1 => ?_⟩
  rw [lettersTo d hd0 (by omega)]
  simp only [Lt_len, st0, List.map, List.length, List.replicate, List.cons_append, List.nil_append, sSeq, sSet, sIf, sRet, sRetN, sNext, sFor, sDrop, sApp, sStore, sBxSet, sAsg, put, settle, frz, vVar, vC, v2, v1, vB, vM, vTup, vLst, vSl, vCall, vIsi, vIf, vAnd, vOr, vNot, vChain, vDisp1, vDNewK, vBxI, vBxD, vBxNew, vScLen, vScIx, vEnum, enD, sNil, sCons, aNil, aCons, tOf, tBl, tAnd, tOr, tNot, truthD, boolD, iRange1, iRange2, iVal, iRaw, rawI, itemsD, pNo, pSome, slD, on1, on2, lenD, intD, addD, subD, mulD, fdivD, modD, powD, negD, ltD, leD, gtD, geD, eqD, neD, isD, isNotD, inD, notInD, ixD, tupD, listD, minD, maxD, gSet, gNilD, gConsD, gTupD, tyD, countD, sindexD, vLc, List.getElem?_cons_zero, List.getElem?_cons_succ, List.set_cons_zero, List.set_cons_succ, bx_eq, scr_eq, D.int.injEq, D.str.injEq, D.bl.injEq, Prod.mk.injEq, exists_eq_left, exists_eq_left', exists_and_left, exists_eq, exists_eq', true_and, and_true, List.length_map, decide_eq_true_eq, reduceCtorEq, if_true, if_false, Bool.not_true, Bool.not_false, Bool.false_eq_true, Option.some.injEq, Sl.ow.injEq, Sl.fz.injEq, D.lst.injEq, D.tup.injEq, D.dct.injEq, List.cons.injEq, and_assoc, and_self, Int.toNat_natCast, atI_0, atI_1, atI_2, strs_eq, bx_eq, scr_eq, sAug, iaddD, joinD, vSortSet, vSortK, listKD, dgetD, vSortG, iRangeD, mulXD, vRev, revD, vSortSetX, sortSetR, sortSDx, sPopTo, vLc2, noOwB, noOwB_blk, vMaxD, vMaxG, mEm, vZip, zipD, sindexXD, vLrD, sExt, sBad, vEnumT, vSumG, sEm, vFldA, vMeth, vMake, vNewM, sMemo, sMemoD, KVar, Slf, KPair]
  refine ⟨Nat.zero_le _, by omega, by omega, ?_⟩
  refine alphabet_l1 (m := 1 + d.toNat) (by omega) (1 + d.toNat) 0 [] .no .no (by omega) ⟨fun p hp => (by cases hp), .nil⟩ fun ps' s4 s5 hg => ?_
  simp only [sortSD, GoodP.sort hg, st0, List.map, List.length, List.replicate, List.cons_append, List.nil_append, sSeq, sSet, sIf, sRet, sRetN, sNext, sFor, sDrop, sApp, sStore, sBxSet, sAsg, put, settle, frz, vVar, vC, v2, v1, vB, vM, vTup, vLst, vSl, vCall, vIsi, vIf, vAnd, vOr, vNot, vChain, vDisp1, vDNewK, vBxI, vBxD, vBxNew, vScLen, vScIx, vEnum, enD, sNil, sCons, aNil, aCons, tOf, tBl, tAnd, tOr, tNot, truthD, boolD, iRange1, iRange2, iVal, iRaw, rawI, itemsD, pNo, pSome, slD, on1, on2, lenD, intD, addD, subD, mulD, fdivD, modD, powD, negD, ltD, leD, gtD, geD, eqD, neD, isD, isNotD, inD, notInD, ixD, tupD, listD, minD, maxD, gSet, gNilD, gConsD, gTupD, tyD, countD, sindexD, vLc, List.getElem?_cons_zero, List.getElem?_cons_succ, List.set_cons_zero, List.set_cons_succ, bx_eq, scr_eq, D.int.injEq, D.str.injEq, D.bl.injEq, Prod.mk.injEq, exists_eq_left, exists_eq_left', exists_and_left, exists_eq, exists_eq', true_and, and_true, List.length_map, decide_eq_true_eq, reduceCtorEq, if_true, if_false, Bool.not_true, Bool.not_false, Bool.false_eq_true, Option.some.injEq, Sl.ow.injEq, Sl.fz.injEq, D.lst.injEq, D.tup.injEq, D.dct.injEq, List.cons.injEq, and_assoc, and_self, Int.toNat_natCast, atI_0, atI_1, atI_2, strs_eq, bx_eq, scr_eq, sAug, iaddD, joinD, vSortSet, vSortK, listKD, dgetD, vSortG, iRangeD, mulXD, vRev, revD, vSortSetX, sortSetR, sortSDx, sPopTo, vLc2, noOwB, noOwB_blk, vMaxD, vMaxG, mEm, vZip, zipD, sindexXD, vLrD, sExt, sBad, vEnumT, vSumG, sEm, vFldA, vMeth, vMake, vNewM, sMemo, sMemoD, KVar, Slf, KPair]
  exact ⟨by decide, hq _ ps' (by omega) (by omega) hg⟩
end TC

namespace TC
open PySem PySem.Spec PyProof.Rows L2
/-! ### words, free letters -/
def Wd_ (m : Nat) (w : List Nat) : Prop := ∀ c ∈ w, c ∈ Lt m
theorem Wd_.chars {m : Nat} {w : List Nat} (hm : m ≤ 6) (h : Wd_ m w) : chars w := fun c hc => by
  have := Lt_mem.mp (h c hc)
  omega
theorem Wd_.app {m : Nat} {a b : List Nat} (h : Wd_ m a) (k : Wd_ m b) : Wd_ m (a ++ b) := fun c hc => (List.mem_append.mp hc).elim (h c) (k c)
def fr (ps : List (List Nat)) (x y : Nat) : Bool := decide ([x, y] ∈ ps) || decide ([y, x] ∈ ps)
theorem fr_comm {ps : List (List Nat)} {x y : Nat} : fr ps x y = fr ps y x := Bool.or_comm _ _
theorem GoodP.chars {m : Nat} {ps : List (List Nat)} (h : GoodP m ps) (hm : m ≤ 6) : ∀ p ∈ ps, chars p := fun p hp => by
  obtain ⟨a, b, h1, h2, h3, rfl⟩ := h.at_ p hp
  intro c hc
  simp only [List.mem_cons, List.not_mem_nil, or_false] at hc
  omega
theorem chars2 {x y : Nat} (hx : x < 1000) (hy : y < 1000) : chars [x, y] := fun c hc => by
  simp only [List.mem_cons, List.not_mem_nil, or_false] at hc
  omega
def freeS : Spc := fun ds Q _ => ∃ (m : Nat) (ps : List (List Nat)) (x y : Nat), ds = [alD m ps, .str [x], .str [y]] ∧ m ≤ 6 ∧ GoodP m ps ∧ x < 1000 ∧ y < 1000 ∧ Q (.bl (fr ps x y))
theorem p_lfree (ds : List D) (Q : D → Prop) (E : Nat → D → Prop) (h : freeS ds Q E) : e__law_free (st0 3 ds) { nx := fun _ => Q .non, rt := Q } := by
  obtain ⟨m, ps, x, y, rfl, hm, hg, hx, hy, hq⟩ := h
  have h1 := ok_str (chars2 hx hy)
  have h2 := ok_str (chars2 hy hx)
  have h3 := ok_strT (hg.chars hm)
  simp only [e__law_free, alD, any_str, h1, h2, h3, st0, List.map, List.length, List.replicate, List.cons_append, List.nil_append, sSeq, sSet, sIf, sRet, sRetN, sNext, sFor, sDrop, sApp, sStore, sBxSet, sAsg, put, settle, frz, vVar, vC, v2, v1, vB, vM, vTup, vLst, vSl, vCall, vIsi, vIf, vAnd, vOr, vNot, vChain, vDisp1, vDNewK, vBxI, vBxD, vBxNew, vScLen, vScIx, vEnum, enD, sNil, sCons, aNil, aCons, tOf, tBl, tAnd, tOr, tNot, truthD, boolD, iRange1, iRange2, iVal, iRaw, rawI, itemsD, pNo, pSome, slD, on1, on2, lenD, intD, addD, subD, mulD, fdivD, modD, powD, negD, ltD, leD, gtD, geD, eqD, neD, isD, isNotD, inD, notInD, ixD, tupD, listD, minD, maxD, gSet, gNilD, gConsD, gTupD, tyD, countD, sindexD, vLc, List.getElem?_cons_zero, List.getElem?_cons_succ, List.set_cons_zero, List.set_cons_succ, bx_eq, scr_eq, D.int.injEq, D.str.injEq, D.bl.injEq, Prod.mk.injEq, exists_eq_left, exists_eq_left', exists_and_left, exists_eq, exists_eq', true_and, and_true, List.length_map, decide_eq_true_eq, reduceCtorEq, if_true, if_false, Bool.not_true, Bool.not_false, Bool.false_eq_true, Option.some.injEq, Sl.ow.injEq, Sl.fz.injEq, D.lst.injEq, D.tup.injEq, D.dct.injEq, List.cons.injEq, and_assoc, and_self, Int.toNat_natCast, atI_0, atI_1, atI_2, strs_eq, bx_eq, scr_eq, sAug, iaddD, joinD, vSortSet, vSortK, listKD, dgetD, vSortG, iRangeD, mulXD, vRev, revD, vSortSetX, sortSetR, sortSDx, sPopTo, vLc2, noOwB, noOwB_blk, vMaxD, vMaxG, mEm, vZip, zipD, sindexXD, vLrD, sExt, sBad, vEnumT, vSumG, sEm, vFldA, vMeth, vMake, vNewM, sMemo, sMemoD, KVar, Slf, KPair]
  refine ⟨by decide, ?_⟩
  unfold fr at hq
  split
  · rename_i h
    simpa [h] using hq
  · rename_i h
    exact ⟨by decide, by simpa [h] using hq⟩
theorem p_independent (ds : List D) (Q : D → Prop) (E : Nat → D → Prop) (h : freeS ds Q E) : e_independent (st0 3 ds) { nx := fun _ => Q .non, rt := Q } := by
  obtain ⟨m, ps, x, y, rfl, hm, hg, hx, hy, hq⟩ := h
  have h1 := ok_str (chars2 hx hy)
  have h2 := ok_str (chars2 hy hx)
  have h3 := ok_strT (hg.chars hm)
  have hlt : ∀ {a b : Nat}, ([a] : List Nat) < [b] ↔ a < b := fun {a b} => by rw [List.cons_lt_cons_iff]; simp
  have no : ∀ {a b : Nat}, [a, b] ∈ ps → a < b := fun {a b} h => by
    obtain ⟨c, d, _, h2, _, e⟩ := hg.at_ _ h
    injection e with e1 e2
    injection e2 with e2 _
    omega
  simp only [e_independent, alD, any_str, st0, List.map, List.length, List.replicate, List.cons_append, List.nil_append, sSeq, sSet, sIf, sRet, sRetN, sNext, sFor, sDrop, sApp, sStore, sBxSet, sAsg, put, settle, frz, vVar, vC, v2, v1, vB, vM, vTup, vLst, vSl, vCall, vIsi, vIf, vAnd, vOr, vNot, vChain, vDisp1, vDNewK, vBxI, vBxD, vBxNew, vScLen, vScIx, vEnum, enD, sNil, sCons, aNil, aCons, tOf, tBl, tAnd, tOr, tNot, truthD, boolD, iRange1, iRange2, iVal, iRaw, rawI, itemsD, pNo, pSome, slD, on1, on2, lenD, intD, addD, subD, mulD, fdivD, modD, powD, negD, ltD, leD, gtD, geD, eqD, neD, isD, isNotD, inD, notInD, ixD, tupD, listD, minD, maxD, gSet, gNilD, gConsD, gTupD, tyD, countD, sindexD, vLc, List.getElem?_cons_zero, List.getElem?_cons_succ, List.set_cons_zero, List.set_cons_succ, bx_eq, scr_eq, D.int.injEq, D.str.injEq, D.bl.injEq, Prod.mk.injEq, exists_eq_left, exists_eq_left', exists_and_left, exists_eq, exists_eq', true_and, and_true, List.length_map, decide_eq_true_eq, reduceCtorEq, if_true, if_false, Bool.not_true, Bool.not_false, Bool.false_eq_true, Option.some.injEq, Sl.ow.injEq, Sl.fz.injEq, D.lst.injEq, D.tup.injEq, D.dct.injEq, List.cons.injEq, and_assoc, and_self, Int.toNat_natCast, atI_0, atI_1, atI_2, strs_eq, bx_eq, scr_eq, sAug, iaddD, joinD, vSortSet, vSortK, listKD, dgetD, vSortG, iRangeD, mulXD, vRev, revD, vSortSetX, sortSetR, sortSDx, sPopTo, vLc2, noOwB, noOwB_blk, vMaxD, vMaxG, mEm, vZip, zipD, sindexXD, vLrD, sExt, sBad, vEnumT, vSumG, sEm, vFldA, vMeth, vMake, vNewM, sMemo, sMemoD, KVar, Slf, KPair, hlt]
  by_cases hxy : x < y
  · have n1 : ¬ y < x := by omega
    simp only [hxy, n1, if_true, if_false, any_str, h1, h3, st0, List.map, List.length, List.replicate, List.cons_append, List.nil_append, sSeq, sSet, sIf, sRet, sRetN, sNext, sFor, sDrop, sApp, sStore, sBxSet, sAsg, put, settle, frz, vVar, vC, v2, v1, vB, vM, vTup, vLst, vSl, vCall, vIsi, vIf, vAnd, vOr, vNot, vChain, vDisp1, vDNewK, vBxI, vBxD, vBxNew, vScLen, vScIx, vEnum, enD, sNil, sCons, aNil, aCons, tOf, tBl, tAnd, tOr, tNot, truthD, boolD, iRange1, iRange2, iVal, iRaw, rawI, itemsD, pNo, pSome, slD, on1, on2, lenD, intD, addD, subD, mulD, fdivD, modD, powD, negD, ltD, leD, gtD, geD, eqD, neD, isD, isNotD, inD, notInD, ixD, tupD, listD, minD, maxD, gSet, gNilD, gConsD, gTupD, tyD, countD, sindexD, vLc, List.getElem?_cons_zero, List.getElem?_cons_succ, List.set_cons_zero, List.set_cons_succ, bx_eq, scr_eq, D.int.injEq, D.str.injEq, D.bl.injEq, Prod.mk.injEq, exists_eq_left, exists_eq_left', exists_and_left, exists_eq, exists_eq', true_and, and_true, List.length_map, decide_eq_true_eq, reduceCtorEq, if_true, if_false, Bool.not_true, Bool.not_false, Bool.false_eq_true, Option.some.injEq, Sl.ow.injEq, Sl.fz.injEq, D.lst.injEq, D.tup.injEq, D.dct.injEq, List.cons.injEq, and_assoc, and_self, Int.toNat_natCast, atI_0, atI_1, atI_2, strs_eq, bx_eq, scr_eq, sAug, iaddD, joinD, vSortSet, vSortK, listKD, dgetD, vSortG, iRangeD, mulXD, vRev, revD, vSortSetX, sortSetR, sortSDx, sPopTo, vLc2, noOwB, noOwB_blk, vMaxD, vMaxG, mEm, vZip, zipD, sindexXD, vLrD, sExt, sBad, vEnumT, vSumG, sEm, vFldA, vMeth, vMake, vNewM, sMemo, sMemoD, KVar, Slf, KPair]
    refine ⟨by decide, ?_⟩
    have n2 : [y, x] ∉ ps := fun h => by have := no h; omega
    unfold fr at hq
    rw [decide_eq_false n2, Bool.or_false] at hq
    exact hq
  · by_cases hyx : y < x
    · simp only [hxy, hyx, if_true, if_false, any_str, h2, h3, st0, List.map, List.length, List.replicate, List.cons_append, List.nil_append, sSeq, sSet, sIf, sRet, sRetN, sNext, sFor, sDrop, sApp, sStore, sBxSet, sAsg, put, settle, frz, vVar, vC, v2, v1, vB, vM, vTup, vLst, vSl, vCall, vIsi, vIf, vAnd, vOr, vNot, vChain, vDisp1, vDNewK, vBxI, vBxD, vBxNew, vScLen, vScIx, vEnum, enD, sNil, sCons, aNil, aCons, tOf, tBl, tAnd, tOr, tNot, truthD, boolD, iRange1, iRange2, iVal, iRaw, rawI, itemsD, pNo, pSome, slD, on1, on2, lenD, intD, addD, subD, mulD, fdivD, modD, powD, negD, ltD, leD, gtD, geD, eqD, neD, isD, isNotD, inD, notInD, ixD, tupD, listD, minD, maxD, gSet, gNilD, gConsD, gTupD, tyD, countD, sindexD, vLc, List.getElem?_cons_zero, List.getElem?_cons_succ, List.set_cons_zero, List.set_cons_succ, bx_eq, scr_eq, D.int.injEq, D.str.injEq, D.bl.injEq, Prod.mk.injEq, exists_eq_left, exists_eq_left', exists_and_left, exists_eq, exists_eq', true_and, and_true, List.length_map, decide_eq_true_eq, reduceCtorEq, if_true, if_false, Bool.not_true, Bool.not_false, Bool.false_eq_true, Option.some.injEq, Sl.ow.injEq, Sl.fz.injEq, D.lst.injEq, D.tup.injEq, D.dct.injEq, List.cons.injEq, and_assoc, and_self, Int.toNat_natCast, atI_0, atI_1, atI_2, strs_eq, bx_eq, scr_eq, sAug, iaddD, joinD, vSortSet, vSortK, listKD, dgetD, vSortG, iRangeD, mulXD, vRev, revD, vSortSetX, sortSetR, sortSDx, sPopTo, vLc2, noOwB, noOwB_blk, vMaxD, vMaxG, mEm, vZip, zipD, sindexXD, vLrD, sExt, sBad, vEnumT, vSumG, sEm, vFldA, vMeth, vMake, vNewM, sMemo, sMemoD, KVar, Slf, KPair]
      refine ⟨by decide, ?_⟩
      have n2 : [x, y] ∉ ps := fun h => by have := no h; omega
      unfold fr at hq
      rw [decide_eq_false n2, Bool.false_or] at hq
      exact hq
    · have e : x = y := by omega
      subst e
      simp only [hxy, if_true, if_false, any_str, h1, h3, st0, List.map, List.length, List.replicate, List.cons_append, List.nil_append, sSeq, sSet, sIf, sRet, sRetN, sNext, sFor, sDrop, sApp, sStore, sBxSet, sAsg, put, settle, frz, vVar, vC, v2, v1, vB, vM, vTup, vLst, vSl, vCall, vIsi, vIf, vAnd, vOr, vNot, vChain, vDisp1, vDNewK, vBxI, vBxD, vBxNew, vScLen, vScIx, vEnum, enD, sNil, sCons, aNil, aCons, tOf, tBl, tAnd, tOr, tNot, truthD, boolD, iRange1, iRange2, iVal, iRaw, rawI, itemsD, pNo, pSome, slD, on1, on2, lenD, intD, addD, subD, mulD, fdivD, modD, powD, negD, ltD, leD, gtD, geD, eqD, neD, isD, isNotD, inD, notInD, ixD, tupD, listD, minD, maxD, gSet, gNilD, gConsD, gTupD, tyD, countD, sindexD, vLc, List.getElem?_cons_zero, List.getElem?_cons_succ, List.set_cons_zero, List.set_cons_succ, bx_eq, scr_eq, D.int.injEq, D.str.injEq, D.bl.injEq, Prod.mk.injEq, exists_eq_left, exists_eq_left', exists_and_left, exists_eq, exists_eq', true_and, and_true, List.length_map, decide_eq_true_eq, reduceCtorEq, if_true, if_false, Bool.not_true, Bool.not_false, Bool.false_eq_true, Option.some.injEq, Sl.ow.injEq, Sl.fz.injEq, D.lst.injEq, D.tup.injEq, D.dct.injEq, List.cons.injEq, and_assoc, and_self, Int.toNat_natCast, atI_0, atI_1, atI_2, strs_eq, bx_eq, scr_eq, sAug, iaddD, joinD, vSortSet, vSortK, listKD, dgetD, vSortG, iRangeD, mulXD, vRev, revD, vSortSetX, sortSetR, sortSDx, sPopTo, vLc2, noOwB, noOwB_blk, vMaxD, vMaxG, mEm, vZip, zipD, sindexXD, vLrD, sExt, sBad, vEnumT, vSumG, sEm, vFldA, vMeth, vMake, vNewM, sMemo, sMemoD, KVar, Slf, KPair]
      refine ⟨by decide, ?_⟩
      unfold fr at hq
      rw [Bool.or_self] at hq
      exact hq
end TC

namespace TC
open PySem PySem.Spec PyProof.Rows L2
/-! ### two letters side by side -/
theorem two_at {w : List Nat} {d : Int} (h0 : 0 ≤ d) (h1 : d + 1 < (w.length : Int)) : ∃ (u : List Nat) (x y : Nat) (v : List Nat), w = u ++ x :: y :: v ∧ d = (u.length : Int) := by
  refine ⟨w.take d.toNat, w[d.toNat]'(by omega), w[d.toNat + 1]'(by omega), w.drop (d.toNat + 2), ?_, ?_⟩
  · rw [← List.drop_eq_getElem_cons, ← List.drop_eq_getElem_cons, List.take_append_drop]
  · rw [List.length_take]; omega
theorem two_x (u : List Nat) (x y : Nat) (v : List Nat) : atI (u ++ x :: y :: v) (u.length : Int) = some x := by
  rw [atI_nat (by simp)]
  simp
theorem two_y (u : List Nat) (x y : Nat) (v : List Nat) : atI (u ++ x :: y :: v) ((u.length : Int) + 1) = some y := by
  rw [show ((u.length : Int) + 1) = ((u.length + 1 : Nat) : Int) by omega, atI_nat (by simp)]
  simp
theorem two_u (u : List Nat) (x y : Nat) (v : List Nat) : cutL (u ++ x :: y :: v) none (some (u.length : Int)) = u := by
  rw [cutL_to]; simp
theorem two_v (u : List Nat) (x y : Nat) (v : List Nat) : cutL (u ++ x :: y :: v) (some ((u.length : Int) + 2)) none = v := by
  rw [show ((u.length : Int) + 2) = ((u.length + 2 : Nat) : Int) by omega, cutL_from]; simp
theorem two_lt (u : List Nat) (x y : Nat) (v : List Nat) : (((u.length : Int) + 1 < ((u ++ x :: y :: v).length : Int)) = True) := by
  rw [eq_iff_iff, iff_true, List.length_append, List.length_cons, List.length_cons]; omega
theorem two_W {m : Nat} {u v : List Nat} {x y : Nat} (h : Wd_ m (u ++ x :: y :: v)) : Wd_ m (u ++ y :: x :: v) := fun c hc => h c (by simp only [List.mem_append, List.mem_cons] at hc ⊢; rcases hc with h | h | h | h <;> simp [h])
theorem two_len {u v : List Nat} {x y : Nat} : (u ++ y :: x :: v).length = (u ++ x :: y :: v).length := by simp
theorem Wd_.lt {m : Nat} {w : List Nat} (hm : m ≤ 6) (h : Wd_ m w) : ∀ c ∈ w, c < 1000 := fun c hc => by
  have := Lt_mem.mp (h c hc)
  omega
theorem lt_size {n : Nat} (h : n < 1000) : n ≤ sizeLine := by rw [sizeLine_eq]; omega
def Step (ps : List (List Nat)) (a b : List Nat) : Prop := ∃ (u : List Nat) (x y : Nat) (v : List Nat), a = u ++ x :: y :: v ∧ b = u ++ y :: x :: v ∧ fr ps x y = true
inductive Reach (ps : List (List Nat)) (a : List Nat) : List Nat → Prop
  | refl : Reach ps a a
  | step {b c : List Nat} (h : Reach ps a b) (k : Step ps b c) : Reach ps a c
end TC

namespace TC
open PySem PySem.Spec PyProof.Rows L2
/-! ### sameness -/
theorem eqv_str {a b : List Nat} : (D.str a).py.eqv (D.str b).py = decide (a = b) := by
  show (mkS a == mkS b) = _
  rw [mkS_beq]
theorem eqv_int {a b : Int} : (D.int a).py.eqv (D.int b).py = decide (a = b) := by
  show (a == b) = _
  exact (Bool.eq_iff_iff.mpr (by simp))
theorem noO_non : (∀ (n : Nat) (l : List D), D.non ≠ .obj n l) = True := eq_true fun _ _ h => by cases h
theorem noO_str {s} : (∀ (n : Nat) (l : List D), D.str s ≠ .obj n l) = True := eq_true fun _ _ h => by cases h
theorem noO_tup {s} : (∀ (n : Nat) (l : List D), D.tup s ≠ .obj n l) = True := eq_true fun _ _ h => by cases h
theorem noO_int {s} : (∀ (n : Nat) (l : List D), D.int s ≠ .obj n l) = True := eq_true fun _ _ h => by cases h
theorem noO_bl {s} : (∀ (n : Nat) (l : List D), D.bl s ≠ .obj n l) = True := eq_true fun _ _ h => by cases h
theorem isi1 : isiB "tuple" .non = false := by decide
theorem isi2 {s} : isiB "tuple" (.str s) = false := by rw [isiB_str]; decide
theorem isi3 {s} : isiB "bool" (.str s) = false := by rw [isiB_str]; decide
theorem isi4 {s} : isiB "int" (.str s) = false := by rw [isiB_str]; decide
theorem isi5 {s} : isiB "str" (.str s) = true := by rw [isiB_str]; decide
theorem isi6 {s} : isiB "tuple" (.tup s) = true := by rw [isiB_tup]; decide
theorem isn1 : isNoneD .non = true := rfl
theorem isn2 {s} : isNoneD (.str s) = false := rfl
theorem isn3 {s} : isNoneD (.tup s) = false := rfl
def noS : Spc := fun _ _ _ => False
def same0S : Spc := fun ds Q _ => ∃ d, ds = [d, d] ∧ (d = .non ∨ ∃ s, chars s ∧ d = .str s) ∧ Q (.bl true)
theorem p_same0 (ds : List D) (Q : D → Prop) (E : Nat → D → Prop) (h : same0S ds Q E) : e__law_same noS (st0 3 ds) { nx := fun _ => Q .non, rt := Q } := by
  obtain ⟨d, rfl, rfl | ⟨s, hs, rfl⟩, hq⟩ := h
  · simp only [e__law_same, noO_non, isi1, isn1, st0, List.map, List.length, List.replicate, List.cons_append, List.nil_append, sSeq, sSet, sIf, sRet, sRetN, sNext, sFor, sDrop, sApp, sStore, sBxSet, sAsg, put, settle, frz, vVar, vC, v2, v1, vB, vM, vTup, vLst, vSl, vCall, vIsi, vIf, vAnd, vOr, vNot, vChain, vDisp1, vDNewK, vBxI, vBxD, vBxNew, vScLen, vScIx, vEnum, enD, sNil, sCons, aNil, aCons, tOf, tBl, tAnd, tOr, tNot, truthD, boolD, iRange1, iRange2, iVal, iRaw, rawI, itemsD, pNo, pSome, slD, on1, on2, lenD, intD, addD, subD, mulD, fdivD, modD, powD, negD, ltD, leD, gtD, geD, eqD, neD, isD, isNotD, inD, notInD, ixD, tupD, listD, minD, maxD, gSet, gNilD, gConsD, gTupD, tyD, countD, sindexD, vLc, List.getElem?_cons_zero, List.getElem?_cons_succ, List.set_cons_zero, List.set_cons_succ, bx_eq, scr_eq, D.int.injEq, D.str.injEq, D.bl.injEq, Prod.mk.injEq, exists_eq_left, exists_eq_left', exists_and_left, exists_eq, exists_eq', true_and, and_true, List.length_map, decide_eq_true_eq, reduceCtorEq, if_true, if_false, Bool.not_true, Bool.not_false, Bool.false_eq_true, Option.some.injEq, Sl.ow.injEq, Sl.fz.injEq, D.lst.injEq, D.tup.injEq, D.dct.injEq, List.cons.injEq, and_assoc, and_self, Int.toNat_natCast, atI_0, atI_1, atI_2, strs_eq, bx_eq, scr_eq, sAug, iaddD, joinD, vSortSet, vSortK, listKD, dgetD, vSortG, iRangeD, mulXD, vRev, revD, vSortSetX, sortSetR, sortSDx, sPopTo, vLc2, noOwB, noOwB_blk, vMaxD, vMaxG, mEm, vZip, zipD, sindexXD, vLrD, sExt, sBad, vEnumT, vSumG, sEm, vFldA, vMeth, vMake, vNewM, sMemo, sMemoD, KVar, Slf, KPair]
    exact hq
  · have k := ok_str hs
    simp only [e__law_same, noO_str, isi2, isi3, isi4, isi5, isn2, eqv_str, k, decide_true, st0, List.map, List.length, List.replicate, List.cons_append, List.nil_append, sSeq, sSet, sIf, sRet, sRetN, sNext, sFor, sDrop, sApp, sStore, sBxSet, sAsg, put, settle, frz, vVar, vC, v2, v1, vB, vM, vTup, vLst, vSl, vCall, vIsi, vIf, vAnd, vOr, vNot, vChain, vDisp1, vDNewK, vBxI, vBxD, vBxNew, vScLen, vScIx, vEnum, enD, sNil, sCons, aNil, aCons, tOf, tBl, tAnd, tOr, tNot, truthD, boolD, iRange1, iRange2, iVal, iRaw, rawI, itemsD, pNo, pSome, slD, on1, on2, lenD, intD, addD, subD, mulD, fdivD, modD, powD, negD, ltD, leD, gtD, geD, eqD, neD, isD, isNotD, inD, notInD, ixD, tupD, listD, minD, maxD, gSet, gNilD, gConsD, gTupD, tyD, countD, sindexD, vLc, List.getElem?_cons_zero, List.getElem?_cons_succ, List.set_cons_zero, List.set_cons_succ, bx_eq, scr_eq, D.int.injEq, D.str.injEq, D.bl.injEq, Prod.mk.injEq, exists_eq_left, exists_eq_left', exists_and_left, exists_eq, exists_eq', true_and, and_true, List.length_map, decide_eq_true_eq, reduceCtorEq, if_true, if_false, Bool.not_true, Bool.not_false, Bool.false_eq_true, Option.some.injEq, Sl.ow.injEq, Sl.fz.injEq, D.lst.injEq, D.tup.injEq, D.dct.injEq, List.cons.injEq, and_assoc, and_self, Int.toNat_natCast, atI_0, atI_1, atI_2, strs_eq, bx_eq, scr_eq, sAug, iaddD, joinD, vSortSet, vSortK, listKD, dgetD, vSortG, iRangeD, mulXD, vRev, revD, vSortSetX, sortSetR, sortSDx, sPopTo, vLc2, noOwB, noOwB_blk, vMaxD, vMaxG, mEm, vZip, zipD, sindexXD, vLrD, sExt, sBad, vEnumT, vSumG, sEm, vFldA, vMeth, vMake, vNewM, sMemo, sMemoD, KVar, Slf, KPair]
    exact hq
def same1S : Spc := fun ds Q _ => ∃ d, ds = [d, d] ∧ (d = .non ∨ (∃ s, chars s ∧ d = .str s) ∨ ∃ l : List (List Nat), (∀ s ∈ l, chars s) ∧ l.length < 1000000 ∧ d = .tup (l.map D.str)) ∧ Q (.bl true)
theorem same_l1 {l : List (List Nat)} {Z : EndsD} (hl : ∀ s ∈ l, chars s) : ∀ (n lo : Nat) (s2 : Sl), lo + n = l.length → (∀ s2', Z.nx [.fz (.tup (l.map D.str)), .fz (.tup (l.map D.str)), s2']) →
    forD (gSet 2) (l1__law_same same0S) (rngL lo n) [.fz (.tup (l.map D.str)), .fz (.tup (l.map D.str)), s2] Z := by
  intro n
  induction n with
  | zero =>
    intro lo s2 h hn
    rw [rngL_zero, forD_nil]
    exact hn s2
  | succ n ih =>
    intro lo s2 h hn
    rw [rngL_succ, forD_cons]
    have ih' := ih (lo + 1)
    rw [show ((lo + 1 : Nat) : Int) = (lo : Int) + 1 by omega] at ih'
    generalize forD (gSet 2) (l1__law_same same0S) (rngL ((lo : Int) + 1) n) = Fr at ih' ⊢
    simp only [l1__law_same, same0S, st0, List.map, List.length, List.replicate, List.cons_append, List.nil_append, sSeq, sSet, sIf, sRet, sRetN, sNext, sFor, sDrop, sApp, sStore, sBxSet, sAsg, put, settle, frz, vVar, vC, v2, v1, vB, vM, vTup, vLst, vSl, vCall, vIsi, vIf, vAnd, vOr, vNot, vChain, vDisp1, vDNewK, vBxI, vBxD, vBxNew, vScLen, vScIx, vEnum, enD, sNil, sCons, aNil, aCons, tOf, tBl, tAnd, tOr, tNot, truthD, boolD, iRange1, iRange2, iVal, iRaw, rawI, itemsD, pNo, pSome, slD, on1, on2, lenD, intD, addD, subD, mulD, fdivD, modD, powD, negD, ltD, leD, gtD, geD, eqD, neD, isD, isNotD, inD, notInD, ixD, tupD, listD, minD, maxD, gSet, gNilD, gConsD, gTupD, tyD, countD, sindexD, vLc, List.getElem?_cons_zero, List.getElem?_cons_succ, List.set_cons_zero, List.set_cons_succ, bx_eq, scr_eq, D.int.injEq, D.str.injEq, D.bl.injEq, Prod.mk.injEq, exists_eq_left, exists_eq_left', exists_and_left, exists_eq, exists_eq', true_and, and_true, List.length_map, decide_eq_true_eq, reduceCtorEq, if_true, if_false, Bool.not_true, Bool.not_false, Bool.false_eq_true, Option.some.injEq, Sl.ow.injEq, Sl.fz.injEq, D.lst.injEq, D.tup.injEq, D.dct.injEq, List.cons.injEq, and_assoc, and_self, Int.toNat_natCast, atI_0, atI_1, atI_2, strs_eq, bx_eq, scr_eq, sAug, iaddD, joinD, vSortSet, vSortK, listKD, dgetD, vSortG, iRangeD, mulXD, vRev, revD, vSortSetX, sortSetR, sortSDx, sPopTo, vLc2, noOwB, noOwB_blk, vMaxD, vMaxG, mEm, vZip, zipD, sindexXD, vLrD, sExt, sBad, vEnumT, vSumG, sEm, vFldA, vMeth, vMake, vNewM, sMemo, sMemoD, KVar, Slf, KPair]
    rw [atI_nat (by rw [List.length_map]; omega)]
    simp only [List.getElem_map, st0, List.map, List.length, List.replicate, List.cons_append, List.nil_append, sSeq, sSet, sIf, sRet, sRetN, sNext, sFor, sDrop, sApp, sStore, sBxSet, sAsg, put, settle, frz, vVar, vC, v2, v1, vB, vM, vTup, vLst, vSl, vCall, vIsi, vIf, vAnd, vOr, vNot, vChain, vDisp1, vDNewK, vBxI, vBxD, vBxNew, vScLen, vScIx, vEnum, enD, sNil, sCons, aNil, aCons, tOf, tBl, tAnd, tOr, tNot, truthD, boolD, iRange1, iRange2, iVal, iRaw, rawI, itemsD, pNo, pSome, slD, on1, on2, lenD, intD, addD, subD, mulD, fdivD, modD, powD, negD, ltD, leD, gtD, geD, eqD, neD, isD, isNotD, inD, notInD, ixD, tupD, listD, minD, maxD, gSet, gNilD, gConsD, gTupD, tyD, countD, sindexD, vLc, List.getElem?_cons_zero, List.getElem?_cons_succ, List.set_cons_zero, List.set_cons_succ, bx_eq, scr_eq, D.int.injEq, D.str.injEq, D.bl.injEq, Prod.mk.injEq, exists_eq_left, exists_eq_left', exists_and_left, exists_eq, exists_eq', true_and, and_true, List.length_map, decide_eq_true_eq, reduceCtorEq, if_true, if_false, Bool.not_true, Bool.not_false, Bool.false_eq_true, Option.some.injEq, Sl.ow.injEq, Sl.fz.injEq, D.lst.injEq, D.tup.injEq, D.dct.injEq, List.cons.injEq, and_assoc, and_self, Int.toNat_natCast, atI_0, atI_1, atI_2, strs_eq, bx_eq, scr_eq, sAug, iaddD, joinD, vSortSet, vSortK, listKD, dgetD, vSortG, iRangeD, mulXD, vRev, revD, vSortSetX, sortSetR, sortSDx, sPopTo, vLc2, noOwB, noOwB_blk, vMaxD, vMaxG, mEm, vZip, zipD, sindexXD, vLrD, sExt, sBad, vEnumT, vSumG, sEm, vFldA, vMeth, vMake, vNewM, sMemo, sMemoD, KVar, Slf, KPair]
    exact ⟨.inr ⟨_, hl _ (List.getElem_mem _), rfl⟩, ih' _ (by omega) hn⟩
theorem p_same1 (ds : List D) (Q : D → Prop) (E : Nat → D → Prop) (h : same1S ds Q E) : e__law_same same0S (st0 3 ds) { nx := fun _ => Q .non, rt := Q } := by
  obtain ⟨d, rfl, rfl | ⟨s, hs, rfl⟩ | ⟨l, hs, hl, rfl⟩, hq⟩ := h
  · simp only [e__law_same, noO_non, isi1, isn1, st0, List.map, List.length, List.replicate, List.cons_append, List.nil_append, sSeq, sSet, sIf, sRet, sRetN, sNext, sFor, sDrop, sApp, sStore, sBxSet, sAsg, put, settle, frz, vVar, vC, v2, v1, vB, vM, vTup, vLst, vSl, vCall, vIsi, vIf, vAnd, vOr, vNot, vChain, vDisp1, vDNewK, vBxI, vBxD, vBxNew, vScLen, vScIx, vEnum, enD, sNil, sCons, aNil, aCons, tOf, tBl, tAnd, tOr, tNot, truthD, boolD, iRange1, iRange2, iVal, iRaw, rawI, itemsD, pNo, pSome, slD, on1, on2, lenD, intD, addD, subD, mulD, fdivD, modD, powD, negD, ltD, leD, gtD, geD, eqD, neD, isD, isNotD, inD, notInD, ixD, tupD, listD, minD, maxD, gSet, gNilD, gConsD, gTupD, tyD, countD, sindexD, vLc, List.getElem?_cons_zero, List.getElem?_cons_succ, List.set_cons_zero, List.set_cons_succ, bx_eq, scr_eq, D.int.injEq, D.str.injEq, D.bl.injEq, Prod.mk.injEq, exists_eq_left, exists_eq_left', exists_and_left, exists_eq, exists_eq', true_and, and_true, List.length_map, decide_eq_true_eq, reduceCtorEq, if_true, if_false, Bool.not_true, Bool.not_false, Bool.false_eq_true, Option.some.injEq, Sl.ow.injEq, Sl.fz.injEq, D.lst.injEq, D.tup.injEq, D.dct.injEq, List.cons.injEq, and_assoc, and_self, Int.toNat_natCast, atI_0, atI_1, atI_2, strs_eq, bx_eq, scr_eq, sAug, iaddD, joinD, vSortSet, vSortK, listKD, dgetD, vSortG, iRangeD, mulXD, vRev, revD, vSortSetX, sortSetR, sortSDx, sPopTo, vLc2, noOwB, noOwB_blk, vMaxD, vMaxG, mEm, vZip, zipD, sindexXD, vLrD, sExt, sBad, vEnumT, vSumG, sEm, vFldA, vMeth, vMake, vNewM, sMemo, sMemoD, KVar, Slf, KPair]
    exact hq
  · have k := ok_str hs
    simp only [e__law_same, noO_str, isi2, isi3, isi4, isi5, isn2, eqv_str, k, decide_true, st0, List.map, List.length, List.replicate, List.cons_append, List.nil_append, sSeq, sSet, sIf, sRet, sRetN, sNext, sFor, sDrop, sApp, sStore, sBxSet, sAsg, put, settle, frz, vVar, vC, v2, v1, vB, vM, vTup, vLst, vSl, vCall, vIsi, vIf, vAnd, vOr, vNot, vChain, vDisp1, vDNewK, vBxI, vBxD, vBxNew, vScLen, vScIx, vEnum, enD, sNil, sCons, aNil, aCons, tOf, tBl, tAnd, tOr, tNot, truthD, boolD, iRange1, iRange2, iVal, iRaw, rawI, itemsD, pNo, pSome, slD, on1, on2, lenD, intD, addD, subD, mulD, fdivD, modD, powD, negD, ltD, leD, gtD, geD, eqD, neD, isD, isNotD, inD, notInD, ixD, tupD, listD, minD, maxD, gSet, gNilD, gConsD, gTupD, tyD, countD, sindexD, vLc, List.getElem?_cons_zero, List.getElem?_cons_succ, List.set_cons_zero, List.set_cons_succ, bx_eq, scr_eq, D.int.injEq, D.str.injEq, D.bl.injEq, Prod.mk.injEq, exists_eq_left, exists_eq_left', exists_and_left, exists_eq, exists_eq', true_and, and_true, List.length_map, decide_eq_true_eq, reduceCtorEq, if_true, if_false, Bool.not_true, Bool.not_false, Bool.false_eq_true, Option.some.injEq, Sl.ow.injEq, Sl.fz.injEq, D.lst.injEq, D.tup.injEq, D.dct.injEq, List.cons.injEq, and_assoc, and_self, Int.toNat_natCast, atI_0, atI_1, atI_2, strs_eq, bx_eq, scr_eq, sAug, iaddD, joinD, vSortSet, vSortK, listKD, dgetD, vSortG, iRangeD, mulXD, vRev, revD, vSortSetX, sortSetR, sortSDx, sPopTo, vLc2, noOwB, noOwB_blk, vMaxD, vMaxG, mEm, vZip, zipD, sindexXD, vLrD, sExt, sBad, vEnumT, vSumG, sEm, vFldA, vMeth, vMake, vNewM, sMemo, sMemoD, KVar, Slf, KPair]
    exact hq
  · have k := ok_int (i := (l.length : Int))
    simp only [e__law_same, noO_tup, isi6, eqv_int, k, decide_true, st0, List.map, List.length, List.replicate, List.cons_append, List.nil_append, sSeq, sSet, sIf, sRet, sRetN, sNext, sFor, sDrop, sApp, sStore, sBxSet, sAsg, put, settle, frz, vVar, vC, v2, v1, vB, vM, vTup, vLst, vSl, vCall, vIsi, vIf, vAnd, vOr, vNot, vChain, vDisp1, vDNewK, vBxI, vBxD, vBxNew, vScLen, vScIx, vEnum, enD, sNil, sCons, aNil, aCons, tOf, tBl, tAnd, tOr, tNot, truthD, boolD, iRange1, iRange2, iVal, iRaw, rawI, itemsD, pNo, pSome, slD, on1, on2, lenD, intD, addD, subD, mulD, fdivD, modD, powD, negD, ltD, leD, gtD, geD, eqD, neD, isD, isNotD, inD, notInD, ixD, tupD, listD, minD, maxD, gSet, gNilD, gConsD, gTupD, tyD, countD, sindexD, vLc, List.getElem?_cons_zero, List.getElem?_cons_succ, List.set_cons_zero, List.set_cons_succ, bx_eq, scr_eq, D.int.injEq, D.str.injEq, D.bl.injEq, Prod.mk.injEq, exists_eq_left, exists_eq_left', exists_and_left, exists_eq, exists_eq', true_and, and_true, List.length_map, decide_eq_true_eq, reduceCtorEq, if_true, if_false, Bool.not_true, Bool.not_false, Bool.false_eq_true, Option.some.injEq, Sl.ow.injEq, Sl.fz.injEq, D.lst.injEq, D.tup.injEq, D.dct.injEq, List.cons.injEq, and_assoc, and_self, Int.toNat_natCast, atI_0, atI_1, atI_2, strs_eq, bx_eq, scr_eq, sAug, iaddD, joinD, vSortSet, vSortK, listKD, dgetD, vSortG, iRangeD, mulXD, vRev, revD, vSortSetX, sortSetR, sortSDx, sPopTo, vLc2, noOwB, noOwB_blk, vMaxD, vMaxG, mEm, vZip, zipD, sindexXD, vLrD, sExt, sBad, vEnumT, vSumG, sEm, vFldA, vMeth, vMake, vNewM, sMemo, sMemoD, KVar, Slf, KPair]
    refine ⟨by omega, by omega, same_l1 hs _ 0 .no (by omega) fun s2' => ?_⟩
    simp only [st0, List.map, List.length, List.replicate, List.cons_append, List.nil_append, sSeq, sSet, sIf, sRet, sRetN, sNext, sFor, sDrop, sApp, sStore, sBxSet, sAsg, put, settle, frz, vVar, vC, v2, v1, vB, vM, vTup, vLst, vSl, vCall, vIsi, vIf, vAnd, vOr, vNot, vChain, vDisp1, vDNewK, vBxI, vBxD, vBxNew, vScLen, vScIx, vEnum, enD, sNil, sCons, aNil, aCons, tOf, tBl, tAnd, tOr, tNot, truthD, boolD, iRange1, iRange2, iVal, iRaw, rawI, itemsD, pNo, pSome, slD, on1, on2, lenD, intD, addD, subD, mulD, fdivD, modD, powD, negD, ltD, leD, gtD, geD, eqD, neD, isD, isNotD, inD, notInD, ixD, tupD, listD, minD, maxD, gSet, gNilD, gConsD, gTupD, tyD, countD, sindexD, vLc, List.getElem?_cons_zero, List.getElem?_cons_succ, List.set_cons_zero, List.set_cons_succ, bx_eq, scr_eq, D.int.injEq, D.str.injEq, D.bl.injEq, Prod.mk.injEq, exists_eq_left, exists_eq_left', exists_and_left, exists_eq, exists_eq', true_and, and_true, List.length_map, decide_eq_true_eq, reduceCtorEq, if_true, if_false, Bool.not_true, Bool.not_false, Bool.false_eq_true, Option.some.injEq, Sl.ow.injEq, Sl.fz.injEq, D.lst.injEq, D.tup.injEq, D.dct.injEq, List.cons.injEq, and_assoc, and_self, Int.toNat_natCast, atI_0, atI_1, atI_2, strs_eq, bx_eq, scr_eq, sAug, iaddD, joinD, vSortSet, vSortK, listKD, dgetD, vSortG, iRangeD, mulXD, vRev, revD, vSortSetX, sortSetR, sortSDx, sPopTo, vLc2, noOwB, noOwB_blk, vMaxD, vMaxG, mEm, vZip, zipD, sindexXD, vLrD, sExt, sBad, vEnumT, vSumG, sEm, vFldA, vMeth, vMake, vNewM, sMemo, sMemoD, KVar, Slf, KPair]
    exact hq
end TC

namespace TC
open PySem PySem.Spec PyProof.Rows L2
/-! ### sameness, with numbers -/
theorem isj1 {i} : isiB "tuple" (.int i) = false := by rw [isiB_int]; decide
theorem isj2 {i} : isiB "bool" (.int i) = false := by rw [isiB_int]; decide
theorem isj3 {i} : isiB "int" (.int i) = true := by rw [isiB_int]; decide
theorem isn5 {i} : isNoneD (.int i) = false := rfl
def same0IS : Spc := fun ds Q _ => ∃ d, ds = [d, d] ∧ ((∃ i, d = .int i) ∨ ∃ s, chars s ∧ d = .str s) ∧ Q (.bl true)
theorem p_same0I (ds : List D) (Q : D → Prop) (E : Nat → D → Prop) (h : same0IS ds Q E) : e__law_same noS (st0 3 ds) { nx := fun _ => Q .non, rt := Q } := by
  obtain ⟨d, rfl, ⟨i, rfl⟩ | ⟨s, hs, rfl⟩, hq⟩ := h
  · have k := ok_int (i := i)
    simp only [e__law_same, noO_int, isj1, isj2, isj3, isn5, eqv_int, k, decide_true, st0, List.map, List.length, List.replicate, List.cons_append, List.nil_append, sSeq, sSet, sIf, sRet, sRetN, sNext, sFor, sDrop, sApp, sStore, sBxSet, sAsg, put, settle, frz, vVar, vC, v2, v1, vB, vM, vTup, vLst, vSl, vCall, vIsi, vIf, vAnd, vOr, vNot, vChain, vDisp1, vDNewK, vBxI, vBxD, vBxNew, vScLen, vScIx, vEnum, enD, sNil, sCons, aNil, aCons, tOf, tBl, tAnd, tOr, tNot, truthD, boolD, iRange1, iRange2, iVal, iRaw, rawI, itemsD, pNo, pSome, slD, on1, on2, lenD, intD, addD, subD, mulD, fdivD, modD, powD, negD, ltD, leD, gtD, geD, eqD, neD, isD, isNotD, inD, notInD, ixD, tupD, listD, minD, maxD, gSet, gNilD, gConsD, gTupD, tyD, countD, sindexD, vLc, List.getElem?_cons_zero, List.getElem?_cons_succ, List.set_cons_zero, List.set_cons_succ, bx_eq, scr_eq, D.int.injEq, D.str.injEq, D.bl.injEq, Prod.mk.injEq, exists_eq_left, exists_eq_left', exists_and_left, exists_eq, exists_eq', true_and, and_true, List.length_map, decide_eq_true_eq, reduceCtorEq, if_true, if_false, Bool.not_true, Bool.not_false, Bool.false_eq_true, Option.some.injEq, Sl.ow.injEq, Sl.fz.injEq, D.lst.injEq, D.tup.injEq, D.dct.injEq, List.cons.injEq, and_assoc, and_self, Int.toNat_natCast, atI_0, atI_1, atI_2, strs_eq, bx_eq, scr_eq, sAug, iaddD, joinD, vSortSet, vSortK, listKD, dgetD, vSortG, iRangeD, mulXD, vRev, revD, vSortSetX, sortSetR, sortSDx, sPopTo, vLc2, noOwB, noOwB_blk, vMaxD, vMaxG, mEm, vZip, zipD, sindexXD, vLrD, sExt, sBad, vEnumT, vSumG, sEm, vFldA, vMeth, vMake, vNewM, sMemo, sMemoD, KVar, Slf, KPair]
    exact hq
  · have k := ok_str hs
    simp only [e__law_same, noO_str, isi2, isi3, isi4, isi5, isn2, eqv_str, k, decide_true, st0, List.map, List.length, List.replicate, List.cons_append, List.nil_append, sSeq, sSet, sIf, sRet, sRetN, sNext, sFor, sDrop, sApp, sStore, sBxSet, sAsg, put, settle, frz, vVar, vC, v2, v1, vB, vM, vTup, vLst, vSl, vCall, vIsi, vIf, vAnd, vOr, vNot, vChain, vDisp1, vDNewK, vBxI, vBxD, vBxNew, vScLen, vScIx, vEnum, enD, sNil, sCons, aNil, aCons, tOf, tBl, tAnd, tOr, tNot, truthD, boolD, iRange1, iRange2, iVal, iRaw, rawI, itemsD, pNo, pSome, slD, on1, on2, lenD, intD, addD, subD, mulD, fdivD, modD, powD, negD, ltD, leD, gtD, geD, eqD, neD, isD, isNotD, inD, notInD, ixD, tupD, listD, minD, maxD, gSet, gNilD, gConsD, gTupD, tyD, countD, sindexD, vLc, List.getElem?_cons_zero, List.getElem?_cons_succ, List.set_cons_zero, List.set_cons_succ, bx_eq, scr_eq, D.int.injEq, D.str.injEq, D.bl.injEq, Prod.mk.injEq, exists_eq_left, exists_eq_left', exists_and_left, exists_eq, exists_eq', true_and, and_true, List.length_map, decide_eq_true_eq, reduceCtorEq, if_true, if_false, Bool.not_true, Bool.not_false, Bool.false_eq_true, Option.some.injEq, Sl.ow.injEq, Sl.fz.injEq, D.lst.injEq, D.tup.injEq, D.dct.injEq, List.cons.injEq, and_assoc, and_self, Int.toNat_natCast, atI_0, atI_1, atI_2, strs_eq, bx_eq, scr_eq, sAug, iaddD, joinD, vSortSet, vSortK, listKD, dgetD, vSortG, iRangeD, mulXD, vRev, revD, vSortSetX, sortSetR, sortSDx, sPopTo, vLc2, noOwB, noOwB_blk, vMaxD, vMaxG, mEm, vZip, zipD, sindexXD, vLrD, sExt, sBad, vEnumT, vSumG, sEm, vFldA, vMeth, vMake, vNewM, sMemo, sMemoD, KVar, Slf, KPair]
    exact hq
def same1IS : Spc := fun ds Q _ => ∃ d, ds = [d, d] ∧ ((∃ s, chars s ∧ d = .str s) ∨ ∃ l : List D, (∀ x ∈ l, (∃ i, x = .int i) ∨ ∃ s, chars s ∧ x = .str s) ∧ l.length < 1000000 ∧ d = .tup l) ∧ Q (.bl true)
theorem sameI_l1 {l : List D} {Z : EndsD} (hl : ∀ x ∈ l, (∃ i, x = .int i) ∨ ∃ s, chars s ∧ x = .str s) : ∀ (n lo : Nat) (s2 : Sl), lo + n = l.length → (∀ s2', Z.nx [.fz (.tup l), .fz (.tup l), s2']) →
    forD (gSet 2) (l1__law_same same0IS) (rngL lo n) [.fz (.tup l), .fz (.tup l), s2] Z := by
  intro n
  induction n with
  | zero =>
    intro lo s2 h hn
    rw [rngL_zero, forD_nil]
    exact hn s2
  | succ n ih =>
    intro lo s2 h hn
    rw [rngL_succ, forD_cons]
    have ih' := ih (lo + 1)
    rw [show ((lo + 1 : Nat) : Int) = (lo : Int) + 1 by omega] at ih'
    generalize forD (gSet 2) (l1__law_same same0IS) (rngL ((lo : Int) + 1) n) = Fr at ih' ⊢
    simp only [l1__law_same, same0IS, st0, List.map, List.length, List.replicate, List.cons_append, List.nil_append, sSeq, sSet, sIf, sRet, sRetN, sNext, sFor, sDrop, sApp, sStore, sBxSet, sAsg, put, settle, frz, vVar, vC, v2, v1, vB, vM, vTup, vLst, vSl, vCall, vIsi, vIf, vAnd, vOr, vNot, vChain, vDisp1, vDNewK, vBxI, vBxD, vBxNew, vScLen, vScIx, vEnum, enD, sNil, sCons, aNil, aCons, tOf, tBl, tAnd, tOr, tNot, truthD, boolD, iRange1, iRange2, iVal, iRaw, rawI, itemsD, pNo, pSome, slD, on1, on2, lenD, intD, addD, subD, mulD, fdivD, modD, powD, negD, ltD, leD, gtD, geD, eqD, neD, isD, isNotD, inD, notInD, ixD, tupD, listD, minD, maxD, gSet, gNilD, gConsD, gTupD, tyD, countD, sindexD, vLc, List.getElem?_cons_zero, List.getElem?_cons_succ, List.set_cons_zero, List.set_cons_succ, bx_eq, scr_eq, D.int.injEq, D.str.injEq, D.bl.injEq, Prod.mk.injEq, exists_eq_left, exists_eq_left', exists_and_left, exists_eq, exists_eq', true_and, and_true, List.length_map, decide_eq_true_eq, reduceCtorEq, if_true, if_false, Bool.not_true, Bool.not_false, Bool.false_eq_true, Option.some.injEq, Sl.ow.injEq, Sl.fz.injEq, D.lst.injEq, D.tup.injEq, D.dct.injEq, List.cons.injEq, and_assoc, and_self, Int.toNat_natCast, atI_0, atI_1, atI_2, strs_eq, bx_eq, scr_eq, sAug, iaddD, joinD, vSortSet, vSortK, listKD, dgetD, vSortG, iRangeD, mulXD, vRev, revD, vSortSetX, sortSetR, sortSDx, sPopTo, vLc2, noOwB, noOwB_blk, vMaxD, vMaxG, mEm, vZip, zipD, sindexXD, vLrD, sExt, sBad, vEnumT, vSumG, sEm, vFldA, vMeth, vMake, vNewM, sMemo, sMemoD, KVar, Slf, KPair]
    rw [atI_nat (by omega)]
    exact ⟨rfl, hl _ (List.getElem_mem _), ih' _ (by omega) hn⟩
theorem p_same1I (ds : List D) (Q : D → Prop) (E : Nat → D → Prop) (h : same1IS ds Q E) : e__law_same same0IS (st0 3 ds) { nx := fun _ => Q .non, rt := Q } := by
  obtain ⟨d, rfl, ⟨s, hs, rfl⟩ | ⟨l, hs, hl, rfl⟩, hq⟩ := h
  · have k := ok_str hs
    simp only [e__law_same, noO_str, isi2, isi3, isi4, isi5, isn2, eqv_str, k, decide_true, st0, List.map, List.length, List.replicate, List.cons_append, List.nil_append, sSeq, sSet, sIf, sRet, sRetN, sNext, sFor, sDrop, sApp, sStore, sBxSet, sAsg, put, settle, frz, vVar, vC, v2, v1, vB, vM, vTup, vLst, vSl, vCall, vIsi, vIf, vAnd, vOr, vNot, vChain, vDisp1, vDNewK, vBxI, vBxD, vBxNew, vScLen, vScIx, vEnum, enD, sNil, sCons, aNil, aCons, tOf, tBl, tAnd, tOr, tNot, truthD, boolD, iRange1, iRange2, iVal, iRaw, rawI, itemsD, pNo, pSome, slD, on1, on2, lenD, intD, addD, subD, mulD, fdivD, modD, powD, negD, ltD, leD, gtD, geD, eqD, neD, isD, isNotD, inD, notInD, ixD, tupD, listD, minD, maxD, gSet, gNilD, gConsD, gTupD, tyD, countD, sindexD, vLc, List.getElem?_cons_zero, List.getElem?_cons_succ, List.set_cons_zero, List.set_cons_succ, bx_eq, scr_eq, D.int.injEq, D.str.injEq, D.bl.injEq, Prod.mk.injEq, exists_eq_left, exists_eq_left', exists_and_left, exists_eq, exists_eq', true_and, and_true, List.length_map, decide_eq_true_eq, reduceCtorEq, if_true, if_false, Bool.not_true, Bool.not_false, Bool.false_eq_true, Option.some.injEq, Sl.ow.injEq, Sl.fz.injEq, D.lst.injEq, D.tup.injEq, D.dct.injEq, List.cons.injEq, and_assoc, and_self, Int.toNat_natCast, atI_0, atI_1, atI_2, strs_eq, bx_eq, scr_eq, sAug, iaddD, joinD, vSortSet, vSortK, listKD, dgetD, vSortG, iRangeD, mulXD, vRev, revD, vSortSetX, sortSetR, sortSDx, sPopTo, vLc2, noOwB, noOwB_blk, vMaxD, vMaxG, mEm, vZip, zipD, sindexXD, vLrD, sExt, sBad, vEnumT, vSumG, sEm, vFldA, vMeth, vMake, vNewM, sMemo, sMemoD, KVar, Slf, KPair]
    exact hq
  · have k := ok_int (i := (l.length : Int))
    simp only [e__law_same, noO_tup, isi6, eqv_int, k, decide_true, st0, List.map, List.length, List.replicate, List.cons_append, List.nil_append, sSeq, sSet, sIf, sRet, sRetN, sNext, sFor, sDrop, sApp, sStore, sBxSet, sAsg, put, settle, frz, vVar, vC, v2, v1, vB, vM, vTup, vLst, vSl, vCall, vIsi, vIf, vAnd, vOr, vNot, vChain, vDisp1, vDNewK, vBxI, vBxD, vBxNew, vScLen, vScIx, vEnum, enD, sNil, sCons, aNil, aCons, tOf, tBl, tAnd, tOr, tNot, truthD, boolD, iRange1, iRange2, iVal, iRaw, rawI, itemsD, pNo, pSome, slD, on1, on2, lenD, intD, addD, subD, mulD, fdivD, modD, powD, negD, ltD, leD, gtD, geD, eqD, neD, isD, isNotD, inD, notInD, ixD, tupD, listD, minD, maxD, gSet, gNilD, gConsD, gTupD, tyD, countD, sindexD, vLc, List.getElem?_cons_zero, List.getElem?_cons_succ, List.set_cons_zero, List.set_cons_succ, bx_eq, scr_eq, D.int.injEq, D.str.injEq, D.bl.injEq, Prod.mk.injEq, exists_eq_left, exists_eq_left', exists_and_left, exists_eq, exists_eq', true_and, and_true, List.length_map, decide_eq_true_eq, reduceCtorEq, if_true, if_false, Bool.not_true, Bool.not_false, Bool.false_eq_true, Option.some.injEq, Sl.ow.injEq, Sl.fz.injEq, D.lst.injEq, D.tup.injEq, D.dct.injEq, List.cons.injEq, and_assoc, and_self, Int.toNat_natCast, atI_0, atI_1, atI_2, strs_eq, bx_eq, scr_eq, sAug, iaddD, joinD, vSortSet, vSortK, listKD, dgetD, vSortG, iRangeD, mulXD, vRev, revD, vSortSetX, sortSetR, sortSDx, sPopTo, vLc2, noOwB, noOwB_blk, vMaxD, vMaxG, mEm, vZip, zipD, sindexXD, vLrD, sExt, sBad, vEnumT, vSumG, sEm, vFldA, vMeth, vMake, vNewM, sMemo, sMemoD, KVar, Slf, KPair]
    refine ⟨by omega, by omega, sameI_l1 hs _ 0 .no (by omega) fun s2' => ?_⟩
    exact hq
end TC

namespace TC
open PySem PySem.Spec PyProof.Rows L2
def same1ZS : Spc := fun ds Q _ => ∃ d, ds = [d, d] ∧ (d = .non ∨ (∃ i, d = .int i) ∨ (∃ s, chars s ∧ d = .str s) ∨ ∃ l : List (List Nat), (∀ s ∈ l, chars s) ∧ l.length < 1000000 ∧ d = .tup (l.map D.str)) ∧ Q (.bl true)
theorem p_same1Z (ds : List D) (Q : D → Prop) (E : Nat → D → Prop) (h : same1ZS ds Q E) : e__law_same same0IS (st0 3 ds) { nx := fun _ => Q .non, rt := Q } := by
  obtain ⟨d, rfl, rfl | ⟨i, rfl⟩ | ⟨s, hs, rfl⟩ | ⟨l, hs, hl, rfl⟩, hq⟩ := h
  · simp only [e__law_same, noO_non, isi1, isn1, st0, List.map, List.length, List.replicate, List.cons_append, List.nil_append, sSeq, sSet, sIf, sRet, sRetN, sNext, sFor, sDrop, sApp, sStore, sBxSet, sAsg, put, settle, frz, vVar, vC, v2, v1, vB, vM, vTup, vLst, vSl, vCall, vIsi, vIf, vAnd, vOr, vNot, vChain, vDisp1, vDNewK, vBxI, vBxD, vBxNew, vScLen, vScIx, vEnum, enD, sNil, sCons, aNil, aCons, tOf, tBl, tAnd, tOr, tNot, truthD, boolD, iRange1, iRange2, iVal, iRaw, rawI, itemsD, pNo, pSome, slD, on1, on2, lenD, intD, addD, subD, mulD, fdivD, modD, powD, negD, ltD, leD, gtD, geD, eqD, neD, isD, isNotD, inD, notInD, ixD, tupD, listD, minD, maxD, gSet, gNilD, gConsD, gTupD, tyD, countD, sindexD, vLc, List.getElem?_cons_zero, List.getElem?_cons_succ, List.set_cons_zero, List.set_cons_succ, bx_eq, scr_eq, D.int.injEq, D.str.injEq, D.bl.injEq, Prod.mk.injEq, exists_eq_left, exists_eq_left', exists_and_left, exists_eq, exists_eq', true_and, and_true, List.length_map, decide_eq_true_eq, reduceCtorEq, if_true, if_false, Bool.not_true, Bool.not_false, Bool.false_eq_true, Option.some.injEq, Sl.ow.injEq, Sl.fz.injEq, D.lst.injEq, D.tup.injEq, D.dct.injEq, List.cons.injEq, and_assoc, and_self, Int.toNat_natCast, atI_0, atI_1, atI_2, strs_eq, bx_eq, scr_eq, sAug, iaddD, joinD, vSortSet, vSortK, listKD, dgetD, vSortG, iRangeD, mulXD, vRev, revD, vSortSetX, sortSetR, sortSDx, sPopTo, vLc2, noOwB, noOwB_blk, vMaxD, vMaxG, mEm, vZip, zipD, sindexXD, vLrD, sExt, sBad, vEnumT, vSumG, sEm, vFldA, vMeth, vMake, vNewM, sMemo, sMemoD, KVar, Slf, KPair]
    exact hq
  · have k := ok_int (i := i)
    simp only [e__law_same, noO_int, isj1, isj2, isj3, isn5, eqv_int, k, decide_true, st0, List.map, List.length, List.replicate, List.cons_append, List.nil_append, sSeq, sSet, sIf, sRet, sRetN, sNext, sFor, sDrop, sApp, sStore, sBxSet, sAsg, put, settle, frz, vVar, vC, v2, v1, vB, vM, vTup, vLst, vSl, vCall, vIsi, vIf, vAnd, vOr, vNot, vChain, vDisp1, vDNewK, vBxI, vBxD, vBxNew, vScLen, vScIx, vEnum, enD, sNil, sCons, aNil, aCons, tOf, tBl, tAnd, tOr, tNot, truthD, boolD, iRange1, iRange2, iVal, iRaw, rawI, itemsD, pNo, pSome, slD, on1, on2, lenD, intD, addD, subD, mulD, fdivD, modD, powD, negD, ltD, leD, gtD, geD, eqD, neD, isD, isNotD, inD, notInD, ixD, tupD, listD, minD, maxD, gSet, gNilD, gConsD, gTupD, tyD, countD, sindexD, vLc, List.getElem?_cons_zero, List.getElem?_cons_succ, List.set_cons_zero, List.set_cons_succ, bx_eq, scr_eq, D.int.injEq, D.str.injEq, D.bl.injEq, Prod.mk.injEq, exists_eq_left, exists_eq_left', exists_and_left, exists_eq, exists_eq', true_and, and_true, List.length_map, decide_eq_true_eq, reduceCtorEq, if_true, if_false, Bool.not_true, Bool.not_false, Bool.false_eq_true, Option.some.injEq, Sl.ow.injEq, Sl.fz.injEq, D.lst.injEq, D.tup.injEq, D.dct.injEq, List.cons.injEq, and_assoc, and_self, Int.toNat_natCast, atI_0, atI_1, atI_2, strs_eq, bx_eq, scr_eq, sAug, iaddD, joinD, vSortSet, vSortK, listKD, dgetD, vSortG, iRangeD, mulXD, vRev, revD, vSortSetX, sortSetR, sortSDx, sPopTo, vLc2, noOwB, noOwB_blk, vMaxD, vMaxG, mEm, vZip, zipD, sindexXD, vLrD, sExt, sBad, vEnumT, vSumG, sEm, vFldA, vMeth, vMake, vNewM, sMemo, sMemoD, KVar, Slf, KPair]
    exact hq
  · have k := ok_str hs
    simp only [e__law_same, noO_str, isi2, isi3, isi4, isi5, isn2, eqv_str, k, decide_true, st0, List.map, List.length, List.replicate, List.cons_append, List.nil_append, sSeq, sSet, sIf, sRet, sRetN, sNext, sFor, sDrop, sApp, sStore, sBxSet, sAsg, put, settle, frz, vVar, vC, v2, v1, vB, vM, vTup, vLst, vSl, vCall, vIsi, vIf, vAnd, vOr, vNot, vChain, vDisp1, vDNewK, vBxI, vBxD, vBxNew, vScLen, vScIx, vEnum, enD, sNil, sCons, aNil, aCons, tOf, tBl, tAnd, tOr, tNot, truthD, boolD, iRange1, iRange2, iVal, iRaw, rawI, itemsD, pNo, pSome, slD, on1, on2, lenD, intD, addD, subD, mulD, fdivD, modD, powD, negD, ltD, leD, gtD, geD, eqD, neD, isD, isNotD, inD, notInD, ixD, tupD, listD, minD, maxD, gSet, gNilD, gConsD, gTupD, tyD, countD, sindexD, vLc, List.getElem?_cons_zero, List.getElem?_cons_succ, List.set_cons_zero, List.set_cons_succ, bx_eq, scr_eq, D.int.injEq, D.str.injEq, D.bl.injEq, Prod.mk.injEq, exists_eq_left, exists_eq_left', exists_and_left, exists_eq, exists_eq', true_and, and_true, List.length_map, decide_eq_true_eq, reduceCtorEq, if_true, if_false, Bool.not_true, Bool.not_false, Bool.false_eq_true, Option.some.injEq, Sl.ow.injEq, Sl.fz.injEq, D.lst.injEq, D.tup.injEq, D.dct.injEq, List.cons.injEq, and_assoc, and_self, Int.toNat_natCast, atI_0, atI_1, atI_2, strs_eq, bx_eq, scr_eq, sAug, iaddD, joinD, vSortSet, vSortK, listKD, dgetD, vSortG, iRangeD, mulXD, vRev, revD, vSortSetX, sortSetR, sortSDx, sPopTo, vLc2, noOwB, noOwB_blk, vMaxD, vMaxG, mEm, vZip, zipD, sindexXD, vLrD, sExt, sBad, vEnumT, vSumG, sEm, vFldA, vMeth, vMake, vNewM, sMemo, sMemoD, KVar, Slf, KPair]
    exact hq
  · have k := ok_int (i := (l.length : Int))
    simp only [e__law_same, noO_tup, isi6, eqv_int, k, decide_true, st0, List.map, List.length, List.replicate, List.cons_append, List.nil_append, sSeq, sSet, sIf, sRet, sRetN, sNext, sFor, sDrop, sApp, sStore, sBxSet, sAsg, put, settle, frz, vVar, vC, v2, v1, vB, vM, vTup, vLst, vSl, vCall, vIsi, vIf, vAnd, vOr, vNot, vChain, vDisp1, vDNewK, vBxI, vBxD, vBxNew, vScLen, vScIx, vEnum, enD, sNil, sCons, aNil, aCons, tOf, tBl, tAnd, tOr, tNot, truthD, boolD, iRange1, iRange2, iVal, iRaw, rawI, itemsD, pNo, pSome, slD, on1, on2, lenD, intD, addD, subD, mulD, fdivD, modD, powD, negD, ltD, leD, gtD, geD, eqD, neD, isD, isNotD, inD, notInD, ixD, tupD, listD, minD, maxD, gSet, gNilD, gConsD, gTupD, tyD, countD, sindexD, vLc, List.getElem?_cons_zero, List.getElem?_cons_succ, List.set_cons_zero, List.set_cons_succ, bx_eq, scr_eq, D.int.injEq, D.str.injEq, D.bl.injEq, Prod.mk.injEq, exists_eq_left, exists_eq_left', exists_and_left, exists_eq, exists_eq', true_and, and_true, List.length_map, decide_eq_true_eq, reduceCtorEq, if_true, if_false, Bool.not_true, Bool.not_false, Bool.false_eq_true, Option.some.injEq, Sl.ow.injEq, Sl.fz.injEq, D.lst.injEq, D.tup.injEq, D.dct.injEq, List.cons.injEq, and_assoc, and_self, Int.toNat_natCast, atI_0, atI_1, atI_2, strs_eq, bx_eq, scr_eq, sAug, iaddD, joinD, vSortSet, vSortK, listKD, dgetD, vSortG, iRangeD, mulXD, vRev, revD, vSortSetX, sortSetR, sortSDx, sPopTo, vLc2, noOwB, noOwB_blk, vMaxD, vMaxG, mEm, vZip, zipD, sindexXD, vLrD, sExt, sBad, vEnumT, vSumG, sEm, vFldA, vMeth, vMake, vNewM, sMemo, sMemoD, KVar, Slf, KPair]
    refine ⟨by omega, by omega, ?_⟩
    have e : (l.length : Int).toNat = (l.map D.str).length := by rw [List.length_map]; omega
    refine sameI_l1 (l := l.map D.str) (fun x hx => ?_) _ 0 .no (by rw [List.length_map]; omega) fun s2' => ?_
    · obtain ⟨s, h1, rfl⟩ := List.mem_map.mp hx
      exact .inr ⟨s, hs s h1, rfl⟩
    · exact hq
end TC

namespace TC
open PySem PySem.Spec PyProof.Rows L2
/-! ### the mathematics: words that agree are reached -/
def flt (x y : Nat) (w : List Nat) : List Nat := w.filter fun c => decide (c ∈ [x, y])
structure Same (m : Nat) (ps : List (List Nat)) (w v : List Nat) : Prop where
  cnt : ∀ x ∈ Lt m, w.count x = v.count x
  ord : ∀ x ∈ Lt m, ∀ y ∈ Lt m, x ≠ y → fr ps x y = false → flt x y w = flt x y v
theorem Same.trans {m ps} {a b c : List Nat} (h : Same m ps a b) (k : Same m ps b c) : Same m ps a c := ⟨fun x hx => (h.cnt x hx).trans (k.cnt x hx), fun x hx y hy n f => (h.ord x hx y hy n f).trans (k.ord x hx y hy n f)⟩
theorem Same.symm {m ps} {a b : List Nat} (h : Same m ps a b) : Same m ps b a := ⟨fun x hx => (h.cnt x hx).symm, fun x hx y hy n f => (h.ord x hx y hy n f).symm⟩
theorem Step.same {m ps} {a b : List Nat} (h : Step ps a b) : Same m ps a b := by
  obtain ⟨u, x, y, v, rfl, rfl, hf⟩ := h
  refine ⟨fun z _ => ?_, fun z _ t _ hn hf2 => ?_⟩
  · simp only [List.count_append, List.count_cons]
    omega
  · unfold flt
    simp only [List.filter_append, List.filter_cons]
    by_cases hx : x ∈ [z, t]
    · by_cases hy : y ∈ [z, t]
      · simp only [hx, hy, decide_true, if_true]
        simp only [List.mem_cons, List.not_mem_nil, or_false] at hx hy
        have : x = y := by
          rcases hx with rfl | rfl <;> rcases hy with rfl | rfl
          · rfl
          · rw [hf] at hf2; cases hf2
          · rw [fr_comm, hf] at hf2; cases hf2
          · rfl
        rw [this]
      · simp only [hx, hy, decide_true, decide_false, if_true, Bool.false_eq_true, if_false]
    · simp only [hx, decide_false, Bool.false_eq_true, if_false]
theorem Step.symm {ps} {a b : List Nat} (h : Step ps a b) : Step ps b a := by
  obtain ⟨u, x, y, v, rfl, rfl, hf⟩ := h
  exact ⟨u, y, x, v, rfl, rfl, by rw [fr_comm]; exact hf⟩
theorem Step.cons {ps} {a b : List Nat} (c : Nat) (h : Step ps a b) : Step ps (c :: a) (c :: b) := by
  obtain ⟨u, x, y, v, rfl, rfl, hf⟩ := h
  exact ⟨c :: u, x, y, v, rfl, rfl, hf⟩
theorem Reach.trans {ps} {a b c : List Nat} (h : Reach ps a b) (k : Reach ps b c) : Reach ps a c := by
  induction k with
  | refl => exact h
  | step _ s ih => exact ih.step s
theorem Reach.symm {ps} {a b : List Nat} (h : Reach ps a b) : Reach ps b a := by
  induction h with
  | refl => exact .refl
  | step _ s ih => exact (Reach.step .refl s.symm).trans ih
theorem Reach.cons {ps} {a b : List Nat} (c : Nat) (h : Reach ps a b) : Reach ps (c :: a) (c :: b) := by
  induction h with
  | refl => exact .refl
  | step _ s ih => exact ih.step (s.cons c)
theorem Reach.same {m ps} {a b : List Nat} (h : Reach ps a b) : Same m ps a b := by
  induction h with
  | refl => exact ⟨fun _ _ => rfl, fun _ _ _ _ _ _ => rfl⟩
  | step _ s ih => exact ih.trans s.same
theorem reach_move {ps} {a : Nat} {q : List Nat} : ∀ p : List Nat, (∀ c ∈ p, fr ps c a = true) → Reach ps (p ++ a :: q) (a :: (p ++ q))
  | [], _ => .refl
  | c :: p, h => (Reach.cons c (reach_move p fun d hd => h d (List.mem_cons_of_mem _ hd))).step ⟨[], c, a, p ++ q, rfl, rfl, h c List.mem_cons_self⟩
theorem Same.uncons {m ps} {a : Nat} {w v : List Nat} (h : Same m ps (a :: w) (a :: v)) : Same m ps w v := by
  refine ⟨fun x hx => ?_, fun x hx y hy n f => ?_⟩
  · have := h.cnt x hx
    simp only [List.count_cons] at this
    omega
  · have := h.ord x hx y hy n f
    unfold flt at this ⊢
    simp only [List.filter_cons] at this
    split at this
    · injection this
    · exact this
theorem reach_of_same {m ps} : ∀ (w v : List Nat), Wd_ m w → Wd_ m v → Same m ps w v → Reach ps w v
  | [], v, hw, hv, h => by
    cases v with
    | nil => exact .refl
    | cons c v =>
      have := h.cnt c (hv c List.mem_cons_self)
      simp at this
  | a :: w, v, hw, hv, h => by
    have ha := hw a List.mem_cons_self
    have hav : a ∈ v := by
      have := h.cnt a ha
      rw [List.count_cons_self] at this
      exact List.count_pos_iff.mp (by omega)
    obtain ⟨p, q, rfl, hp⟩ := List.eq_append_cons_of_mem hav
    have hfr : ∀ c ∈ p, fr ps c a = true := fun c hc => by
      have hca : c ≠ a := fun e => hp (e ▸ hc)
      rw [← Bool.not_eq_false]
      intro hf
      have := h.ord c (hv c (by simp [hc])) a ha hca hf
      unfold flt at this
      rw [List.filter_append, List.filter_cons_of_pos (by simp)] at this
      cases hh : p.filter fun d => decide (d ∈ [c, a]) with
      | nil =>
        have : c ∈ p.filter fun d => decide (d ∈ [c, a]) := List.mem_filter.mpr ⟨hc, by simp⟩
        rw [hh] at this
        cases this
      | cons e t =>
        rw [hh] at this
        injection this with e1 e2
        have : e ∈ p.filter fun d => decide (d ∈ [c, a]) := by rw [hh]; exact List.mem_cons_self
        exact hp (e1 ▸ (List.mem_filter.mp this).1)
    have mv := reach_move (ps := ps) (q := q) p hfr
    have h2 := (h.trans mv.same).uncons
    have r := reach_of_same w (p ++ q) (fun c hc => hw c (List.mem_cons_of_mem _ hc)) (fun c hc => hv c (by rcases List.mem_append.mp hc with h | h <;> simp [h])) h2
    exact (r.cons a).trans mv.symm
end TC

namespace TC
open PySem PySem.Spec PyProof.Rows L2
/-! ### reached words hold the same letters -/
theorem reach_perm {ps : List (List Nat)} {a b : List Nat} (h : Reach ps a b) : a.Perm b := by
  induction h with
  | refl => exact List.Perm.refl _
  | step _ s ih =>
    obtain ⟨u, x, y, v, rfl, rfl, _⟩ := s
    exact ih.trans (List.Perm.append_left u (List.Perm.swap y x v))
end TC

namespace TC
open PySem PySem.Spec PyProof.Rows L2
/-! ### free words -/
def freeW (ps : List (List Nat)) (w v : List Nat) : Bool := w.all fun x => v.all fun y => fr ps x y
def freeWS : Spc := fun ds Q _ => ∃ (m : Nat) (ps : List (List Nat)) (w v : List Nat), ds = [alD m ps, .str w, .str v] ∧ m ≤ 6 ∧ GoodP m ps ∧ (∀ c ∈ w, c < 1000) ∧ (∀ c ∈ v, c < 1000) ∧ v.length < 1000 ∧ Q (.bl (freeW ps w v))
section
variable {m : Nat} {ps : List (List Nat)} {w v : List Nat} {R : Prop}
theorem free_in {x : Nat} {Fr : Unit → Prop} (hm : m ≤ 6) (hg : GoodP m ps) (hx : x < 1000) : ∀ (l : List Nat), (∀ c ∈ l, c < 1000) → (if l.all (fun y => fr ps x y) = true then Fr () else R) →
    loopD (gSet 4) tsNil (bdE (vCall freeS (sCons (vVar 0) (sCons (vVar 3) (sCons (vVar 4) sNil)))) Unit (bEm false R)) [.fz (alD m ps), .fz (.str w), .fz (.str v), .fz (.str [x]), .no] (signs l) () Fr := by
  intro l
  induction l with
  | nil =>
    intro _ h
    rw [signs_nil, loopD_nil]
    simpa using h
  | cons y l ih =>
    intro hl h
    rw [signs_cons, loopD_cons]
    have ih' := ih fun c hc => hl c (List.mem_cons_of_mem _ hc)
    generalize loopD (gSet 4) tsNil (bdE (vCall freeS (sCons (vVar 0) (sCons (vVar 3) (sCons (vVar 4) sNil)))) Unit (bEm false R)) [.fz (alD m ps), .fz (.str w), .fz (.str v), .fz (.str [x]), .no] (signs l) = Lp at ih' ⊢
    simp only [bdE, bEm, freeS, tsNil, st0, List.map, List.length, List.replicate, List.cons_append, List.nil_append, sSeq, sSet, sIf, sRet, sRetN, sNext, sFor, sDrop, sApp, sStore, sBxSet, sAsg, put, settle, frz, vVar, vC, v2, v1, vB, vM, vTup, vLst, vSl, vCall, vIsi, vIf, vAnd, vOr, vNot, vChain, vDisp1, vDNewK, vBxI, vBxD, vBxNew, vScLen, vScIx, vEnum, enD, sNil, sCons, aNil, aCons, tOf, tBl, tAnd, tOr, tNot, truthD, boolD, iRange1, iRange2, iVal, iRaw, rawI, itemsD, pNo, pSome, slD, on1, on2, lenD, intD, addD, subD, mulD, fdivD, modD, powD, negD, ltD, leD, gtD, geD, eqD, neD, isD, isNotD, inD, notInD, ixD, tupD, listD, minD, maxD, gSet, gNilD, gConsD, gTupD, tyD, countD, sindexD, vLc, List.getElem?_cons_zero, List.getElem?_cons_succ, List.set_cons_zero, List.set_cons_succ, bx_eq, scr_eq, D.int.injEq, D.str.injEq, D.bl.injEq, Prod.mk.injEq, exists_eq_left, exists_eq_left', exists_and_left, exists_eq, exists_eq', true_and, and_true, List.length_map, decide_eq_true_eq, reduceCtorEq, if_true, if_false, Bool.not_true, Bool.not_false, Bool.false_eq_true, Option.some.injEq, Sl.ow.injEq, Sl.fz.injEq, D.lst.injEq, D.tup.injEq, D.dct.injEq, List.cons.injEq, and_assoc, and_self, Int.toNat_natCast, atI_0, atI_1, atI_2, strs_eq, bx_eq, scr_eq, sAug, iaddD, joinD, vSortSet, vSortK, listKD, dgetD, vSortG, iRangeD, mulXD, vRev, revD, vSortSetX, sortSetR, sortSDx, sPopTo, vLc2, noOwB, noOwB_blk, vMaxD, vMaxG, mEm, vZip, zipD, sindexXD, vLrD, sExt, sBad, vEnumT, vSumG, sEm, vFldA, vMeth, vMake, vNewM, sMemo, sMemoD, KVar, Slf, KPair]
    refine ⟨m, ps, rfl, hm, hg, hx, hl y List.mem_cons_self, ?_⟩
    rw [List.all_cons] at h
    cases e : fr ps x y with
    | false =>
      simp only [e, Bool.false_and] at h
      simpa using h
    | true =>
      simp only [e, Bool.true_and] at h
      simp only [st0, List.map, List.length, List.replicate, List.cons_append, List.nil_append, sSeq, sSet, sIf, sRet, sRetN, sNext, sFor, sDrop, sApp, sStore, sBxSet, sAsg, put, settle, frz, vVar, vC, v2, v1, vB, vM, vTup, vLst, vSl, vCall, vIsi, vIf, vAnd, vOr, vNot, vChain, vDisp1, vDNewK, vBxI, vBxD, vBxNew, vScLen, vScIx, vEnum, enD, sNil, sCons, aNil, aCons, tOf, tBl, tAnd, tOr, tNot, truthD, boolD, iRange1, iRange2, iVal, iRaw, rawI, itemsD, pNo, pSome, slD, on1, on2, lenD, intD, addD, subD, mulD, fdivD, modD, powD, negD, ltD, leD, gtD, geD, eqD, neD, isD, isNotD, inD, notInD, ixD, tupD, listD, minD, maxD, gSet, gNilD, gConsD, gTupD, tyD, countD, sindexD, vLc, List.getElem?_cons_zero, List.getElem?_cons_succ, List.set_cons_zero, List.set_cons_succ, bx_eq, scr_eq, D.int.injEq, D.str.injEq, D.bl.injEq, Prod.mk.injEq, exists_eq_left, exists_eq_left', exists_and_left, exists_eq, exists_eq', true_and, and_true, List.length_map, decide_eq_true_eq, reduceCtorEq, if_true, if_false, Bool.not_true, Bool.not_false, Bool.false_eq_true, Option.some.injEq, Sl.ow.injEq, Sl.fz.injEq, D.lst.injEq, D.tup.injEq, D.dct.injEq, List.cons.injEq, and_assoc, and_self, Int.toNat_natCast, atI_0, atI_1, atI_2, strs_eq, bx_eq, scr_eq, sAug, iaddD, joinD, vSortSet, vSortK, listKD, dgetD, vSortG, iRangeD, mulXD, vRev, revD, vSortSetX, sortSetR, sortSDx, sPopTo, vLc2, noOwB, noOwB_blk, vMaxD, vMaxG, mEm, vZip, zipD, sindexXD, vLrD, sExt, sBad, vEnumT, vSumG, sEm, vFldA, vMeth, vMake, vNewM, sMemo, sMemoD, KVar, Slf, KPair]
      exact ih' h
theorem free_out {T : Unit → Prop} (hm : m ≤ 6) (hg : GoodP m ps) (hv : ∀ c ∈ v, c < 1000) (hvl : v.length < 1000) : ∀ (l : List Nat), (∀ c ∈ l, c < 1000) → (if freeW ps l v = true then T () else R) →
    loopD (gSet 3) tsNil (bdN [4] (iVal (vVar 2)) (gSet 4) tsNil (bdE (vCall freeS (sCons (vVar 0) (sCons (vVar 3) (sCons (vVar 4) sNil))))) Unit (bEm false R)) [.fz (alD m ps), .fz (.str w), .fz (.str v), .no, .no] (signs l) () T := by
  intro l
  induction l with
  | nil =>
    intro _ h
    rw [signs_nil, loopD_nil]
    simpa [freeW] using h
  | cons x l ih =>
    intro hl h
    rw [signs_cons, loopD_cons]
    have ih' := ih fun c hc => hl c (List.mem_cons_of_mem _ hc)
    generalize hLp : loopD (gSet 3) tsNil (bdN [4] (iVal (vVar 2)) (gSet 4) tsNil (bdE (vCall freeS (sCons (vVar 0) (sCons (vVar 3) (sCons (vVar 4) sNil))))) Unit (bEm false R)) [.fz (alD m ps), .fz (.str w), .fz (.str v), .no, .no] (signs l) = Lp at ih' ⊢
    have step : ∀ Fr : Unit → Prop, (if v.all (fun y => fr ps x y) = true then Fr () else R) → bdN [4] (iVal (vVar 2)) (gSet 4) tsNil (bdE (vCall freeS (sCons (vVar 0) (sCons (vVar 3) (sCons (vVar 4) sNil))))) Unit (bEm false R) [.fz (alD m ps), .fz (.str w), .fz (.str v), .fz (.str [x]), .no] () Fr := by
      intro Fr hF
      simp only [bdN, bdIn, st0, List.map, List.length, List.replicate, List.cons_append, List.nil_append, sSeq, sSet, sIf, sRet, sRetN, sNext, sFor, sDrop, sApp, sStore, sBxSet, sAsg, put, settle, frz, vVar, vC, v2, v1, vB, vM, vTup, vLst, vSl, vCall, vIsi, vIf, vAnd, vOr, vNot, vChain, vDisp1, vDNewK, vBxI, vBxD, vBxNew, vScLen, vScIx, vEnum, enD, sNil, sCons, aNil, aCons, tOf, tBl, tAnd, tOr, tNot, truthD, boolD, iRange1, iRange2, iVal, iRaw, rawI, itemsD, pNo, pSome, slD, on1, on2, lenD, intD, addD, subD, mulD, fdivD, modD, powD, negD, ltD, leD, gtD, geD, eqD, neD, isD, isNotD, inD, notInD, ixD, tupD, listD, minD, maxD, gSet, gNilD, gConsD, gTupD, tyD, countD, sindexD, vLc, List.getElem?_cons_zero, List.getElem?_cons_succ, List.set_cons_zero, List.set_cons_succ, bx_eq, scr_eq, D.int.injEq, D.str.injEq, D.bl.injEq, Prod.mk.injEq, exists_eq_left, exists_eq_left', exists_and_left, exists_eq, exists_eq', true_and, and_true, List.length_map, decide_eq_true_eq, reduceCtorEq, if_true, if_false, Bool.not_true, Bool.not_false, Bool.false_eq_true, Option.some.injEq, Sl.ow.injEq, Sl.fz.injEq, D.lst.injEq, D.tup.injEq, D.dct.injEq, List.cons.injEq, and_assoc, and_self, Int.toNat_natCast, atI_0, atI_1, atI_2, strs_eq, bx_eq, scr_eq, sAug, iaddD, joinD, vSortSet, vSortK, listKD, dgetD, vSortG, iRangeD, mulXD, vRev, revD, vSortSetX, sortSetR, sortSDx, sPopTo, vLc2, noOwB, noOwB_blk, vMaxD, vMaxG, mEm, vZip, zipD, sindexXD, vLrD, sExt, sBad, vEnumT, vSumG, sEm, vFldA, vMeth, vMake, vNewM, sMemo, sMemoD, KVar, Slf, KPair]
      first | refine ⟨?_, rfl, free_in hm hg (hl x List.mem_cons_self) v hv hF⟩ | refine ⟨?_, free_in hm hg (hl x List.mem_cons_self) v hv hF⟩
      unfold signs
      rw [List.length_map, sizeLine_eq]
      omega
    simp only [tsNil, gSet, List.set_cons_zero, List.set_cons_succ, if_true]
    refine step _ ?_
    unfold freeW at h
    rw [List.all_cons] at h
    cases e : v.all (fun y => fr ps x y) with
    | false =>
      simp only [e, Bool.false_and] at h
      simpa using h
    | true =>
      simp only [e, Bool.true_and] at h
      rw [if_pos rfl]
      exact ih' h
theorem p_free (ds : List D) (Q : D → Prop) (E : Nat → D → Prop) (h : freeWS ds Q E) : e_free freeS (st0 5 ds) { nx := fun _ => Q .non, rt := Q } := by
  obtain ⟨m, ps, w, v, rfl, hm, hg, hw, hv, hvl, hq⟩ := h
  simp only [e_free, vAllAny, st0, List.map, List.length, List.replicate, List.cons_append, List.nil_append, sSeq, sSet, sIf, sRet, sRetN, sNext, sFor, sDrop, sApp, sStore, sBxSet, sAsg, put, settle, frz, vVar, vC, v2, v1, vB, vM, vTup, vLst, vSl, vCall, vIsi, vIf, vAnd, vOr, vNot, vChain, vDisp1, vDNewK, vBxI, vBxD, vBxNew, vScLen, vScIx, vEnum, enD, sNil, sCons, aNil, aCons, tOf, tBl, tAnd, tOr, tNot, truthD, boolD, iRange1, iRange2, iVal, iRaw, rawI, itemsD, pNo, pSome, slD, on1, on2, lenD, intD, addD, subD, mulD, fdivD, modD, powD, negD, ltD, leD, gtD, geD, eqD, neD, isD, isNotD, inD, notInD, ixD, tupD, listD, minD, maxD, gSet, gNilD, gConsD, gTupD, tyD, countD, sindexD, vLc, List.getElem?_cons_zero, List.getElem?_cons_succ, List.set_cons_zero, List.set_cons_succ, bx_eq, scr_eq, D.int.injEq, D.str.injEq, D.bl.injEq, Prod.mk.injEq, exists_eq_left, exists_eq_left', exists_and_left, exists_eq, exists_eq', true_and, and_true, List.length_map, decide_eq_true_eq, reduceCtorEq, if_true, if_false, Bool.not_true, Bool.not_false, Bool.false_eq_true, Option.some.injEq, Sl.ow.injEq, Sl.fz.injEq, D.lst.injEq, D.tup.injEq, D.dct.injEq, List.cons.injEq, and_assoc, and_self, Int.toNat_natCast, atI_0, atI_1, atI_2, strs_eq, bx_eq, scr_eq, sAug, iaddD, joinD, vSortSet, vSortK, listKD, dgetD, vSortG, iRangeD, mulXD, vRev, revD, vSortSetX, sortSetR, sortSDx, sPopTo, vLc2, noOwB, noOwB_blk, vMaxD, vMaxG, mEm, vZip, zipD, sindexXD, vLrD, sExt, sBad, vEnumT, vSumG, sEm, vFldA, vMeth, vMake, vNewM, sMemo, sMemoD, KVar, Slf, KPair]
  refine free_out hm hg hv hvl w hw ?_
  cases e : freeW ps w v with
  | false => rw [e] at hq; simpa using hq
  | true => rw [e] at hq; simpa using hq
end
end TC

namespace TC
open PySem PySem.Spec PyProof.Rows L2
/-! ### without the first of a letter -/
theorem erase_cut (c : Nat) : ∀ {w : List Nat}, c ∈ w → w.take (w.idxOf c) ++ w.drop (w.idxOf c + 1) = w.erase c
  | x :: w, h => by
    by_cases e : x = c
    · subst e
      simp
    · have hm : c ∈ w := (List.mem_cons.mp h).resolve_left fun z => e z.symm
      have e2 : (x == c) = false := by simpa using e
      rw [List.idxOf_cons, e2, List.erase_cons, e2]
      simp only [cond_false, Bool.false_eq_true, if_false, List.take_succ_cons, List.drop_succ_cons, List.cons_append]
      rw [erase_cut c hm]
def withoutS : Spc := fun ds Q _ => ∃ (w : List Nat) (c : Nat), ds = [.str w, .str [c]] ∧ c ∈ w ∧ w.length < 1000 ∧ Q (.str (w.erase c))
/-! ### the letters that a trace can begin with -/
def fstL (ps : List (List Nat)) : List Nat → List Nat → List Nat
  | _, [] => []
  | pre, c :: w => if (pre.all fun y => fr ps c y) = true then c :: fstL ps (pre ++ [c]) w else fstL ps (pre ++ [c]) w
def firstsL (ps : List (List Nat)) (w : List Nat) : List Nat := (sortT ((fstL ps [] w).map fun c => [c])).flatten
theorem fstL_len {ps : List (List Nat)} : ∀ (w pre : List Nat), (fstL ps pre w).length ≤ w.length
  | [], _ => Nat.le_refl _
  | c :: w, pre => by
    unfold fstL
    have := fstL_len (ps := ps) w (pre ++ [c])
    split
    · rw [List.length_cons, List.length_cons]; omega
    · rw [List.length_cons]; omega
theorem joinL_nil : ∀ ys : List (List Nat), TL.joinL [] ys = ys.flatten
  | [] => rfl
  | [p] => by simp [TL.joinL]
  | p :: q :: r => by
    rw [TL.joinL, joinL_nil (q :: r)]
    rfl
theorem sum_flat (ys : List (List Nat)) : (ys.map (·.length)).sum = ys.flatten.length := by
  rw [List.length_flatten]
theorem firstsL_len (ps : List (List Nat)) (w : List Nat) : (firstsL ps w).length ≤ w.length := by
  unfold firstsL
  rw [((sortT_perm _).flatten).length_eq, List.length_flatten, List.map_map]
  have : ((fstL ps [] w).map (List.length ∘ fun c => [c])).sum = (fstL ps [] w).length := by
    induction fstL ps [] w with
    | nil => rfl
    | cons x l ih => rw [List.map_cons, List.sum_cons, ih, List.length_cons]; show 1 + _ = _; omega
  rw [this]
  exact fstL_len w []
end TC

namespace TC
open PySem PySem.Spec PyProof.Rows L2
/-! ### what the first letters are -/
theorem fr_self {m : Nat} {ps : List (List Nat)} (h : GoodP m ps) (c : Nat) : fr ps c c = false := by
  have : [c, c] ∉ ps := fun k => by
    obtain ⟨a, b, _, h2, _, e⟩ := h.at_ _ k
    injection e with e1 e2
    injection e2 with e2 _
    omega
  unfold fr
  rw [decide_eq_false this]; rfl
theorem fst_mem {ps : List (List Nat)} {c : Nat} : ∀ {w pre : List Nat}, c ∈ fstL ps pre w ↔ ∃ p q, w = p ++ c :: q ∧ ∀ d ∈ pre ++ p, fr ps c d = true
  | [], pre => ⟨fun h => (by cases h), fun ⟨p, q, e, _⟩ => (by simp at e)⟩
  | x :: w, pre => by
    have ih := fst_mem (ps := ps) (c := c) (w := w) (pre := pre ++ [x])
    have key : (∃ p q, w = p ++ c :: q ∧ ∀ d ∈ (pre ++ [x]) ++ p, fr ps c d = true) → ∃ p q, x :: w = p ++ c :: q ∧ ∀ d ∈ pre ++ p, fr ps c d = true := fun ⟨p, q, e, h⟩ => ⟨x :: p, q, by rw [e]; rfl, fun d hd => h d (by simpa using hd)⟩
    unfold fstL
    constructor
    · intro h
      split at h
      · rename_i hf
        rcases List.mem_cons.mp h with e | h
        · subst e
          exact ⟨[], w, rfl, fun d hd => by rw [List.append_nil] at hd; exact List.all_eq_true.mp hf d hd⟩
        · exact key (ih.mp h)
      · exact key (ih.mp h)
    · rintro ⟨p, q, e, h⟩
      cases p with
      | nil =>
        injection e with e1 e2
        subst e1
        rw [if_pos (List.all_eq_true.mpr fun d hd => h d (by simpa using hd))]
        exact List.mem_cons_self
      | cons y p =>
        injection e with e1 e2
        subst e1
        have : c ∈ fstL ps (pre ++ [x]) w := ih.mpr ⟨p, q, e2, fun d hd => h d (by simpa using hd)⟩
        split
        · exact List.mem_cons_of_mem _ this
        · exact this
theorem fst_nodup {m : Nat} {ps : List (List Nat)} (hg : GoodP m ps) : ∀ (w pre : List Nat), (fstL ps pre w).Nodup
  | [], _ => List.nodup_nil
  | x :: w, pre => by
    unfold fstL
    split
    · refine List.nodup_cons.mpr ⟨fun h => ?_, fst_nodup hg w _⟩
      obtain ⟨p, q, _, hf⟩ := fst_mem.mp h
      have := hf x (by simp)
      rw [fr_self hg] at this
      cases this
    · exact fst_nodup hg w _
theorem flat1 (l : List Nat) : (l.map fun c => [c]).flatten = l := by
  induction l with
  | nil => rfl
  | cons c l ih => rw [List.map_cons, List.flatten_cons, ih]; rfl
theorem firstsL_perm (ps : List (List Nat)) (w : List Nat) : (firstsL ps w).Perm (fstL ps [] w) := by
  have := (sortT_perm ((fstL ps [] w).map fun c => [c])).flatten
  rw [flat1] at this
  exact this
theorem firstsL_mem {ps : List (List Nat)} {w : List Nat} {c : Nat} : c ∈ firstsL ps w ↔ ∃ p q, w = p ++ c :: q ∧ ∀ d ∈ p, fr ps c d = true := by
  rw [(firstsL_perm ps w).mem_iff, fst_mem]
  rfl
theorem firstsL_pw {m : Nat} {ps : List (List Nat)} (hg : GoodP m ps) (w : List Nat) : (firstsL ps w).Pairwise (· < ·) := by
  have hn : (firstsL ps w).Nodup := (firstsL_perm ps w).nodup_iff.mpr (fst_nodup hg w [])
  have hs := sortT_sorted ((fstL ps [] w).map fun c => [c])
  have e : sortT ((fstL ps [] w).map fun c => [c]) = (firstsL ps w).map fun c => [c] := by
    have gen : ∀ M : List (List Nat), (∀ s ∈ M, ∃ c, s = [c]) → M = M.flatten.map fun c => [c] := by
      intro M
      induction M with
      | nil => intro _; rfl
      | cons s M ih =>
        intro h
        obtain ⟨c, rfl⟩ := h s List.mem_cons_self
        rw [List.flatten_cons, List.map_append, ← ih fun s hs => h s (List.mem_cons_of_mem _ hs)]
        rfl
    refine gen _ fun s hs => ?_
    obtain ⟨c, _, rfl⟩ := List.mem_map.mp ((sortT_perm _).mem_iff.mp hs)
    exact ⟨c, rfl⟩
  rw [e, List.pairwise_map] at hs
  refine (List.Pairwise.and hs hn).imp fun {a b} h => ?_
  have h1 : [a] ≤ [b] := h.1
  have h2 : a ≠ b := h.2
  have : ¬ [b] < [a] := List.not_lt.mpr h1
  rw [List.cons_lt_cons_iff] at this
  simp only [List.not_lt_nil, and_false, or_false] at this
  omega
theorem firstsL_ne {ps : List (List Nat)} {w : List Nat} (h : w ≠ []) : firstsL ps w ≠ [] := by
  cases w with
  | nil => exact absurd rfl h
  | cons x w =>
    have : x ∈ firstsL ps (x :: w) := firstsL_mem.mpr ⟨[], w, rfl, fun d hd => by cases hd⟩
    intro e
    rw [e] at this
    cases this
theorem firstsL_sub {ps : List (List Nat)} {w : List Nat} {c : Nat} (h : c ∈ firstsL ps w) : c ∈ w := by
  obtain ⟨p, q, rfl, _⟩ := firstsL_mem.mp h
  simp
/-- a first letter, by the trace -/
theorem front_free {m : Nat} {ps : List (List Nat)} {a : Nat} {w p q : List Nat} (h : Same m ps (a :: w) (p ++ a :: q)) (ha : a ∈ Lt m) (hv : Wd_ m (p ++ a :: q)) (hp : a ∉ p) : ∀ c ∈ p, fr ps a c = true := fun c hc => by
  have hca : c ≠ a := fun e => hp (e ▸ hc)
  rw [fr_comm, ← Bool.not_eq_false]
  intro hf
  have := h.ord c (hv c (by simp [hc])) a ha hca hf
  unfold flt at this
  rw [List.filter_append, List.filter_cons_of_pos (by simp)] at this
  cases hh : p.filter fun d => decide (d ∈ [c, a]) with
  | nil =>
    have : c ∈ p.filter fun d => decide (d ∈ [c, a]) := List.mem_filter.mpr ⟨hc, by simp⟩
    rw [hh] at this
    cases this
  | cons e t =>
    rw [hh] at this
    injection this with e1 e2
    have : e ∈ p.filter fun d => decide (d ∈ [c, a]) := by rw [hh]; exact List.mem_cons_self
    exact hp (e1 ▸ (List.mem_filter.mp this).1)
theorem Reach.len {ps : List (List Nat)} {a b : List Nat} (h : Reach ps a b) : b.length = a.length := by
  induction h with
  | refl => rfl
  | step _ s ih =>
    obtain ⟨u, x, y, v, rfl, rfl, _⟩ := s
    rw [← ih]; simp
theorem Reach.wd {m : Nat} {ps : List (List Nat)} {a b : List Nat} (h : Reach ps a b) (k : Wd_ m a) : Wd_ m b := by
  induction h with
  | refl => exact k
  | step _ s ih =>
    obtain ⟨u, x, y, v, rfl, rfl, _⟩ := s
    exact two_W ih
theorem erase_mid {c : Nat} {p q : List Nat} (h : c ∉ p) : (p ++ c :: q).erase c = p ++ q := by
  rw [List.erase_append_right _ h, List.erase_cons_head]
/-- all words that exchanges lead to, in order -/
def WO (ps : List (List Nat)) : Nat → List Nat → List (List Nat)
  | 0, _ => [[]]
  | n + 1, w => if w = [] then [[]] else (firstsL ps w).flatMap fun c => (WO ps n (w.erase c)).map (c :: ·)
theorem first_reach {m : Nat} {ps : List (List Nat)} (hg : GoodP m ps) {w : List Nat} {c : Nat} (h : c ∈ firstsL ps w) : Reach ps w (c :: w.erase c) := by
  obtain ⟨p, q, rfl, hf⟩ := firstsL_mem.mp h
  have hcp : c ∉ p := fun hc => by have := hf c hc; rw [fr_self hg] at this; cases this
  rw [erase_mid hcp]
  exact reach_move p fun d hd => by rw [fr_comm]; exact hf d hd
theorem first_of_reach {m : Nat} {ps : List (List Nat)} {w v : List Nat} {c : Nat} (hw : Wd_ m w) (h : Reach ps w (c :: v)) : c ∈ firstsL ps w ∧ Reach ps (w.erase c) v := by
  have hv := h.wd hw
  have hc : c ∈ Lt m := hv c List.mem_cons_self
  have sm := (h.same (m := m)).symm
  have hcw : c ∈ w := by
    have := sm.cnt c hc
    rw [List.count_cons_self] at this
    exact List.count_pos_iff.mp (by omega)
  obtain ⟨p, q, rfl, hp⟩ := List.eq_append_cons_of_mem hcw
  have hf := front_free sm hc hw hp
  refine ⟨firstsL_mem.mpr ⟨p, q, rfl, hf⟩, ?_⟩
  rw [erase_mid hp]
  have mv := reach_move (ps := ps) (q := q) p fun d hd => by rw [fr_comm]; exact hf d hd
  have h2 := (sm.trans (mv.same (m := m))).uncons
  exact reach_of_same (p ++ q) v (fun c hc => hw c (by rcases List.mem_append.mp hc with h | h <;> simp [h])) (fun c hc => hv c (List.mem_cons_of_mem _ hc)) h2.symm
theorem Wd_.erase {m : Nat} {w : List Nat} (h : Wd_ m w) (c : Nat) : Wd_ m (w.erase c) := fun d hd => h d (List.mem_of_mem_erase hd)
theorem WO_mem {m : Nat} {ps : List (List Nat)} (hg : GoodP m ps) : ∀ (n : Nat) (w v : List Nat), w.length ≤ n → Wd_ m w → (v ∈ WO ps n w ↔ Reach ps w v) := by
  have nil : ∀ v, v ∈ ([[]] : List (List Nat)) ↔ Reach ps [] v := fun v => by
    rw [List.mem_singleton]
    constructor
    · rintro rfl; exact .refl
    · intro h
      have := h.len
      exact List.length_eq_zero_iff.mp this
  intro n
  induction n with
  | zero =>
    intro w v hl _
    obtain rfl : w = [] := List.length_eq_zero_iff.mp (by omega)
    exact nil v
  | succ n ih =>
    intro w v hl hw
    unfold WO
    by_cases e : w = []
    · rw [if_pos e, e]; exact nil v
    · rw [if_neg e, List.mem_flatMap]
      constructor
      · rintro ⟨c, hc, hv⟩
        obtain ⟨v', hv', rfl⟩ := List.mem_map.mp hv
        have hcw := firstsL_sub hc
        exact (first_reach hg hc).trans (((ih _ _ (by rw [List.length_erase_of_mem hcw]; omega) (hw.erase c)).mp hv').cons c)
      · intro h
        cases v with
        | nil =>
          have := h.len
          exact absurd (List.length_eq_zero_iff.mp this.symm) e
        | cons c v =>
          obtain ⟨h1, h2⟩ := first_of_reach hw h
          exact ⟨c, h1, List.mem_map.mpr ⟨v, (ih _ _ (by rw [List.length_erase_of_mem (firstsL_sub h1)]; omega) (hw.erase c)).mpr h2, rfl⟩⟩
theorem WO_pw {m : Nat} {ps : List (List Nat)} (hg : GoodP m ps) : ∀ (n : Nat) (w : List Nat), (WO ps n w).Pairwise (· < ·)
  | 0, _ => List.pairwise_singleton _ _
  | n + 1, w => by
    unfold WO
    split
    · exact List.pairwise_singleton _ _
    · rw [List.pairwise_flatMap]
      refine ⟨fun c _ => ?_, (firstsL_pw hg w).imp fun {a b} hab x hx y hy => ?_⟩
      · rw [List.pairwise_map]
        exact (WO_pw hg n _).imp fun {a b} h => by rw [List.cons_lt_cons_iff]; exact .inr ⟨rfl, h⟩
      · obtain ⟨x', _, rfl⟩ := List.mem_map.mp hx
        obtain ⟨y', _, rfl⟩ := List.mem_map.mp hy
        rw [List.cons_lt_cons_iff]; exact .inl hab
end TC

namespace TC
open PySem PySem.Spec PyProof.Rows L2
/-! ### the least, the greatest word -/
def lsL (ps : List (List Nat)) : Nat → List Nat → List Nat
  | 0, _ => []
  | n + 1, w => match (firstsL ps w).head? with
    | none => []
    | some c => c :: lsL ps n (w.erase c)
def leastS : Spc := fun ds Q _ => ∃ (m : Nat) (ps : List (List Nat)) (w : List Nat), ds = [alD m ps, .str w] ∧ m ≤ 6 ∧ GoodP m ps ∧ Wd_ m w ∧ w.length < 1000 ∧ Q (.str (lsL ps w.length w))
end TC

namespace TC
open PySem PySem.Spec PyProof.Rows L2
/-! ### prefixes, meets, Levi's pieces -/
theorem first_iff {m : Nat} {ps : List (List Nat)} (hg : GoodP m ps) {w : List Nat} (hw : Wd_ m w) {c : Nat} : c ∈ firstsL ps w ↔ ∃ v, Reach ps w (c :: v) :=
  ⟨fun h => ⟨_, first_reach hg h⟩, fun ⟨_, h⟩ => (first_of_reach hw h).1⟩
theorem Reach.app {ps : List (List Nat)} {a b : List Nat} (c : List Nat) (h : Reach ps a b) : Reach ps (c ++ a) (c ++ b) := by
  induction c with
  | nil => exact h
  | cons x c ih => exact ih.cons x
theorem Step.app {ps : List (List Nat)} {a b : List Nat} (c : List Nat) (h : Step ps a b) : Step ps (a ++ c) (b ++ c) := by
  obtain ⟨u, x, y, v, rfl, rfl, hf⟩ := h
  exact ⟨u, x, y, v ++ c, by simp, by simp, hf⟩
theorem Reach.appr {ps : List (List Nat)} {a b : List Nat} (c : List Nat) (h : Reach ps a b) : Reach ps (a ++ c) (b ++ c) := by
  induction h with
  | refl => exact .refl
  | step _ s ih => exact ih.step (s.app c)
theorem reach_first {m : Nat} {ps : List (List Nat)} {w v : List Nat} (hg : GoodP m ps) (hw : Wd_ m w) (h : Reach ps w v) {c : Nat} : c ∈ firstsL ps w ↔ c ∈ firstsL ps v := by
  rw [first_iff hg hw, first_iff hg (h.wd hw)]
  exact ⟨fun ⟨u, k⟩ => ⟨u, h.symm.trans k⟩, fun ⟨u, k⟩ => ⟨u, h.trans k⟩⟩
theorem pw_unique {l r : List Nat} (h : l.Pairwise (· < ·)) (k : r.Pairwise (· < ·)) (e : ∀ c, c ∈ l ↔ c ∈ r) : l = r := by
  have n1 : l.Nodup := h.imp fun h => Nat.ne_of_lt h
  have n2 : r.Nodup := k.imp fun h => Nat.ne_of_lt h
  exact List.Perm.eq_of_pairwise (fun x y _ _ h1 h2 => Nat.le_antisymm h1 h2) (h.imp fun h => Nat.le_of_lt h) (k.imp fun h => Nat.le_of_lt h) ((List.perm_ext_iff_of_nodup n1 n2).mpr e)
theorem firstsL_reach {m : Nat} {ps : List (List Nat)} {w v : List Nat} (hg : GoodP m ps) (hw : Wd_ m w) (h : Reach ps w v) : firstsL ps w = firstsL ps v :=
  pw_unique (firstsL_pw hg w) (firstsL_pw hg v) fun _ => reach_first hg hw h
theorem Wd_.of_app {m : Nat} {a b : List Nat} (h : Wd_ m (a ++ b)) : Wd_ m a ∧ Wd_ m b := ⟨fun c hc => h c (by simp [hc]), fun c hc => h c (by simp [hc])⟩
theorem Reach.uncons {m : Nat} {ps : List (List Nat)} {c : Nat} {a b : List Nat} (ha : Wd_ m (c :: a)) (h : Reach ps (c :: a) (c :: b)) : Reach ps a b :=
  reach_of_same (m := m) a b (fun d hd => ha d (List.mem_cons_of_mem _ hd)) (fun d hd => h.wd ha d (List.mem_cons_of_mem _ hd)) (h.same (m := m)).uncons
/-- what a word leaves behind its prefix -/
def lbL (ps : List (List Nat)) : List Nat → List Nat → Option (List Nat)
  | [], o => some o
  | c :: s, o => if c ∈ firstsL ps o then lbL ps s (o.erase c) else none
theorem lb_of {m : Nat} {ps : List (List Nat)} (hg : GoodP m ps) : ∀ (s o q : List Nat), Wd_ m o → Reach ps o (s ++ q) → ∃ o', lbL ps s o = some o' ∧ Reach ps o' q
  | [], o, q, _, h => ⟨o, rfl, h⟩
  | c :: s, o, q, ho, h => by
    obtain ⟨h1, h2⟩ := first_of_reach ho h
    unfold lbL
    rw [if_pos h1]
    exact lb_of hg s (o.erase c) q (ho.erase c) h2
theorem lb_some {m : Nat} {ps : List (List Nat)} (hg : GoodP m ps) : ∀ (s o o' : List Nat), lbL ps s o = some o' → Reach ps o (s ++ o')
  | [], o, o', h => by cases h; exact .refl
  | c :: s, o, o', h => by
    unfold lbL at h
    split at h
    · rename_i hc
      exact (first_reach hg hc).trans ((lb_some hg s _ _ h).cons c)
    · cases h
/-- the greatest common prefix -/
def meetL (ps : List (List Nat)) : Nat → List Nat → List Nat → List Nat
  | 0, _, _ => []
  | n + 1, w, v => match ((firstsL ps w).filter fun c => decide (c ∈ firstsL ps v)).head? with
    | none => []
    | some c => c :: meetL ps n (w.erase c) (v.erase c)
theorem meet_spec {m : Nat} {ps : List (List Nat)} (hg : GoodP m ps) : ∀ (n : Nat) (w v : List Nat), w.length ≤ n → ∃ r s, Reach ps w (meetL ps n w v ++ r) ∧ Reach ps v (meetL ps n w v ++ s) ∧ ∀ c, ¬ (c ∈ firstsL ps r ∧ c ∈ firstsL ps s)
  | 0, w, v, h => by
    obtain rfl : w = [] := List.length_eq_zero_iff.mp (by omega)
    exact ⟨[], v, .refl, .refl, fun c hc => by have := firstsL_sub hc.1; cases this⟩
  | n + 1, w, v, h => by
    unfold meetL
    cases hf : ((firstsL ps w).filter fun c => decide (c ∈ firstsL ps v)).head? with
    | none =>
      refine ⟨w, v, .refl, .refl, fun c hc => ?_⟩
      have e := List.head?_eq_none_iff.mp hf
      have : c ∈ (firstsL ps w).filter fun c => decide (c ∈ firstsL ps v) := List.mem_filter.mpr ⟨hc.1, decide_eq_true hc.2⟩
      rw [e] at this
      cases this
    | some c =>
      have hc := List.mem_filter.mp (List.mem_of_head? hf)
      have h1 := hc.1
      have h2 : c ∈ firstsL ps v := of_decide_eq_true hc.2
      obtain ⟨r, s, a, b, d⟩ := meet_spec hg n (w.erase c) (v.erase c) (by rw [List.length_erase_of_mem (firstsL_sub h1)]; omega)
      exact ⟨r, s, (first_reach hg h1).trans (a.cons c), (first_reach hg h2).trans (b.cons c), d⟩
theorem first_app_l {ps : List (List Nat)} {c : Nat} {x y : List Nat} (h : c ∈ firstsL ps x) : c ∈ firstsL ps (x ++ y) := by
  obtain ⟨p, q, rfl, hf⟩ := firstsL_mem.mp h
  exact firstsL_mem.mpr ⟨p, q ++ y, by simp, hf⟩
theorem first_app_r {m : Nat} {ps : List (List Nat)} (hg : GoodP m ps) {c : Nat} {x y : List Nat} (h : c ∈ firstsL ps (x ++ y)) (hx : c ∉ firstsL ps x) : c ∈ firstsL ps y ∧ ∀ d ∈ x, fr ps c d = true := by
  obtain ⟨p, q, e, hf⟩ := firstsL_mem.mp h
  rcases List.append_eq_append_iff.mp e with ⟨a, rfl, e2⟩ | ⟨a, rfl, e2⟩
  · exact ⟨firstsL_mem.mpr ⟨a, q, e2, fun d hd => hf d (by simp [hd])⟩, fun d hd => hf d (by simp [hd])⟩
  · cases a with
    | nil =>
      rw [List.append_nil] at hx ⊢
      exact ⟨firstsL_mem.mpr ⟨[], q, by simpa using e2.symm, fun d hd => by cases hd⟩, hf⟩
    | cons b a =>
      injection e2 with e2 e3
      subst e2
      exact absurd (firstsL_mem.mpr ⟨p, a, rfl, hf⟩) hx
theorem swap_word {ps : List (List Nat)} {c : Nat} {x y : List Nat} (h : ∀ d ∈ x, fr ps c d = true) : Reach ps (x ++ c :: y) (c :: (x ++ y)) := reach_move x fun d hd => by rw [fr_comm]; exact h d hd
/-- no first letter in common: the one stands behind the other -/
theorem levi_base {m : Nat} {ps : List (List Nat)} (hg : GoodP m ps) : ∀ (z x y t : List Nat), Wd_ m (x ++ y) → Reach ps (x ++ y) (z ++ t) → (∀ c, ¬ (c ∈ firstsL ps x ∧ c ∈ firstsL ps z)) → (∀ c ∈ z, ∀ d ∈ x, fr ps c d = true) ∧ ∃ q, Reach ps y (z ++ q) ∧ Reach ps t (x ++ q)
  | [], x, y, t, _, h, _ => ⟨fun c hc => (by cases hc), y, .refl, h.symm⟩
  | c :: z, x, y, t, hw, h, hn => by
    have hcz : c ∈ firstsL ps (c :: z) := firstsL_mem.mpr ⟨[], z, rfl, fun d hd => by cases hd⟩
    have hcx : c ∉ firstsL ps x := fun k => hn c ⟨k, hcz⟩
    have h1 : c ∈ firstsL ps (x ++ y) := (first_of_reach hw h).1
    obtain ⟨hy, hf⟩ := first_app_r hg h1 hcx
    have hyr := first_reach hg hy
    have k : Reach ps (c :: (x ++ y.erase c)) (c :: (z ++ t)) := ((hyr.app x).trans (swap_word hf)).symm.trans h
    have hw2 : Wd_ m (c :: (x ++ y.erase c)) := ((hyr.app x).trans (swap_word hf)).wd hw
    have k2 := k.uncons hw2
    obtain ⟨g1, q, g2, g3⟩ := levi_base hg z x (y.erase c) t (fun d hd => hw2 d (List.mem_cons_of_mem _ hd)) k2 fun d hd => by
      refine hn d ⟨hd.1, ?_⟩
      obtain ⟨p, q, e, hf2⟩ := firstsL_mem.mp hd.2
      have hdx : d ∈ x := firstsL_sub hd.1
      refine firstsL_mem.mpr ⟨c :: p, q, by rw [e]; rfl, fun b hb => ?_⟩
      rcases List.mem_cons.mp hb with rfl | hb
      · rw [fr_comm]; exact hf d hdx
      · exact hf2 b hb
    refine ⟨fun b hb d hd => ?_, q, hyr.trans (g2.cons c), g3⟩
    rcases List.mem_cons.mp hb with rfl | hb
    · exact hf d hd
    · exact g1 b hb d hd
end TC

namespace TC
open PySem PySem.Spec PyProof.Rows L2
/-! ### least words; the meet is unique -/
theorem lsL_reach {m : Nat} {ps : List (List Nat)} (hg : GoodP m ps) : ∀ (n : Nat) (w : List Nat), w.length = n → Reach ps w (lsL ps n w)
  | 0, w, h => by
    obtain rfl : w = [] := List.length_eq_zero_iff.mp h
    exact .refl
  | n + 1, w, h => by
    have hne : w ≠ [] := fun e => by rw [e] at h; cases h
    rw [lsL]
    cases hL : firstsL ps w with
    | nil => exact absurd hL (firstsL_ne hne)
    | cons c L =>
      have hc : c ∈ firstsL ps w := by rw [hL]; exact List.mem_cons_self
      exact (first_reach hg hc).trans ((lsL_reach hg n (w.erase c) (by rw [List.length_erase_of_mem (firstsL_sub hc)]; omega)).cons c)
theorem lsL_eq {m : Nat} {ps : List (List Nat)} (hg : GoodP m ps) : ∀ (n : Nat) (w v : List Nat), Wd_ m w → w.length = n → Reach ps w v → lsL ps n w = lsL ps n v
  | 0, _, _, _, _, _ => rfl
  | n + 1, w, v, hw, h, r => by
    rw [lsL, lsL, ← firstsL_reach hg hw r]
    cases hL : firstsL ps w with
    | nil => rfl
    | cons c L =>
      have hc : c ∈ firstsL ps w := by rw [hL]; exact List.mem_cons_self
      have hv : c ∈ firstsL ps v := by rw [← firstsL_reach hg hw r]; exact hc
      have k : Reach ps (c :: w.erase c) (c :: v.erase c) := (first_reach hg hc).symm.trans (r.trans (first_reach hg hv))
      have hw2 : Wd_ m (c :: w.erase c) := (first_reach hg hc).wd hw
      show c :: _ = c :: _
      rw [lsL_eq hg n (w.erase c) (v.erase c) (hw.erase c) (by rw [List.length_erase_of_mem (firstsL_sub hc)]; omega) (k.uncons hw2)]
/-- a word's least word -/
def lst (ps : List (List Nat)) (w : List Nat) : List Nat := lsL ps w.length w
theorem lst_reach {m : Nat} {ps : List (List Nat)} (hg : GoodP m ps) (w : List Nat) : Reach ps w (lst ps w) := lsL_reach hg _ w rfl
theorem lst_eq {m : Nat} {ps : List (List Nat)} (hg : GoodP m ps) {w v : List Nat} (hw : Wd_ m w) (r : Reach ps w v) : lst ps w = lst ps v := by
  unfold lst
  rw [r.len]
  exact lsL_eq hg _ w v hw rfl r
theorem uncons_app {m : Nat} {ps : List (List Nat)} : ∀ (p : List Nat) {a b : List Nat}, Wd_ m (p ++ a) → Reach ps (p ++ a) (p ++ b) → Reach ps a b
  | [], _, _, _, h => h
  | c :: p, a, b, hw, h => uncons_app p (fun d hd => hw d (List.mem_cons_of_mem _ hd)) (h.uncons hw)
theorem meet_unique {m : Nat} {ps : List (List Nat)} (hg : GoodP m ps) : ∀ (p P r s R S : List Nat), Wd_ m (p ++ r) → Wd_ m (p ++ s) → Reach ps (p ++ r) (P ++ R) → Reach ps (p ++ s) (P ++ S) → (∀ c, ¬ (c ∈ firstsL ps r ∧ c ∈ firstsL ps s)) → (∀ c, ¬ (c ∈ firstsL ps R ∧ c ∈ firstsL ps S)) → Reach ps p P
  | [], P, r, s, R, S, h1, h2, a, b, n1, n2 => by
    cases P with
    | nil => exact .refl
    | cons c P =>
      exact absurd ⟨(first_of_reach h1 a).1, (first_of_reach h2 b).1⟩ (n1 c)
  | c :: p, P, r, s, R, S, h1, h2, a, b, n1, n2 => by
    have f1 : c ∈ firstsL ps (P ++ R) := (first_of_reach (a.wd h1) a.symm).1
    have f2 : c ∈ firstsL ps (P ++ S) := (first_of_reach (b.wd h2) b.symm).1
    have fP : c ∈ firstsL ps P := Classical.byContradiction fun k => n2 c ⟨(first_app_r hg f1 k).1, (first_app_r hg f2 k).1⟩
    have e := first_reach hg fP
    have a2 := (a.trans (e.appr R)).uncons h1
    have b2 := (b.trans (e.appr S)).uncons h2
    exact ((meet_unique hg p (P.erase c) r s R S (fun d hd => h1 d (List.mem_cons_of_mem _ hd)) (fun d hd => h2 d (List.mem_cons_of_mem _ hd)) a2 b2 n1 n2).cons c).trans e.symm
/-- letters that all may change places have no first letter in common -/
theorem apart_firsts {m : Nat} {ps : List (List Nat)} (hg : GoodP m ps) {r s : List Nat} (h : ∀ c ∈ s, ∀ d ∈ r, fr ps c d = true) (c : Nat) : ¬ (c ∈ firstsL ps r ∧ c ∈ firstsL ps s) := fun ⟨h1, h2⟩ => by
  have := h c (firstsL_sub h2) c (firstsL_sub h1)
  rw [fr_self hg] at this
  cases this
/-- Levi: what is found of two words that are alike -/
theorem levi_found {m : Nat} {ps : List (List Nat)} (hg : GoodP m ps) {x y z t : List Nat} (hw : Wd_ m (x ++ y)) (h : Reach ps (x ++ y) (z ++ t)) :
    ∃ R S T, lbL ps (lst ps (meetL ps x.length x z)) x = some R ∧ lbL ps (lst ps (meetL ps x.length x z)) z = some S ∧ lbL ps (lst ps S) y = some T ∧ Reach ps x (lst ps (meetL ps x.length x z) ++ R) ∧ Reach ps z (lst ps (meetL ps x.length x z) ++ S) ∧ Reach ps y (S ++ T) ∧ Reach ps t (R ++ T) ∧ ∀ c ∈ S, ∀ d ∈ R, fr ps c d = true := by
  obtain ⟨r, s, a, b, n⟩ := meet_spec hg x.length x z (Nat.le_refl _)
  generalize meetL ps x.length x z = M at a b ⊢
  have lm := lst_reach hg M
  have hx := hw.of_app.1
  have hy := hw.of_app.2
  have hz := (h.wd hw).of_app.1
  have a1 := a.trans (lm.appr r)
  have b1 := b.trans (lm.appr s)
  obtain ⟨R, e1, r1⟩ := lb_of hg (lst ps M) x r hx a1
  obtain ⟨S, e2, r2⟩ := lb_of hg (lst ps M) z s hz b1
  have hxr := lb_some hg _ _ _ e1
  have hzs := lb_some hg _ _ _ e2
  have hR := (hxr.wd hx).of_app.2
  have hS := (hzs.wd hz).of_app.2
  have k : Reach ps (lst ps M ++ (R ++ y)) (lst ps M ++ (S ++ t)) := by
    have k1 := (hxr.appr y).symm.trans (h.trans (hzs.appr t))
    rw [List.append_assoc, List.append_assoc] at k1
    exact k1
  have hw2 : Wd_ m (lst ps M ++ (R ++ y)) := by
    have := (hxr.appr y).wd hw
    rw [List.append_assoc] at this
    exact this
  have k2 := uncons_app _ hw2 k
  obtain ⟨g1, q, g2, g3⟩ := levi_base hg S R y t hw2.of_app.2 k2 fun c hc => n c ⟨(reach_first hg hR r1).mp hc.1, (reach_first hg hS r2).mp hc.2⟩
  obtain ⟨T, e3, r3⟩ := lb_of hg (lst ps S) y q hy (g2.trans ((lst_reach hg S).appr q))
  exact ⟨R, S, T, e1, e2, e3, hxr, hzs, g2.trans (r3.symm.app S), g3.trans (r3.symm.app R), g1⟩
end TC

namespace TC
open PySem PySem.Spec PyProof.Rows L2
theorem lst_idem {m : Nat} {ps : List (List Nat)} (hg : GoodP m ps) {w : List Nat} (hw : Wd_ m w) : lst ps w = lst ps (lst ps w) := lst_eq hg hw (lst_reach hg w)
theorem mem_reach {ps : List (List Nat)} {a b : List Nat} (h : Reach ps a b) {c : Nat} : c ∈ a ↔ c ∈ b := by
  induction h with
  | refl => exact Iff.rfl
  | step _ s ih =>
    obtain ⟨u, x, y, v, rfl, rfl, _⟩ := s
    rw [ih]
    simp only [List.mem_append, List.mem_cons]
    constructor <;> rintro (h | h | h | h) <;> simp [h]
end TC

namespace TC
open PySem PySem.Spec PyProof.Rows L2
/-! ### the law's own least word -/
theorem p_lwithout (ds : List D) (Q : D → Prop) (E : Nat → D → Prop) (h : withoutS ds Q E) : e__law_without (st0 3 ds) { nx := fun _ => Q .non, rt := Q } := by
  obtain ⟨w, c, rfl, hc, hl, hq⟩ := h
  have e1 : cutL w none (some ((w.idxOf c : Nat) : Int)) = w.take (w.idxOf c) := cutL_to _ _
  have e2 : cutL w (some (((w.idxOf c : Nat) : Int) + 1)) none = w.drop (w.idxOf c + 1) := by
    rw [show (((w.idxOf c : Nat) : Int) + 1) = ((w.idxOf c + 1 : Nat) : Int) by omega, cutL_from]
  simp only [e__law_without, e1, e2, erase_cut c hc, st0, List.map, List.length, List.replicate, List.cons_append, List.nil_append, sSeq, sSet, sIf, sRet, sRetN, sNext, sFor, sDrop, sApp, sStore, sBxSet, sAsg, put, settle, frz, vVar, vC, v2, v1, vB, vM, vTup, vLst, vSl, vCall, vIsi, vIf, vAnd, vOr, vNot, vChain, vDisp1, vDNewK, vBxI, vBxD, vBxNew, vScLen, vScIx, vEnum, enD, sNil, sCons, aNil, aCons, tOf, tBl, tAnd, tOr, tNot, truthD, boolD, iRange1, iRange2, iVal, iRaw, rawI, itemsD, pNo, pSome, slD, on1, on2, lenD, intD, addD, subD, mulD, fdivD, modD, powD, negD, ltD, leD, gtD, geD, eqD, neD, isD, isNotD, inD, notInD, ixD, tupD, listD, minD, maxD, gSet, gNilD, gConsD, gTupD, tyD, countD, sindexD, vLc, List.getElem?_cons_zero, List.getElem?_cons_succ, List.set_cons_zero, List.set_cons_succ, bx_eq, scr_eq, D.int.injEq, D.str.injEq, D.bl.injEq, Prod.mk.injEq, exists_eq_left, exists_eq_left', exists_and_left, exists_eq, exists_eq', true_and, and_true, List.length_map, decide_eq_true_eq, reduceCtorEq, if_true, if_false, Bool.not_true, Bool.not_false, Bool.false_eq_true, Option.some.injEq, Sl.ow.injEq, Sl.fz.injEq, D.lst.injEq, D.tup.injEq, D.dct.injEq, List.cons.injEq, and_assoc, and_self, Int.toNat_natCast, atI_0, atI_1, atI_2, strs_eq, bx_eq, scr_eq, sAug, iaddD, joinD, vSortSet, vSortK, listKD, dgetD, vSortG, iRangeD, mulXD, vRev, revD, vSortSetX, sortSetR, sortSDx, sPopTo, vLc2, noOwB, noOwB_blk, vMaxD, vMaxG, mEm, vZip, zipD, sindexXD, vLrD, sExt, sBad, vEnumT, vSumG, sEm, vFldA, vMeth, vMake, vNewM, sMemo, sMemoD, KVar, Slf, KPair]
  refine ⟨hc, ?_, hq⟩
  rw [List.length_take, List.length_drop, sizeLine_eq]
  omega
theorem dset_list (w : List Nat) : ∃ L : List Nat, sortT ((ddp w).map fun c => [c]) = L.map (fun c => [c]) ∧ L.Pairwise (· < ·) ∧ ∀ c, c ∈ L ↔ c ∈ w := by
  have gen : ∀ M : List (List Nat), (∀ s ∈ M, ∃ c, s = [c]) → M = M.flatten.map fun c => [c] := by
    intro M
    induction M with
    | nil => intro _; rfl
    | cons s M ih =>
      intro h
      obtain ⟨c, rfl⟩ := h s List.mem_cons_self
      rw [List.flatten_cons, List.map_append, ← ih fun s hs => h s (List.mem_cons_of_mem _ hs)]
      rfl
  have e := gen (sortT ((ddp w).map fun c => [c])) fun s hs => by
    obtain ⟨c, _, rfl⟩ := List.mem_map.mp ((sortT_perm _).mem_iff.mp hs)
    exact ⟨c, rfl⟩
  have pm : (sortT ((ddp w).map fun c => [c])).flatten.Perm (ddp w) := by
    have := (sortT_perm ((ddp w).map fun c => [c])).flatten
    rw [flat1] at this
    exact this
  refine ⟨_, e, ?_, fun c => by rw [pm.mem_iff, ddp_mem]⟩
  have hs := sortT_sorted ((ddp w).map fun c => [c])
  rw [e, List.pairwise_map] at hs
  refine (List.Pairwise.and hs (pm.nodup_iff.mpr (ddp_nodup w))).imp fun {a b} h => ?_
  have h1 : ¬ [b] < [a] := List.not_lt.mpr h.1
  have h2 : a ≠ b := h.2
  rw [List.cons_lt_cons_iff] at h1
  simp only [List.not_lt_nil, and_false, or_false] at h1
  omega
def leadS : Spc := fun ds Q _ => ∃ (m : Nat) (ps : List (List Nat)) (w : List Nat), ds = [alD m ps, .str w] ∧ m ≤ 6 ∧ GoodP m ps ∧ (∀ c ∈ w, c < 1000) ∧ w.length < 1000 ∧ Q (.lst ((firstsL ps w).map fun c => .str [c]))
theorem lead_iff {m : Nat} {ps : List (List Nat)} (hg : GoodP m ps) {w : List Nat} {c : Nat} : c ∈ firstsL ps w ↔ c ∈ w ∧ ∀ d ∈ w.take (w.idxOf c), fr ps c d = true := by
  constructor
  · intro h
    obtain ⟨p, q, rfl, hf⟩ := firstsL_mem.mp h
    have hcp : c ∉ p := fun hc => by have := hf c hc; rw [fr_self hg] at this; cases this
    refine ⟨by simp, fun d hd => hf d ?_⟩
    rw [List.idxOf_append, if_neg hcp, List.idxOf_cons_self] at hd
    simpa using hd
  · rintro ⟨hc, hf⟩
    obtain ⟨p, q, rfl, hp⟩ := List.eq_append_cons_of_mem hc
    rw [List.idxOf_append, if_neg hp, List.idxOf_cons_self] at hf
    exact firstsL_mem.mpr ⟨p, q, rfl, fun d hd => hf d (by simpa using hd)⟩
theorem lead_lc {m : Nat} {ps : List (List Nat)} {a b : D} {c : Nat} {s2 : Sl} {Q : List D → Prop} (hm : m ≤ 6) (hg : GoodP m ps) (hc : c < 1000) : ∀ (L acc : List Nat), (∀ d ∈ L, d < 1000) → acc.length + L.length < 2000 → Q ((acc ++ L.filter fun d => !fr ps c d).map fun c => .str [c]) →
    lcD (gSet 5) (tNot (tOf (vCall freeS (sCons (vVar 0) (sCons (vVar 3) (sCons (vVar 5) (sNil))))))) (vVar 5) [.fz (alD m ps), .fz a, s2, .fz (.str [c]), .fz b, .no] (signs L) (acc.map fun c => .str [c]) Q := by
  intro L
  induction L with
  | nil =>
    intro acc _ _ hq
    rw [signs_nil, lcD_nil]
    simpa using hq
  | cons d L ih =>
    intro acc hL hl hq
    rw [signs_cons, lcD_cons]
    rw [List.length_cons] at hl
    have hL' := fun z hz => hL z (List.mem_cons_of_mem _ hz)
    have hsz : (2000 : Nat) < sizeLine := by rw [sizeLine_eq]; decide
    generalize lcD (gSet 5) (tNot (tOf (vCall freeS (sCons (vVar 0) (sCons (vVar 3) (sCons (vVar 5) (sNil))))))) (vVar 5) [.fz (alD m ps), .fz a, s2, .fz (.str [c]), .fz b, .no] (signs L) = Lp at ih ⊢
    simp only [freeS, st0, List.map, List.length, List.replicate, List.cons_append, List.nil_append, sSeq, sSet, sIf, sRet, sRetN, sNext, sFor, sDrop, sApp, sStore, sBxSet, sAsg, put, settle, frz, vVar, vC, v2, v1, vB, vM, vTup, vLst, vSl, vCall, vIsi, vIf, vAnd, vOr, vNot, vChain, vDisp1, vDNewK, vBxI, vBxD, vBxNew, vScLen, vScIx, vEnum, enD, sNil, sCons, aNil, aCons, tOf, tBl, tAnd, tOr, tNot, truthD, boolD, iRange1, iRange2, iVal, iRaw, rawI, itemsD, pNo, pSome, slD, on1, on2, lenD, intD, addD, subD, mulD, fdivD, modD, powD, negD, ltD, leD, gtD, geD, eqD, neD, isD, isNotD, inD, notInD, ixD, tupD, listD, minD, maxD, gSet, gNilD, gConsD, gTupD, tyD, countD, sindexD, vLc, List.getElem?_cons_zero, List.getElem?_cons_succ, List.set_cons_zero, List.set_cons_succ, bx_eq, scr_eq, D.int.injEq, D.str.injEq, D.bl.injEq, Prod.mk.injEq, exists_eq_left, exists_eq_left', exists_and_left, exists_eq, exists_eq', true_and, and_true, List.length_map, decide_eq_true_eq, reduceCtorEq, if_true, if_false, Bool.not_true, Bool.not_false, Bool.false_eq_true, Option.some.injEq, Sl.ow.injEq, Sl.fz.injEq, D.lst.injEq, D.tup.injEq, D.dct.injEq, List.cons.injEq, and_assoc, and_self, Int.toNat_natCast, atI_0, atI_1, atI_2, strs_eq, bx_eq, scr_eq, sAug, iaddD, joinD, vSortSet, vSortK, listKD, dgetD, vSortG, iRangeD, mulXD, vRev, revD, vSortSetX, sortSetR, sortSDx, sPopTo, vLc2, noOwB, noOwB_blk, vMaxD, vMaxG, mEm, vZip, zipD, sindexXD, vLrD, sExt, sBad, vEnumT, vSumG, sEm, vFldA, vMeth, vMake, vNewM, sMemo, sMemoD, KVar, Slf, KPair]
    refine ⟨m, ps, rfl, hm, hg, hc, hL d List.mem_cons_self, ?_⟩
    cases h : fr ps c d with
    | false =>
      rw [List.filter_cons_of_pos (by simp [h])] at hq
      simp only [st0, List.map, List.length, List.replicate, List.cons_append, List.nil_append, sSeq, sSet, sIf, sRet, sRetN, sNext, sFor, sDrop, sApp, sStore, sBxSet, sAsg, put, settle, frz, vVar, vC, v2, v1, vB, vM, vTup, vLst, vSl, vCall, vIsi, vIf, vAnd, vOr, vNot, vChain, vDisp1, vDNewK, vBxI, vBxD, vBxNew, vScLen, vScIx, vEnum, enD, sNil, sCons, aNil, aCons, tOf, tBl, tAnd, tOr, tNot, truthD, boolD, iRange1, iRange2, iVal, iRaw, rawI, itemsD, pNo, pSome, slD, on1, on2, lenD, intD, addD, subD, mulD, fdivD, modD, powD, negD, ltD, leD, gtD, geD, eqD, neD, isD, isNotD, inD, notInD, ixD, tupD, listD, minD, maxD, gSet, gNilD, gConsD, gTupD, tyD, countD, sindexD, vLc, List.getElem?_cons_zero, List.getElem?_cons_succ, List.set_cons_zero, List.set_cons_succ, bx_eq, scr_eq, D.int.injEq, D.str.injEq, D.bl.injEq, Prod.mk.injEq, exists_eq_left, exists_eq_left', exists_and_left, exists_eq, exists_eq', true_and, and_true, List.length_map, decide_eq_true_eq, reduceCtorEq, if_true, if_false, Bool.not_true, Bool.not_false, Bool.false_eq_true, Option.some.injEq, Sl.ow.injEq, Sl.fz.injEq, D.lst.injEq, D.tup.injEq, D.dct.injEq, List.cons.injEq, and_assoc, and_self, Int.toNat_natCast, atI_0, atI_1, atI_2, strs_eq, bx_eq, scr_eq, sAug, iaddD, joinD, vSortSet, vSortK, listKD, dgetD, vSortG, iRangeD, mulXD, vRev, revD, vSortSetX, sortSetR, sortSDx, sPopTo, vLc2, noOwB, noOwB_blk, vMaxD, vMaxG, mEm, vZip, zipD, sindexXD, vLrD, sExt, sBad, vEnumT, vSumG, sEm, vFldA, vMeth, vMake, vNewM, sMemo, sMemoD, KVar, Slf, KPair]
      have e : acc.map (fun c => D.str [c]) ++ [D.str [d]] = (acc ++ [d]).map fun c => D.str [c] := by rw [List.map_append]; rfl
      rw [e]
      exact ⟨by omega, ih _ hL' (by rw [List.length_append, List.length_singleton]; omega) (by rw [List.append_assoc]; exact hq)⟩
    | true =>
      rw [List.filter_cons_of_neg (by simp [h])] at hq
      simp only [st0, List.map, List.length, List.replicate, List.cons_append, List.nil_append, sSeq, sSet, sIf, sRet, sRetN, sNext, sFor, sDrop, sApp, sStore, sBxSet, sAsg, put, settle, frz, vVar, vC, v2, v1, vB, vM, vTup, vLst, vSl, vCall, vIsi, vIf, vAnd, vOr, vNot, vChain, vDisp1, vDNewK, vBxI, vBxD, vBxNew, vScLen, vScIx, vEnum, enD, sNil, sCons, aNil, aCons, tOf, tBl, tAnd, tOr, tNot, truthD, boolD, iRange1, iRange2, iVal, iRaw, rawI, itemsD, pNo, pSome, slD, on1, on2, lenD, intD, addD, subD, mulD, fdivD, modD, powD, negD, ltD, leD, gtD, geD, eqD, neD, isD, isNotD, inD, notInD, ixD, tupD, listD, minD, maxD, gSet, gNilD, gConsD, gTupD, tyD, countD, sindexD, vLc, List.getElem?_cons_zero, List.getElem?_cons_succ, List.set_cons_zero, List.set_cons_succ, bx_eq, scr_eq, D.int.injEq, D.str.injEq, D.bl.injEq, Prod.mk.injEq, exists_eq_left, exists_eq_left', exists_and_left, exists_eq, exists_eq', true_and, and_true, List.length_map, decide_eq_true_eq, reduceCtorEq, if_true, if_false, Bool.not_true, Bool.not_false, Bool.false_eq_true, Option.some.injEq, Sl.ow.injEq, Sl.fz.injEq, D.lst.injEq, D.tup.injEq, D.dct.injEq, List.cons.injEq, and_assoc, and_self, Int.toNat_natCast, atI_0, atI_1, atI_2, strs_eq, bx_eq, scr_eq, sAug, iaddD, joinD, vSortSet, vSortK, listKD, dgetD, vSortG, iRangeD, mulXD, vRev, revD, vSortSetX, sortSetR, sortSDx, sPopTo, vLc2, noOwB, noOwB_blk, vMaxD, vMaxG, mEm, vZip, zipD, sindexXD, vLrD, sExt, sBad, vEnumT, vSumG, sEm, vFldA, vMeth, vMake, vNewM, sMemo, sMemoD, KVar, Slf, KPair]
      exact ih _ hL' (by omega) hq
end TC

namespace TC
open PySem PySem.Spec PyProof.Rows L2
def leadB (ps : List (List Nat)) (w : List Nat) (c : Nat) : Bool := decide (((w.take (w.idxOf c)).filter fun d => !fr ps c d).length = 0)
theorem leadB_iff {m : Nat} {ps : List (List Nat)} (hg : GoodP m ps) {w : List Nat} {c : Nat} (hc : c ∈ w) : leadB ps w c = true ↔ c ∈ firstsL ps w := by
  unfold leadB
  rw [decide_eq_true_eq, List.length_eq_zero_iff, List.filter_eq_nil_iff, lead_iff hg]
  constructor
  · exact fun h => ⟨hc, fun d hd => by have := h d hd; simpa using this⟩
  · exact fun h d hd => by simp [h.2 d hd]
theorem lead_l1 {m : Nat} {ps : List (List Nat)} {w : List Nat} {Z : EndsD} (hm : m ≤ 6) (hg : GoodP m ps) (hw : ∀ c ∈ w, c < 1000) (hwl : w.length < 1000) : ∀ (L acc : List Nat) (s3 s4 s5 : Sl), (∀ c ∈ L, c ∈ w) → acc.length + L.length < 2000 →
    (∀ s3' s4' s5', Z.nx [.fz (alD m ps), .fz (.str w), .ow (.lst ((acc ++ L.filter (leadB ps w)).map fun c => .str [c])), s3', s4', s5']) →
    forD (gSet 3) (l1__law_leaders freeS) (signs L) [.fz (alD m ps), .fz (.str w), .ow (.lst (acc.map fun c => .str [c])), s3, s4, s5] Z := by
  intro L
  induction L with
  | nil =>
    intro acc s3 s4 s5 _ _ h
    rw [signs_nil, forD_nil]
    simpa using h s3 s4 s5
  | cons c L ih =>
    intro acc s3 s4 s5 hL hl h
    rw [signs_cons, forD_cons]
    rw [List.length_cons] at hl
    have hcw := hL c List.mem_cons_self
    have hL' := fun z hz => hL z (List.mem_cons_of_mem _ hz)
    have hsz : (2000 : Nat) < sizeLine := by rw [sizeLine_eq]; decide
    have e1 : cutL w none (some ((w.idxOf c : Nat) : Int)) = w.take (w.idxOf c) := cutL_to _ _
    have ht : (w.take (w.idxOf c)).length ≤ w.length := by rw [List.length_take]; omega
    generalize forD (gSet 3) (l1__law_leaders freeS) (signs L) = Fr at ih ⊢
    have b5 : ∃ s2', blkR [5] [.fz (alD m ps), .fz (.str w), .ow (.lst (acc.map fun c => .str [c])), .fz (.str [c]), .fz (.str (w.take (w.idxOf c))), s5] = [.fz (alD m ps), .fz (.str w), s2', .fz (.str [c]), .fz (.str (w.take (w.idxOf c))), .no] := ⟨_, rfl⟩
    obtain ⟨s2', e5⟩ := b5
    simp only [l1__law_leaders, e1, e5, st0, List.map, List.length, List.replicate, List.cons_append, List.nil_append, sSeq, sSet, sIf, sRet, sRetN, sNext, sFor, sDrop, sApp, sStore, sBxSet, sAsg, put, settle, frz, vVar, vC, v2, v1, vB, vM, vTup, vLst, vSl, vCall, vIsi, vIf, vAnd, vOr, vNot, vChain, vDisp1, vDNewK, vBxI, vBxD, vBxNew, vScLen, vScIx, vEnum, enD, sNil, sCons, aNil, aCons, tOf, tBl, tAnd, tOr, tNot, truthD, boolD, iRange1, iRange2, iVal, iRaw, rawI, itemsD, pNo, pSome, slD, on1, on2, lenD, intD, addD, subD, mulD, fdivD, modD, powD, negD, ltD, leD, gtD, geD, eqD, neD, isD, isNotD, inD, notInD, ixD, tupD, listD, minD, maxD, gSet, gNilD, gConsD, gTupD, tyD, countD, sindexD, vLc, List.getElem?_cons_zero, List.getElem?_cons_succ, List.set_cons_zero, List.set_cons_succ, bx_eq, scr_eq, D.int.injEq, D.str.injEq, D.bl.injEq, Prod.mk.injEq, exists_eq_left, exists_eq_left', exists_and_left, exists_eq, exists_eq', true_and, and_true, List.length_map, decide_eq_true_eq, reduceCtorEq, if_true, if_false, Bool.not_true, Bool.not_false, Bool.false_eq_true, Option.some.injEq, Sl.ow.injEq, Sl.fz.injEq, D.lst.injEq, D.tup.injEq, D.dct.injEq, List.cons.injEq, and_assoc, and_self, Int.toNat_natCast, atI_0, atI_1, atI_2, strs_eq, bx_eq, scr_eq, sAug, iaddD, joinD, vSortSet, vSortK, listKD, dgetD, vSortG, iRangeD, mulXD, vRev, revD, vSortSetX, sortSetR, sortSDx, sPopTo, vLc2, noOwB, noOwB_blk, vMaxD, vMaxG, mEm, vZip, zipD, sindexXD, vLrD, sExt, sBad, vEnumT, vSumG, sEm, vFldA, vMeth, vMake, vNewM, sMemo, sMemoD, KVar, Slf, KPair]
    refine ⟨hcw, ?_⟩
    refine lead_lc hm hg (hw c hcw) _ [] (fun d hd => hw d (List.mem_of_mem_take hd)) (by rw [List.length_nil]; omega) ?_
    rw [List.nil_append]
    simp only [List.length_map, eqv_int, ok_int, st0, List.map, List.length, List.replicate, List.cons_append, List.nil_append, sSeq, sSet, sIf, sRet, sRetN, sNext, sFor, sDrop, sApp, sStore, sBxSet, sAsg, put, settle, frz, vVar, vC, v2, v1, vB, vM, vTup, vLst, vSl, vCall, vIsi, vIf, vAnd, vOr, vNot, vChain, vDisp1, vDNewK, vBxI, vBxD, vBxNew, vScLen, vScIx, vEnum, enD, sNil, sCons, aNil, aCons, tOf, tBl, tAnd, tOr, tNot, truthD, boolD, iRange1, iRange2, iVal, iRaw, rawI, itemsD, pNo, pSome, slD, on1, on2, lenD, intD, addD, subD, mulD, fdivD, modD, powD, negD, ltD, leD, gtD, geD, eqD, neD, isD, isNotD, inD, notInD, ixD, tupD, listD, minD, maxD, gSet, gNilD, gConsD, gTupD, tyD, countD, sindexD, vLc, List.getElem?_cons_zero, List.getElem?_cons_succ, List.set_cons_zero, List.set_cons_succ, bx_eq, scr_eq, D.int.injEq, D.str.injEq, D.bl.injEq, Prod.mk.injEq, exists_eq_left, exists_eq_left', exists_and_left, exists_eq, exists_eq', true_and, and_true, List.length_map, decide_eq_true_eq, reduceCtorEq, if_true, if_false, Bool.not_true, Bool.not_false, Bool.false_eq_true, Option.some.injEq, Sl.ow.injEq, Sl.fz.injEq, D.lst.injEq, D.tup.injEq, D.dct.injEq, List.cons.injEq, and_assoc, and_self, Int.toNat_natCast, atI_0, atI_1, atI_2, strs_eq, bx_eq, scr_eq, sAug, iaddD, joinD, vSortSet, vSortK, listKD, dgetD, vSortG, iRangeD, mulXD, vRev, revD, vSortSetX, sortSetR, sortSDx, sPopTo, vLc2, noOwB, noOwB_blk, vMaxD, vMaxG, mEm, vZip, zipD, sindexXD, vLrD, sExt, sBad, vEnumT, vSumG, sEm, vFldA, vMeth, vMake, vNewM, sMemo, sMemoD, KVar, Slf, KPair]
    by_cases hb : leadB ps w c = true
    · rw [List.filter_cons_of_pos hb] at h
      have hb' : ((w.take (w.idxOf c)).filter fun d => !fr ps c d).length = 0 := of_decide_eq_true hb
      simp only [hb', st0, List.map, List.length, List.replicate, List.cons_append, List.nil_append, sSeq, sSet, sIf, sRet, sRetN, sNext, sFor, sDrop, sApp, sStore, sBxSet, sAsg, put, settle, frz, vVar, vC, v2, v1, vB, vM, vTup, vLst, vSl, vCall, vIsi, vIf, vAnd, vOr, vNot, vChain, vDisp1, vDNewK, vBxI, vBxD, vBxNew, vScLen, vScIx, vEnum, enD, sNil, sCons, aNil, aCons, tOf, tBl, tAnd, tOr, tNot, truthD, boolD, iRange1, iRange2, iVal, iRaw, rawI, itemsD, pNo, pSome, slD, on1, on2, lenD, intD, addD, subD, mulD, fdivD, modD, powD, negD, ltD, leD, gtD, geD, eqD, neD, isD, isNotD, inD, notInD, ixD, tupD, listD, minD, maxD, gSet, gNilD, gConsD, gTupD, tyD, countD, sindexD, vLc, List.getElem?_cons_zero, List.getElem?_cons_succ, List.set_cons_zero, List.set_cons_succ, bx_eq, scr_eq, D.int.injEq, D.str.injEq, D.bl.injEq, Prod.mk.injEq, exists_eq_left, exists_eq_left', exists_and_left, exists_eq, exists_eq', true_and, and_true, List.length_map, decide_eq_true_eq, reduceCtorEq, if_true, if_false, Bool.not_true, Bool.not_false, Bool.false_eq_true, Option.some.injEq, Sl.ow.injEq, Sl.fz.injEq, D.lst.injEq, D.tup.injEq, D.dct.injEq, List.cons.injEq, and_assoc, and_self, Int.toNat_natCast, atI_0, atI_1, atI_2, strs_eq, bx_eq, scr_eq, sAug, iaddD, joinD, vSortSet, vSortK, listKD, dgetD, vSortG, iRangeD, mulXD, vRev, revD, vSortSetX, sortSetR, sortSDx, sPopTo, vLc2, noOwB, noOwB_blk, vMaxD, vMaxG, mEm, vZip, zipD, sindexXD, vLrD, sExt, sBad, vEnumT, vSumG, sEm, vFldA, vMeth, vMake, vNewM, sMemo, sMemoD, KVar, Slf, KPair]
      have e : acc.map (fun c => D.str [c]) ++ [D.str [c]] = (acc ++ [c]).map fun c => D.str [c] := by rw [List.map_append]; rfl
      rw [e]
      refine ⟨by omega, ih _ _ _ _ hL' (by rw [List.length_append, List.length_singleton]; omega) fun a b d => ?_⟩
      rw [List.append_assoc]; exact h a b d
    · rw [List.filter_cons_of_neg hb] at h
      have hb' : ¬ ((w.take (w.idxOf c)).filter fun d => !fr ps c d).length = 0 := fun z => hb (decide_eq_true z)
      rw [if_neg (by omega)]
      exact ih _ _ _ _ hL' (by omega) h
theorem p_leaders (ds : List D) (Q : D → Prop) (E : Nat → D → Prop) (h : leadS ds Q E) : e__law_leaders freeS (st0 6 ds) { nx := fun _ => Q .non, rt := Q } := by
  obtain ⟨m, ps, w, rfl, hm, hg, hw, hwl, hq⟩ := h
  obtain ⟨L, eL, hp, hmem⟩ := dset_list w
  have hLn : L.length ≤ w.length := nodup_le (hp.imp fun h => Nat.ne_of_lt h) fun c hc => (hmem c).mp hc
  have eL2 : (L.map fun c => [c]).map D.str = signs L := by rw [List.map_map]; rfl
  simp only [e__law_leaders, eL, eL2, st0, List.map, List.length, List.replicate, List.cons_append, List.nil_append, sSeq, sSet, sIf, sRet, sRetN, sNext, sFor, sDrop, sApp, sStore, sBxSet, sAsg, put, settle, frz, vVar, vC, v2, v1, vB, vM, vTup, vLst, vSl, vCall, vIsi, vIf, vAnd, vOr, vNot, vChain, vDisp1, vDNewK, vBxI, vBxD, vBxNew, vScLen, vScIx, vEnum, enD, sNil, sCons, aNil, aCons, tOf, tBl, tAnd, tOr, tNot, truthD, boolD, iRange1, iRange2, iVal, iRaw, rawI, itemsD, pNo, pSome, slD, on1, on2, lenD, intD, addD, subD, mulD, fdivD, modD, powD, negD, ltD, leD, gtD, geD, eqD, neD, isD, isNotD, inD, notInD, ixD, tupD, listD, minD, maxD, gSet, gNilD, gConsD, gTupD, tyD, countD, sindexD, vLc, List.getElem?_cons_zero, List.getElem?_cons_succ, List.set_cons_zero, List.set_cons_succ, bx_eq, scr_eq, D.int.injEq, D.str.injEq, D.bl.injEq, Prod.mk.injEq, exists_eq_left, exists_eq_left', exists_and_left, exists_eq, exists_eq', true_and, and_true, List.length_map, decide_eq_true_eq, reduceCtorEq, if_true, if_false, Bool.not_true, Bool.not_false, Bool.false_eq_true, Option.some.injEq, Sl.ow.injEq, Sl.fz.injEq, D.lst.injEq, D.tup.injEq, D.dct.injEq, List.cons.injEq, and_assoc, and_self, Int.toNat_natCast, atI_0, atI_1, atI_2, strs_eq, bx_eq, scr_eq, sAug, iaddD, joinD, vSortSet, vSortK, listKD, dgetD, vSortG, iRangeD, mulXD, vRev, revD, vSortSetX, sortSetR, sortSDx, sPopTo, vLc2, noOwB, noOwB_blk, vMaxD, vMaxG, mEm, vZip, zipD, sindexXD, vLrD, sExt, sBad, vEnumT, vSumG, sEm, vFldA, vMeth, vMake, vNewM, sMemo, sMemoD, KVar, Slf, KPair]
  refine ⟨Nat.zero_le _, by omega, lead_l1 hm hg hw hwl L [] _ _ _ (fun c hc => (hmem c).mp hc) (by rw [List.length_nil]; omega) fun a b d => ?_⟩
  simp only [st0, List.map, List.length, List.replicate, List.cons_append, List.nil_append, sSeq, sSet, sIf, sRet, sRetN, sNext, sFor, sDrop, sApp, sStore, sBxSet, sAsg, put, settle, frz, vVar, vC, v2, v1, vB, vM, vTup, vLst, vSl, vCall, vIsi, vIf, vAnd, vOr, vNot, vChain, vDisp1, vDNewK, vBxI, vBxD, vBxNew, vScLen, vScIx, vEnum, enD, sNil, sCons, aNil, aCons, tOf, tBl, tAnd, tOr, tNot, truthD, boolD, iRange1, iRange2, iVal, iRaw, rawI, itemsD, pNo, pSome, slD, on1, on2, lenD, intD, addD, subD, mulD, fdivD, modD, powD, negD, ltD, leD, gtD, geD, eqD, neD, isD, isNotD, inD, notInD, ixD, tupD, listD, minD, maxD, gSet, gNilD, gConsD, gTupD, tyD, countD, sindexD, vLc, List.getElem?_cons_zero, List.getElem?_cons_succ, List.set_cons_zero, List.set_cons_succ, bx_eq, scr_eq, D.int.injEq, D.str.injEq, D.bl.injEq, Prod.mk.injEq, exists_eq_left, exists_eq_left', exists_and_left, exists_eq, exists_eq', true_and, and_true, List.length_map, decide_eq_true_eq, reduceCtorEq, if_true, if_false, Bool.not_true, Bool.not_false, Bool.false_eq_true, Option.some.injEq, Sl.ow.injEq, Sl.fz.injEq, D.lst.injEq, D.tup.injEq, D.dct.injEq, List.cons.injEq, and_assoc, and_self, Int.toNat_natCast, atI_0, atI_1, atI_2, strs_eq, bx_eq, scr_eq, sAug, iaddD, joinD, vSortSet, vSortK, listKD, dgetD, vSortG, iRangeD, mulXD, vRev, revD, vSortSetX, sortSetR, sortSDx, sPopTo, vLc2, noOwB, noOwB_blk, vMaxD, vMaxG, mEm, vZip, zipD, sindexXD, vLrD, sExt, sBad, vEnumT, vSumG, sEm, vFldA, vMeth, vMake, vNewM, sMemo, sMemoD, KVar, Slf, KPair]
  rw [pw_unique (hp.filter _) (firstsL_pw hg w) fun c => by
    rw [List.mem_filter, hmem]
    exact ⟨fun h => (leadB_iff hg h.1).mp h.2, fun h => ⟨firstsL_sub h, (leadB_iff hg (firstsL_sub h)).mpr h⟩⟩]
  exact hq
end TC

namespace TC
open PySem PySem.Spec PyProof.Rows L2
theorem p_lleast (ds : List D) (Q : D → Prop) (E : Nat → D → Prop) (h : leastS ds Q E) : e__law_least leadS withoutS (st0 4 ds) { nx := fun _ => Q .non, rt := Q } := by
  obtain ⟨m, ps, w, rfl, hm, hg, hw, hwl, hq⟩ := h
  simp only [e__law_least, st0, List.map, List.length, List.replicate, List.cons_append, List.nil_append, sSeq, sSet, sIf, sRet, sRetN, sNext, sFor, sDrop, sApp, sStore, sBxSet, sAsg, put, settle, frz, vVar, vC, v2, v1, vB, vM, vTup, vLst, vSl, vCall, vIsi, vIf, vAnd, vOr, vNot, vChain, vDisp1, vDNewK, vBxI, vBxD, vBxNew, vScLen, vScIx, vEnum, enD, sNil, sCons, aNil, aCons, tOf, tBl, tAnd, tOr, tNot, truthD, boolD, iRange1, iRange2, iVal, iRaw, rawI, itemsD, pNo, pSome, slD, on1, on2, lenD, intD, addD, subD, mulD, fdivD, modD, powD, negD, ltD, leD, gtD, geD, eqD, neD, isD, isNotD, inD, notInD, ixD, tupD, listD, minD, maxD, gSet, gNilD, gConsD, gTupD, tyD, countD, sindexD, vLc, List.getElem?_cons_zero, List.getElem?_cons_succ, List.set_cons_zero, List.set_cons_succ, bx_eq, scr_eq, D.int.injEq, D.str.injEq, D.bl.injEq, Prod.mk.injEq, exists_eq_left, exists_eq_left', exists_and_left, exists_eq, exists_eq', true_and, and_true, List.length_map, decide_eq_true_eq, reduceCtorEq, if_true, if_false, Bool.not_true, Bool.not_false, Bool.false_eq_true, Option.some.injEq, Sl.ow.injEq, Sl.fz.injEq, D.lst.injEq, D.tup.injEq, D.dct.injEq, List.cons.injEq, and_assoc, and_self, Int.toNat_natCast, atI_0, atI_1, atI_2, strs_eq, bx_eq, scr_eq, sAug, iaddD, joinD, vSortSet, vSortK, listKD, dgetD, vSortG, iRangeD, mulXD, vRev, revD, vSortSetX, sortSetR, sortSDx, sPopTo, vLc2, noOwB, noOwB_blk, vMaxD, vMaxG, mEm, vZip, zipD, sindexXD, vLrD, sExt, sBad, vEnumT, vSumG, sEm, vFldA, vMeth, vMake, vNewM, sMemo, sMemoD, KVar, Slf, KPair]
  refine ⟨fun k ρ => ∃ (u f : List Nat) (s3 : Sl), k = u.length ∧ ρ = [.fz (alD m ps), .fz (.str u), .fz (.str f), s3] ∧ Wd_ m u ∧ f.length + u.length ≤ w.length ∧ f ++ lsL ps u.length u = lsL ps w.length w, ?_, ?_⟩
  · exact ⟨_, w, [], _, rfl, rfl, hw, by simp, rfl⟩
  · rintro k ρ ⟨u, f, s3, rfl, rfl, hu, hl, he⟩
    simp only [l1__law_least, leadS, st0, List.map, List.length, List.replicate, List.cons_append, List.nil_append, sSeq, sSet, sIf, sRet, sRetN, sNext, sFor, sDrop, sApp, sStore, sBxSet, sAsg, put, settle, frz, vVar, vC, v2, v1, vB, vM, vTup, vLst, vSl, vCall, vIsi, vIf, vAnd, vOr, vNot, vChain, vDisp1, vDNewK, vBxI, vBxD, vBxNew, vScLen, vScIx, vEnum, enD, sNil, sCons, aNil, aCons, tOf, tBl, tAnd, tOr, tNot, truthD, boolD, iRange1, iRange2, iVal, iRaw, rawI, itemsD, pNo, pSome, slD, on1, on2, lenD, intD, addD, subD, mulD, fdivD, modD, powD, negD, ltD, leD, gtD, geD, eqD, neD, isD, isNotD, inD, notInD, ixD, tupD, listD, minD, maxD, gSet, gNilD, gConsD, gTupD, tyD, countD, sindexD, vLc, List.getElem?_cons_zero, List.getElem?_cons_succ, List.set_cons_zero, List.set_cons_succ, bx_eq, scr_eq, D.int.injEq, D.str.injEq, D.bl.injEq, Prod.mk.injEq, exists_eq_left, exists_eq_left', exists_and_left, exists_eq, exists_eq', true_and, and_true, List.length_map, decide_eq_true_eq, reduceCtorEq, if_true, if_false, Bool.not_true, Bool.not_false, Bool.false_eq_true, Option.some.injEq, Sl.ow.injEq, Sl.fz.injEq, D.lst.injEq, D.tup.injEq, D.dct.injEq, List.cons.injEq, and_assoc, and_self, Int.toNat_natCast, atI_0, atI_1, atI_2, strs_eq, bx_eq, scr_eq, sAug, iaddD, joinD, vSortSet, vSortK, listKD, dgetD, vSortG, iRangeD, mulXD, vRev, revD, vSortSetX, sortSetR, sortSDx, sPopTo, vLc2, noOwB, noOwB_blk, vMaxD, vMaxG, mEm, vZip, zipD, sindexXD, vLrD, sExt, sBad, vEnumT, vSumG, sEm, vFldA, vMeth, vMake, vNewM, sMemo, sMemoD, KVar, Slf, KPair]
    cases u with
    | nil =>
      rw [if_neg (by simp)]
      have e : lsL ps 0 [] = [] := rfl
      rw [List.length_nil, e, List.append_nil] at he
      rw [he]
      exact hq
    | cons x u =>
      rw [if_pos (by simp)]
      rw [List.length_cons] at hl
      refine ⟨m, ps, rfl, hm, hg, hu.lt hm, by rw [List.length_cons]; omega, ?_⟩
      cases hL : firstsL ps (x :: u) with
      | nil => exact absurd hL (firstsL_ne (by simp))
      | cons c L =>
        have hc : c ∈ firstsL ps (x :: u) := by rw [hL]; exact List.mem_cons_self
        have hc' := firstsL_sub hc
        have hl2 := List.length_erase_of_mem hc'
        rw [List.length_cons] at hl2
        simp only [List.map_cons, withoutS, st0, List.map, List.length, List.replicate, List.cons_append, List.nil_append, sSeq, sSet, sIf, sRet, sRetN, sNext, sFor, sDrop, sApp, sStore, sBxSet, sAsg, put, settle, frz, vVar, vC, v2, v1, vB, vM, vTup, vLst, vSl, vCall, vIsi, vIf, vAnd, vOr, vNot, vChain, vDisp1, vDNewK, vBxI, vBxD, vBxNew, vScLen, vScIx, vEnum, enD, sNil, sCons, aNil, aCons, tOf, tBl, tAnd, tOr, tNot, truthD, boolD, iRange1, iRange2, iVal, iRaw, rawI, itemsD, pNo, pSome, slD, on1, on2, lenD, intD, addD, subD, mulD, fdivD, modD, powD, negD, ltD, leD, gtD, geD, eqD, neD, isD, isNotD, inD, notInD, ixD, tupD, listD, minD, maxD, gSet, gNilD, gConsD, gTupD, tyD, countD, sindexD, vLc, List.getElem?_cons_zero, List.getElem?_cons_succ, List.set_cons_zero, List.set_cons_succ, bx_eq, scr_eq, D.int.injEq, D.str.injEq, D.bl.injEq, Prod.mk.injEq, exists_eq_left, exists_eq_left', exists_and_left, exists_eq, exists_eq', true_and, and_true, List.length_map, decide_eq_true_eq, reduceCtorEq, if_true, if_false, Bool.not_true, Bool.not_false, Bool.false_eq_true, Option.some.injEq, Sl.ow.injEq, Sl.fz.injEq, D.lst.injEq, D.tup.injEq, D.dct.injEq, List.cons.injEq, and_assoc, and_self, Int.toNat_natCast, atI_0, atI_1, atI_2, strs_eq, bx_eq, scr_eq, sAug, iaddD, joinD, vSortSet, vSortK, listKD, dgetD, vSortG, iRangeD, mulXD, vRev, revD, vSortSetX, sortSetR, sortSDx, sPopTo, vLc2, noOwB, noOwB_blk, vMaxD, vMaxG, mEm, vZip, zipD, sindexXD, vLrD, sExt, sBad, vEnumT, vSumG, sEm, vFldA, vMeth, vMake, vNewM, sMemo, sMemoD, KVar, Slf, KPair]
        refine ⟨by rw [sizeLine_eq]; omega, hc', by omega, ?_⟩
        refine ⟨u.length, by omega, (x :: u).erase c, by omega, rfl, hu.erase c, by rw [List.length_append, List.length_singleton]; omega, ?_⟩
        rw [← he, List.append_assoc]
        congr 1
        rw [hl2]
        have e3 : lsL ps (u.length + 1) (x :: u) = c :: lsL ps u.length ((x :: u).erase c) := by rw [lsL, hL]; rfl
        show _ = lsL ps (u.length + 1) (x :: u)
        rw [e3]
        rfl
end TC

namespace TC
open PySem PySem.Spec PyProof.Rows L2
/-! ### words that stand apart -/
theorem apart_l2 {m : Nat} {ps : List (List Nat)} {a b : D} {x : Nat} {Z : EndsD} (hm : m ≤ 6) (hg : GoodP m ps) (hx : x < 1000) : ∀ (l : List Nat) (s4 : Sl), (∀ c ∈ l, c < 1000) → (if l.all (fun y => fr ps x y) = true then ∀ s4', Z.nx [.fz (alD m ps), .fz a, .fz b, .fz (.str [x]), s4'] else Z.rt (.bl false)) →
    forD (gSet 4) (l2__law_apart freeS) (signs l) [.fz (alD m ps), .fz a, .fz b, .fz (.str [x]), s4] Z := by
  intro l
  induction l with
  | nil =>
    intro s4 _ h
    rw [signs_nil, forD_nil]
    simp only [List.all_nil, if_true] at h
    exact h s4
  | cons y l ih =>
    intro s4 hl h
    rw [signs_cons, forD_cons]
    have hl' := fun z hz => hl z (List.mem_cons_of_mem _ hz)
    generalize forD (gSet 4) (l2__law_apart freeS) (signs l) = Fr at ih ⊢
    simp only [l2__law_apart, freeS, st0, List.map, List.length, List.replicate, List.cons_append, List.nil_append, sSeq, sSet, sIf, sRet, sRetN, sNext, sFor, sDrop, sApp, sStore, sBxSet, sAsg, put, settle, frz, vVar, vC, v2, v1, vB, vM, vTup, vLst, vSl, vCall, vIsi, vIf, vAnd, vOr, vNot, vChain, vDisp1, vDNewK, vBxI, vBxD, vBxNew, vScLen, vScIx, vEnum, enD, sNil, sCons, aNil, aCons, tOf, tBl, tAnd, tOr, tNot, truthD, boolD, iRange1, iRange2, iVal, iRaw, rawI, itemsD, pNo, pSome, slD, on1, on2, lenD, intD, addD, subD, mulD, fdivD, modD, powD, negD, ltD, leD, gtD, geD, eqD, neD, isD, isNotD, inD, notInD, ixD, tupD, listD, minD, maxD, gSet, gNilD, gConsD, gTupD, tyD, countD, sindexD, vLc, List.getElem?_cons_zero, List.getElem?_cons_succ, List.set_cons_zero, List.set_cons_succ, bx_eq, scr_eq, D.int.injEq, D.str.injEq, D.bl.injEq, Prod.mk.injEq, exists_eq_left, exists_eq_left', exists_and_left, exists_eq, exists_eq', true_and, and_true, List.length_map, decide_eq_true_eq, reduceCtorEq, if_true, if_false, Bool.not_true, Bool.not_false, Bool.false_eq_true, Option.some.injEq, Sl.ow.injEq, Sl.fz.injEq, D.lst.injEq, D.tup.injEq, D.dct.injEq, List.cons.injEq, and_assoc, and_self, Int.toNat_natCast, atI_0, atI_1, atI_2, strs_eq, bx_eq, scr_eq, sAug, iaddD, joinD, vSortSet, vSortK, listKD, dgetD, vSortG, iRangeD, mulXD, vRev, revD, vSortSetX, sortSetR, sortSDx, sPopTo, vLc2, noOwB, noOwB_blk, vMaxD, vMaxG, mEm, vZip, zipD, sindexXD, vLrD, sExt, sBad, vEnumT, vSumG, sEm, vFldA, vMeth, vMake, vNewM, sMemo, sMemoD, KVar, Slf, KPair]
    refine ⟨m, ps, rfl, hm, hg, hx, hl y List.mem_cons_self, ?_⟩
    rw [List.all_cons] at h
    cases e : fr ps x y with
    | false =>
      simp only [e, Bool.false_and, Bool.false_eq_true, if_false] at h
      simp only [st0, List.map, List.length, List.replicate, List.cons_append, List.nil_append, sSeq, sSet, sIf, sRet, sRetN, sNext, sFor, sDrop, sApp, sStore, sBxSet, sAsg, put, settle, frz, vVar, vC, v2, v1, vB, vM, vTup, vLst, vSl, vCall, vIsi, vIf, vAnd, vOr, vNot, vChain, vDisp1, vDNewK, vBxI, vBxD, vBxNew, vScLen, vScIx, vEnum, enD, sNil, sCons, aNil, aCons, tOf, tBl, tAnd, tOr, tNot, truthD, boolD, iRange1, iRange2, iVal, iRaw, rawI, itemsD, pNo, pSome, slD, on1, on2, lenD, intD, addD, subD, mulD, fdivD, modD, powD, negD, ltD, leD, gtD, geD, eqD, neD, isD, isNotD, inD, notInD, ixD, tupD, listD, minD, maxD, gSet, gNilD, gConsD, gTupD, tyD, countD, sindexD, vLc, List.getElem?_cons_zero, List.getElem?_cons_succ, List.set_cons_zero, List.set_cons_succ, bx_eq, scr_eq, D.int.injEq, D.str.injEq, D.bl.injEq, Prod.mk.injEq, exists_eq_left, exists_eq_left', exists_and_left, exists_eq, exists_eq', true_and, and_true, List.length_map, decide_eq_true_eq, reduceCtorEq, if_true, if_false, Bool.not_true, Bool.not_false, Bool.false_eq_true, Option.some.injEq, Sl.ow.injEq, Sl.fz.injEq, D.lst.injEq, D.tup.injEq, D.dct.injEq, List.cons.injEq, and_assoc, and_self, Int.toNat_natCast, atI_0, atI_1, atI_2, strs_eq, bx_eq, scr_eq, sAug, iaddD, joinD, vSortSet, vSortK, listKD, dgetD, vSortG, iRangeD, mulXD, vRev, revD, vSortSetX, sortSetR, sortSDx, sPopTo, vLc2, noOwB, noOwB_blk, vMaxD, vMaxG, mEm, vZip, zipD, sindexXD, vLrD, sExt, sBad, vEnumT, vSumG, sEm, vFldA, vMeth, vMake, vNewM, sMemo, sMemoD, KVar, Slf, KPair]
      exact h
    | true =>
      simp only [e, Bool.true_and] at h
      simp only [st0, List.map, List.length, List.replicate, List.cons_append, List.nil_append, sSeq, sSet, sIf, sRet, sRetN, sNext, sFor, sDrop, sApp, sStore, sBxSet, sAsg, put, settle, frz, vVar, vC, v2, v1, vB, vM, vTup, vLst, vSl, vCall, vIsi, vIf, vAnd, vOr, vNot, vChain, vDisp1, vDNewK, vBxI, vBxD, vBxNew, vScLen, vScIx, vEnum, enD, sNil, sCons, aNil, aCons, tOf, tBl, tAnd, tOr, tNot, truthD, boolD, iRange1, iRange2, iVal, iRaw, rawI, itemsD, pNo, pSome, slD, on1, on2, lenD, intD, addD, subD, mulD, fdivD, modD, powD, negD, ltD, leD, gtD, geD, eqD, neD, isD, isNotD, inD, notInD, ixD, tupD, listD, minD, maxD, gSet, gNilD, gConsD, gTupD, tyD, countD, sindexD, vLc, List.getElem?_cons_zero, List.getElem?_cons_succ, List.set_cons_zero, List.set_cons_succ, bx_eq, scr_eq, D.int.injEq, D.str.injEq, D.bl.injEq, Prod.mk.injEq, exists_eq_left, exists_eq_left', exists_and_left, exists_eq, exists_eq', true_and, and_true, List.length_map, decide_eq_true_eq, reduceCtorEq, if_true, if_false, Bool.not_true, Bool.not_false, Bool.false_eq_true, Option.some.injEq, Sl.ow.injEq, Sl.fz.injEq, D.lst.injEq, D.tup.injEq, D.dct.injEq, List.cons.injEq, and_assoc, and_self, Int.toNat_natCast, atI_0, atI_1, atI_2, strs_eq, bx_eq, scr_eq, sAug, iaddD, joinD, vSortSet, vSortK, listKD, dgetD, vSortG, iRangeD, mulXD, vRev, revD, vSortSetX, sortSetR, sortSDx, sPopTo, vLc2, noOwB, noOwB_blk, vMaxD, vMaxG, mEm, vZip, zipD, sindexXD, vLrD, sExt, sBad, vEnumT, vSumG, sEm, vFldA, vMeth, vMake, vNewM, sMemo, sMemoD, KVar, Slf, KPair]
      exact ih _ hl' h
theorem apart_l1 {m : Nat} {ps : List (List Nat)} {a : D} {v : List Nat} {Z : EndsD} (hm : m ≤ 6) (hg : GoodP m ps) (hv : ∀ c ∈ v, c < 1000) : ∀ (l : List Nat) (s3 s4 : Sl), (∀ c ∈ l, c < 1000) → (if freeW ps l v = true then ∀ s3' s4', Z.nx [.fz (alD m ps), .fz a, .fz (.str v), s3', s4'] else Z.rt (.bl false)) →
    forD (gSet 3) (l1__law_apart freeS) (signs l) [.fz (alD m ps), .fz a, .fz (.str v), s3, s4] Z := by
  intro l
  induction l with
  | nil =>
    intro s3 s4 _ h
    rw [signs_nil, forD_nil]
    simp only [freeW, List.all_nil, if_true] at h
    exact h s3 s4
  | cons x l ih =>
    intro s3 s4 hl h
    rw [signs_cons, forD_cons]
    have hl' := fun z hz => hl z (List.mem_cons_of_mem _ hz)
    generalize forD (gSet 3) (l1__law_apart freeS) (signs l) = Fr at ih ⊢
    simp only [l1__law_apart, st0, List.map, List.length, List.replicate, List.cons_append, List.nil_append, sSeq, sSet, sIf, sRet, sRetN, sNext, sFor, sDrop, sApp, sStore, sBxSet, sAsg, put, settle, frz, vVar, vC, v2, v1, vB, vM, vTup, vLst, vSl, vCall, vIsi, vIf, vAnd, vOr, vNot, vChain, vDisp1, vDNewK, vBxI, vBxD, vBxNew, vScLen, vScIx, vEnum, enD, sNil, sCons, aNil, aCons, tOf, tBl, tAnd, tOr, tNot, truthD, boolD, iRange1, iRange2, iVal, iRaw, rawI, itemsD, pNo, pSome, slD, on1, on2, lenD, intD, addD, subD, mulD, fdivD, modD, powD, negD, ltD, leD, gtD, geD, eqD, neD, isD, isNotD, inD, notInD, ixD, tupD, listD, minD, maxD, gSet, gNilD, gConsD, gTupD, tyD, countD, sindexD, vLc, List.getElem?_cons_zero, List.getElem?_cons_succ, List.set_cons_zero, List.set_cons_succ, bx_eq, scr_eq, D.int.injEq, D.str.injEq, D.bl.injEq, Prod.mk.injEq, exists_eq_left, exists_eq_left', exists_and_left, exists_eq, exists_eq', true_and, and_true, List.length_map, decide_eq_true_eq, reduceCtorEq, if_true, if_false, Bool.not_true, Bool.not_false, Bool.false_eq_true, Option.some.injEq, Sl.ow.injEq, Sl.fz.injEq, D.lst.injEq, D.tup.injEq, D.dct.injEq, List.cons.injEq, and_assoc, and_self, Int.toNat_natCast, atI_0, atI_1, atI_2, strs_eq, bx_eq, scr_eq, sAug, iaddD, joinD, vSortSet, vSortK, listKD, dgetD, vSortG, iRangeD, mulXD, vRev, revD, vSortSetX, sortSetR, sortSDx, sPopTo, vLc2, noOwB, noOwB_blk, vMaxD, vMaxG, mEm, vZip, zipD, sindexXD, vLrD, sExt, sBad, vEnumT, vSumG, sEm, vFldA, vMeth, vMake, vNewM, sMemo, sMemoD, KVar, Slf, KPair]
    refine apart_l2 hm hg (hl x List.mem_cons_self) v _ hv ?_
    unfold freeW at h
    rw [List.all_cons] at h
    cases e : v.all (fun y => fr ps x y) with
    | false =>
      simp only [e, Bool.false_and, Bool.false_eq_true, if_false] at h
      rw [if_neg (by decide)]
      exact h
    | true =>
      simp only [e, Bool.true_and] at h
      rw [if_pos rfl]
      exact fun s4' => ih _ _ hl' h
theorem p_apart (ds : List D) (Q : D → Prop) (E : Nat → D → Prop) (h : freeWS ds Q E) : e__law_apart freeS (st0 5 ds) { nx := fun _ => Q .non, rt := Q } := by
  obtain ⟨m, ps, w, v, rfl, hm, hg, hw, hv, hvl, hq⟩ := h
  simp only [e__law_apart, st0, List.map, List.length, List.replicate, List.cons_append, List.nil_append, sSeq, sSet, sIf, sRet, sRetN, sNext, sFor, sDrop, sApp, sStore, sBxSet, sAsg, put, settle, frz, vVar, vC, v2, v1, vB, vM, vTup, vLst, vSl, vCall, vIsi, vIf, vAnd, vOr, vNot, vChain, vDisp1, vDNewK, vBxI, vBxD, vBxNew, vScLen, vScIx, vEnum, enD, sNil, sCons, aNil, aCons, tOf, tBl, tAnd, tOr, tNot, truthD, boolD, iRange1, iRange2, iVal, iRaw, rawI, itemsD, pNo, pSome, slD, on1, on2, lenD, intD, addD, subD, mulD, fdivD, modD, powD, negD, ltD, leD, gtD, geD, eqD, neD, isD, isNotD, inD, notInD, ixD, tupD, listD, minD, maxD, gSet, gNilD, gConsD, gTupD, tyD, countD, sindexD, vLc, List.getElem?_cons_zero, List.getElem?_cons_succ, List.set_cons_zero, List.set_cons_succ, bx_eq, scr_eq, D.int.injEq, D.str.injEq, D.bl.injEq, Prod.mk.injEq, exists_eq_left, exists_eq_left', exists_and_left, exists_eq, exists_eq', true_and, and_true, List.length_map, decide_eq_true_eq, reduceCtorEq, if_true, if_false, Bool.not_true, Bool.not_false, Bool.false_eq_true, Option.some.injEq, Sl.ow.injEq, Sl.fz.injEq, D.lst.injEq, D.tup.injEq, D.dct.injEq, List.cons.injEq, and_assoc, and_self, Int.toNat_natCast, atI_0, atI_1, atI_2, strs_eq, bx_eq, scr_eq, sAug, iaddD, joinD, vSortSet, vSortK, listKD, dgetD, vSortG, iRangeD, mulXD, vRev, revD, vSortSetX, sortSetR, sortSDx, sPopTo, vLc2, noOwB, noOwB_blk, vMaxD, vMaxG, mEm, vZip, zipD, sindexXD, vLrD, sExt, sBad, vEnumT, vSumG, sEm, vFldA, vMeth, vMake, vNewM, sMemo, sMemoD, KVar, Slf, KPair]
  refine apart_l1 hm hg hv w _ _ hw ?_
  cases e : freeW ps w v with
  | false => rw [e] at hq; rw [if_neg (by decide)]; exact hq
  | true => rw [e] at hq; rw [if_pos rfl]; exact fun _ _ => hq
end TC

namespace TC
open PySem PySem.Spec PyProof.Rows L2
def subs : List Nat → List (List Nat)
  | [] => [[]]
  | c :: w => subs w ++ (subs w).map (c :: ·)
theorem subs_mem {s w : List Nat} (h : s.Sublist w) : s ∈ subs w := by
  induction h with
  | slnil => exact List.mem_singleton.mpr rfl
  | cons a _ ih => exact List.mem_append_left _ ih
  | cons_cons a _ ih => exact List.mem_append_right _ (List.mem_map.mpr ⟨_, ih, rfl⟩)
theorem subs_len : ∀ w : List Nat, (subs w).length = 2 ^ w.length
  | [] => rfl
  | c :: w => by
    rw [subs, List.length_append, List.length_map, subs_len w, List.length_cons, Nat.pow_succ]
    omega
theorem str_inj : ∀ {a b : List (List Nat)}, a.map D.str = b.map D.str → a = b
  | [], [], _ => rfl
  | [], _ :: _, h => by cases h
  | _ :: _, [], h => by cases h
  | x :: a, y :: b, h => by
    rw [List.map_cons, List.map_cons] at h
    injection h with h1 h2
    injection h1 with h1
    rw [h1, str_inj h2]
theorem alD_inj {m m' : Nat} {ps ps' : List (List Nat)} (h : alD m ps = alD m' ps') : m = m' ∧ ps = ps' := by
  unfold alD at h
  injection h with h
  injection h with _ h
  injection h with h1 h
  injection h with h2 _
  injection h1 with h1
  injection h2 with h2
  refine ⟨?_, str_inj h2⟩
  have := congrArg List.length h1
  rwa [Lt_len, Lt_len] at this
theorem pureD_str (x : List Nat) : pureD (.str x) = true := by simp [pureD]
theorem pure_strs : ∀ l : List (List Nat), pureL (l.map D.str) = true
  | [] => by simp [pureL]
  | x :: l => by rw [List.map_cons, pureL, pureD_str, pure_strs l]; rfl
theorem pure_al (m : Nat) (ps : List (List Nat)) : pureD (alD m ps) = true := by
  unfold alD
  simp [pureD, pureL, pureD_str, pure_strs]
end TC

namespace TC
open PySem PySem.Spec PyProof.Rows L2
/-! ### least words, letter by letter -/
theorem first_cons {ps : List (List Nat)} {c o : Nat} {w : List Nat} : o ∈ firstsL ps (c :: w) ↔ o = c ∨ (fr ps o c = true ∧ o ∈ firstsL ps w) := by
  rw [firstsL_mem, firstsL_mem]
  constructor
  · rintro ⟨p, q, e, h⟩
    cases p with
    | nil => injection e with e _; exact .inl e.symm
    | cons d p =>
      injection e with e1 e2
      subst e1
      exact .inr ⟨h c List.mem_cons_self, p, q, e2, fun d hd => h d (List.mem_cons_of_mem _ hd)⟩
  · rintro (rfl | ⟨h1, p, q, e, h⟩)
    · exact ⟨[], w, rfl, fun d hd => by cases hd⟩
    · refine ⟨c :: p, q, by rw [e]; rfl, fun d hd => ?_⟩
      rcases List.mem_cons.mp hd with rfl | hd
      · exact h1
      · exact h d hd
theorem lst_cons_iff {m : Nat} {ps : List (List Nat)} (hg : GoodP m ps) {c : Nat} {w : List Nat} : lst ps (c :: w) = c :: w ↔ (∀ o ∈ firstsL ps (c :: w), c ≤ o) ∧ lst ps w = w := by
  have hp := firstsL_pw hg (c :: w)
  have hc : c ∈ firstsL ps (c :: w) := first_cons.mpr (.inl rfl)
  have key : lst ps (c :: w) = match firstsL ps (c :: w) with | [] => [] | d :: _ => d :: lsL ps w.length ((c :: w).erase d) := by
    unfold lst
    rw [List.length_cons, lsL]
    cases firstsL ps (c :: w) <;> rfl
  rw [key]
  cases hL : firstsL ps (c :: w) with
  | nil => rw [hL] at hc; cases hc
  | cons d L =>
    rw [hL] at hp hc
    have hd := (List.pairwise_cons.mp hp).1
    constructor
    · intro h
      injection h with h1 h2
      subst h1
      rw [List.erase_cons_head] at h2
      refine ⟨fun o ho => ?_, h2⟩
      rcases List.mem_cons.mp ho with rfl | ho
      · exact Nat.le_refl _
      · exact Nat.le_of_lt (hd o ho)
    · rintro ⟨h1, h2⟩
      have h3 := h1 d List.mem_cons_self
      have h4 : d = c := by
        rcases List.mem_cons.mp hc with e | hc
        · exact e.symm
        · exact absurd (hd c hc) (by omega)
      subst h4
      show d :: lsL ps w.length ((d :: w).erase d) = d :: w
      rw [List.erase_cons_head]
      exact congrArg (d :: ·) h2
/-- the letters barred behind a letter -/
def bhL (m : Nat) (ps : List (List Nat)) (b : List Nat) (c : Nat) : List Nat := (Lt m).filter fun o => fr ps o c && (decide (o ∈ b) || decide (o < c))
def nxL (m : Nat) (b : List Nat) : List Nat := (Lt m).filter fun c => !decide (c ∈ b)
def wlL (m : Nat) (ps : List (List Nat)) : Nat → List Nat → List (List Nat)
  | 0, _ => [[]]
  | n + 1, b => (nxL m b).flatMap fun c => (wlL m ps n (bhL m ps b c)).map (c :: ·)
theorem nxL_mem {m c : Nat} {b : List Nat} : c ∈ nxL m b ↔ c ∈ Lt m ∧ c ∉ b := by
  unfold nxL
  rw [List.mem_filter]
  simp
theorem bhL_mem {m c o : Nat} {ps : List (List Nat)} {b : List Nat} : o ∈ bhL m ps b c ↔ o ∈ Lt m ∧ fr ps o c = true ∧ (o ∈ b ∨ o < c) := by
  unfold bhL
  rw [List.mem_filter]
  simp
theorem wlL_mem {m : Nat} {ps : List (List Nat)} (hg : GoodP m ps) : ∀ (n : Nat) (b w : List Nat), w ∈ wlL m ps n b ↔ w.length = n ∧ Wd_ m w ∧ (∀ o ∈ b, o ∉ firstsL ps w) ∧ lst ps w = w
  | 0, b, w => by
    rw [wlL, List.mem_singleton]
    constructor
    · rintro rfl
      exact ⟨rfl, fun c hc => (by cases hc), fun o _ h => (by have := firstsL_sub h; cases this), rfl⟩
    · exact fun h => List.length_eq_zero_iff.mp h.1
  | n + 1, b, w => by
    rw [wlL, List.mem_flatMap]
    constructor
    · rintro ⟨c, hc, h⟩
      obtain ⟨u, hu, rfl⟩ := List.mem_map.mp h
      obtain ⟨h1, h2, h3, h4⟩ := (wlL_mem hg n _ u).mp hu
      obtain ⟨c1, c2⟩ := nxL_mem.mp hc
      refine ⟨by rw [List.length_cons, h1], fun d hd => ?_, fun o ho hf => ?_, (lst_cons_iff hg).mpr ⟨fun o ho => ?_, h4⟩⟩
      · rcases List.mem_cons.mp hd with rfl | hd
        · exact c1
        · exact h2 d hd
      · rcases first_cons.mp hf with rfl | ⟨f1, f2⟩
        · exact c2 ho
        · exact h3 o (bhL_mem.mpr ⟨h2 o (firstsL_sub f2), f1, .inl ho⟩) f2
      · rcases first_cons.mp ho with rfl | ⟨f1, f2⟩
        · exact Nat.le_refl _
        · exact Classical.byContradiction fun hlt => h3 o (bhL_mem.mpr ⟨h2 o (firstsL_sub f2), f1, .inr (by omega)⟩) f2
    · rintro ⟨h1, h2, h3, h4⟩
      cases w with
      | nil => cases h1
      | cons c u =>
        obtain ⟨h5, h6⟩ := (lst_cons_iff hg).mp h4
        refine ⟨c, nxL_mem.mpr ⟨h2 c List.mem_cons_self, fun hb => h3 c hb (first_cons.mpr (.inl rfl))⟩, List.mem_map.mpr ⟨u, (wlL_mem hg n _ u).mpr ⟨by rw [List.length_cons] at h1; omega, fun d hd => h2 d (List.mem_cons_of_mem _ hd), fun o ho hf => ?_, h6⟩, rfl⟩⟩
        obtain ⟨_, f1, f2⟩ := bhL_mem.mp ho
        have hfc := first_cons.mpr (.inr ⟨f1, hf⟩)
        rcases f2 with f2 | f2
        · exact h3 o f2 hfc
        · exact absurd (h5 o hfc) (by omega)
theorem Lt_pw (m : Nat) : (Lt m).Pairwise (· < ·) := by
  unfold Lt
  rw [List.pairwise_map]
  exact List.pairwise_lt_range.imp fun h => by omega
theorem wlL_pw {m : Nat} {ps : List (List Nat)} : ∀ (n : Nat) (b : List Nat), (wlL m ps n b).Pairwise (· < ·)
  | 0, b => List.pairwise_singleton _ _
  | n + 1, b => by
    rw [wlL, List.pairwise_flatMap]
    refine ⟨fun c _ => List.pairwise_map.mpr ((wlL_pw n _).imp fun h => List.cons_lt_cons_iff.mpr (.inr ⟨rfl, h⟩)), ?_⟩
    refine (List.Pairwise.filter _ (Lt_pw m)).imp fun {c d} h x hx y hy => ?_
    obtain ⟨u, _, rfl⟩ := List.mem_map.mp hx
    obtain ⟨v, _, rfl⟩ := List.mem_map.mp hy
    exact List.cons_lt_cons_iff.mpr (.inl h)
theorem wlL_nodup {m : Nat} {ps : List (List Nat)} (n : Nat) (b : List Nat) : (wlL m ps n b).Nodup := (wlL_pw n b).imp fun {a b} h e => by rw [e] at h; exact List.lt_irrefl _ h
theorem wlL_len {m : Nat} {ps : List (List Nat)} : ∀ (n : Nat) (b : List Nat), (wlL m ps n b).length ≤ m ^ n
  | 0, b => Nat.le_refl _
  | n + 1, b => by
    rw [wlL, List.length_flatMap]
    have h1 : (nxL m b).length ≤ m := by
      have := List.length_filter_le (fun c => !decide (c ∈ b)) (Lt m)
      rw [Lt_len] at this
      exact this
    have h2 : ∀ L : List Nat, (L.map fun c => ((wlL m ps n (bhL m ps b c)).map (c :: ·)).length).sum ≤ L.length * m ^ n := by
      intro L
      induction L with
      | nil => simp
      | cons c L ih =>
        rw [List.map_cons, List.sum_cons, List.length_map, List.length_cons, Nat.succ_mul]
        have := wlL_len (m := m) (ps := ps) n (bhL m ps b c)
        omega
    refine Nat.le_trans (h2 _) ?_
    rw [Nat.pow_succ, Nat.mul_comm]
    exact Nat.mul_le_mul_left _ h1
end TC

namespace TC
open PySem PySem.Spec PyProof.Rows L2
/-! ### cliques -/
theorem wlL_split {m : Nat} {ps : List (List Nat)} (hg : GoodP m ps) (n : Nat) {X : List Nat} {x : Nat} (hx : x ∉ X) (hm : x ∈ Lt m) : (wlL m ps (n + 1) X).length = (wlL m ps (n + 1) (X ++ [x])).length + (wlL m ps n (X.filter fun o => fr ps o x)).length := by
  have hsplit := List.filter_append_perm (fun w => decide (x ∈ firstsL ps w)) (wlL m ps (n + 1) X)
  have hl := hsplit.length_eq
  rw [List.length_append] at hl
  have nd := wlL_nodup (m := m) (ps := ps) (n + 1) X
  have e1 : ((wlL m ps (n + 1) X).filter fun w => !decide (x ∈ firstsL ps w)).length = (wlL m ps (n + 1) (X ++ [x])).length := by
    refine List.Perm.length_eq ((List.perm_ext_iff_of_nodup (nd.filter _) (wlL_nodup _ _)).mpr fun w => ?_)
    rw [List.mem_filter, wlL_mem hg, wlL_mem hg]
    constructor
    · rintro ⟨⟨a, b, c, d⟩, e⟩
      refine ⟨a, b, fun o ho => ?_, d⟩
      rcases List.mem_append.mp ho with ho | ho
      · exact c o ho
      · rw [List.mem_singleton.mp ho]; simpa using e
    · rintro ⟨a, b, c, d⟩
      exact ⟨⟨a, b, fun o ho => c o (List.mem_append_left _ ho), d⟩, by simpa using c x (List.mem_append_right _ (List.mem_singleton.mpr rfl))⟩
  have e2 : ((wlL m ps (n + 1) X).filter fun w => decide (x ∈ firstsL ps w)).length = (wlL m ps n (X.filter fun o => fr ps o x)).length := by
    rw [← List.length_map (fun w => lst ps (w.erase x))]
    have nd2 : (((wlL m ps (n + 1) X).filter fun w => decide (x ∈ firstsL ps w)).map fun w => lst ps (w.erase x)).Nodup := by
      refine List.pairwise_map.mpr ((nd.filter _).imp_of_mem fun {w v} hw hv hne heq => hne ?_)
      rw [List.mem_filter, wlL_mem hg, decide_eq_true_eq] at hw hv
      obtain ⟨⟨_, b, _, d⟩, e⟩ := hw
      obtain ⟨⟨_, b', _, d'⟩, e'⟩ := hv
      have r1 := (first_reach hg e).trans ((lst_reach hg (w.erase x)).cons x)
      have r2 := (first_reach hg e').trans ((lst_reach hg (v.erase x)).cons x)
      have heq : lst ps (w.erase x) = lst ps (v.erase x) := heq
      rw [heq] at r1
      rw [← d, ← d', lst_eq hg b (r1.trans r2.symm)]
    refine List.Perm.length_eq ((List.perm_ext_iff_of_nodup nd2 (wlL_nodup _ _)).mpr fun t => ?_)
    rw [List.mem_map, wlL_mem hg]
    constructor
    · rintro ⟨w, hw, rfl⟩
      rw [List.mem_filter, wlL_mem hg, decide_eq_true_eq] at hw
      obtain ⟨⟨a, b, c, d⟩, e⟩ := hw
      have r1 := lst_reach hg (w.erase x)
      have we := b.erase x
      refine ⟨by rw [r1.len, List.length_erase_of_mem (firstsL_sub e), a]; rfl, r1.wd we, fun o ho hf => ?_, (lst_idem hg we).symm⟩
      rw [List.mem_filter] at ho
      rw [← firstsL_reach hg we r1] at hf
      refine c o ho.1 ?_
      rw [firstsL_reach hg b (first_reach hg e)]
      exact first_cons.mpr (.inr ⟨ho.2, hf⟩)
    · rintro ⟨a, b, c, d⟩
      have hw : Wd_ m (x :: t) := fun y hy => by
        rcases List.mem_cons.mp hy with rfl | hy
        · exact hm
        · exact b y hy
      have r := lst_reach hg (x :: t)
      have r' := r.wd hw
      obtain ⟨f1, f2⟩ := first_of_reach r' r.symm
      refine ⟨lst ps (x :: t), ?_, ?_⟩
      · rw [List.mem_filter, wlL_mem hg, decide_eq_true_eq]
        refine ⟨⟨by rw [r.len, List.length_cons, a], r', fun o ho hf => ?_, (lst_idem hg hw).symm⟩, f1⟩
        rw [← firstsL_reach hg hw r] at hf
        rcases first_cons.mp hf with rfl | ⟨g1, g2⟩
        · exact hx ho
        · exact c o (List.mem_filter.mpr ⟨ho, g1⟩) g2
      · rw [lst_eq hg (r'.erase x) f2, d]
  rw [e1, e2] at hl
  omega
/-- the cliques, as they are found -/
def clF (ps : List (List Nat)) : List Nat → List (List Nat) → List (List Nat)
  | [], F => F
  | x :: L, F => clF ps L (F ++ (F.filter fun c => freeW ps c [x]).map (· ++ [x]))
theorem clF_app (ps : List (List Nat)) : ∀ (L M : List Nat) (F : List (List Nat)), clF ps (L ++ M) F = clF ps M (clF ps L F)
  | [], _, _ => rfl
  | x :: L, M, F => clF_app ps L M _
theorem clF_snoc (ps : List (List Nat)) (L : List Nat) (x : Nat) (F : List (List Nat)) : clF ps (L ++ [x]) F = clF ps L F ++ ((clF ps L F).filter fun c => freeW ps c [x]).map (· ++ [x]) := clF_app ps L [x] F
theorem freeW_snoc (ps : List (List Nat)) (c : List Nat) (y x : Nat) : freeW ps (c ++ [y]) [x] = (freeW ps c [x] && fr ps y x) := by
  unfold freeW
  rw [List.all_append]
  simp
theorem snoc_ind {α : Type} {P : List α → Prop} (h0 : P []) (h1 : ∀ l x, P l → P (l ++ [x])) (l : List α) : P l := by
  have : ∀ r : List α, P r.reverse := by
    intro r
    induction r with
    | nil => exact h0
    | cons x r ih => rw [List.reverse_cons]; exact h1 _ _ ih
  have := this l.reverse
  rwa [List.reverse_reverse] at this
theorem clF_filter (ps : List (List Nat)) (x : Nat) (L : List Nat) : (clF ps L [[]]).filter (fun c => freeW ps c [x]) = clF ps (L.filter fun o => fr ps o x) [[]] := by
  refine snoc_ind (P := fun L => (clF ps L [[]]).filter (fun c => freeW ps c [x]) = clF ps (L.filter fun o => fr ps o x) [[]]) rfl (fun L y ih => ?_) L
  show (clF ps (L ++ [y]) [[]]).filter _ = clF ps ((L ++ [y]).filter _) [[]]
  have ih : (clF ps L [[]]).filter (fun c => freeW ps c [x]) = clF ps (L.filter fun o => fr ps o x) [[]] := ih
  rw [clF_snoc, List.filter_append, List.filter_append, List.filter_map, ih]
  have e : ((fun c => freeW ps c [x]) ∘ fun c : List Nat => c ++ [y]) = fun c => freeW ps c [x] && fr ps y x := funext fun c => freeW_snoc ps c y x
  rw [e]
  cases hf : fr ps y x with
  | false =>
    have e1 : ((clF ps L [[]]).filter fun c => freeW ps c [y]).filter (fun c => freeW ps c [x] && false) = [] := by
      rw [List.filter_eq_nil_iff]; intro a _; simp
    have e2 : [y].filter (fun o => fr ps o x) = [] := by simp [hf]
    rw [e1, e2, List.map_nil, List.append_nil, List.append_nil]
  | true =>
    have e1 : ((clF ps L [[]]).filter fun c => freeW ps c [y]).filter (fun c => freeW ps c [x] && true) = (clF ps (L.filter fun o => fr ps o x) [[]]).filter fun c => freeW ps c [y] := by
      rw [← ih, List.filter_filter, List.filter_filter]
      congr 1
      funext c
      rw [Bool.and_true, Bool.and_comm]
    have e2 : [y].filter (fun o => fr ps o x) = [y] := by simp [hf]
    rw [e1, e2, clF_snoc]
/-- the sum with signs -/
def sgT (T : Nat → Int) (n : Nat) (c : List Nat) : Int := if c.length ≤ n then (1 - 2 * ((c.length % 2 : Nat) : Int)) * T (n - c.length) else 0
def sumT (T : Nat → Int) (n : Nat) (F : List (List Nat)) : Int := (F.map (sgT T n)).sum
theorem sumT_app (T : Nat → Int) (n : Nat) (F G : List (List Nat)) : sumT T n (F ++ G) = sumT T n F + sumT T n G := by
  unfold sumT
  rw [List.map_append, List.sum_append]
theorem sgT_snoc (T : Nat → Int) (n : Nat) (c : List Nat) (x : Nat) : sgT T (n + 1) (c ++ [x]) = - sgT T n c := by
  unfold sgT
  rw [List.length_append, List.length_singleton]
  by_cases h : c.length ≤ n
  · rw [if_pos h, if_pos (by omega)]
    have e1 : n + 1 - (c.length + 1) = n - c.length := by omega
    have e2 : (1 - 2 * (((c.length + 1) % 2 : Nat) : Int)) = -(1 - 2 * ((c.length % 2 : Nat) : Int)) := by omega
    rw [e1, e2, Int.neg_mul]
  · rw [if_neg h, if_neg (by omega)]; rfl
theorem sumT_snoc (T : Nat → Int) (n : Nat) (F : List (List Nat)) (x : Nat) : sumT T (n + 1) (F.map (· ++ [x])) = - sumT T n F := by
  unfold sumT
  induction F with
  | nil => rfl
  | cons c F ih =>
    rw [List.map_cons, List.map_cons, List.sum_cons, List.map_cons, List.sum_cons, ih, sgT_snoc]
    omega
theorem sumT_zero_snoc (T : Nat → Int) (F : List (List Nat)) (x : Nat) : sumT T 0 (F.map (· ++ [x])) = 0 := by
  unfold sumT
  induction F with
  | nil => rfl
  | cons c F ih =>
    rw [List.map_cons, List.map_cons, List.sum_cons, ih]
    unfold sgT
    rw [if_neg (by rw [List.length_append, List.length_singleton]; omega)]
    rfl
theorem sum_cliques {m : Nat} {ps : List (List Nat)} (hg : GoodP m ps) : ∀ (k : Nat) (L : List Nat) (n : Nat), L.length ≤ k → L.Nodup → (∀ x ∈ L, x ∈ Lt m) → sumT (fun j => ((wlL m ps j []).length : Nat)) n (clF ps L [[]]) = ((wlL m ps n L).length : Nat)
  | 0, L, n, h, _, _ => by
    obtain rfl : L = [] := List.length_eq_zero_iff.mp (Nat.le_zero.mp h)
    simp [clF, sumT, sgT]
  | k + 1, L, n, h, nd, hL => by
    rcases List.eq_nil_or_concat L with rfl | ⟨M, x, rfl⟩
    · simp [clF, sumT, sgT]
    · rw [List.concat_eq_append] at h nd hL ⊢
      rw [List.length_append, List.length_singleton] at h
      obtain ⟨n1, _, n2⟩ := List.nodup_append.mp nd
      have hx : x ∉ M := fun hx => n2 x hx x (List.mem_singleton.mpr rfl) rfl
      have hM : ∀ y ∈ M, y ∈ Lt m := fun y hy => hL y (List.mem_append_left _ hy)
      rw [clF_snoc, sumT_app, clF_filter, sum_cliques hg k M n (by omega) n1 hM]
      cases n with
      | zero => rw [sumT_zero_snoc]; simp [wlL]
      | succ n =>
        have hfl := List.length_filter_le (fun o => fr ps o x) M
        rw [sumT_snoc, sum_cliques hg k (M.filter fun o => fr ps o x) n (by omega) (n1.filter _) fun y hy => hM y (List.mem_filter.mp hy).1]
        have := wlL_split hg n hx (hL x (List.mem_append_right _ (List.mem_singleton.mpr rfl)))
        omega
theorem perm_sum {a b : List Int} (h : a.Perm b) : a.sum = b.sum := by
  induction h with
  | nil => rfl
  | cons x _ ih => rw [List.sum_cons, List.sum_cons, ih]
  | swap x y l => simp only [List.sum_cons]; omega
  | trans _ _ ih1 ih2 => exact ih1.trans ih2
theorem Lt_nodup (m : Nat) : (Lt m).Nodup := (Lt_pw m).imp fun h => Nat.ne_of_lt h
theorem cliques_zero {m : Nat} {ps : List (List Nat)} (hg : GoodP m ps) (n : Nat) {F : List (List Nat)} (hF : F.Perm (clF ps (Lt m) [[]])) : sumT (fun j => ((wlL m ps j []).length : Nat)) (n + 1) F = 0 := by
  have e : sumT (fun j => ((wlL m ps j []).length : Nat)) (n + 1) F = sumT (fun j => ((wlL m ps j []).length : Nat)) (n + 1) (clF ps (Lt m) [[]]) := perm_sum (hF.map _)
  rw [e, sum_cliques hg _ (Lt m) (n + 1) (Nat.le_refl _) (Lt_nodup m) fun _ h => h]
  have : nxL m (Lt m) = [] := by
    unfold nxL
    rw [List.filter_eq_nil_iff]
    intro a ha
    simpa using ha
  rw [wlL, this]
  rfl
theorem clF_len (ps : List (List Nat)) : ∀ (L : List Nat) (F : List (List Nat)), (clF ps L F).length ≤ 2 ^ L.length * F.length
  | [], F => by simp [clF]
  | x :: L, F => by
    have h1 := clF_len ps L (F ++ (F.filter fun c => freeW ps c [x]).map (· ++ [x]))
    have h2 := List.length_filter_le (fun c => freeW ps c [x]) F
    rw [List.length_append, List.length_map] at h1
    rw [clF, List.length_cons, Nat.pow_succ]
    refine Nat.le_trans h1 (Nat.le_trans (Nat.mul_le_mul_left _ (show _ ≤ 2 * F.length by omega)) ?_)
    rw [Nat.mul_assoc]
    exact Nat.le_refl _
end TC

namespace TC
open PySem PySem.Spec PyProof.Rows L2
/-! ### the letters barred behind a letter -/
theorem joinL_flat : ∀ ys : List (List Nat), TL.joinL [] ys = ys.flatten
  | [] => rfl
  | [p] => by simp [TL.joinL]
  | p :: q :: r => by
    rw [TL.joinL, joinL_flat (q :: r)]
    rfl
theorem flat_one (l : List Nat) : (l.map fun c => [c]).flatten = l := by
  induction l with
  | nil => rfl
  | cons c l ih => rw [List.map_cons, List.flatten_cons, ih]; rfl
def bbS : Spc := fun ds Q _ => ∃ (m : Nat) (ps : List (List Nat)) (b : List Nat) (c : Nat), ds = [alD m ps, .str b, .str [c]] ∧ m ≤ 6 ∧ GoodP m ps ∧ c < 1000 ∧ Q (.str (bhL m ps b c))
def bbB (ps : List (List Nat)) (b : List Nat) (c o : Nat) : Bool := fr ps o c && (decide (o ∈ b) || decide (o < c))
theorem bb_loop {m : Nat} {ps : List (List Nat)} {b : List Nat} {c : Nat} (hm : m ≤ 6) (hg : GoodP m ps) (hc : c < 1000) {Q : List D → Prop} : ∀ (L acc : List Nat), (∀ o ∈ L, o < 1000) → acc.length + L.length < sizeLine → Q ((acc ++ L.filter (bbB ps b c)).map fun c => .str [c]) →
    loopD (gSet 3) (tAnd (tOf (vCall freeS (sCons (vVar 0) (sCons (vVar 3) (sCons (vVar 2) (sNil)))))) (tOr (tBl (v2 inD (vVar 3) (vVar 1))) (tBl (v2 ltD (vVar 3) (vVar 2))))) (bdE (vVar 3) (List D) lEm) [.fz (alD m ps), .fz (.str b), .fz (.str [c]), .no] (signs L) (acc.map fun c => .str [c]) Q := by
  intro L
  induction L with
  | nil =>
    intro acc _ hl hq
    rw [signs_nil, loopD_nil]
    simpa using hq
  | cons o L ih =>
    intro acc hL hl hq
    rw [signs_cons, loopD_cons]
    rw [List.length_cons] at hl
    have hL' := fun z hz => hL z (List.mem_cons_of_mem _ hz)
    generalize loopD (gSet 3) (tAnd (tOf (vCall freeS (sCons (vVar 0) (sCons (vVar 3) (sCons (vVar 2) (sNil)))))) (tOr (tBl (v2 inD (vVar 3) (vVar 1))) (tBl (v2 ltD (vVar 3) (vVar 2))))) (bdE (vVar 3) (List D) lEm) [.fz (alD m ps), .fz (.str b), .fz (.str [c]), .no] (signs L) = Fr at ih ⊢
    have e : acc.map (fun c => D.str [c]) ++ [D.str [o]] = (acc ++ [o]).map fun c => D.str [c] := by rw [List.map_append]; rfl
    have hyes : bbB ps b c o = true → acc.length < sizeLine ∧ Fr (acc.map (fun c => D.str [c]) ++ [D.str [o]]) Q := fun h => by
      rw [List.filter_cons_of_pos h] at hq
      refine ⟨by omega, ?_⟩
      rw [e]
      exact ih _ hL' (by rw [List.length_append, List.length_singleton]; omega) (by rw [List.append_assoc]; exact hq)
    have hno : bbB ps b c o = false → Fr (acc.map (fun c => D.str [c])) Q := fun h => by
      rw [List.filter_cons_of_neg (by rw [h]; decide)] at hq
      exact ih _ hL' (by omega) hq
    unfold bbB at hyes hno
    simp only [bdE, lEm, freeS, st0, List.map, List.length, List.replicate, List.cons_append, List.nil_append, sSeq, sSet, sIf, sRet, sRetN, sNext, sFor, sDrop, sApp, sStore, sBxSet, sAsg, put, settle, frz, vVar, vC, v2, v1, vB, vM, vTup, vLst, vSl, vCall, vIsi, vIf, vAnd, vOr, vNot, vChain, vDisp1, vDNewK, vBxI, vBxD, vBxNew, vScLen, vScIx, vEnum, enD, sNil, sCons, aNil, aCons, tOf, tBl, tAnd, tOr, tNot, truthD, boolD, iRange1, iRange2, iVal, iRaw, rawI, itemsD, pNo, pSome, slD, on1, on2, lenD, intD, addD, subD, mulD, fdivD, modD, powD, negD, ltD, leD, gtD, geD, eqD, neD, isD, isNotD, inD, notInD, ixD, tupD, listD, minD, maxD, gSet, gNilD, gConsD, gTupD, tyD, countD, sindexD, vLc, List.getElem?_cons_zero, List.getElem?_cons_succ, List.set_cons_zero, List.set_cons_succ, bx_eq, scr_eq, D.int.injEq, D.str.injEq, D.bl.injEq, Prod.mk.injEq, exists_eq_left, exists_eq_left', exists_and_left, exists_eq, exists_eq', true_and, and_true, List.length_map, decide_eq_true_eq, reduceCtorEq, if_true, if_false, Bool.not_true, Bool.not_false, Bool.false_eq_true, Option.some.injEq, Sl.ow.injEq, Sl.fz.injEq, D.lst.injEq, D.tup.injEq, D.dct.injEq, List.cons.injEq, and_assoc, and_self, Int.toNat_natCast, atI_0, atI_1, atI_2, strs_eq, bx_eq, scr_eq, sAug, iaddD, joinD, vSortSet, vSortK, listKD, dgetD, vSortG, iRangeD, mulXD, vRev, revD, vSortSetX, sortSetR, sortSDx, sPopTo, vLc2, noOwB, noOwB_blk, vMaxD, vMaxG, mEm, vZip, zipD, sindexXD, vLrD, sExt, sBad, vEnumT, vSumG, sEm, vFldA, vMeth, vMake, vNewM, sMemo, sMemoD, KVar, Slf, KPair]
    refine ⟨m, ps, rfl, hm, hg, hL o List.mem_cons_self, hc, ?_⟩
    have lt1 : ltL [o] [c] = decide (o < c) := by
      unfold ltL
      refine decide_eq_decide.mpr ?_
      rw [List.cons_lt_cons_iff]
      simp
    rw [lt1]
    cases h1 : fr ps o c with
    | false =>
      rw [if_neg (by decide)]
      exact hno (by rw [h1]; rfl)
    | true =>
      rw [if_pos rfl]
      by_cases h2 : o ∈ b
      · rw [if_pos h2]
        exact hyes (by rw [h1, decide_eq_true h2]; rfl)
      · rw [if_neg h2]
        by_cases h3 : o < c
        · rw [decide_eq_true h3, if_pos rfl]
          exact hyes (by rw [h1, decide_eq_true h3, Bool.or_true]; rfl)
        · rw [decide_eq_false h3, if_neg (by decide)]
          exact hno (by rw [decide_eq_false h2, decide_eq_false h3]; simp)
theorem Lt_small {m : Nat} (hm : m ≤ 6) : ∀ o ∈ Lt m, o < 1000 := fun o ho => by
  have := Lt_mem.mp ho
  omega
theorem p_bb (ds : List D) (Q : D → Prop) (E : Nat → D → Prop) (h : bbS ds Q E) : e_barred_behind freeS (st0 4 ds) { nx := fun _ => Q .non, rt := Q } := by
  obtain ⟨m, ps, b, c, rfl, hm, hg, hc, hq⟩ := h
  have hsz : (1000 : Nat) < sizeLine := by rw [sizeLine_eq]; decide
  have hL := Lt_len m
  simp only [e_barred_behind, vJoinG, alD, st0, List.map, List.length, List.replicate, List.cons_append, List.nil_append, sSeq, sSet, sIf, sRet, sRetN, sNext, sFor, sDrop, sApp, sStore, sBxSet, sAsg, put, settle, frz, vVar, vC, v2, v1, vB, vM, vTup, vLst, vSl, vCall, vIsi, vIf, vAnd, vOr, vNot, vChain, vDisp1, vDNewK, vBxI, vBxD, vBxNew, vScLen, vScIx, vEnum, enD, sNil, sCons, aNil, aCons, tOf, tBl, tAnd, tOr, tNot, truthD, boolD, iRange1, iRange2, iVal, iRaw, rawI, itemsD, pNo, pSome, slD, on1, on2, lenD, intD, addD, subD, mulD, fdivD, modD, powD, negD, ltD, leD, gtD, geD, eqD, neD, isD, isNotD, inD, notInD, ixD, tupD, listD, minD, maxD, gSet, gNilD, gConsD, gTupD, tyD, countD, sindexD, vLc, List.getElem?_cons_zero, List.getElem?_cons_succ, List.set_cons_zero, List.set_cons_succ, bx_eq, scr_eq, D.int.injEq, D.str.injEq, D.bl.injEq, Prod.mk.injEq, exists_eq_left, exists_eq_left', exists_and_left, exists_eq, exists_eq', true_and, and_true, List.length_map, decide_eq_true_eq, reduceCtorEq, if_true, if_false, Bool.not_true, Bool.not_false, Bool.false_eq_true, Option.some.injEq, Sl.ow.injEq, Sl.fz.injEq, D.lst.injEq, D.tup.injEq, D.dct.injEq, List.cons.injEq, and_assoc, and_self, Int.toNat_natCast, atI_0, atI_1, atI_2, strs_eq, bx_eq, scr_eq, sAug, iaddD, joinD, vSortSet, vSortK, listKD, dgetD, vSortG, iRangeD, mulXD, vRev, revD, vSortSetX, sortSetR, sortSDx, sPopTo, vLc2, noOwB, noOwB_blk, vMaxD, vMaxG, mEm, vZip, zipD, sindexXD, vLrD, sExt, sBad, vEnumT, vSumG, sEm, vFldA, vMeth, vMake, vNewM, sMemo, sMemoD, KVar, Slf, KPair]
  show loopD _ _ _ [.fz (alD m ps), .fz (.str b), .fz (.str [c]), .no] (signs (Lt m)) [] _
  refine bb_loop hm hg hc (Lt m) [] (Lt_small hm) (by rw [List.length_nil]; omega) ?_
  rw [List.nil_append]
  refine ⟨((Lt m).filter (bbB ps b c)).map fun c => [c], by rw [List.map_map]; rfl, ?_, ?_⟩
  · have e : (((Lt m).filter (bbB ps b c)).map fun c => [c]).map (·.length) = ((Lt m).filter (bbB ps b c)).map fun _ => 1 := by rw [List.map_map]; rfl
    have e2 : ∀ l : List Nat, (l.map fun _ => 1).sum = l.length := by
      intro l
      induction l with
      | nil => rfl
      | cons x l ih => rw [List.map_cons, List.sum_cons, ih, List.length_cons]; omega
    rw [e, e2]
    have := List.length_filter_le (bbB ps b c) (Lt m)
    simp only [List.length_nil, Nat.mul_zero]
    omega
  · rw [joinL_flat, flat_one]
    exact hq
/-! ### the letters that may come next -/
def nlR (m : Nat) (ps : List (List Nat)) (b : List Nat) (c : Nat) : D := .tup [.str [c], .str (bhL m ps b c)]
def nlS : Spc := fun ds Q _ => ∃ (m : Nat) (ps : List (List Nat)) (g : D) (b : List Nat), ds = [.obj 2 [alD m ps, g], .str b] ∧ m ≤ 6 ∧ GoodP m ps ∧ Q (.lst ((nxL m b).map (nlR m ps b)))
theorem nl_lc {m : Nat} {ps : List (List Nat)} {b : List Nat} {g : D} (hm : m ≤ 6) (hg : GoodP m ps) {Q : List D → Prop} : ∀ (L acc : List Nat), (∀ o ∈ L, o < 1000) → acc.length + L.length < sizeLine → Q ((acc ++ L.filter fun c => !decide (c ∈ b)).map (nlR m ps b)) →
    lcD (gSet 2) (tBl (v2 notInD (vVar 2) (vVar 1))) (vTup (sCons (vVar 2) (sCons (vCall bbS (sCons (vFldA (vVar 0)) (sCons (vVar 1) (sCons (vVar 2) (sNil))))) (sNil)))) [.fz (.obj 2 [alD m ps, g]), .fz (.str b), .no] (signs L) (acc.map (nlR m ps b)) Q := by
  intro L
  induction L with
  | nil =>
    intro acc _ hl hq
    rw [signs_nil, lcD_nil]
    simpa using hq
  | cons c L ih =>
    intro acc hL hl hq
    rw [signs_cons, lcD_cons]
    rw [List.length_cons] at hl
    have hL' := fun z hz => hL z (List.mem_cons_of_mem _ hz)
    have hc := hL c List.mem_cons_self
    generalize lcD (gSet 2) (tBl (v2 notInD (vVar 2) (vVar 1))) (vTup (sCons (vVar 2) (sCons (vCall bbS (sCons (vFldA (vVar 0)) (sCons (vVar 1) (sCons (vVar 2) (sNil))))) (sNil)))) [.fz (.obj 2 [alD m ps, g]), .fz (.str b), .no] (signs L) = Fr at ih ⊢
    simp only [bbS, st0, List.map, List.length, List.replicate, List.cons_append, List.nil_append, sSeq, sSet, sIf, sRet, sRetN, sNext, sFor, sDrop, sApp, sStore, sBxSet, sAsg, put, settle, frz, vVar, vC, v2, v1, vB, vM, vTup, vLst, vSl, vCall, vIsi, vIf, vAnd, vOr, vNot, vChain, vDisp1, vDNewK, vBxI, vBxD, vBxNew, vScLen, vScIx, vEnum, enD, sNil, sCons, aNil, aCons, tOf, tBl, tAnd, tOr, tNot, truthD, boolD, iRange1, iRange2, iVal, iRaw, rawI, itemsD, pNo, pSome, slD, on1, on2, lenD, intD, addD, subD, mulD, fdivD, modD, powD, negD, ltD, leD, gtD, geD, eqD, neD, isD, isNotD, inD, notInD, ixD, tupD, listD, minD, maxD, gSet, gNilD, gConsD, gTupD, tyD, countD, sindexD, vLc, List.getElem?_cons_zero, List.getElem?_cons_succ, List.set_cons_zero, List.set_cons_succ, bx_eq, scr_eq, D.int.injEq, D.str.injEq, D.bl.injEq, Prod.mk.injEq, exists_eq_left, exists_eq_left', exists_and_left, exists_eq, exists_eq', true_and, and_true, List.length_map, decide_eq_true_eq, reduceCtorEq, if_true, if_false, Bool.not_true, Bool.not_false, Bool.false_eq_true, Option.some.injEq, Sl.ow.injEq, Sl.fz.injEq, D.lst.injEq, D.tup.injEq, D.dct.injEq, List.cons.injEq, and_assoc, and_self, Int.toNat_natCast, atI_0, atI_1, atI_2, strs_eq, bx_eq, scr_eq, sAug, iaddD, joinD, vSortSet, vSortK, listKD, dgetD, vSortG, iRangeD, mulXD, vRev, revD, vSortSetX, sortSetR, sortSDx, sPopTo, vLc2, noOwB, noOwB_blk, vMaxD, vMaxG, mEm, vZip, zipD, sindexXD, vLrD, sExt, sBad, vEnumT, vSumG, sEm, vFldA, vMeth, vMake, vNewM, sMemo, sMemoD, KVar, Slf, KPair]
    by_cases h : c ∈ b
    · rw [decide_eq_true h, if_neg (by decide)]
      rw [List.filter_cons_of_neg (by simp [h])] at hq
      exact ih _ hL' (by omega) hq
    · rw [decide_eq_false h, if_pos (by decide)]
      rw [List.filter_cons_of_pos (by simp [h])] at hq
      refine ⟨alD m ps, g, rfl, m, ps, rfl, hm, hg, hc, by rw [sizeLine_eq]; decide, by omega, ?_⟩
      have e : acc.map (nlR m ps b) ++ [.tup [.str [c], .str (bhL m ps b c)]] = (acc ++ [c]).map (nlR m ps b) := by rw [List.map_append]; rfl
      rw [e]
      exact ih _ hL' (by rw [List.length_append, List.length_singleton]; omega) (by rw [List.append_assoc]; exact hq)
theorem p_next (ds : List D) (Q : D → Prop) (E : Nat → D → Prop) (h : nlS ds Q E) : e_next_letters bbS (st0 3 ds) { nx := fun _ => Q .non, rt := Q } := by
  obtain ⟨m, ps, g, b, rfl, hm, hg, hq⟩ := h
  have hsz : (1000 : Nat) < sizeLine := by rw [sizeLine_eq]; decide
  have hL := Lt_len m
  simp only [e_next_letters, st0, List.map, List.length, List.replicate, List.cons_append, List.nil_append, sSeq, sSet, sIf, sRet, sRetN, sNext, sFor, sDrop, sApp, sStore, sBxSet, sAsg, put, settle, frz, vVar, vC, v2, v1, vB, vM, vTup, vLst, vSl, vCall, vIsi, vIf, vAnd, vOr, vNot, vChain, vDisp1, vDNewK, vBxI, vBxD, vBxNew, vScLen, vScIx, vEnum, enD, sNil, sCons, aNil, aCons, tOf, tBl, tAnd, tOr, tNot, truthD, boolD, iRange1, iRange2, iVal, iRaw, rawI, itemsD, pNo, pSome, slD, on1, on2, lenD, intD, addD, subD, mulD, fdivD, modD, powD, negD, ltD, leD, gtD, geD, eqD, neD, isD, isNotD, inD, notInD, ixD, tupD, listD, minD, maxD, gSet, gNilD, gConsD, gTupD, tyD, countD, sindexD, vLc, List.getElem?_cons_zero, List.getElem?_cons_succ, List.set_cons_zero, List.set_cons_succ, bx_eq, scr_eq, D.int.injEq, D.str.injEq, D.bl.injEq, Prod.mk.injEq, exists_eq_left, exists_eq_left', exists_and_left, exists_eq, exists_eq', true_and, and_true, List.length_map, decide_eq_true_eq, reduceCtorEq, if_true, if_false, Bool.not_true, Bool.not_false, Bool.false_eq_true, Option.some.injEq, Sl.ow.injEq, Sl.fz.injEq, D.lst.injEq, D.tup.injEq, D.dct.injEq, List.cons.injEq, and_assoc, and_self, Int.toNat_natCast, atI_0, atI_1, atI_2, strs_eq, bx_eq, scr_eq, sAug, iaddD, joinD, vSortSet, vSortK, listKD, dgetD, vSortG, iRangeD, mulXD, vRev, revD, vSortSetX, sortSetR, sortSDx, sPopTo, vLc2, noOwB, noOwB_blk, vMaxD, vMaxG, mEm, vZip, zipD, sindexXD, vLrD, sExt, sBad, vEnumT, vSumG, sEm, vFldA, vMeth, vMake, vNewM, sMemo, sMemoD, KVar, Slf, KPair]
  refine ⟨_, _, rfl, ?_⟩
  simp only [alD, st0, List.map, List.length, List.replicate, List.cons_append, List.nil_append, sSeq, sSet, sIf, sRet, sRetN, sNext, sFor, sDrop, sApp, sStore, sBxSet, sAsg, put, settle, frz, vVar, vC, v2, v1, vB, vM, vTup, vLst, vSl, vCall, vIsi, vIf, vAnd, vOr, vNot, vChain, vDisp1, vDNewK, vBxI, vBxD, vBxNew, vScLen, vScIx, vEnum, enD, sNil, sCons, aNil, aCons, tOf, tBl, tAnd, tOr, tNot, truthD, boolD, iRange1, iRange2, iVal, iRaw, rawI, itemsD, pNo, pSome, slD, on1, on2, lenD, intD, addD, subD, mulD, fdivD, modD, powD, negD, ltD, leD, gtD, geD, eqD, neD, isD, isNotD, inD, notInD, ixD, tupD, listD, minD, maxD, gSet, gNilD, gConsD, gTupD, tyD, countD, sindexD, vLc, List.getElem?_cons_zero, List.getElem?_cons_succ, List.set_cons_zero, List.set_cons_succ, bx_eq, scr_eq, D.int.injEq, D.str.injEq, D.bl.injEq, Prod.mk.injEq, exists_eq_left, exists_eq_left', exists_and_left, exists_eq, exists_eq', true_and, and_true, List.length_map, decide_eq_true_eq, reduceCtorEq, if_true, if_false, Bool.not_true, Bool.not_false, Bool.false_eq_true, Option.some.injEq, Sl.ow.injEq, Sl.fz.injEq, D.lst.injEq, D.tup.injEq, D.dct.injEq, List.cons.injEq, and_assoc, and_self, Int.toNat_natCast, atI_0, atI_1, atI_2, strs_eq, bx_eq, scr_eq, sAug, iaddD, joinD, vSortSet, vSortK, listKD, dgetD, vSortG, iRangeD, mulXD, vRev, revD, vSortSetX, sortSetR, sortSDx, sPopTo, vLc2, noOwB, noOwB_blk, vMaxD, vMaxG, mEm, vZip, zipD, sindexXD, vLrD, sExt, sBad, vEnumT, vSumG, sEm, vFldA, vMeth, vMake, vNewM, sMemo, sMemoD, KVar, Slf, KPair]
  show lcD _ _ _ [.fz (.obj 2 [alD m ps, g]), .fz (.str b), .no] (signs (Lt m)) [] _
  exact nl_lc hm hg (Lt m) [] (Lt_small hm) (by rw [List.length_nil]; omega) (by rw [List.nil_append]; exact hq)
/-! ### how many traces -/
/-- what the dict holds -/
def cMF : MemF := fun al g key i => ∃ (m : Nat) (ps : List (List Nat)) (n : Nat) (b : List Nat), al = alD m ps ∧ m ≤ 6 ∧ n ≤ 20 ∧ b.Sublist (Lt m) ∧ key = .tup [.int (n : Nat), .str b] ∧ i = ((wlL m ps n b).length : Nat)
theorem cMF_fin : MemFin cMF := fun al g => by
  by_cases h : ∃ (m : Nat) (ps : List (List Nat)), al = alD m ps ∧ m ≤ 6
  · obtain ⟨m, ps, rfl, hm⟩ := h
    refine ⟨(List.range 21).flatMap fun n => (subs (Lt m)).map fun b => .tup [.int (n : Nat), .str b], ?_, fun k i hk => ?_⟩
    · rw [List.length_flatMap]
      have e : (List.range 21).map (fun n => ((subs (Lt m)).map fun b => D.tup [.int (n : Nat), .str b]).length) = (List.range 21).map fun _ => 2 ^ m := List.map_congr_left fun n _ => by rw [List.length_map, subs_len, Lt_len]
      rw [e]
      have h2 : 2 ^ m ≤ 2 ^ 6 := Nat.pow_le_pow_right (by decide) hm
      have e3 : ∀ (k x : Nat), ((List.range k).map fun _ => x).sum = k * x := by
        intro k x
        induction k with
        | zero => simp
        | succ k ih => rw [List.range_succ, List.map_append, List.sum_append, ih, Nat.succ_mul]; simp
      rw [e3]
      omega
    · obtain ⟨m', ps', n, b, e, _, hn, hb, rfl, _⟩ := hk
      obtain ⟨rfl, rfl⟩ := alD_inj e
      exact List.mem_flatMap.mpr ⟨n, List.mem_range.mpr (by omega), List.mem_map.mpr ⟨b, subs_mem hb, rfl⟩⟩
  · exact ⟨[], by decide, fun k i ⟨m, ps, n, b, e, hm, _⟩ => absurd ⟨m, ps, e, hm⟩ h⟩
theorem cMF_val {m : Nat} {ps : List (List Nat)} {g : D} {n : Nat} {b : List Nat} {v : Int} (h : cMF (alD m ps) g (.tup [.int (n : Nat), .str b]) v) : v = ((wlL m ps n b).length : Nat) := by
  obtain ⟨m', ps', n', b', e, _, _, _, e2, e3⟩ := h
  obtain ⟨rfl, rfl⟩ := alD_inj e
  injection e2 with e2
  injection e2 with e4 e5
  injection e5 with e5 _
  injection e4 with e4
  injection e5 with e5
  have e4 : n = n' := by omega
  subst e4 e5
  exact e3
theorem bhL_sub (m : Nat) (ps : List (List Nat)) (b : List Nat) (c : Nat) : (bhL m ps b c).Sublist (Lt m) := List.filter_sublist
def cntS (n : Nat) : Spc := fun ds Q _ => ∃ (m : Nat) (ps : List (List Nat)) (k : Nat) (b : List Nat), ds = [.obj 2 [alD m ps, .non], .int (k : Nat), .str b] ∧ m ≤ 6 ∧ GoodP m ps ∧ k ≤ n ∧ k ≤ 20 ∧ b.Sublist (Lt m) ∧ Q (.int ((wlL m ps k b).length : Nat))
theorem cnt_loop {n m : Nat} {ps : List (List Nat)} {k : Nat} {b : List Nat} {Q : Int → Prop} (hm : m ≤ 6) (hg : GoodP m ps) (hk : k ≤ n) (hk2 : k + 1 ≤ 20) : ∀ (L : List Nat) (st : Int), Q (st + ((L.map fun c => (wlL m ps k (bhL m ps b c)).length).sum : Nat)) →
    loopD (gTupD 2 (gConsD (gSet 3) (gConsD (gSet 4) (gNilD)))) (tsNil) (bdE (vMeth (cntS n) (vVar 0) (sCons (v2 subD (vVar 1) (vC (.int 1))) (sCons (vVar 4) (sNil)))) _ sEm) [.fz (.obj 2 [alD m ps, .non]), .fz (.int ((k + 1 : Nat) : Int)), .fz (.str b), .no, .no] (L.map (nlR m ps b)) st Q := by
  intro L
  induction L with
  | nil =>
    intro st hq
    rw [List.map_nil, loopD_nil]
    simpa using hq
  | cons c L ih =>
    intro st hq
    rw [List.map_cons, loopD_cons]
    generalize loopD (gTupD 2 (gConsD (gSet 3) (gConsD (gSet 4) (gNilD)))) (tsNil) (bdE (vMeth (cntS n) (vVar 0) (sCons (v2 subD (vVar 1) (vC (.int 1))) (sCons (vVar 4) (sNil)))) _ sEm) [.fz (.obj 2 [alD m ps, .non]), .fz (.int ((k + 1 : Nat) : Int)), .fz (.str b), .no, .no] (L.map (nlR m ps b)) = Lp at ih ⊢
    simp only [nlR, tsNil, bdE, cntS, st0, List.map, List.length, List.replicate, List.cons_append, List.nil_append, sSeq, sSet, sIf, sRet, sRetN, sNext, sFor, sDrop, sApp, sStore, sBxSet, sAsg, put, settle, frz, vVar, vC, v2, v1, vB, vM, vTup, vLst, vSl, vCall, vIsi, vIf, vAnd, vOr, vNot, vChain, vDisp1, vDNewK, vBxI, vBxD, vBxNew, vScLen, vScIx, vEnum, enD, sNil, sCons, aNil, aCons, tOf, tBl, tAnd, tOr, tNot, truthD, boolD, iRange1, iRange2, iVal, iRaw, rawI, itemsD, pNo, pSome, slD, on1, on2, lenD, intD, addD, subD, mulD, fdivD, modD, powD, negD, ltD, leD, gtD, geD, eqD, neD, isD, isNotD, inD, notInD, ixD, tupD, listD, minD, maxD, gSet, gNilD, gConsD, gTupD, tyD, countD, sindexD, vLc, List.getElem?_cons_zero, List.getElem?_cons_succ, List.set_cons_zero, List.set_cons_succ, bx_eq, scr_eq, D.int.injEq, D.str.injEq, D.bl.injEq, Prod.mk.injEq, exists_eq_left, exists_eq_left', exists_and_left, exists_eq, exists_eq', true_and, and_true, List.length_map, decide_eq_true_eq, reduceCtorEq, if_true, if_false, Bool.not_true, Bool.not_false, Bool.false_eq_true, Option.some.injEq, Sl.ow.injEq, Sl.fz.injEq, D.lst.injEq, D.tup.injEq, D.dct.injEq, List.cons.injEq, and_assoc, and_self, Int.toNat_natCast, atI_0, atI_1, atI_2, strs_eq, bx_eq, scr_eq, sAug, iaddD, joinD, vSortSet, vSortK, listKD, dgetD, vSortG, iRangeD, mulXD, vRev, revD, vSortSetX, sortSetR, sortSDx, sPopTo, vLc2, noOwB, noOwB_blk, vMaxD, vMaxG, mEm, vZip, zipD, sindexXD, vLrD, sExt, sBad, vEnumT, vSumG, sEm, vFldA, vMeth, vMake, vNewM, sMemo, sMemoD, KVar, Slf, KPair]
    refine ⟨_, _, rfl, m, ps, rfl, k, ?_⟩
    refine ⟨by omega, hm, hg, hk, by omega, bhL_sub m ps b c, ?_⟩
    refine ih _ ?_
    rw [List.map_cons, List.sum_cons] at hq
    have e : st + (((wlL m ps k (bhL m ps b c)).length + (L.map fun c => (wlL m ps k (bhL m ps b c)).length).sum : Nat) : Int) = st + ((wlL m ps k (bhL m ps b c)).length : Nat) + ((L.map fun c => (wlL m ps k (bhL m ps b c)).length).sum : Nat) := by omega
    rw [e] at hq
    exact hq
theorem wlL_step {m : Nat} {ps : List (List Nat)} (k : Nat) (b : List Nat) : (wlL m ps (k + 1) b).length = ((nxL m b).map fun c => (wlL m ps k (bhL m ps b c)).length).sum := by
  rw [wlL, List.length_flatMap]
  congr 1
  exact List.map_congr_left fun c _ => List.length_map _
theorem p_count0 (ds : List D) (Q : D → Prop) (E : Nat → D → Prop) (h : cntS 0 ds Q E) : e_count cMF nlS noS (st0 5 ds) { nx := fun _ => Q .non, rt := Q } := by
  obtain ⟨m, ps, k, b, rfl, hm, hg, hk, _, hb, hq⟩ := h
  obtain rfl := Nat.le_zero.mp hk
  have k0 := ok_int (i := 0)
  simp only [e_count, eqv_int, k0, Int.natCast_zero, st0, List.map, List.length, List.replicate, List.cons_append, List.nil_append, sSeq, sSet, sIf, sRet, sRetN, sNext, sFor, sDrop, sApp, sStore, sBxSet, sAsg, put, settle, frz, vVar, vC, v2, v1, vB, vM, vTup, vLst, vSl, vCall, vIsi, vIf, vAnd, vOr, vNot, vChain, vDisp1, vDNewK, vBxI, vBxD, vBxNew, vScLen, vScIx, vEnum, enD, sNil, sCons, aNil, aCons, tOf, tBl, tAnd, tOr, tNot, truthD, boolD, iRange1, iRange2, iVal, iRaw, rawI, itemsD, pNo, pSome, slD, on1, on2, lenD, intD, addD, subD, mulD, fdivD, modD, powD, negD, ltD, leD, gtD, geD, eqD, neD, isD, isNotD, inD, notInD, ixD, tupD, listD, minD, maxD, gSet, gNilD, gConsD, gTupD, tyD, countD, sindexD, vLc, List.getElem?_cons_zero, List.getElem?_cons_succ, List.set_cons_zero, List.set_cons_succ, bx_eq, scr_eq, D.int.injEq, D.str.injEq, D.bl.injEq, Prod.mk.injEq, exists_eq_left, exists_eq_left', exists_and_left, exists_eq, exists_eq', true_and, and_true, List.length_map, decide_eq_true_eq, reduceCtorEq, if_true, if_false, Bool.not_true, Bool.not_false, Bool.false_eq_true, Option.some.injEq, Sl.ow.injEq, Sl.fz.injEq, D.lst.injEq, D.tup.injEq, D.dct.injEq, List.cons.injEq, and_assoc, and_self, Int.toNat_natCast, atI_0, atI_1, atI_2, strs_eq, bx_eq, scr_eq, sAug, iaddD, joinD, vSortSet, vSortK, listKD, dgetD, vSortG, iRangeD, mulXD, vRev, revD, vSortSetX, sortSetR, sortSDx, sPopTo, vLc2, noOwB, noOwB_blk, vMaxD, vMaxG, mEm, vZip, zipD, sindexXD, vLrD, sExt, sBad, vEnumT, vSumG, sEm, vFldA, vMeth, vMake, vNewM, sMemo, sMemoD, KVar, Slf, KPair]
  exact hq
theorem p_count (n : Nat) (ds : List D) (Q : D → Prop) (E : Nat → D → Prop) (h : cntS (n + 1) ds Q E) : e_count cMF nlS (cntS n) (st0 5 ds) { nx := fun _ => Q .non, rt := Q } := by
  obtain ⟨m, ps, k, b, rfl, hm, hg, hk, hk2, hb, hq⟩ := h
  have k0 := ok_int (i := 0)
  have k1 := ok_int (i := (k : Int))
  simp only [e_count, eqv_int, k0, k1, st0, List.map, List.length, List.replicate, List.cons_append, List.nil_append, sSeq, sSet, sIf, sRet, sRetN, sNext, sFor, sDrop, sApp, sStore, sBxSet, sAsg, put, settle, frz, vVar, vC, v2, v1, vB, vM, vTup, vLst, vSl, vCall, vIsi, vIf, vAnd, vOr, vNot, vChain, vDisp1, vDNewK, vBxI, vBxD, vBxNew, vScLen, vScIx, vEnum, enD, sNil, sCons, aNil, aCons, tOf, tBl, tAnd, tOr, tNot, truthD, boolD, iRange1, iRange2, iVal, iRaw, rawI, itemsD, pNo, pSome, slD, on1, on2, lenD, intD, addD, subD, mulD, fdivD, modD, powD, negD, ltD, leD, gtD, geD, eqD, neD, isD, isNotD, inD, notInD, ixD, tupD, listD, minD, maxD, gSet, gNilD, gConsD, gTupD, tyD, countD, sindexD, vLc, List.getElem?_cons_zero, List.getElem?_cons_succ, List.set_cons_zero, List.set_cons_succ, bx_eq, scr_eq, D.int.injEq, D.str.injEq, D.bl.injEq, Prod.mk.injEq, exists_eq_left, exists_eq_left', exists_and_left, exists_eq, exists_eq', true_and, and_true, List.length_map, decide_eq_true_eq, reduceCtorEq, if_true, if_false, Bool.not_true, Bool.not_false, Bool.false_eq_true, Option.some.injEq, Sl.ow.injEq, Sl.fz.injEq, D.lst.injEq, D.tup.injEq, D.dct.injEq, List.cons.injEq, and_assoc, and_self, Int.toNat_natCast, atI_0, atI_1, atI_2, strs_eq, bx_eq, scr_eq, sAug, iaddD, joinD, vSortSet, vSortK, listKD, dgetD, vSortG, iRangeD, mulXD, vRev, revD, vSortSetX, sortSetR, sortSDx, sPopTo, vLc2, noOwB, noOwB_blk, vMaxD, vMaxG, mEm, vZip, zipD, sindexXD, vLrD, sExt, sBad, vEnumT, vSumG, sEm, vFldA, vMeth, vMake, vNewM, sMemo, sMemoD, KVar, Slf, KPair]
  cases k with
  | zero => rw [if_pos (by rfl)]; exact hq
  | succ k =>
    rw [if_neg (by omega)]
    refine ⟨alD m ps, .non, .tup [.int ((k + 1 : Nat) : Int), .str b], ⟨_, rfl, rfl⟩, rfl, rfl, fun v hv => ?_, fun _ => ⟨_, _, rfl, m, ps, .non, b, rfl, hm, hg, ?_⟩⟩
    · rw [cMF_val hv]
      exact hq
    · show loopD _ _ _ [.fz (.obj 2 [alD m ps, .non]), .fz (.int ((k + 1 : Nat) : Int)), .fz (.str b), .no, .no] _ 0 _
      refine cnt_loop hm hg (by omega) hk2 _ 0 ?_
      rw [← wlL_step, Int.zero_add]
      exact ⟨rfl, m, ps, k + 1, b, rfl, hm, hk2, hb, rfl, rfl⟩
def ctS : Spc := fun ds Q _ => ∃ (m : Nat) (ps : List (List Nat)) (k : Nat), ds = [alD m ps, .int (k : Nat)] ∧ m ≤ 6 ∧ GoodP m ps ∧ k ≤ 14 ∧ Q (.int ((wlL m ps k []).length : Nat))
theorem p_count_traces (ds : List D) (Q : D → Prop) (E : Nat → D → Prop) (h : ctS ds Q E) : e_count_traces cMF (cntS 14) (st0 2 ds) { nx := fun _ => Q .non, rt := Q } := by
  obtain ⟨m, ps, k, rfl, hm, hg, hk, hq⟩ := h
  simp only [e_count_traces, cntS, st0, List.map, List.length, List.replicate, List.cons_append, List.nil_append, sSeq, sSet, sIf, sRet, sRetN, sNext, sFor, sDrop, sApp, sStore, sBxSet, sAsg, put, settle, frz, vVar, vC, v2, v1, vB, vM, vTup, vLst, vSl, vCall, vIsi, vIf, vAnd, vOr, vNot, vChain, vDisp1, vDNewK, vBxI, vBxD, vBxNew, vScLen, vScIx, vEnum, enD, sNil, sCons, aNil, aCons, tOf, tBl, tAnd, tOr, tNot, truthD, boolD, iRange1, iRange2, iVal, iRaw, rawI, itemsD, pNo, pSome, slD, on1, on2, lenD, intD, addD, subD, mulD, fdivD, modD, powD, negD, ltD, leD, gtD, geD, eqD, neD, isD, isNotD, inD, notInD, ixD, tupD, listD, minD, maxD, gSet, gNilD, gConsD, gTupD, tyD, countD, sindexD, vLc, List.getElem?_cons_zero, List.getElem?_cons_succ, List.set_cons_zero, List.set_cons_succ, bx_eq, scr_eq, D.int.injEq, D.str.injEq, D.bl.injEq, Prod.mk.injEq, exists_eq_left, exists_eq_left', exists_and_left, exists_eq, exists_eq', true_and, and_true, List.length_map, decide_eq_true_eq, reduceCtorEq, if_true, if_false, Bool.not_true, Bool.not_false, Bool.false_eq_true, Option.some.injEq, Sl.ow.injEq, Sl.fz.injEq, D.lst.injEq, D.tup.injEq, D.dct.injEq, List.cons.injEq, and_assoc, and_self, Int.toNat_natCast, atI_0, atI_1, atI_2, strs_eq, bx_eq, scr_eq, sAug, iaddD, joinD, vSortSet, vSortK, listKD, dgetD, vSortG, iRangeD, mulXD, vRev, revD, vSortSetX, sortSetR, sortSDx, sPopTo, vLc2, noOwB, noOwB_blk, vMaxD, vMaxG, mEm, vZip, zipD, sindexXD, vLrD, sExt, sBad, vEnumT, vSumG, sEm, vFldA, vMeth, vMake, vNewM, sMemo, sMemoD, KVar, Slf, KPair]
  exact ⟨pure_al m ps, .non, _, _, rfl, m, ps, rfl, k, rfl, hm, hg, hk, by omega, List.nil_sublist _, hq⟩
/-! ### the least words -/
def wrdS (n : Nat) : Spc := fun ds Q _ => ∃ (m : Nat) (ps : List (List Nat)) (g : D) (k : Nat) (b : List Nat), ds = [.obj 2 [alD m ps, g], .int (k : Nat), .str b] ∧ m ≤ 4 ∧ GoodP m ps ∧ k ≤ n ∧ k ≤ 4 ∧ Q (.lst ((wlL m ps k b).map D.str))
theorem copy_lc2 {g b : D} {k : Int} {c : Nat} {x : D} {Q : List D → Prop} : ∀ (L acc : List (List Nat)), acc.length + L.length < sizeLine → (∀ w ∈ L, w.length < 1000) → Q ((acc ++ L.map (c :: ·)).map D.str) →
    lcD (gSet 5) tsNil (v2 addD (vVar 3) (vVar 5)) [.fz g, .fz (.int k), .fz b, .fz (.str [c]), .fz x, .no] (L.map D.str) (acc.map D.str) Q := by
  intro L
  induction L with
  | nil =>
    intro acc _ _ hq
    rw [List.map_nil, lcD_nil]
    simpa using hq
  | cons w L ih =>
    intro acc hl hL hq
    rw [List.map_cons, lcD_cons]
    rw [List.length_cons] at hl
    have hw := hL w List.mem_cons_self
    generalize lcD (gSet 5) tsNil (v2 addD (vVar 3) (vVar 5)) [.fz g, .fz (.int k), .fz b, .fz (.str [c]), .fz x, .no] (L.map D.str) = Lp at ih ⊢
    have hsz : (2000 : Nat) < sizeLine := by rw [sizeLine_eq]; decide
    simp only [tsNil, st0, List.map, List.length, List.replicate, List.cons_append, List.nil_append, sSeq, sSet, sIf, sRet, sRetN, sNext, sFor, sDrop, sApp, sStore, sBxSet, sAsg, put, settle, frz, vVar, vC, v2, v1, vB, vM, vTup, vLst, vSl, vCall, vIsi, vIf, vAnd, vOr, vNot, vChain, vDisp1, vDNewK, vBxI, vBxD, vBxNew, vScLen, vScIx, vEnum, enD, sNil, sCons, aNil, aCons, tOf, tBl, tAnd, tOr, tNot, truthD, boolD, iRange1, iRange2, iVal, iRaw, rawI, itemsD, pNo, pSome, slD, on1, on2, lenD, intD, addD, subD, mulD, fdivD, modD, powD, negD, ltD, leD, gtD, geD, eqD, neD, isD, isNotD, inD, notInD, ixD, tupD, listD, minD, maxD, gSet, gNilD, gConsD, gTupD, tyD, countD, sindexD, vLc, List.getElem?_cons_zero, List.getElem?_cons_succ, List.set_cons_zero, List.set_cons_succ, bx_eq, scr_eq, D.int.injEq, D.str.injEq, D.bl.injEq, Prod.mk.injEq, exists_eq_left, exists_eq_left', exists_and_left, exists_eq, exists_eq', true_and, and_true, List.length_map, decide_eq_true_eq, reduceCtorEq, if_true, if_false, Bool.not_true, Bool.not_false, Bool.false_eq_true, Option.some.injEq, Sl.ow.injEq, Sl.fz.injEq, D.lst.injEq, D.tup.injEq, D.dct.injEq, List.cons.injEq, and_assoc, and_self, Int.toNat_natCast, atI_0, atI_1, atI_2, strs_eq, bx_eq, scr_eq, sAug, iaddD, joinD, vSortSet, vSortK, listKD, dgetD, vSortG, iRangeD, mulXD, vRev, revD, vSortSetX, sortSetR, sortSDx, sPopTo, vLc2, noOwB, noOwB_blk, vMaxD, vMaxG, mEm, vZip, zipD, sindexXD, vLrD, sExt, sBad, vEnumT, vSumG, sEm, vFldA, vMeth, vMake, vNewM, sMemo, sMemoD, KVar, Slf, KPair]
    refine ⟨by omega, by omega, ?_⟩
    have e : acc.map D.str ++ [D.str (c :: w)] = (acc ++ [c :: w]).map D.str := by rw [List.map_append]; rfl
    rw [e]
    refine ih _ (by rw [List.length_append, List.length_singleton]; omega) (fun v hv => hL v (List.mem_cons_of_mem _ hv)) ?_
    rw [List.append_assoc]
    exact hq
theorem wrd_lc {n m : Nat} {ps : List (List Nat)} {g : D} {k : Nat} {b : List Nat} {Q : List D → Prop} (hm : m ≤ 4) (hg : GoodP m ps) (hk : k ≤ n) (hk2 : k + 1 ≤ 4) : ∀ (L : List Nat) (acc : List (List Nat)), acc.length + L.length * 256 < 3000 → Q ((acc ++ L.flatMap fun c => (wlL m ps k (bhL m ps b c)).map (c :: ·)).map D.str) →
    lc2D [5] (iVal (vMeth (wrdS n) (vVar 0) (sCons (v2 subD (vVar 1) (vC (.int 1))) (sCons (vVar 4) (sNil))))) (gTupD 2 (gConsD (gSet 3) (gConsD (gSet 4) (gNilD)))) (gSet 5) tsNil tsNil (v2 addD (vVar 3) (vVar 5)) [.fz (.obj 2 [alD m ps, g]), .fz (.int ((k + 1 : Nat) : Int)), .fz (.str b), .no, .no, .no] (L.map (nlR m ps b)) (acc.map D.str) Q := by
  intro L
  induction L with
  | nil =>
    intro acc _ hq
    rw [List.map_nil, lc2D]
    simpa using hq
  | cons c L ih =>
    intro acc hl hq
    rw [List.map_cons, lc2D]
    rw [List.length_cons, Nat.add_mul] at hl
    generalize lc2D [5] (iVal (vMeth (wrdS n) (vVar 0) (sCons (v2 subD (vVar 1) (vC (.int 1))) (sCons (vVar 4) (sNil))))) (gTupD 2 (gConsD (gSet 3) (gConsD (gSet 4) (gNilD)))) (gSet 5) tsNil tsNil (v2 addD (vVar 3) (vVar 5)) [.fz (.obj 2 [alD m ps, g]), .fz (.int ((k + 1 : Nat) : Int)), .fz (.str b), .no, .no, .no] (L.map (nlR m ps b)) = Lp at ih ⊢
    have hsz : (3000 : Nat) < sizeLine := by rw [sizeLine_eq]; decide
    have h1 := wlL_len (m := m) (ps := ps) k (bhL m ps b c)
    have h2 : m ^ k ≤ 4 ^ k := Nat.pow_le_pow_left hm k
    have h3 : 4 ^ k ≤ 4 ^ 4 := Nat.pow_le_pow_right (by decide) (by omega)
    have h4 : (4 : Nat) ^ 4 = 256 := by decide
    simp only [nlR, tsNil, wrdS, wipeD, st0, List.map, List.length, List.replicate, List.cons_append, List.nil_append, sSeq, sSet, sIf, sRet, sRetN, sNext, sFor, sDrop, sApp, sStore, sBxSet, sAsg, put, settle, frz, vVar, vC, v2, v1, vB, vM, vTup, vLst, vSl, vCall, vIsi, vIf, vAnd, vOr, vNot, vChain, vDisp1, vDNewK, vBxI, vBxD, vBxNew, vScLen, vScIx, vEnum, enD, sNil, sCons, aNil, aCons, tOf, tBl, tAnd, tOr, tNot, truthD, boolD, iRange1, iRange2, iVal, iRaw, rawI, itemsD, pNo, pSome, slD, on1, on2, lenD, intD, addD, subD, mulD, fdivD, modD, powD, negD, ltD, leD, gtD, geD, eqD, neD, isD, isNotD, inD, notInD, ixD, tupD, listD, minD, maxD, gSet, gNilD, gConsD, gTupD, tyD, countD, sindexD, vLc, List.getElem?_cons_zero, List.getElem?_cons_succ, List.set_cons_zero, List.set_cons_succ, bx_eq, scr_eq, D.int.injEq, D.str.injEq, D.bl.injEq, Prod.mk.injEq, exists_eq_left, exists_eq_left', exists_and_left, exists_eq, exists_eq', true_and, and_true, List.length_map, decide_eq_true_eq, reduceCtorEq, if_true, if_false, Bool.not_true, Bool.not_false, Bool.false_eq_true, Option.some.injEq, Sl.ow.injEq, Sl.fz.injEq, D.lst.injEq, D.tup.injEq, D.dct.injEq, List.cons.injEq, and_assoc, and_self, Int.toNat_natCast, atI_0, atI_1, atI_2, strs_eq, bx_eq, scr_eq, sAug, iaddD, joinD, vSortSet, vSortK, listKD, dgetD, vSortG, iRangeD, mulXD, vRev, revD, vSortSetX, sortSetR, sortSDx, sPopTo, vLc2, noOwB, noOwB_blk, vMaxD, vMaxG, mEm, vZip, zipD, sindexXD, vLrD, sExt, sBad, vEnumT, vSumG, sEm, vFldA, vMeth, vMake, vNewM, sMemo, sMemoD, KVar, Slf, KPair]
    refine ⟨_, _, rfl, m, ps, g, rfl, k, ?_⟩
    refine ⟨by omega, hm, hg, hk, by omega, ?_⟩
    refine copy_lc2 _ acc (by omega) (fun w hw => by have := ((wlL_mem hg _ _ _).mp hw).1; omega) ?_
    refine ih _ (by rw [List.length_append, List.length_map]; omega) ?_
    rw [List.append_assoc]
    rw [List.flatMap_cons] at hq
    exact hq
theorem p_words0 (ds : List D) (Q : D → Prop) (E : Nat → D → Prop) (h : wrdS 0 ds Q E) : e_words nlS noS (st0 6 ds) { nx := fun _ => Q .non, rt := Q } := by
  obtain ⟨m, ps, g, k, b, rfl, hm, hg, hk, _, hq⟩ := h
  obtain rfl := Nat.le_zero.mp hk
  have k0 := ok_int (i := 0)
  simp only [e_words, eqv_int, k0, Int.natCast_zero, st0, List.map, List.length, List.replicate, List.cons_append, List.nil_append, sSeq, sSet, sIf, sRet, sRetN, sNext, sFor, sDrop, sApp, sStore, sBxSet, sAsg, put, settle, frz, vVar, vC, v2, v1, vB, vM, vTup, vLst, vSl, vCall, vIsi, vIf, vAnd, vOr, vNot, vChain, vDisp1, vDNewK, vBxI, vBxD, vBxNew, vScLen, vScIx, vEnum, enD, sNil, sCons, aNil, aCons, tOf, tBl, tAnd, tOr, tNot, truthD, boolD, iRange1, iRange2, iVal, iRaw, rawI, itemsD, pNo, pSome, slD, on1, on2, lenD, intD, addD, subD, mulD, fdivD, modD, powD, negD, ltD, leD, gtD, geD, eqD, neD, isD, isNotD, inD, notInD, ixD, tupD, listD, minD, maxD, gSet, gNilD, gConsD, gTupD, tyD, countD, sindexD, vLc, List.getElem?_cons_zero, List.getElem?_cons_succ, List.set_cons_zero, List.set_cons_succ, bx_eq, scr_eq, D.int.injEq, D.str.injEq, D.bl.injEq, Prod.mk.injEq, exists_eq_left, exists_eq_left', exists_and_left, exists_eq, exists_eq', true_and, and_true, List.length_map, decide_eq_true_eq, reduceCtorEq, if_true, if_false, Bool.not_true, Bool.not_false, Bool.false_eq_true, Option.some.injEq, Sl.ow.injEq, Sl.fz.injEq, D.lst.injEq, D.tup.injEq, D.dct.injEq, List.cons.injEq, and_assoc, and_self, Int.toNat_natCast, atI_0, atI_1, atI_2, strs_eq, bx_eq, scr_eq, sAug, iaddD, joinD, vSortSet, vSortK, listKD, dgetD, vSortG, iRangeD, mulXD, vRev, revD, vSortSetX, sortSetR, sortSDx, sPopTo, vLc2, noOwB, noOwB_blk, vMaxD, vMaxG, mEm, vZip, zipD, sindexXD, vLrD, sExt, sBad, vEnumT, vSumG, sEm, vFldA, vMeth, vMake, vNewM, sMemo, sMemoD, KVar, Slf, KPair]
  first | exact hq | exact ⟨Nat.zero_le _, hq⟩ | exact ⟨by rw [sizeLine_eq]; decide, hq⟩
theorem nxL_len (m : Nat) (b : List Nat) : (nxL m b).length ≤ m := by
  have := List.length_filter_le (fun c => !decide (c ∈ b)) (Lt m)
  rw [Lt_len] at this
  exact this
theorem p_words (n : Nat) (ds : List D) (Q : D → Prop) (E : Nat → D → Prop) (h : wrdS (n + 1) ds Q E) : e_words nlS (wrdS n) (st0 6 ds) { nx := fun _ => Q .non, rt := Q } := by
  obtain ⟨m, ps, g, k, b, rfl, hm, hg, hk, hk2, hq⟩ := h
  have k0 := ok_int (i := 0)
  have k1 := ok_int (i := (k : Int))
  simp only [e_words, eqv_int, k0, k1, st0, List.map, List.length, List.replicate, List.cons_append, List.nil_append, sSeq, sSet, sIf, sRet, sRetN, sNext, sFor, sDrop, sApp, sStore, sBxSet, sAsg, put, settle, frz, vVar, vC, v2, v1, vB, vM, vTup, vLst, vSl, vCall, vIsi, vIf, vAnd, vOr, vNot, vChain, vDisp1, vDNewK, vBxI, vBxD, vBxNew, vScLen, vScIx, vEnum, enD, sNil, sCons, aNil, aCons, tOf, tBl, tAnd, tOr, tNot, truthD, boolD, iRange1, iRange2, iVal, iRaw, rawI, itemsD, pNo, pSome, slD, on1, on2, lenD, intD, addD, subD, mulD, fdivD, modD, powD, negD, ltD, leD, gtD, geD, eqD, neD, isD, isNotD, inD, notInD, ixD, tupD, listD, minD, maxD, gSet, gNilD, gConsD, gTupD, tyD, countD, sindexD, vLc, List.getElem?_cons_zero, List.getElem?_cons_succ, List.set_cons_zero, List.set_cons_succ, bx_eq, scr_eq, D.int.injEq, D.str.injEq, D.bl.injEq, Prod.mk.injEq, exists_eq_left, exists_eq_left', exists_and_left, exists_eq, exists_eq', true_and, and_true, List.length_map, decide_eq_true_eq, reduceCtorEq, if_true, if_false, Bool.not_true, Bool.not_false, Bool.false_eq_true, Option.some.injEq, Sl.ow.injEq, Sl.fz.injEq, D.lst.injEq, D.tup.injEq, D.dct.injEq, List.cons.injEq, and_assoc, and_self, Int.toNat_natCast, atI_0, atI_1, atI_2, strs_eq, bx_eq, scr_eq, sAug, iaddD, joinD, vSortSet, vSortK, listKD, dgetD, vSortG, iRangeD, mulXD, vRev, revD, vSortSetX, sortSetR, sortSDx, sPopTo, vLc2, noOwB, noOwB_blk, vMaxD, vMaxG, mEm, vZip, zipD, sindexXD, vLrD, sExt, sBad, vEnumT, vSumG, sEm, vFldA, vMeth, vMake, vNewM, sMemo, sMemoD, KVar, Slf, KPair]
  cases k with
  | zero =>
    rw [if_pos (by rfl)]
    first | exact hq | exact ⟨Nat.zero_le _, hq⟩ | exact ⟨by rw [sizeLine_eq]; decide, hq⟩
  | succ k =>
    rw [if_neg (by omega)]
    have hnx := nxL_len m b
    refine ⟨_, _, rfl, m, ps, g, b, rfl, by omega, hg, ?_⟩
    show lc2D _ _ _ _ _ _ _ [.fz (.obj 2 [alD m ps, g]), .fz (.int ((k + 1 : Nat) : Int)), .fz (.str b), .no, .no, .no] _ ([].map D.str) _
    refine wrd_lc hm hg (by omega) (by omega) _ [] (by rw [List.length_nil]; omega) ?_
    rw [List.nil_append]
    exact hq
def trS : Spc := fun ds Q _ => ∃ (m : Nat) (ps : List (List Nat)) (k : Nat), ds = [alD m ps, .int (k : Nat)] ∧ m ≤ 4 ∧ GoodP m ps ∧ k ≤ 4 ∧ Q (.tup ((wlL m ps k []).map D.str))
theorem p_traces (ds : List D) (Q : D → Prop) (E : Nat → D → Prop) (h : trS ds Q E) : e_traces cMF (wrdS 4) (st0 2 ds) { nx := fun _ => Q .non, rt := Q } := by
  obtain ⟨m, ps, k, rfl, hm, hg, hk, hq⟩ := h
  have hsz : (3000 : Nat) < sizeLine := by rw [sizeLine_eq]; decide
  have h1 := wlL_len (m := m) (ps := ps) k []
  have h2 : m ^ k ≤ 4 ^ k := Nat.pow_le_pow_left hm k
  have h3 : 4 ^ k ≤ 4 ^ 4 := Nat.pow_le_pow_right (by decide) (by omega)
  have h4 : (4 : Nat) ^ 4 = 256 := by decide
  simp only [e_traces, wrdS, st0, List.map, List.length, List.replicate, List.cons_append, List.nil_append, sSeq, sSet, sIf, sRet, sRetN, sNext, sFor, sDrop, sApp, sStore, sBxSet, sAsg, put, settle, frz, vVar, vC, v2, v1, vB, vM, vTup, vLst, vSl, vCall, vIsi, vIf, vAnd, vOr, vNot, vChain, vDisp1, vDNewK, vBxI, vBxD, vBxNew, vScLen, vScIx, vEnum, enD, sNil, sCons, aNil, aCons, tOf, tBl, tAnd, tOr, tNot, truthD, boolD, iRange1, iRange2, iVal, iRaw, rawI, itemsD, pNo, pSome, slD, on1, on2, lenD, intD, addD, subD, mulD, fdivD, modD, powD, negD, ltD, leD, gtD, geD, eqD, neD, isD, isNotD, inD, notInD, ixD, tupD, listD, minD, maxD, gSet, gNilD, gConsD, gTupD, tyD, countD, sindexD, vLc, List.getElem?_cons_zero, List.getElem?_cons_succ, List.set_cons_zero, List.set_cons_succ, bx_eq, scr_eq, D.int.injEq, D.str.injEq, D.bl.injEq, Prod.mk.injEq, exists_eq_left, exists_eq_left', exists_and_left, exists_eq, exists_eq', true_and, and_true, List.length_map, decide_eq_true_eq, reduceCtorEq, if_true, if_false, Bool.not_true, Bool.not_false, Bool.false_eq_true, Option.some.injEq, Sl.ow.injEq, Sl.fz.injEq, D.lst.injEq, D.tup.injEq, D.dct.injEq, List.cons.injEq, and_assoc, and_self, Int.toNat_natCast, atI_0, atI_1, atI_2, strs_eq, bx_eq, scr_eq, sAug, iaddD, joinD, vSortSet, vSortK, listKD, dgetD, vSortG, iRangeD, mulXD, vRev, revD, vSortSetX, sortSetR, sortSDx, sPopTo, vLc2, noOwB, noOwB_blk, vMaxD, vMaxG, mEm, vZip, zipD, sindexXD, vLrD, sExt, sBad, vEnumT, vSumG, sEm, vFldA, vMeth, vMake, vNewM, sMemo, sMemoD, KVar, Slf, KPair]
  exact ⟨pure_al m ps, .non, _, _, rfl, m, ps, .non, rfl, k, rfl, hm, hg, hk, hk, hq⟩
end TC

namespace TC
open PySem PySem.Spec PyProof.Rows L2
/-! ### cliques, found -/
def clS : Spc := fun ds Q _ => ∃ (m : Nat) (ps : List (List Nat)), ds = [alD m ps] ∧ m ≤ 6 ∧ GoodP m ps ∧ Q (.lst ((sortK (clF ps (Lt m) [[]])).map D.str))
def clTS : Spc := fun ds Q _ => ∃ (m : Nat) (ps : List (List Nat)), ds = [alD m ps] ∧ m ≤ 6 ∧ GoodP m ps ∧ Q (.tup ((sortK (clF ps (Lt m) [[]])).map D.str))
/-- words of which all letters are small, none of them long -/
def Sml (F : List (List Nat)) (n : Nat) : Prop := ∀ c ∈ F, (∀ x ∈ c, x < 1000) ∧ c.length ≤ n
theorem Sml.snoc {F : List (List Nat)} {n x : Nat} {P : List Nat → Bool} (h : Sml F n) (hx : x < 1000) : Sml (F ++ (F.filter P).map (· ++ [x])) (n + 1) := fun c hc => by
  rcases List.mem_append.mp hc with hc | hc
  · exact ⟨(h c hc).1, Nat.le_succ_of_le (h c hc).2⟩
  · obtain ⟨d, hd, rfl⟩ := List.mem_map.mp hc
    have hd := h d (List.mem_filter.mp hd).1
    refine ⟨fun y hy => ?_, by rw [List.length_append, List.length_singleton]; omega⟩
    rcases List.mem_append.mp hy with hy | hy
    · exact hd.1 y hy
    · rw [List.mem_singleton.mp hy]; exact hx
theorem cl_lc {m : Nat} {ps : List (List Nat)} {s1 : Sl} {x n : Nat} (hm : m ≤ 6) (hg : GoodP m ps) (hx : x < 1000) {Q : List D → Prop} : ∀ (L acc : List (List Nat)), Sml L n → n < 1000 → acc.length + L.length < 3000 → Q ((acc ++ (L.filter fun c => freeW ps c [x]).map (· ++ [x])).map D.str) →
    lcD (gSet 3) (tOf (vCall freeWS (sCons (vVar 0) (sCons (vVar 3) (sCons (vVar 2) (sNil)))))) (v2 addD (vVar 3) (vVar 2)) [.fz (alD m ps), s1, .fz (.str [x]), .no] (L.map D.str) (acc.map D.str) Q := by
  intro L
  induction L with
  | nil =>
    intro acc _ _ _ hq
    rw [List.map_nil, lcD_nil]
    simpa using hq
  | cons c L ih =>
    intro acc hs hn hl hq
    rw [List.map_cons, lcD_cons]
    rw [List.length_cons] at hl
    have hc := hs c List.mem_cons_self
    have hs' : Sml L n := fun z hz => hs z (List.mem_cons_of_mem _ hz)
    have hsz : (3000 : Nat) < sizeLine := by rw [sizeLine_eq]; decide
    generalize lcD (gSet 3) (tOf (vCall freeWS (sCons (vVar 0) (sCons (vVar 3) (sCons (vVar 2) (sNil)))))) (v2 addD (vVar 3) (vVar 2)) [.fz (alD m ps), s1, .fz (.str [x]), .no] (L.map D.str) = Lp at ih ⊢
    simp only [freeWS, st0, List.map, List.length, List.replicate, List.cons_append, List.nil_append, sSeq, sSet, sIf, sRet, sRetN, sNext, sFor, sDrop, sApp, sStore, sBxSet, sAsg, put, settle, frz, vVar, vC, v2, v1, vB, vM, vTup, vLst, vSl, vCall, vIsi, vIf, vAnd, vOr, vNot, vChain, vDisp1, vDNewK, vBxI, vBxD, vBxNew, vScLen, vScIx, vEnum, enD, sNil, sCons, aNil, aCons, tOf, tBl, tAnd, tOr, tNot, truthD, boolD, iRange1, iRange2, iVal, iRaw, rawI, itemsD, pNo, pSome, slD, on1, on2, lenD, intD, addD, subD, mulD, fdivD, modD, powD, negD, ltD, leD, gtD, geD, eqD, neD, isD, isNotD, inD, notInD, ixD, tupD, listD, minD, maxD, gSet, gNilD, gConsD, gTupD, tyD, countD, sindexD, vLc, List.getElem?_cons_zero, List.getElem?_cons_succ, List.set_cons_zero, List.set_cons_succ, bx_eq, scr_eq, D.int.injEq, D.str.injEq, D.bl.injEq, Prod.mk.injEq, exists_eq_left, exists_eq_left', exists_and_left, exists_eq, exists_eq', true_and, and_true, List.length_map, decide_eq_true_eq, reduceCtorEq, if_true, if_false, Bool.not_true, Bool.not_false, Bool.false_eq_true, Option.some.injEq, Sl.ow.injEq, Sl.fz.injEq, D.lst.injEq, D.tup.injEq, D.dct.injEq, List.cons.injEq, and_assoc, and_self, Int.toNat_natCast, atI_0, atI_1, atI_2, strs_eq, bx_eq, scr_eq, sAug, iaddD, joinD, vSortSet, vSortK, listKD, dgetD, vSortG, iRangeD, mulXD, vRev, revD, vSortSetX, sortSetR, sortSDx, sPopTo, vLc2, noOwB, noOwB_blk, vMaxD, vMaxG, mEm, vZip, zipD, sindexXD, vLrD, sExt, sBad, vEnumT, vSumG, sEm, vFldA, vMeth, vMake, vNewM, sMemo, sMemoD, KVar, Slf, KPair]
    refine ⟨m, ps, rfl, hm, hg, hc.1, fun y hy => by rw [List.mem_singleton.mp hy]; exact hx, by decide, ?_⟩
    cases h : freeW ps c [x] with
    | false =>
      rw [List.filter_cons_of_neg (by rw [h]; decide)] at hq
      rw [if_neg (by decide)]
      exact ih _ hs' hn (by omega) hq
    | true =>
      rw [List.filter_cons_of_pos (by rw [h])] at hq
      rw [if_pos rfl]
      refine ⟨by have := hc.2; omega, by omega, ?_⟩
      have e : acc.map D.str ++ [D.str (c ++ [x])] = (acc ++ [c ++ [x]]).map D.str := by rw [List.map_append]; rfl
      rw [e]
      exact ih _ hs' hn (by rw [List.length_append, List.length_singleton]; omega) (by rw [List.append_assoc]; exact hq)
theorem cl_len {ps : List (List Nat)} {x : Nat} (F : List (List Nat)) : ((F.filter fun c => freeW ps c [x]).map (· ++ [x])).length ≤ F.length := by
  rw [List.length_map]
  exact List.length_filter_le _ _
theorem clq_l1 {m : Nat} {ps : List (List Nat)} {Z : EndsD} (hm : m ≤ 6) (hg : GoodP m ps) : ∀ (L : List Nat) (F : List (List Nat)) (n : Nat) (s2 s3 : Sl), (∀ x ∈ L, x < 1000) → Sml F n → n + L.length < 1000 → 2 ^ L.length * F.length < 1000 → (∀ s2 s3, Z.nx [.fz (alD m ps), .ow (.lst ((clF ps L F).map D.str)), s2, s3]) →
    forD (gSet 2) (l1_cliques freeWS) (signs L) [.fz (alD m ps), .ow (.lst (F.map D.str)), s2, s3] Z := by
  intro L
  induction L with
  | nil =>
    intro F n s2 s3 _ _ _ _ hz
    rw [signs_nil, forD_nil]
    exact hz s2 s3
  | cons x L ih =>
    intro F n s2 s3 hL hs hn hl hz
    rw [signs_cons, forD_cons]
    rw [List.length_cons] at hn hl
    rw [Nat.pow_succ] at hl
    have hx := hL x List.mem_cons_self
    have hp : 1 ≤ 2 ^ L.length := Nat.one_le_two_pow
    have hF : F.length < 1000 := by
      have : 1 * F.length ≤ 2 ^ L.length * 2 * F.length := Nat.mul_le_mul_right _ (by omega)
      omega
    have hcl := cl_len (ps := ps) (x := x) F
    have hsz : (3000 : Nat) < sizeLine := by rw [sizeLine_eq]; decide
    generalize forD (gSet 2) (l1_cliques freeWS) (signs L) = Fr at ih ⊢
    simp only [l1_cliques, st0, List.map, List.length, List.replicate, List.cons_append, List.nil_append, sSeq, sSet, sIf, sRet, sRetN, sNext, sFor, sDrop, sApp, sStore, sBxSet, sAsg, put, settle, frz, vVar, vC, v2, v1, vB, vM, vTup, vLst, vSl, vCall, vIsi, vIf, vAnd, vOr, vNot, vChain, vDisp1, vDNewK, vBxI, vBxD, vBxNew, vScLen, vScIx, vEnum, enD, sNil, sCons, aNil, aCons, tOf, tBl, tAnd, tOr, tNot, truthD, boolD, iRange1, iRange2, iVal, iRaw, rawI, itemsD, pNo, pSome, slD, on1, on2, lenD, intD, addD, subD, mulD, fdivD, modD, powD, negD, ltD, leD, gtD, geD, eqD, neD, isD, isNotD, inD, notInD, ixD, tupD, listD, minD, maxD, gSet, gNilD, gConsD, gTupD, tyD, countD, sindexD, vLc, List.getElem?_cons_zero, List.getElem?_cons_succ, List.set_cons_zero, List.set_cons_succ, bx_eq, scr_eq, D.int.injEq, D.str.injEq, D.bl.injEq, Prod.mk.injEq, exists_eq_left, exists_eq_left', exists_and_left, exists_eq, exists_eq', true_and, and_true, List.length_map, decide_eq_true_eq, reduceCtorEq, if_true, if_false, Bool.not_true, Bool.not_false, Bool.false_eq_true, Option.some.injEq, Sl.ow.injEq, Sl.fz.injEq, D.lst.injEq, D.tup.injEq, D.dct.injEq, List.cons.injEq, and_assoc, and_self, Int.toNat_natCast, atI_0, atI_1, atI_2, strs_eq, bx_eq, scr_eq, sAug, iaddD, joinD, vSortSet, vSortK, listKD, dgetD, vSortG, iRangeD, mulXD, vRev, revD, vSortSetX, sortSetR, sortSDx, sPopTo, vLc2, noOwB, noOwB_blk, vMaxD, vMaxG, mEm, vZip, zipD, sindexXD, vLrD, sExt, sBad, vEnumT, vSumG, sEm, vFldA, vMeth, vMake, vNewM, sMemo, sMemoD, KVar, Slf, KPair]
    show lcD _ _ _ [.fz (alD m ps), _, .fz (.str [x]), .no] _ ([].map D.str) _
    refine cl_lc hm hg hx F [] hs (by omega) (by rw [List.length_nil]; omega) ?_
    rw [List.nil_append, ← List.map_append]
    refine ⟨by rw [List.length_map]; omega, ?_⟩
    refine ih _ (n + 1) _ _ (fun y hy => hL y (List.mem_cons_of_mem _ hy)) (hs.snoc hx) (by omega) ?_ hz
    rw [List.length_append]
    refine Nat.lt_of_le_of_lt (Nat.mul_le_mul_left _ (show _ ≤ 2 * F.length by omega)) ?_
    rw [← Nat.mul_assoc]
    exact hl
theorem lclq_l1 {m : Nat} {ps : List (List Nat)} {Z : EndsD} (hm : m ≤ 6) (hg : GoodP m ps) : ∀ (L : List Nat) (F : List (List Nat)) (n : Nat) (s2 s3 : Sl), (∀ x ∈ L, x < 1000) → Sml F n → n + L.length < 1000 → 2 ^ L.length * F.length < 1000 → (∀ s2 s3, Z.nx [.fz (alD m ps), .ow (.lst ((clF ps L F).map D.str)), s2, s3]) →
    forD (gSet 2) (l1__law_cliques freeWS) (signs L) [.fz (alD m ps), .ow (.lst (F.map D.str)), s2, s3] Z := by
  intro L
  induction L with
  | nil =>
    intro F n s2 s3 _ _ _ _ hz
    rw [signs_nil, forD_nil]
    exact hz s2 s3
  | cons x L ih =>
    intro F n s2 s3 hL hs hn hl hz
    rw [signs_cons, forD_cons]
    rw [List.length_cons] at hn hl
    rw [Nat.pow_succ] at hl
    have hx := hL x List.mem_cons_self
    have hp : 1 ≤ 2 ^ L.length := Nat.one_le_two_pow
    have hF : F.length < 1000 := by
      have : 1 * F.length ≤ 2 ^ L.length * 2 * F.length := Nat.mul_le_mul_right _ (by omega)
      omega
    have hcl := cl_len (ps := ps) (x := x) F
    have hsz : (3000 : Nat) < sizeLine := by rw [sizeLine_eq]; decide
    generalize forD (gSet 2) (l1__law_cliques freeWS) (signs L) = Fr at ih ⊢
    simp only [l1__law_cliques, st0, List.map, List.length, List.replicate, List.cons_append, List.nil_append, sSeq, sSet, sIf, sRet, sRetN, sNext, sFor, sDrop, sApp, sStore, sBxSet, sAsg, put, settle, frz, vVar, vC, v2, v1, vB, vM, vTup, vLst, vSl, vCall, vIsi, vIf, vAnd, vOr, vNot, vChain, vDisp1, vDNewK, vBxI, vBxD, vBxNew, vScLen, vScIx, vEnum, enD, sNil, sCons, aNil, aCons, tOf, tBl, tAnd, tOr, tNot, truthD, boolD, iRange1, iRange2, iVal, iRaw, rawI, itemsD, pNo, pSome, slD, on1, on2, lenD, intD, addD, subD, mulD, fdivD, modD, powD, negD, ltD, leD, gtD, geD, eqD, neD, isD, isNotD, inD, notInD, ixD, tupD, listD, minD, maxD, gSet, gNilD, gConsD, gTupD, tyD, countD, sindexD, vLc, List.getElem?_cons_zero, List.getElem?_cons_succ, List.set_cons_zero, List.set_cons_succ, bx_eq, scr_eq, D.int.injEq, D.str.injEq, D.bl.injEq, Prod.mk.injEq, exists_eq_left, exists_eq_left', exists_and_left, exists_eq, exists_eq', true_and, and_true, List.length_map, decide_eq_true_eq, reduceCtorEq, if_true, if_false, Bool.not_true, Bool.not_false, Bool.false_eq_true, Option.some.injEq, Sl.ow.injEq, Sl.fz.injEq, D.lst.injEq, D.tup.injEq, D.dct.injEq, List.cons.injEq, and_assoc, and_self, Int.toNat_natCast, atI_0, atI_1, atI_2, strs_eq, bx_eq, scr_eq, sAug, iaddD, joinD, vSortSet, vSortK, listKD, dgetD, vSortG, iRangeD, mulXD, vRev, revD, vSortSetX, sortSetR, sortSDx, sPopTo, vLc2, noOwB, noOwB_blk, vMaxD, vMaxG, mEm, vZip, zipD, sindexXD, vLrD, sExt, sBad, vEnumT, vSumG, sEm, vFldA, vMeth, vMake, vNewM, sMemo, sMemoD, KVar, Slf, KPair]
    show lcD _ _ _ [.fz (alD m ps), _, .fz (.str [x]), .no] _ ([].map D.str) _
    refine cl_lc hm hg hx F [] hs (by omega) (by rw [List.length_nil]; omega) ?_
    rw [List.nil_append, ← List.map_append]
    refine ⟨by rw [List.length_map]; omega, ?_⟩
    refine ih _ (n + 1) _ _ (fun y hy => hL y (List.mem_cons_of_mem _ hy)) (hs.snoc hx) (by omega) ?_ hz
    rw [List.length_append]
    refine Nat.lt_of_le_of_lt (Nat.mul_le_mul_left _ (show _ ≤ 2 * F.length by omega)) ?_
    rw [← Nat.mul_assoc]
    exact hl
theorem Sml0 : Sml [[]] 0 := fun c hc => by
  rw [List.mem_singleton.mp hc]
  exact ⟨fun x hx => (by cases hx), Nat.le_refl _⟩
theorem two6 {m : Nat} (hm : m ≤ 6) : 2 ^ m ≤ 64 := Nat.le_trans (Nat.pow_le_pow_right (by decide) hm) (by decide)
theorem clF_len6 {m : Nat} {ps : List (List Nat)} (hm : m ≤ 6) : (clF ps (Lt m) [[]]).length ≤ 64 := by
  have h1 := clF_len ps (Lt m) [[]]
  have h2 := two6 hm
  rw [Lt_len, List.length_singleton] at h1
  omega
theorem p_cliques (ds : List D) (Q : D → Prop) (E : Nat → D → Prop) (h : clTS ds Q E) : e_cliques freeWS (st0 4 ds) { nx := fun _ => Q .non, rt := Q } := by
  obtain ⟨m, ps, rfl, hm, hg, hq⟩ := h
  have h2 := two6 hm
  have h3 := clF_len6 (ps := ps) hm
  have hsz : (3000 : Nat) < sizeLine := by rw [sizeLine_eq]; decide
  have L1 := fun {Z} => @clq_l1 m ps Z hm hg (Lt m) [[]] 0 .no .no (Lt_small hm) Sml0 (by rw [Lt_len]; omega) (by rw [Lt_len, List.length_singleton]; omega)
  generalize hl1 : l1_cliques freeWS = L at L1
  unfold e_cliques
  rw [hl1]
  simp only [st0, List.map, List.length, List.replicate, List.cons_append, List.nil_append, sSeq, sSet, sIf, sRet, sRetN, sNext, sFor, sDrop, sApp, sStore, sBxSet, sAsg, put, settle, frz, vVar, vC, v2, v1, vB, vM, vTup, vLst, vSl, vCall, vIsi, vIf, vAnd, vOr, vNot, vChain, vDisp1, vDNewK, vBxI, vBxD, vBxNew, vScLen, vScIx, vEnum, enD, sNil, sCons, aNil, aCons, tOf, tBl, tAnd, tOr, tNot, truthD, boolD, iRange1, iRange2, iVal, iRaw, rawI, itemsD, pNo, pSome, slD, on1, on2, lenD, intD, addD, subD, mulD, fdivD, modD, powD, negD, ltD, leD, gtD, geD, eqD, neD, isD, isNotD, inD, notInD, ixD, tupD, listD, minD, maxD, gSet, gNilD, gConsD, gTupD, tyD, countD, sindexD, vLc, List.getElem?_cons_zero, List.getElem?_cons_succ, List.set_cons_zero, List.set_cons_succ, bx_eq, scr_eq, D.int.injEq, D.str.injEq, D.bl.injEq, Prod.mk.injEq, exists_eq_left, exists_eq_left', exists_and_left, exists_eq, exists_eq', true_and, and_true, List.length_map, decide_eq_true_eq, reduceCtorEq, if_true, if_false, Bool.not_true, Bool.not_false, Bool.false_eq_true, Option.some.injEq, Sl.ow.injEq, Sl.fz.injEq, D.lst.injEq, D.tup.injEq, D.dct.injEq, List.cons.injEq, and_assoc, and_self, Int.toNat_natCast, atI_0, atI_1, atI_2, strs_eq, bx_eq, scr_eq, sAug, iaddD, joinD, vSortSet, vSortK, listKD, dgetD, vSortG, iRangeD, mulXD, vRev, revD, vSortSetX, sortSetR, sortSDx, sPopTo, vLc2, noOwB, noOwB_blk, vMaxD, vMaxG, mEm, vZip, zipD, sindexXD, vLrD, sExt, sBad, vEnumT, vSumG, sEm, vFldA, vMeth, vMake, vNewM, sMemo, sMemoD, KVar, Slf, KPair]
  simp only [alD, st0, List.map, List.length, List.replicate, List.cons_append, List.nil_append, sSeq, sSet, sIf, sRet, sRetN, sNext, sFor, sDrop, sApp, sStore, sBxSet, sAsg, put, settle, frz, vVar, vC, v2, v1, vB, vM, vTup, vLst, vSl, vCall, vIsi, vIf, vAnd, vOr, vNot, vChain, vDisp1, vDNewK, vBxI, vBxD, vBxNew, vScLen, vScIx, vEnum, enD, sNil, sCons, aNil, aCons, tOf, tBl, tAnd, tOr, tNot, truthD, boolD, iRange1, iRange2, iVal, iRaw, rawI, itemsD, pNo, pSome, slD, on1, on2, lenD, intD, addD, subD, mulD, fdivD, modD, powD, negD, ltD, leD, gtD, geD, eqD, neD, isD, isNotD, inD, notInD, ixD, tupD, listD, minD, maxD, gSet, gNilD, gConsD, gTupD, tyD, countD, sindexD, vLc, List.getElem?_cons_zero, List.getElem?_cons_succ, List.set_cons_zero, List.set_cons_succ, bx_eq, scr_eq, D.int.injEq, D.str.injEq, D.bl.injEq, Prod.mk.injEq, exists_eq_left, exists_eq_left', exists_and_left, exists_eq, exists_eq', true_and, and_true, List.length_map, decide_eq_true_eq, reduceCtorEq, if_true, if_false, Bool.not_true, Bool.not_false, Bool.false_eq_true, Option.some.injEq, Sl.ow.injEq, Sl.fz.injEq, D.lst.injEq, D.tup.injEq, D.dct.injEq, List.cons.injEq, and_assoc, and_self, Int.toNat_natCast, atI_0, atI_1, atI_2, strs_eq, bx_eq, scr_eq, sAug, iaddD, joinD, vSortSet, vSortK, listKD, dgetD, vSortG, iRangeD, mulXD, vRev, revD, vSortSetX, sortSetR, sortSDx, sPopTo, vLc2, noOwB, noOwB_blk, vMaxD, vMaxG, mEm, vZip, zipD, sindexXD, vLrD, sExt, sBad, vEnumT, vSumG, sEm, vFldA, vMeth, vMake, vNewM, sMemo, sMemoD, KVar, Slf, KPair]
  refine ⟨by omega, L1 fun s2 s3 => ?_⟩
  refine ⟨_, rfl, ?_⟩
  have e := (sortK_perm (clF ps (Lt m) [[]])).length_eq
  first | exact hq | exact ⟨by omega, hq⟩
theorem p_lcliques (ds : List D) (Q : D → Prop) (E : Nat → D → Prop) (h : clS ds Q E) : e__law_cliques freeWS (st0 4 ds) { nx := fun _ => Q .non, rt := Q } := by
  obtain ⟨m, ps, rfl, hm, hg, hq⟩ := h
  have h2 := two6 hm
  have h3 := clF_len6 (ps := ps) hm
  have hsz : (3000 : Nat) < sizeLine := by rw [sizeLine_eq]; decide
  have L1 := fun {Z} => @lclq_l1 m ps Z hm hg (Lt m) [[]] 0 .no .no (Lt_small hm) Sml0 (by rw [Lt_len]; omega) (by rw [Lt_len, List.length_singleton]; omega)
  generalize hl1 : l1__law_cliques freeWS = L at L1
  unfold e__law_cliques
  rw [hl1]
  simp only [st0, List.map, List.length, List.replicate, List.cons_append, List.nil_append, sSeq, sSet, sIf, sRet, sRetN, sNext, sFor, sDrop, sApp, sStore, sBxSet, sAsg, put, settle, frz, vVar, vC, v2, v1, vB, vM, vTup, vLst, vSl, vCall, vIsi, vIf, vAnd, vOr, vNot, vChain, vDisp1, vDNewK, vBxI, vBxD, vBxNew, vScLen, vScIx, vEnum, enD, sNil, sCons, aNil, aCons, tOf, tBl, tAnd, tOr, tNot, truthD, boolD, iRange1, iRange2, iVal, iRaw, rawI, itemsD, pNo, pSome, slD, on1, on2, lenD, intD, addD, subD, mulD, fdivD, modD, powD, negD, ltD, leD, gtD, geD, eqD, neD, isD, isNotD, inD, notInD, ixD, tupD, listD, minD, maxD, gSet, gNilD, gConsD, gTupD, tyD, countD, sindexD, vLc, List.getElem?_cons_zero, List.getElem?_cons_succ, List.set_cons_zero, List.set_cons_succ, bx_eq, scr_eq, D.int.injEq, D.str.injEq, D.bl.injEq, Prod.mk.injEq, exists_eq_left, exists_eq_left', exists_and_left, exists_eq, exists_eq', true_and, and_true, List.length_map, decide_eq_true_eq, reduceCtorEq, if_true, if_false, Bool.not_true, Bool.not_false, Bool.false_eq_true, Option.some.injEq, Sl.ow.injEq, Sl.fz.injEq, D.lst.injEq, D.tup.injEq, D.dct.injEq, List.cons.injEq, and_assoc, and_self, Int.toNat_natCast, atI_0, atI_1, atI_2, strs_eq, bx_eq, scr_eq, sAug, iaddD, joinD, vSortSet, vSortK, listKD, dgetD, vSortG, iRangeD, mulXD, vRev, revD, vSortSetX, sortSetR, sortSDx, sPopTo, vLc2, noOwB, noOwB_blk, vMaxD, vMaxG, mEm, vZip, zipD, sindexXD, vLrD, sExt, sBad, vEnumT, vSumG, sEm, vFldA, vMeth, vMake, vNewM, sMemo, sMemoD, KVar, Slf, KPair]
  simp only [alD, st0, List.map, List.length, List.replicate, List.cons_append, List.nil_append, sSeq, sSet, sIf, sRet, sRetN, sNext, sFor, sDrop, sApp, sStore, sBxSet, sAsg, put, settle, frz, vVar, vC, v2, v1, vB, vM, vTup, vLst, vSl, vCall, vIsi, vIf, vAnd, vOr, vNot, vChain, vDisp1, vDNewK, vBxI, vBxD, vBxNew, vScLen, vScIx, vEnum, enD, sNil, sCons, aNil, aCons, tOf, tBl, tAnd, tOr, tNot, truthD, boolD, iRange1, iRange2, iVal, iRaw, rawI, itemsD, pNo, pSome, slD, on1, on2, lenD, intD, addD, subD, mulD, fdivD, modD, powD, negD, ltD, leD, gtD, geD, eqD, neD, isD, isNotD, inD, notInD, ixD, tupD, listD, minD, maxD, gSet, gNilD, gConsD, gTupD, tyD, countD, sindexD, vLc, List.getElem?_cons_zero, List.getElem?_cons_succ, List.set_cons_zero, List.set_cons_succ, bx_eq, scr_eq, D.int.injEq, D.str.injEq, D.bl.injEq, Prod.mk.injEq, exists_eq_left, exists_eq_left', exists_and_left, exists_eq, exists_eq', true_and, and_true, List.length_map, decide_eq_true_eq, reduceCtorEq, if_true, if_false, Bool.not_true, Bool.not_false, Bool.false_eq_true, Option.some.injEq, Sl.ow.injEq, Sl.fz.injEq, D.lst.injEq, D.tup.injEq, D.dct.injEq, List.cons.injEq, and_assoc, and_self, Int.toNat_natCast, atI_0, atI_1, atI_2, strs_eq, bx_eq, scr_eq, sAug, iaddD, joinD, vSortSet, vSortK, listKD, dgetD, vSortG, iRangeD, mulXD, vRev, revD, vSortSetX, sortSetR, sortSDx, sPopTo, vLc2, noOwB, noOwB_blk, vMaxD, vMaxG, mEm, vZip, zipD, sindexXD, vLrD, sExt, sBad, vEnumT, vSumG, sEm, vFldA, vMeth, vMake, vNewM, sMemo, sMemoD, KVar, Slf, KPair]
  refine ⟨by omega, L1 fun s2 s3 => ?_⟩
  refine ⟨_, rfl, ?_⟩
  exact hq
/-! ### all words -/
def lgL (m : Nat) (L : List (List Nat)) : List (List Nat) := L.flatMap fun w => (Lt m).map fun c => w ++ [c]
def lvL (m : Nat) : Nat → List (List Nat)
  | 0 => [[]]
  | n + 1 => lgL m (lvL m n)
def alL (m : Nat) : Nat → List (List Nat)
  | 0 => [[]]
  | n + 1 => alL m n ++ lvL m (n + 1)
theorem lvL_mem {m : Nat} : ∀ {n : Nat} {w : List Nat}, w ∈ lvL m n ↔ w.length = n ∧ Wd_ m w
  | 0, w => by
    rw [lvL, List.mem_singleton]
    constructor
    · rintro rfl
      exact ⟨rfl, fun c hc => (by cases hc)⟩
    · exact fun h => List.length_eq_zero_iff.mp h.1
  | n + 1, w => by
    rw [lvL, lgL, List.mem_flatMap]
    constructor
    · rintro ⟨u, hu, h⟩
      obtain ⟨c, hc, rfl⟩ := List.mem_map.mp h
      obtain ⟨h1, h2⟩ := lvL_mem.mp hu
      refine ⟨by rw [List.length_append, h1]; rfl, fun d hd => ?_⟩
      rcases List.mem_append.mp hd with hd | hd
      · exact h2 d hd
      · rw [List.mem_singleton.mp hd]; exact hc
    · rintro ⟨h1, h2⟩
      rcases List.eq_nil_or_concat w with rfl | ⟨u, c, rfl⟩
      · cases h1
      · rw [List.concat_eq_append] at h1 h2 ⊢
        rw [List.length_append, List.length_singleton] at h1
        exact ⟨u, lvL_mem.mpr ⟨by omega, fun d hd => h2 d (List.mem_append_left _ hd)⟩, List.mem_map.mpr ⟨c, h2 c (List.mem_append_right _ (List.mem_singleton.mpr rfl)), rfl⟩⟩
theorem lgL_len (m : Nat) (L : List (List Nat)) : (lgL m L).length = L.length * m := by
  unfold lgL
  induction L with
  | nil => simp
  | cons w L ih => rw [List.flatMap_cons, List.length_append, ih, List.length_map, Lt_len, List.length_cons, Nat.succ_mul]; omega
theorem lvL_len (m : Nat) : ∀ n, (lvL m n).length = m ^ n
  | 0 => rfl
  | n + 1 => by rw [lvL, lgL_len, lvL_len m n, Nat.pow_succ]
theorem lvL_nodup (m : Nat) : ∀ n, (lvL m n).Nodup
  | 0 => List.pairwise_singleton _ _
  | n + 1 => by
    rw [lvL, lgL, List.Nodup, List.pairwise_flatMap]
    refine ⟨fun w _ => List.pairwise_map.mpr ((Lt_nodup m).imp fun {a b} h e => h (by simpa using e)), ?_⟩
    refine (lvL_nodup m n).imp fun {a b} h x hx y hy e => h ?_
    obtain ⟨c, _, rfl⟩ := List.mem_map.mp hx
    obtain ⟨d, _, rfl⟩ := List.mem_map.mp hy
    exact (List.append_inj' e rfl).1
theorem alL_len4 {m : Nat} (hm : m ≤ 4) : ∀ n, n ≤ 4 → (alL m n).length ≤ 341 := by
  have h : ∀ n, (alL m n).length ≤ (alL 4 n).length := by
    intro n
    induction n with
    | zero => exact Nat.le_refl _
    | succ n ih =>
      rw [alL, alL, List.length_append, List.length_append, lvL_len, lvL_len]
      have : m ^ (n + 1) ≤ 4 ^ (n + 1) := Nat.pow_le_pow_left hm _
      omega
  intro n hn
  refine Nat.le_trans (h n) ?_
  have g : ∀ n, (alL 4 n).length ≤ (alL 4 (n + 1)).length := fun n => by
    rw [alL, List.length_append]; omega
  have e4 : (alL 4 4).length = 341 := by
    simp only [alL, List.length_append, lvL_len]
    rfl
  rw [← e4]
  rcases n with _ | _ | _ | _ | _ | n
  · exact Nat.le_trans (g 0) (Nat.le_trans (g 1) (Nat.le_trans (g 2) (g 3)))
  · exact Nat.le_trans (g 1) (Nat.le_trans (g 2) (g 3))
  · exact Nat.le_trans (g 2) (g 3)
  · exact g 3
  · exact Nat.le_refl _
  · omega
theorem alL_filter {m n : Nat} {P : List Nat → Bool} (hP : ∀ w, P w = true → w.length = n) : (alL m n).filter P = (lvL m n).filter P := by
  have : ∀ k, k < n → (alL m k).filter P = [] := by
    intro k hk
    rw [List.filter_eq_nil_iff]
    intro a ha hp
    have h1 := hP a hp
    have : ∀ k, ∀ a ∈ alL m k, a.length ≤ k := by
      intro k
      induction k with
      | zero => intro a ha; rw [alL, List.mem_singleton] at ha; rw [ha]; exact Nat.le_refl _
      | succ k ih =>
        intro a ha
        rw [alL] at ha
        rcases List.mem_append.mp ha with ha | ha
        · exact Nat.le_succ_of_le (ih a ha)
        · exact Nat.le_of_eq (lvL_mem.mp ha).1
    have := this k a ha
    omega
  cases n with
  | zero => rfl
  | succ n => rw [alL, List.filter_append, this n (by omega), List.nil_append]
theorem alL_wd {m : Nat} : ∀ n, ∀ w ∈ alL m n, Wd_ m w ∧ w.length ≤ n := by
  intro n
  induction n with
  | zero =>
    intro w hw
    rw [alL, List.mem_singleton] at hw
    rw [hw]
    exact ⟨fun c hc => (by cases hc), Nat.le_refl _⟩
  | succ n ih =>
    intro w hw
    rw [alL] at hw
    rcases List.mem_append.mp hw with hw | hw
    · exact ⟨(ih w hw).1, Nat.le_succ_of_le (ih w hw).2⟩
    · exact ⟨(lvL_mem.mp hw).2, Nat.le_of_eq (lvL_mem.mp hw).1⟩
def allS : Spc := fun ds Q _ => ∃ (m : Nat) (ps : List (List Nat)) (n : Nat), ds = [alD m ps, .int (n : Nat)] ∧ m ≤ 4 ∧ n ≤ 4 ∧ Q (.lst ((alL m n).map D.str))
theorem all_l3 {aD nD wsD lD s4 : Sl} {w : List Nat} {Z : EndsD} (hw : w.length < 1000) : ∀ (L : List Nat) (acc : List (List Nat)) (s7 : Sl), acc.length + L.length < 3000 → (∀ s7, Z.nx [aD, nD, wsD, lD, s4, .ow (.lst ((acc ++ L.map fun c => w ++ [c]).map D.str)), .fz (.str w), s7]) →
    forD (gSet 7) l3__law_all (signs L) [aD, nD, wsD, lD, s4, .ow (.lst (acc.map D.str)), .fz (.str w), s7] Z := by
  intro L
  induction L with
  | nil =>
    intro acc s7 _ hz
    rw [signs_nil, forD_nil]
    have := hz s7
    rw [List.map_nil, List.append_nil] at this
    exact this
  | cons c L ih =>
    intro acc s7 hl hz
    rw [signs_cons, forD_cons]
    rw [List.length_cons] at hl
    have hsz : (3000 : Nat) < sizeLine := by rw [sizeLine_eq]; decide
    generalize forD (gSet 7) l3__law_all (signs L) = Fr at ih ⊢
    simp only [l3__law_all, st0, List.map, List.length, List.replicate, List.cons_append, List.nil_append, sSeq, sSet, sIf, sRet, sRetN, sNext, sFor, sDrop, sApp, sStore, sBxSet, sAsg, put, settle, frz, vVar, vC, v2, v1, vB, vM, vTup, vLst, vSl, vCall, vIsi, vIf, vAnd, vOr, vNot, vChain, vDisp1, vDNewK, vBxI, vBxD, vBxNew, vScLen, vScIx, vEnum, enD, sNil, sCons, aNil, aCons, tOf, tBl, tAnd, tOr, tNot, truthD, boolD, iRange1, iRange2, iVal, iRaw, rawI, itemsD, pNo, pSome, slD, on1, on2, lenD, intD, addD, subD, mulD, fdivD, modD, powD, negD, ltD, leD, gtD, geD, eqD, neD, isD, isNotD, inD, notInD, ixD, tupD, listD, minD, maxD, gSet, gNilD, gConsD, gTupD, tyD, countD, sindexD, vLc, List.getElem?_cons_zero, List.getElem?_cons_succ, List.set_cons_zero, List.set_cons_succ, bx_eq, scr_eq, D.int.injEq, D.str.injEq, D.bl.injEq, Prod.mk.injEq, exists_eq_left, exists_eq_left', exists_and_left, exists_eq, exists_eq', true_and, and_true, List.length_map, decide_eq_true_eq, reduceCtorEq, if_true, if_false, Bool.not_true, Bool.not_false, Bool.false_eq_true, Option.some.injEq, Sl.ow.injEq, Sl.fz.injEq, D.lst.injEq, D.tup.injEq, D.dct.injEq, List.cons.injEq, and_assoc, and_self, Int.toNat_natCast, atI_0, atI_1, atI_2, strs_eq, bx_eq, scr_eq, sAug, iaddD, joinD, vSortSet, vSortK, listKD, dgetD, vSortG, iRangeD, mulXD, vRev, revD, vSortSetX, sortSetR, sortSDx, sPopTo, vLc2, noOwB, noOwB_blk, vMaxD, vMaxG, mEm, vZip, zipD, sindexXD, vLrD, sExt, sBad, vEnumT, vSumG, sEm, vFldA, vMeth, vMake, vNewM, sMemo, sMemoD, KVar, Slf, KPair]
    refine ⟨by omega, by omega, ?_⟩
    have e : acc.map D.str ++ [D.str (w ++ [c])] = (acc ++ [w ++ [c]]).map D.str := by rw [List.map_append]; rfl
    rw [e]
    refine ih _ _ (by rw [List.length_append, List.length_singleton]; omega) fun s7 => ?_
    rw [List.append_assoc]
    exact hz s7
theorem all_l2 {m : Nat} {ps : List (List Nat)} {nD wsD lD s4 : Sl} {Z : EndsD} (hm : m ≤ 4) : ∀ (L acc : List (List Nat)) (s6 s7 : Sl), (∀ w ∈ L, w.length < 1000) → acc.length + L.length * 4 < 3000 → (∀ s6 s7, Z.nx [.fz (alD m ps), nD, wsD, lD, s4, .ow (.lst ((acc ++ lgL m L).map D.str)), s6, s7]) →
    forD (gSet 6) l2__law_all (L.map D.str) [.fz (alD m ps), nD, wsD, lD, s4, .ow (.lst (acc.map D.str)), s6, s7] Z := by
  intro L
  induction L with
  | nil =>
    intro acc s6 s7 _ _ hz
    rw [List.map_nil, forD_nil]
    have := hz s6 s7
    rw [lgL, List.flatMap_nil, List.append_nil] at this
    exact this
  | cons w L ih =>
    intro acc s6 s7 hL hl hz
    rw [List.map_cons, forD_cons]
    rw [List.length_cons, Nat.add_mul] at hl
    have hLt := Lt_len m
    generalize forD (gSet 6) l2__law_all (L.map D.str) = Fr at ih ⊢
    simp only [l2__law_all, alD, st0, List.map, List.length, List.replicate, List.cons_append, List.nil_append, sSeq, sSet, sIf, sRet, sRetN, sNext, sFor, sDrop, sApp, sStore, sBxSet, sAsg, put, settle, frz, vVar, vC, v2, v1, vB, vM, vTup, vLst, vSl, vCall, vIsi, vIf, vAnd, vOr, vNot, vChain, vDisp1, vDNewK, vBxI, vBxD, vBxNew, vScLen, vScIx, vEnum, enD, sNil, sCons, aNil, aCons, tOf, tBl, tAnd, tOr, tNot, truthD, boolD, iRange1, iRange2, iVal, iRaw, rawI, itemsD, pNo, pSome, slD, on1, on2, lenD, intD, addD, subD, mulD, fdivD, modD, powD, negD, ltD, leD, gtD, geD, eqD, neD, isD, isNotD, inD, notInD, ixD, tupD, listD, minD, maxD, gSet, gNilD, gConsD, gTupD, tyD, countD, sindexD, vLc, List.getElem?_cons_zero, List.getElem?_cons_succ, List.set_cons_zero, List.set_cons_succ, bx_eq, scr_eq, D.int.injEq, D.str.injEq, D.bl.injEq, Prod.mk.injEq, exists_eq_left, exists_eq_left', exists_and_left, exists_eq, exists_eq', true_and, and_true, List.length_map, decide_eq_true_eq, reduceCtorEq, if_true, if_false, Bool.not_true, Bool.not_false, Bool.false_eq_true, Option.some.injEq, Sl.ow.injEq, Sl.fz.injEq, D.lst.injEq, D.tup.injEq, D.dct.injEq, List.cons.injEq, and_assoc, and_self, Int.toNat_natCast, atI_0, atI_1, atI_2, strs_eq, bx_eq, scr_eq, sAug, iaddD, joinD, vSortSet, vSortK, listKD, dgetD, vSortG, iRangeD, mulXD, vRev, revD, vSortSetX, sortSetR, sortSDx, sPopTo, vLc2, noOwB, noOwB_blk, vMaxD, vMaxG, mEm, vZip, zipD, sindexXD, vLrD, sExt, sBad, vEnumT, vSumG, sEm, vFldA, vMeth, vMake, vNewM, sMemo, sMemoD, KVar, Slf, KPair]
    refine all_l3 (hL w List.mem_cons_self) (Lt m) acc _ (by omega) fun s7 => ?_
    refine ih _ _ _ (fun v hv => hL v (List.mem_cons_of_mem _ hv)) (by rw [List.length_append, List.length_map]; omega) fun s6 s7 => ?_
    have := hz s6 s7
    rw [lgL, List.flatMap_cons, ← List.append_assoc] at this
    exact this
theorem all_l1 {m : Nat} {ps : List (List Nat)} {nD : Sl} {n : Nat} {Z : EndsD} (hm : m ≤ 4) (hn : n ≤ 4) : ∀ (k j : Nat) (lo : Int) (s3 s4 s5 s6 s7 : Sl), j + k = n → (s3 = .ow (.lst ((lvL m j).map D.str)) ∨ s3 = .fz (.lst ((lvL m j).map D.str))) → (∀ s3 s4 s5 s6 s7, Z.nx [.fz (alD m ps), nD, .ow (.lst ((alL m n).map D.str)), s3, s4, s5, s6, s7]) →
    forD (gSet 4) l1__law_all (rngL lo k) [.fz (alD m ps), nD, .ow (.lst ((alL m j).map D.str)), s3, s4, s5, s6, s7] Z := by
  intro k
  induction k with
  | zero =>
    intro j lo s3 s4 s5 s6 s7 h h3 hz
    rw [rngL_zero, forD_nil]
    obtain rfl : j = n := by omega
    exact hz _ _ _ _ _
  | succ k ih =>
    intro j lo s3 s4 s5 s6 s7 h hs3 hz
    rw [rngL_succ, forD_cons]
    have ih' := ih (j + 1) (lo + 1)
    have h1 := alL_len4 hm (j + 1) (by omega)
    have h2 := lvL_len m j
    have h3 : m ^ j ≤ 4 ^ j := Nat.pow_le_pow_left hm j
    have h4 : (4 : Nat) ^ j ≤ 4 ^ 3 := Nat.pow_le_pow_right (by decide) (by omega)
    have h5 : (4 : Nat) ^ 3 = 64 := by decide
    have hsz : (3000 : Nat) < sizeLine := by rw [sizeLine_eq]; decide
    have hlv : ∀ w ∈ lvL m j, w.length < 1000 := fun w hw => by have := (lvL_mem.mp hw).1; omega
    have L2 := fun {nD wsD lD s4 Z} s6 s7 => @all_l2 m ps nD wsD lD s4 Z hm (lvL m j) [] s6 s7 hlv (by rw [List.length_nil]; omega)
    have e : alL m (j + 1) = alL m j ++ lgL m (lvL m j) := rfl
    have el : (alL m j).length + (lgL m (lvL m j)).length = (alL m (j + 1)).length := by rw [e, List.length_append]
    generalize forD (gSet 4) l1__law_all (rngL (lo + 1) k) = Fr at ih' ⊢
    generalize hl2 : l2__law_all = L at L2
    rcases hs3 with rfl | rfl <;>
    · unfold l1__law_all
      rw [hl2]
      simp only [st0, List.map, List.length, List.replicate, List.cons_append, List.nil_append, sSeq, sSet, sIf, sRet, sRetN, sNext, sFor, sDrop, sApp, sStore, sBxSet, sAsg, put, settle, frz, vVar, vC, v2, v1, vB, vM, vTup, vLst, vSl, vCall, vIsi, vIf, vAnd, vOr, vNot, vChain, vDisp1, vDNewK, vBxI, vBxD, vBxNew, vScLen, vScIx, vEnum, enD, sNil, sCons, aNil, aCons, tOf, tBl, tAnd, tOr, tNot, truthD, boolD, iRange1, iRange2, iVal, iRaw, rawI, itemsD, pNo, pSome, slD, on1, on2, lenD, intD, addD, subD, mulD, fdivD, modD, powD, negD, ltD, leD, gtD, geD, eqD, neD, isD, isNotD, inD, notInD, ixD, tupD, listD, minD, maxD, gSet, gNilD, gConsD, gTupD, tyD, countD, sindexD, vLc, List.getElem?_cons_zero, List.getElem?_cons_succ, List.set_cons_zero, List.set_cons_succ, bx_eq, scr_eq, D.int.injEq, D.str.injEq, D.bl.injEq, Prod.mk.injEq, exists_eq_left, exists_eq_left', exists_and_left, exists_eq, exists_eq', true_and, and_true, List.length_map, decide_eq_true_eq, reduceCtorEq, if_true, if_false, Bool.not_true, Bool.not_false, Bool.false_eq_true, Option.some.injEq, Sl.ow.injEq, Sl.fz.injEq, D.lst.injEq, D.tup.injEq, D.dct.injEq, List.cons.injEq, and_assoc, and_self, Int.toNat_natCast, atI_0, atI_1, atI_2, strs_eq, bx_eq, scr_eq, sAug, iaddD, joinD, vSortSet, vSortK, listKD, dgetD, vSortG, iRangeD, mulXD, vRev, revD, vSortSetX, sortSetR, sortSDx, sPopTo, vLc2, noOwB, noOwB_blk, vMaxD, vMaxG, mEm, vZip, zipD, sindexXD, vLrD, sExt, sBad, vEnumT, vSumG, sEm, vFldA, vMeth, vMake, vNewM, sMemo, sMemoD, KVar, Slf, KPair]
      refine ⟨Nat.zero_le _, L2 _ _ fun s6 s7 => ?_⟩
      rw [List.nil_append]
      simp only [st0, List.map, List.length, List.replicate, List.cons_append, List.nil_append, sSeq, sSet, sIf, sRet, sRetN, sNext, sFor, sDrop, sApp, sStore, sBxSet, sAsg, put, settle, frz, vVar, vC, v2, v1, vB, vM, vTup, vLst, vSl, vCall, vIsi, vIf, vAnd, vOr, vNot, vChain, vDisp1, vDNewK, vBxI, vBxD, vBxNew, vScLen, vScIx, vEnum, enD, sNil, sCons, aNil, aCons, tOf, tBl, tAnd, tOr, tNot, truthD, boolD, iRange1, iRange2, iVal, iRaw, rawI, itemsD, pNo, pSome, slD, on1, on2, lenD, intD, addD, subD, mulD, fdivD, modD, powD, negD, ltD, leD, gtD, geD, eqD, neD, isD, isNotD, inD, notInD, ixD, tupD, listD, minD, maxD, gSet, gNilD, gConsD, gTupD, tyD, countD, sindexD, vLc, List.getElem?_cons_zero, List.getElem?_cons_succ, List.set_cons_zero, List.set_cons_succ, bx_eq, scr_eq, D.int.injEq, D.str.injEq, D.bl.injEq, Prod.mk.injEq, exists_eq_left, exists_eq_left', exists_and_left, exists_eq, exists_eq', true_and, and_true, List.length_map, decide_eq_true_eq, reduceCtorEq, if_true, if_false, Bool.not_true, Bool.not_false, Bool.false_eq_true, Option.some.injEq, Sl.ow.injEq, Sl.fz.injEq, D.lst.injEq, D.tup.injEq, D.dct.injEq, List.cons.injEq, and_assoc, and_self, Int.toNat_natCast, atI_0, atI_1, atI_2, strs_eq, bx_eq, scr_eq, sAug, iaddD, joinD, vSortSet, vSortK, listKD, dgetD, vSortG, iRangeD, mulXD, vRev, revD, vSortSetX, sortSetR, sortSDx, sPopTo, vLc2, noOwB, noOwB_blk, vMaxD, vMaxG, mEm, vZip, zipD, sindexXD, vLrD, sExt, sBad, vEnumT, vSumG, sEm, vFldA, vMeth, vMake, vNewM, sMemo, sMemoD, KVar, Slf, KPair]
      rw [← List.map_append, ← e]
      refine ⟨by omega, ih' _ _ _ _ _ (by omega) (.inr rfl) hz⟩
theorem p_all (ds : List D) (Q : D → Prop) (E : Nat → D → Prop) (h : allS ds Q E) : e__law_all (st0 8 ds) { nx := fun _ => Q .non, rt := Q } := by
  obtain ⟨m, ps, n, rfl, hm, hn, hq⟩ := h
  have hsz : (3000 : Nat) < sizeLine := by rw [sizeLine_eq]; decide
  simp only [e__law_all, st0, List.map, List.length, List.replicate, List.cons_append, List.nil_append, sSeq, sSet, sIf, sRet, sRetN, sNext, sFor, sDrop, sApp, sStore, sBxSet, sAsg, put, settle, frz, vVar, vC, v2, v1, vB, vM, vTup, vLst, vSl, vCall, vIsi, vIf, vAnd, vOr, vNot, vChain, vDisp1, vDNewK, vBxI, vBxD, vBxNew, vScLen, vScIx, vEnum, enD, sNil, sCons, aNil, aCons, tOf, tBl, tAnd, tOr, tNot, truthD, boolD, iRange1, iRange2, iVal, iRaw, rawI, itemsD, pNo, pSome, slD, on1, on2, lenD, intD, addD, subD, mulD, fdivD, modD, powD, negD, ltD, leD, gtD, geD, eqD, neD, isD, isNotD, inD, notInD, ixD, tupD, listD, minD, maxD, gSet, gNilD, gConsD, gTupD, tyD, countD, sindexD, vLc, List.getElem?_cons_zero, List.getElem?_cons_succ, List.set_cons_zero, List.set_cons_succ, bx_eq, scr_eq, D.int.injEq, D.str.injEq, D.bl.injEq, Prod.mk.injEq, exists_eq_left, exists_eq_left', exists_and_left, exists_eq, exists_eq', true_and, and_true, List.length_map, decide_eq_true_eq, reduceCtorEq, if_true, if_false, Bool.not_true, Bool.not_false, Bool.false_eq_true, Option.some.injEq, Sl.ow.injEq, Sl.fz.injEq, D.lst.injEq, D.tup.injEq, D.dct.injEq, List.cons.injEq, and_assoc, and_self, Int.toNat_natCast, atI_0, atI_1, atI_2, strs_eq, bx_eq, scr_eq, sAug, iaddD, joinD, vSortSet, vSortK, listKD, dgetD, vSortG, iRangeD, mulXD, vRev, revD, vSortSetX, sortSetR, sortSDx, sPopTo, vLc2, noOwB, noOwB_blk, vMaxD, vMaxG, mEm, vZip, zipD, sindexXD, vLrD, sExt, sBad, vEnumT, vSumG, sEm, vFldA, vMeth, vMake, vNewM, sMemo, sMemoD, KVar, Slf, KPair]
  refine ⟨by omega, by omega, by omega, by omega, ?_⟩
  refine all_l1 hm hn n 0 0 _ _ _ _ _ (by omega) (.inl rfl) fun s3 s4 s5 s6 s7 => ?_
  exact hq
/-! ### the least words, by all words -/
def lwS : Spc := fun ds Q _ => ∃ (m : Nat) (ps : List (List Nat)) (n : Nat), ds = [alD m ps, .int (n : Nat)] ∧ m ≤ 4 ∧ GoodP m ps ∧ n ≤ 4 ∧ Q (.lst ((wlL m ps n []).map D.str))
def lwB (ps : List (List Nat)) (n : Nat) (w : List Nat) : Bool := decide (w.length = n) && decide (w = lst ps w)
theorem lw_l1 {m : Nat} {ps : List (List Nat)} {n : Nat} {Z : EndsD} (hm : m ≤ 4) (hg : GoodP m ps) (hn : n ≤ 4) : ∀ (L acc : List (List Nat)) (s3 : Sl), (∀ w ∈ L, Wd_ m w ∧ w.length ≤ n) → acc.length + L.length < 3000 → (∀ s3, Z.nx [.fz (alD m ps), .fz (.int (n : Nat)), .ow (.lst ((acc ++ L.filter (lwB ps n)).map D.str)), s3]) →
    forD (gSet 3) (l1__law_least_words allS leastS) (L.map D.str) [.fz (alD m ps), .fz (.int (n : Nat)), .ow (.lst (acc.map D.str)), s3] Z := by
  intro L
  induction L with
  | nil =>
    intro acc s3 _ _ hz
    rw [List.map_nil, forD_nil]
    have := hz s3
    rw [List.filter_nil, List.append_nil] at this
    exact this
  | cons w L ih =>
    intro acc s3 hL hl hz
    rw [List.map_cons, forD_cons]
    rw [List.length_cons] at hl
    obtain ⟨hw, hwl⟩ := hL w List.mem_cons_self
    have hL' := fun v hv => hL v (List.mem_cons_of_mem _ hv)
    have hsz : (3000 : Nat) < sizeLine := by rw [sizeLine_eq]; decide
    have k1 := ok_int (i := (w.length : Int))
    have k2 := ok_int (i := (n : Int))
    have k3 := ok_str (hw.chars (by omega))
    have k4 := ok_str (((lst_reach hg w).wd hw).chars (by omega))
    generalize forD (gSet 3) (l1__law_least_words allS leastS) (L.map D.str) = Fr at ih ⊢
    simp only [l1__law_least_words, leastS, eqv_int, eqv_str, k1, k2, k3, st0, List.map, List.length, List.replicate, List.cons_append, List.nil_append, sSeq, sSet, sIf, sRet, sRetN, sNext, sFor, sDrop, sApp, sStore, sBxSet, sAsg, put, settle, frz, vVar, vC, v2, v1, vB, vM, vTup, vLst, vSl, vCall, vIsi, vIf, vAnd, vOr, vNot, vChain, vDisp1, vDNewK, vBxI, vBxD, vBxNew, vScLen, vScIx, vEnum, enD, sNil, sCons, aNil, aCons, tOf, tBl, tAnd, tOr, tNot, truthD, boolD, iRange1, iRange2, iVal, iRaw, rawI, itemsD, pNo, pSome, slD, on1, on2, lenD, intD, addD, subD, mulD, fdivD, modD, powD, negD, ltD, leD, gtD, geD, eqD, neD, isD, isNotD, inD, notInD, ixD, tupD, listD, minD, maxD, gSet, gNilD, gConsD, gTupD, tyD, countD, sindexD, vLc, List.getElem?_cons_zero, List.getElem?_cons_succ, List.set_cons_zero, List.set_cons_succ, bx_eq, scr_eq, D.int.injEq, D.str.injEq, D.bl.injEq, Prod.mk.injEq, exists_eq_left, exists_eq_left', exists_and_left, exists_eq, exists_eq', true_and, and_true, List.length_map, decide_eq_true_eq, reduceCtorEq, if_true, if_false, Bool.not_true, Bool.not_false, Bool.false_eq_true, Option.some.injEq, Sl.ow.injEq, Sl.fz.injEq, D.lst.injEq, D.tup.injEq, D.dct.injEq, List.cons.injEq, and_assoc, and_self, Int.toNat_natCast, atI_0, atI_1, atI_2, strs_eq, bx_eq, scr_eq, sAug, iaddD, joinD, vSortSet, vSortK, listKD, dgetD, vSortG, iRangeD, mulXD, vRev, revD, vSortSetX, sortSetR, sortSDx, sPopTo, vLc2, noOwB, noOwB_blk, vMaxD, vMaxG, mEm, vZip, zipD, sindexXD, vLrD, sExt, sBad, vEnumT, vSumG, sEm, vFldA, vMeth, vMake, vNewM, sMemo, sMemoD, KVar, Slf, KPair]
    have hyes : lwB ps n w = true → acc.length < sizeLine ∧ ∀ s3, Fr [.fz (alD m ps), .fz (.int (n : Nat)), .ow (.lst (acc.map D.str ++ [D.str w])), s3] Z := fun h => by
      refine ⟨by omega, fun s3 => ?_⟩
      have e : acc.map D.str ++ [D.str w] = (acc ++ [w]).map D.str := by rw [List.map_append]; rfl
      rw [e]
      refine ih _ _ hL' (by rw [List.length_append, List.length_singleton]; omega) fun s3 => ?_
      have := hz s3
      rw [List.filter_cons_of_pos h] at this
      rw [List.append_assoc]
      exact this
    have hno : lwB ps n w = false → ∀ s3, Fr [.fz (alD m ps), .fz (.int (n : Nat)), .ow (.lst (acc.map D.str)), s3] Z := fun h s3 => by
      refine ih _ _ hL' (by omega) fun s3 => ?_
      have := hz s3
      rw [List.filter_cons_of_neg (by rw [h]; decide)] at this
      exact this
    unfold lwB at hyes hno
    by_cases h1 : w.length = n
    · rw [if_pos (by omega)]
      refine ⟨m, ps, rfl, by omega, hg, hw, by omega, k4, ?_⟩
      show if w = lst ps w then _ else _
      by_cases h2 : w = lst ps w
      · rw [if_pos h2]
        have := hyes (by rw [decide_eq_true h1, decide_eq_true h2]; rfl)
        exact ⟨this.1, this.2 _⟩
      · rw [if_neg h2]
        exact hno (by rw [decide_eq_true h1, decide_eq_false h2]; rfl) _
    · rw [if_neg (by omega)]
      exact hno (by rw [decide_eq_false h1]; rfl) _
theorem lw_sort {m : Nat} {ps : List (List Nat)} (hg : GoodP m ps) (n : Nat) : sortT ((alL m n).filter (lwB ps n)) = wlL m ps n [] := by
  have e : (alL m n).filter (lwB ps n) = (lvL m n).filter (lwB ps n) := alL_filter fun w h => by
    unfold lwB at h
    rw [Bool.and_eq_true, decide_eq_true_eq] at h
    exact h.1
  rw [e]
  refine sorted_unique ((sortT_perm _).trans ((List.perm_ext_iff_of_nodup ((lvL_nodup m n).filter _) (wlL_nodup _ _)).mpr fun w => ?_)) (sortT_sorted _) ((wlL_pw n []).imp fun h => List.le_of_lt h)
  rw [List.mem_filter, lvL_mem, wlL_mem hg]
  unfold lwB
  rw [Bool.and_eq_true, decide_eq_true_eq, decide_eq_true_eq]
  constructor
  · rintro ⟨⟨a, b⟩, _, c⟩
    exact ⟨a, b, fun o ho => (by cases ho), c.symm⟩
  · rintro ⟨a, b, _, c⟩
    exact ⟨⟨a, b⟩, a, c.symm⟩
theorem p_least_words (ds : List D) (Q : D → Prop) (E : Nat → D → Prop) (h : lwS ds Q E) : e__law_least_words allS leastS (st0 4 ds) { nx := fun _ => Q .non, rt := Q } := by
  obtain ⟨m, ps, n, rfl, hm, hg, hn, hq⟩ := h
  have hsz : (3000 : Nat) < sizeLine := by rw [sizeLine_eq]; decide
  have hlen := alL_len4 hm n hn
  have L1 := fun {Z} s3 => @lw_l1 m ps n Z hm hg hn (alL m n) [] s3 (alL_wd n) (by rw [List.length_nil]; omega)
  have e := lw_sort hg (m := m) n
  generalize hl1 : l1__law_least_words allS leastS = L at L1
  unfold e__law_least_words
  rw [hl1]
  simp only [allS, st0, List.map, List.length, List.replicate, List.cons_append, List.nil_append, sSeq, sSet, sIf, sRet, sRetN, sNext, sFor, sDrop, sApp, sStore, sBxSet, sAsg, put, settle, frz, vVar, vC, v2, v1, vB, vM, vTup, vLst, vSl, vCall, vIsi, vIf, vAnd, vOr, vNot, vChain, vDisp1, vDNewK, vBxI, vBxD, vBxNew, vScLen, vScIx, vEnum, enD, sNil, sCons, aNil, aCons, tOf, tBl, tAnd, tOr, tNot, truthD, boolD, iRange1, iRange2, iVal, iRaw, rawI, itemsD, pNo, pSome, slD, on1, on2, lenD, intD, addD, subD, mulD, fdivD, modD, powD, negD, ltD, leD, gtD, geD, eqD, neD, isD, isNotD, inD, notInD, ixD, tupD, listD, minD, maxD, gSet, gNilD, gConsD, gTupD, tyD, countD, sindexD, vLc, List.getElem?_cons_zero, List.getElem?_cons_succ, List.set_cons_zero, List.set_cons_succ, bx_eq, scr_eq, D.int.injEq, D.str.injEq, D.bl.injEq, Prod.mk.injEq, exists_eq_left, exists_eq_left', exists_and_left, exists_eq, exists_eq', true_and, and_true, List.length_map, decide_eq_true_eq, reduceCtorEq, if_true, if_false, Bool.not_true, Bool.not_false, Bool.false_eq_true, Option.some.injEq, Sl.ow.injEq, Sl.fz.injEq, D.lst.injEq, D.tup.injEq, D.dct.injEq, List.cons.injEq, and_assoc, and_self, Int.toNat_natCast, atI_0, atI_1, atI_2, strs_eq, bx_eq, scr_eq, sAug, iaddD, joinD, vSortSet, vSortK, listKD, dgetD, vSortG, iRangeD, mulXD, vRev, revD, vSortSetX, sortSetR, sortSDx, sPopTo, vLc2, noOwB, noOwB_blk, vMaxD, vMaxG, mEm, vZip, zipD, sindexXD, vLrD, sExt, sBad, vEnumT, vSumG, sEm, vFldA, vMeth, vMake, vNewM, sMemo, sMemoD, KVar, Slf, KPair]
  refine ⟨Nat.zero_le _, m, ps, rfl, n, rfl, hm, hn, L1 _ fun s3 => ?_⟩
  rw [List.nil_append]
  simp only [sortSD, e, st0, List.map, List.length, List.replicate, List.cons_append, List.nil_append, sSeq, sSet, sIf, sRet, sRetN, sNext, sFor, sDrop, sApp, sStore, sBxSet, sAsg, put, settle, frz, vVar, vC, v2, v1, vB, vM, vTup, vLst, vSl, vCall, vIsi, vIf, vAnd, vOr, vNot, vChain, vDisp1, vDNewK, vBxI, vBxD, vBxNew, vScLen, vScIx, vEnum, enD, sNil, sCons, aNil, aCons, tOf, tBl, tAnd, tOr, tNot, truthD, boolD, iRange1, iRange2, iVal, iRaw, rawI, itemsD, pNo, pSome, slD, on1, on2, lenD, intD, addD, subD, mulD, fdivD, modD, powD, negD, ltD, leD, gtD, geD, eqD, neD, isD, isNotD, inD, notInD, ixD, tupD, listD, minD, maxD, gSet, gNilD, gConsD, gTupD, tyD, countD, sindexD, vLc, List.getElem?_cons_zero, List.getElem?_cons_succ, List.set_cons_zero, List.set_cons_succ, bx_eq, scr_eq, D.int.injEq, D.str.injEq, D.bl.injEq, Prod.mk.injEq, exists_eq_left, exists_eq_left', exists_and_left, exists_eq, exists_eq', true_and, and_true, List.length_map, decide_eq_true_eq, reduceCtorEq, if_true, if_false, Bool.not_true, Bool.not_false, Bool.false_eq_true, Option.some.injEq, Sl.ow.injEq, Sl.fz.injEq, D.lst.injEq, D.tup.injEq, D.dct.injEq, List.cons.injEq, and_assoc, and_self, Int.toNat_natCast, atI_0, atI_1, atI_2, strs_eq, bx_eq, scr_eq, sAug, iaddD, joinD, vSortSet, vSortK, listKD, dgetD, vSortG, iRangeD, mulXD, vRev, revD, vSortSetX, sortSetR, sortSDx, sPopTo, vLc2, noOwB, noOwB_blk, vMaxD, vMaxG, mEm, vZip, zipD, sindexXD, vLrD, sExt, sBad, vEnumT, vSumG, sEm, vFldA, vMeth, vMake, vNewM, sMemo, sMemoD, KVar, Slf, KPair]
  exact hq
end TC

namespace TC
open PySem PySem.Spec PyProof.Rows L2
/-! ### the law of k21 -/
def x7 : StT := (sSeq (sFor (iRange2 (aCons (vC (.int 1)) (aCons (vC (.int 15)) (aNil)))) (gSet 3) (l2_law boxS alphabetS lwS same1ZS trS ctS clS clTS))
    (sRet (vC (.bl true))))
def x6 : StT := (sSeq (sSet 7 (vLc [3] (iRange1 (aCons (vC (.int 15)) (aNil))) (gSet 3) (tsNil) (vCall ctS (sCons (vVar 5) (sCons (vVar 3) (sNil))))))
    x7)
def x5 : StT := (sSeq (sIf (tOr (tNot (tOf (vCall same1ZS (sCons (vCall clTS (sCons (vVar 5) (sNil))) (sCons (vB (on1 tupD) (aCons (vVar 6) (aNil))) (sNil)))))) (tNot (tOf (vCall same1ZS (sCons (vCall ctS (sCons (vVar 5) (sCons (vC (.int 0)) (sNil)))) (sCons (vC (.int 1)) (sNil))))))) (sRet (vC (.bl false))) (sNext))
    x6)
def x4 : StT := (sSeq (sSet 6 (vCall clS (sCons (vVar 5) (sNil))))
    x5)
def x3 : StT := (sSeq (sSet 5 (vCall alphabetS (sCons (vVar 1) (sCons (vC (.int 6)) (sNil)))))
    x4)
theorem e_law_cut : e_law boxS alphabetS lwS same1ZS trS ctS clS clTS = sSeq (sSet 1 (vCall boxS (sCons (vVar 0) (sCons (vC (.int 0)) (sCons (vC (.int 63)) (sNil))))))
    (sSeq (sSet 2 (vCall alphabetS (sCons (vVar 1) (sCons (vC (.int 4)) (sNil)))))
    (sSeq (sFor (iRange1 (aCons (vC (.int 5)) (aNil))) (gSet 3) (l1_law boxS alphabetS lwS same1ZS trS ctS clS clTS))
    x3)) := rfl

abbrev ctN (m : Nat) (ps : List (List Nat)) (k : Nat) : Int := ((wlL m ps k []).length : Nat)
theorem law_l1 {n : Nat} {Z : EndsD} {m : Nat} {ps : List (List Nat)} {ns : List Int} (hm : m ≤ 4) (hg : GoodP m ps) (hz : ∀ s3 s4, Z.nx [.fz (scr n), .fz (bx ns), .fz (alD m ps), s3, s4, .no, .no, .no, .no, .no]) : ∀ (k j : Nat) (s3 s4 : Sl), j + k ≤ 5 →
    forD (gSet 3) (l1_law boxS alphabetS lwS same1ZS trS ctS clS clTS) (rngL (j : Nat) k) [.fz (scr n), .fz (bx ns), .fz (alD m ps), s3, s4, .no, .no, .no, .no, .no] Z := by
  intro k
  induction k with
  | zero => intro j s3 s4 _; rw [rngL_zero, forD_nil]; exact hz _ _
  | succ k ih =>
    intro j s3 s4 hj
    rw [rngL_succ, forD_cons]
    have ih' := ih (j + 1)
    have ej : ((j : Nat) : Int) + 1 = ((j + 1 : Nat) : Int) := by omega
    rw [ej]
    generalize forD (gSet 3) (l1_law boxS alphabetS lwS same1ZS trS ctS clS clTS) (rngL ((j + 1 : Nat) : Int) k) = Fr at ih' ⊢
    have hwc : ∀ w ∈ wlL m ps j [], chars w := fun w hw => Wd_.chars (by omega) ((wlL_mem hg _ _ _).mp hw).2.1
    have h1 := wlL_len (m := m) (ps := ps) j []
    have h2 : m ^ j ≤ 4 ^ j := Nat.pow_le_pow_left hm j
    have h3 : 4 ^ j ≤ 4 ^ 4 := Nat.pow_le_pow_right (by decide) (by omega)
    have h4 : (4 : Nat) ^ 4 = 256 := by decide
    simp only [l1_law, lwS, trS, ctS, same1ZS, st0, List.map, List.length, List.replicate, List.cons_append, List.nil_append, sSeq, sSet, sIf, sRet, sRetN, sNext, sFor, sDrop, sApp, sStore, sBxSet, sAsg, put, settle, frz, vVar, vC, v2, v1, vB, vM, vTup, vLst, vSl, vCall, vIsi, vIf, vAnd, vOr, vNot, vChain, vDisp1, vDNewK, vBxI, vBxD, vBxNew, vScLen, vScIx, vEnum, enD, sNil, sCons, aNil, aCons, tOf, tBl, tAnd, tOr, tNot, truthD, boolD, iRange1, iRange2, iVal, iRaw, rawI, itemsD, pNo, pSome, slD, on1, on2, lenD, intD, addD, subD, mulD, fdivD, modD, powD, negD, ltD, leD, gtD, geD, eqD, neD, isD, isNotD, inD, notInD, ixD, tupD, listD, minD, maxD, gSet, gNilD, gConsD, gTupD, tyD, countD, sindexD, vLc, List.getElem?_cons_zero, List.getElem?_cons_succ, List.set_cons_zero, List.set_cons_succ, bx_eq, scr_eq, D.int.injEq, D.str.injEq, D.bl.injEq, Prod.mk.injEq, exists_eq_left, exists_eq_left', exists_and_left, exists_eq, exists_eq', true_and, and_true, List.length_map, decide_eq_true_eq, reduceCtorEq, if_true, if_false, Bool.not_true, Bool.not_false, Bool.false_eq_true, Option.some.injEq, Sl.ow.injEq, Sl.fz.injEq, D.lst.injEq, D.tup.injEq, D.dct.injEq, List.cons.injEq, and_assoc, and_self, Int.toNat_natCast, atI_0, atI_1, atI_2, strs_eq, bx_eq, scr_eq, sAug, iaddD, joinD, vSortSet, vSortK, listKD, dgetD, vSortG, iRangeD, mulXD, vRev, revD, vSortSetX, sortSetR, sortSDx, sPopTo, vLc2, noOwB, noOwB_blk, vMaxD, vMaxG, mEm, vZip, zipD, sindexXD, vLrD, sExt, sBad, vEnumT, vSumG, sEm, vFldA, vMeth, vMake, vNewM, sMemo, sMemoD, KVar, Slf, KPair]
    refine ⟨m, ps, rfl, j, rfl, hm, hg, by omega, m, ps, rfl, j, rfl, hm, hg, by omega, rfl, .inr (.inr (.inr ⟨_, hwc, by omega, rfl⟩)), m, ps, rfl, j, rfl, by omega, hg, by omega, rfl, .inr (.inl trivial), ih' _ _ (by omega)⟩
/-- the numbers of traces -/
abbrev nmD (m : Nat) (ps : List (List Nat)) : D := .lst ((List.range 15).map fun k => D.int (ctN m ps k))
theorem nm_at {m : Nat} {ps : List (List Nat)} {k : Nat} (h : k < 15) : atI ((List.range 15).map fun k => D.int (ctN m ps k)) (k : Int) = some (.int (ctN m ps k)) := by
  rw [atI_nat (by rw [List.length_map, List.length_range]; exact h), List.getElem_map, List.getElem_range]
theorem law_l3 {n : Nat} {Z : EndsD} {m : Nat} {ps : List (List Nat)} {s1 s2 s4 s5 s6 : Sl} {k : Nat} (hk : k < 15) : ∀ (L : List (List Nat)) (tot : Int) (s9 : Sl), (∀ s9, Z.nx [.fz (scr n), s1, s2, .fz (.int (k : Nat)), s4, s5, s6, .ow (nmD m ps), .fz (.int (tot + sumT (ctN m ps) k L)), s9]) →
    forD (gSet 9) (l3_law boxS alphabetS lwS same1ZS trS ctS clS clTS) (L.map D.str) [.fz (scr n), s1, s2, .fz (.int (k : Nat)), s4, s5, s6, .ow (nmD m ps), .fz (.int tot), s9] Z := by
  intro L
  induction L with
  | nil =>
    intro tot s9 hz
    rw [List.map_nil, forD_nil]
    have := hz s9
    unfold sumT at this
    rw [List.map_nil, List.sum_nil, Int.add_zero] at this
    exact this
  | cons c L ih =>
    intro tot s9 hz
    rw [List.map_cons, forD_cons]
    have es : sumT (ctN m ps) k (c :: L) = sgT (ctN m ps) k c + sumT (ctN m ps) k L := by unfold sumT; rw [List.map_cons, List.sum_cons]
    have sg : sgT (ctN m ps) k c = if c.length ≤ k then (1 - 2 * ((c.length % 2 : Nat) : Int)) * ctN m ps (k - c.length) else 0 := rfl
    have step : ∀ tot', tot' = tot + sgT (ctN m ps) k c → ∀ s9, forD (gSet 9) (l3_law boxS alphabetS lwS same1ZS trS ctS clS clTS) (L.map D.str) [.fz (scr n), s1, s2, .fz (.int (k : Nat)), s4, s5, s6, .ow (nmD m ps), .fz (.int tot'), s9] Z := fun tot' e s9 => by
      subst e
      refine ih _ _ fun s9 => ?_
      have := hz s9
      rw [es] at this
      rw [Int.add_assoc]
      exact this
    generalize forD (gSet 9) (l3_law boxS alphabetS lwS same1ZS trS ctS clS clTS) (L.map D.str) = Fr at step ⊢
    simp only [l3_law, st0, List.map, List.length, List.replicate, List.cons_append, List.nil_append, sSeq, sSet, sIf, sRet, sRetN, sNext, sFor, sDrop, sApp, sStore, sBxSet, sAsg, put, settle, frz, vVar, vC, v2, v1, vB, vM, vTup, vLst, vSl, vCall, vIsi, vIf, vAnd, vOr, vNot, vChain, vDisp1, vDNewK, vBxI, vBxD, vBxNew, vScLen, vScIx, vEnum, enD, sNil, sCons, aNil, aCons, tOf, tBl, tAnd, tOr, tNot, truthD, boolD, iRange1, iRange2, iVal, iRaw, rawI, itemsD, pNo, pSome, slD, on1, on2, lenD, intD, addD, subD, mulD, fdivD, modD, powD, negD, ltD, leD, gtD, geD, eqD, neD, isD, isNotD, inD, notInD, ixD, tupD, listD, minD, maxD, gSet, gNilD, gConsD, gTupD, tyD, countD, sindexD, vLc, List.getElem?_cons_zero, List.getElem?_cons_succ, List.set_cons_zero, List.set_cons_succ, bx_eq, scr_eq, D.int.injEq, D.str.injEq, D.bl.injEq, Prod.mk.injEq, exists_eq_left, exists_eq_left', exists_and_left, exists_eq, exists_eq', true_and, and_true, List.length_map, decide_eq_true_eq, reduceCtorEq, if_true, if_false, Bool.not_true, Bool.not_false, Bool.false_eq_true, Option.some.injEq, Sl.ow.injEq, Sl.fz.injEq, D.lst.injEq, D.tup.injEq, D.dct.injEq, List.cons.injEq, and_assoc, and_self, Int.toNat_natCast, atI_0, atI_1, atI_2, strs_eq, bx_eq, scr_eq, sAug, iaddD, joinD, vSortSet, vSortK, listKD, dgetD, vSortG, iRangeD, mulXD, vRev, revD, vSortSetX, sortSetR, sortSDx, sPopTo, vLc2, noOwB, noOwB_blk, vMaxD, vMaxG, mEm, vZip, zipD, sindexXD, vLrD, sExt, sBad, vEnumT, vSumG, sEm, vFldA, vMeth, vMake, vNewM, sMemo, sMemoD, KVar, Slf, KPair]
    by_cases h : c.length ≤ k
    · rw [if_pos (by omega)]
      have e2 : ((k : Nat) : Int) - ((c.length : Nat) : Int) = ((k - c.length : Nat) : Int) := by omega
      have e3 : atI ((List.range 15).map fun k => D.int (ctN m ps k)) (((k : Nat) : Int) - ((c.length : Nat) : Int)) = some (.int (ctN m ps (k - c.length))) := by rw [e2]; exact nm_at (by omega)
      simp only [nmD, e3, st0, List.map, List.length, List.replicate, List.cons_append, List.nil_append, sSeq, sSet, sIf, sRet, sRetN, sNext, sFor, sDrop, sApp, sStore, sBxSet, sAsg, put, settle, frz, vVar, vC, v2, v1, vB, vM, vTup, vLst, vSl, vCall, vIsi, vIf, vAnd, vOr, vNot, vChain, vDisp1, vDNewK, vBxI, vBxD, vBxNew, vScLen, vScIx, vEnum, enD, sNil, sCons, aNil, aCons, tOf, tBl, tAnd, tOr, tNot, truthD, boolD, iRange1, iRange2, iVal, iRaw, rawI, itemsD, pNo, pSome, slD, on1, on2, lenD, intD, addD, subD, mulD, fdivD, modD, powD, negD, ltD, leD, gtD, geD, eqD, neD, isD, isNotD, inD, notInD, ixD, tupD, listD, minD, maxD, gSet, gNilD, gConsD, gTupD, tyD, countD, sindexD, vLc, List.getElem?_cons_zero, List.getElem?_cons_succ, List.set_cons_zero, List.set_cons_succ, bx_eq, scr_eq, D.int.injEq, D.str.injEq, D.bl.injEq, Prod.mk.injEq, exists_eq_left, exists_eq_left', exists_and_left, exists_eq, exists_eq', true_and, and_true, List.length_map, decide_eq_true_eq, reduceCtorEq, if_true, if_false, Bool.not_true, Bool.not_false, Bool.false_eq_true, Option.some.injEq, Sl.ow.injEq, Sl.fz.injEq, D.lst.injEq, D.tup.injEq, D.dct.injEq, List.cons.injEq, and_assoc, and_self, Int.toNat_natCast, atI_0, atI_1, atI_2, strs_eq, bx_eq, scr_eq, sAug, iaddD, joinD, vSortSet, vSortK, listKD, dgetD, vSortG, iRangeD, mulXD, vRev, revD, vSortSetX, sortSetR, sortSDx, sPopTo, vLc2, noOwB, noOwB_blk, vMaxD, vMaxG, mEm, vZip, zipD, sindexXD, vLrD, sExt, sBad, vEnumT, vSumG, sEm, vFldA, vMeth, vMake, vNewM, sMemo, sMemoD, KVar, Slf, KPair]
      have e4 : ((c.length : Nat) : Int) % 2 = ((c.length % 2 : Nat) : Int) := by omega
      refine ⟨by decide, cmL ⟨by decide, by decide⟩, cmL ⟨by omega, by omega⟩, ?_⟩
      refine step _ ?_ _
      rw [sg, if_pos h, e4]
    · rw [if_neg (by omega)]
      exact step _ (by rw [sg, if_neg h, Int.add_zero]) _
theorem law_l2 {n : Nat} {Z : EndsD} {m : Nat} {ps : List (List Nat)} {s1 s2 s4 s5 : Sl} (hg : GoodP m ps) {F : List (List Nat)} (hF : F.Perm (clF ps (Lt m) [[]])) (hz : ∀ s3 s6 s8 s9, Z.nx [.fz (scr n), s1, s2, s3, s4, s5, s6, .ow (nmD m ps), s8, s9]) : ∀ (k j : Nat) (s3 s6 s8 s9 : Sl), j + k ≤ 14 → (s6 = .ow (.lst (F.map D.str)) ∨ s6 = .fz (.lst (F.map D.str))) →
    forD (gSet 3) (l2_law boxS alphabetS lwS same1ZS trS ctS clS clTS) (rngL ((j + 1 : Nat) : Int) k) [.fz (scr n), s1, s2, s3, s4, s5, s6, .ow (nmD m ps), s8, s9] Z := by
  intro k
  induction k with
  | zero => intro j s3 s6 s8 s9 _ _; rw [rngL_zero, forD_nil]; exact hz _ _ _ _
  | succ k ih =>
    intro j s3 s6 s8 s9 hj h6
    rw [rngL_succ, forD_cons]
    have ih' := ih (j + 1)
    have ej : ((j + 1 : Nat) : Int) + 1 = ((j + 1 + 1 : Nat) : Int) := by omega
    rw [ej]
    generalize forD (gSet 3) (l2_law boxS alphabetS lwS same1ZS trS ctS clS clTS) (rngL ((j + 1 + 1 : Nat) : Int) k) = Fr at ih' ⊢
    have L3 := fun {Z s1 s2 s4 s5 s6} => @law_l3 n Z m ps s1 s2 s4 s5 s6 (j + 1) (by omega) F 0
    have z0 := cliques_zero hg j hF
    have k0 := ok_int (i := 0)
    generalize hl3 : l3_law boxS alphabetS lwS same1ZS trS ctS clS clTS = L at L3
    have z1 : sumT (ctN m ps) (j + 1) F = 0 := z0
    rcases h6 with rfl | rfl <;>
    · unfold l2_law
      rw [hl3]
      simp only [st0, List.map, List.length, List.replicate, List.cons_append, List.nil_append, sSeq, sSet, sIf, sRet, sRetN, sNext, sFor, sDrop, sApp, sStore, sBxSet, sAsg, put, settle, frz, vVar, vC, v2, v1, vB, vM, vTup, vLst, vSl, vCall, vIsi, vIf, vAnd, vOr, vNot, vChain, vDisp1, vDNewK, vBxI, vBxD, vBxNew, vScLen, vScIx, vEnum, enD, sNil, sCons, aNil, aCons, tOf, tBl, tAnd, tOr, tNot, truthD, boolD, iRange1, iRange2, iVal, iRaw, rawI, itemsD, pNo, pSome, slD, on1, on2, lenD, intD, addD, subD, mulD, fdivD, modD, powD, negD, ltD, leD, gtD, geD, eqD, neD, isD, isNotD, inD, notInD, ixD, tupD, listD, minD, maxD, gSet, gNilD, gConsD, gTupD, tyD, countD, sindexD, vLc, List.getElem?_cons_zero, List.getElem?_cons_succ, List.set_cons_zero, List.set_cons_succ, bx_eq, scr_eq, D.int.injEq, D.str.injEq, D.bl.injEq, Prod.mk.injEq, exists_eq_left, exists_eq_left', exists_and_left, exists_eq, exists_eq', true_and, and_true, List.length_map, decide_eq_true_eq, reduceCtorEq, if_true, if_false, Bool.not_true, Bool.not_false, Bool.false_eq_true, Option.some.injEq, Sl.ow.injEq, Sl.fz.injEq, D.lst.injEq, D.tup.injEq, D.dct.injEq, List.cons.injEq, and_assoc, and_self, Int.toNat_natCast, atI_0, atI_1, atI_2, strs_eq, bx_eq, scr_eq, sAug, iaddD, joinD, vSortSet, vSortK, listKD, dgetD, vSortG, iRangeD, mulXD, vRev, revD, vSortSetX, sortSetR, sortSDx, sPopTo, vLc2, noOwB, noOwB_blk, vMaxD, vMaxG, mEm, vZip, zipD, sindexXD, vLrD, sExt, sBad, vEnumT, vSumG, sEm, vFldA, vMeth, vMake, vNewM, sMemo, sMemoD, KVar, Slf, KPair]
      refine L3 _ fun s9 => ?_
      rw [z1]
      simp only [Int.add_zero, eqv_int, k0, decide_true, st0, List.map, List.length, List.replicate, List.cons_append, List.nil_append, sSeq, sSet, sIf, sRet, sRetN, sNext, sFor, sDrop, sApp, sStore, sBxSet, sAsg, put, settle, frz, vVar, vC, v2, v1, vB, vM, vTup, vLst, vSl, vCall, vIsi, vIf, vAnd, vOr, vNot, vChain, vDisp1, vDNewK, vBxI, vBxD, vBxNew, vScLen, vScIx, vEnum, enD, sNil, sCons, aNil, aCons, tOf, tBl, tAnd, tOr, tNot, truthD, boolD, iRange1, iRange2, iVal, iRaw, rawI, itemsD, pNo, pSome, slD, on1, on2, lenD, intD, addD, subD, mulD, fdivD, modD, powD, negD, ltD, leD, gtD, geD, eqD, neD, isD, isNotD, inD, notInD, ixD, tupD, listD, minD, maxD, gSet, gNilD, gConsD, gTupD, tyD, countD, sindexD, vLc, List.getElem?_cons_zero, List.getElem?_cons_succ, List.set_cons_zero, List.set_cons_succ, bx_eq, scr_eq, D.int.injEq, D.str.injEq, D.bl.injEq, Prod.mk.injEq, exists_eq_left, exists_eq_left', exists_and_left, exists_eq, exists_eq', true_and, and_true, List.length_map, decide_eq_true_eq, reduceCtorEq, if_true, if_false, Bool.not_true, Bool.not_false, Bool.false_eq_true, Option.some.injEq, Sl.ow.injEq, Sl.fz.injEq, D.lst.injEq, D.tup.injEq, D.dct.injEq, List.cons.injEq, and_assoc, and_self, Int.toNat_natCast, atI_0, atI_1, atI_2, strs_eq, bx_eq, scr_eq, sAug, iaddD, joinD, vSortSet, vSortK, listKD, dgetD, vSortG, iRangeD, mulXD, vRev, revD, vSortSetX, sortSetR, sortSDx, sPopTo, vLc2, noOwB, noOwB_blk, vMaxD, vMaxG, mEm, vZip, zipD, sindexXD, vLrD, sExt, sBad, vEnumT, vSumG, sEm, vFldA, vMeth, vMake, vNewM, sMemo, sMemoD, KVar, Slf, KPair]
      exact ih' _ _ _ _ (by omega) (.inr rfl)
theorem nm_lc {m : Nat} {ps : List (List Nat)} {s0 s1 s2 s4 s6 : Sl} (hm : m ≤ 6) (hg : GoodP m ps) {Q : List D → Prop} : ∀ (k j : Nat), j + k = 15 → Q ((List.range 15).map fun k => D.int (ctN m ps k)) →
    lcD (gSet 3) tsNil (vCall ctS (sCons (vVar 5) (sCons (vVar 3) (sNil)))) [s0, s1, s2, .no, s4, .fz (alD m ps), s6, .no, .no, .no] (rngL (j : Nat) k) ((List.range j).map fun k => D.int (ctN m ps k)) Q := by
  intro k
  induction k with
  | zero =>
    intro j hj hq
    rw [rngL_zero, lcD_nil]
    obtain rfl : j = 15 := by omega
    exact hq
  | succ k ih =>
    intro j hj hq
    rw [rngL_succ, lcD_cons]
    have ih' := ih (j + 1)
    have ej : ((j : Nat) : Int) + 1 = ((j + 1 : Nat) : Int) := by omega
    rw [ej]
    have e : ((List.range j).map fun k => D.int (ctN m ps k)) ++ [.int (ctN m ps j)] = (List.range (j + 1)).map fun k => D.int (ctN m ps k) := by rw [List.range_succ, List.map_append]; rfl
    have hsz : (1000 : Nat) < sizeLine := by rw [sizeLine_eq]; decide
    generalize lcD (gSet 3) tsNil (vCall ctS (sCons (vVar 5) (sCons (vVar 3) (sNil)))) [s0, s1, s2, .no, s4, .fz (alD m ps), s6, .no, .no, .no] (rngL ((j + 1 : Nat) : Int) k) = Lp at ih' ⊢
    simp only [tsNil, ctS, st0, List.map, List.length, List.replicate, List.cons_append, List.nil_append, sSeq, sSet, sIf, sRet, sRetN, sNext, sFor, sDrop, sApp, sStore, sBxSet, sAsg, put, settle, frz, vVar, vC, v2, v1, vB, vM, vTup, vLst, vSl, vCall, vIsi, vIf, vAnd, vOr, vNot, vChain, vDisp1, vDNewK, vBxI, vBxD, vBxNew, vScLen, vScIx, vEnum, enD, sNil, sCons, aNil, aCons, tOf, tBl, tAnd, tOr, tNot, truthD, boolD, iRange1, iRange2, iVal, iRaw, rawI, itemsD, pNo, pSome, slD, on1, on2, lenD, intD, addD, subD, mulD, fdivD, modD, powD, negD, ltD, leD, gtD, geD, eqD, neD, isD, isNotD, inD, notInD, ixD, tupD, listD, minD, maxD, gSet, gNilD, gConsD, gTupD, tyD, countD, sindexD, vLc, List.getElem?_cons_zero, List.getElem?_cons_succ, List.set_cons_zero, List.set_cons_succ, bx_eq, scr_eq, D.int.injEq, D.str.injEq, D.bl.injEq, Prod.mk.injEq, exists_eq_left, exists_eq_left', exists_and_left, exists_eq, exists_eq', true_and, and_true, List.length_map, decide_eq_true_eq, reduceCtorEq, if_true, if_false, Bool.not_true, Bool.not_false, Bool.false_eq_true, Option.some.injEq, Sl.ow.injEq, Sl.fz.injEq, D.lst.injEq, D.tup.injEq, D.dct.injEq, List.cons.injEq, and_assoc, and_self, Int.toNat_natCast, atI_0, atI_1, atI_2, strs_eq, bx_eq, scr_eq, sAug, iaddD, joinD, vSortSet, vSortK, listKD, dgetD, vSortG, iRangeD, mulXD, vRev, revD, vSortSetX, sortSetR, sortSDx, sPopTo, vLc2, noOwB, noOwB_blk, vMaxD, vMaxG, mEm, vZip, zipD, sindexXD, vLrD, sExt, sBad, vEnumT, vSumG, sEm, vFldA, vMeth, vMake, vNewM, sMemo, sMemoD, KVar, Slf, KPair]
    refine ⟨m, ps, rfl, j, rfl, hm, hg, by omega, ?_, ?_⟩
    · simp only [List.length_range]; omega
    · rw [e]
      exact ih' (by omega) hq
theorem Sml_clF {ps : List (List Nat)} : ∀ (L : List Nat) (F : List (List Nat)) (n : Nat), (∀ x ∈ L, x < 1000) → Sml F n → Sml (clF ps L F) (n + L.length)
  | [], F, n, _, h => h
  | x :: L, F, n, hL, h => by
    have := Sml_clF (ps := ps) L _ (n + 1) (fun y hy => hL y (List.mem_cons_of_mem _ hy)) (h.snoc (P := fun c => freeW ps c [x]) (hL x List.mem_cons_self))
    rw [List.length_cons]
    rw [show n + (L.length + 1) = n + 1 + L.length by omega]
    exact this
theorem small_chars {s : List Nat} (h : ∀ x ∈ s, x < 1000) : chars s := fun c hc => (chars2 (h c hc) (h c hc)) c List.mem_cons_self
theorem p_law (ds : List D) (Q : D → Prop) (E : Nat → D → Prop) (h : lawS ds Q E) : e_law boxS alphabetS lwS same1ZS trS ctS clS clTS (st0 10 ds) { nx := fun _ => Q .non, rt := Q } := by
  obtain ⟨n, hn, rfl, hq⟩ := h
  rw [e_law_cut]
  have L1 := fun Z m ps ns hm hg hz => @law_l1 n Z m ps ns hm hg hz
  generalize hl1 : l1_law boxS alphabetS lwS same1ZS trS ctS clS clTS = L at L1
  simp only [boxS, alphabetS, st0, List.map, List.length, List.replicate, List.cons_append, List.nil_append, sSeq, sSet, sIf, sRet, sRetN, sNext, sFor, sDrop, sApp, sStore, sBxSet, sAsg, put, settle, frz, vVar, vC, v2, v1, vB, vM, vTup, vLst, vSl, vCall, vIsi, vIf, vAnd, vOr, vNot, vChain, vDisp1, vDNewK, vBxI, vBxD, vBxNew, vScLen, vScIx, vEnum, enD, sNil, sCons, aNil, aCons, tOf, tBl, tAnd, tOr, tNot, truthD, boolD, iRange1, iRange2, iVal, iRaw, rawI, itemsD, pNo, pSome, slD, on1, on2, lenD, intD, addD, subD, mulD, fdivD, modD, powD, negD, ltD, leD, gtD, geD, eqD, neD, isD, isNotD, inD, notInD, ixD, tupD, listD, minD, maxD, gSet, gNilD, gConsD, gTupD, tyD, countD, sindexD, vLc, List.getElem?_cons_zero, List.getElem?_cons_succ, List.set_cons_zero, List.set_cons_succ, bx_eq, scr_eq, D.int.injEq, D.str.injEq, D.bl.injEq, Prod.mk.injEq, exists_eq_left, exists_eq_left', exists_and_left, exists_eq, exists_eq', true_and, and_true, List.length_map, decide_eq_true_eq, reduceCtorEq, if_true, if_false, Bool.not_true, Bool.not_false, Bool.false_eq_true, Option.some.injEq, Sl.ow.injEq, Sl.fz.injEq, D.lst.injEq, D.tup.injEq, D.dct.injEq, List.cons.injEq, and_assoc, and_self, Int.toNat_natCast, atI_0, atI_1, atI_2, strs_eq, bx_eq, scr_eq, sAug, iaddD, joinD, vSortSet, vSortK, listKD, dgetD, vSortG, iRangeD, mulXD, vRev, revD, vSortSetX, sortSetR, sortSDx, sPopTo, vLc2, noOwB, noOwB_blk, vMaxD, vMaxG, mEm, vZip, zipD, sindexXD, vLrD, sExt, sBad, vEnumT, vSumG, sEm, vFldA, vMeth, vMake, vNewM, sMemo, sMemoD, KVar, Slf, KPair]
  refine ⟨by decide, by decide, fun ns => ⟨by decide, by decide, fun m ps h1 h2 hg => ⟨by decide, by decide, ?_⟩⟩⟩
  refine L1 { nx := fun ρ' => x3 ρ' { nx := fun _ => Q .non, rt := Q }, rt := Q } m ps ns (by omega) hg (fun s3 s4 => ?_) 5 0 .no .no (by omega)
  simp only [x3, alphabetS, st0, List.map, List.length, List.replicate, List.cons_append, List.nil_append, sSeq, sSet, sIf, sRet, sRetN, sNext, sFor, sDrop, sApp, sStore, sBxSet, sAsg, put, settle, frz, vVar, vC, v2, v1, vB, vM, vTup, vLst, vSl, vCall, vIsi, vIf, vAnd, vOr, vNot, vChain, vDisp1, vDNewK, vBxI, vBxD, vBxNew, vScLen, vScIx, vEnum, enD, sNil, sCons, aNil, aCons, tOf, tBl, tAnd, tOr, tNot, truthD, boolD, iRange1, iRange2, iVal, iRaw, rawI, itemsD, pNo, pSome, slD, on1, on2, lenD, intD, addD, subD, mulD, fdivD, modD, powD, negD, ltD, leD, gtD, geD, eqD, neD, isD, isNotD, inD, notInD, ixD, tupD, listD, minD, maxD, gSet, gNilD, gConsD, gTupD, tyD, countD, sindexD, vLc, List.getElem?_cons_zero, List.getElem?_cons_succ, List.set_cons_zero, List.set_cons_succ, bx_eq, scr_eq, D.int.injEq, D.str.injEq, D.bl.injEq, Prod.mk.injEq, exists_eq_left, exists_eq_left', exists_and_left, exists_eq, exists_eq', true_and, and_true, List.length_map, decide_eq_true_eq, reduceCtorEq, if_true, if_false, Bool.not_true, Bool.not_false, Bool.false_eq_true, Option.some.injEq, Sl.ow.injEq, Sl.fz.injEq, D.lst.injEq, D.tup.injEq, D.dct.injEq, List.cons.injEq, and_assoc, and_self, Int.toNat_natCast, atI_0, atI_1, atI_2, strs_eq, bx_eq, scr_eq, sAug, iaddD, joinD, vSortSet, vSortK, listKD, dgetD, vSortG, iRangeD, mulXD, vRev, revD, vSortSetX, sortSetR, sortSDx, sPopTo, vLc2, noOwB, noOwB_blk, vMaxD, vMaxG, mEm, vZip, zipD, sindexXD, vLrD, sExt, sBad, vEnumT, vSumG, sEm, vFldA, vMeth, vMake, vNewM, sMemo, sMemoD, KVar, Slf, KPair]
  refine ⟨by decide, by decide, fun m ps h1 h2 hg => ?_⟩
  simp only [x4, clS, st0, List.map, List.length, List.replicate, List.cons_append, List.nil_append, sSeq, sSet, sIf, sRet, sRetN, sNext, sFor, sDrop, sApp, sStore, sBxSet, sAsg, put, settle, frz, vVar, vC, v2, v1, vB, vM, vTup, vLst, vSl, vCall, vIsi, vIf, vAnd, vOr, vNot, vChain, vDisp1, vDNewK, vBxI, vBxD, vBxNew, vScLen, vScIx, vEnum, enD, sNil, sCons, aNil, aCons, tOf, tBl, tAnd, tOr, tNot, truthD, boolD, iRange1, iRange2, iVal, iRaw, rawI, itemsD, pNo, pSome, slD, on1, on2, lenD, intD, addD, subD, mulD, fdivD, modD, powD, negD, ltD, leD, gtD, geD, eqD, neD, isD, isNotD, inD, notInD, ixD, tupD, listD, minD, maxD, gSet, gNilD, gConsD, gTupD, tyD, countD, sindexD, vLc, List.getElem?_cons_zero, List.getElem?_cons_succ, List.set_cons_zero, List.set_cons_succ, bx_eq, scr_eq, D.int.injEq, D.str.injEq, D.bl.injEq, Prod.mk.injEq, exists_eq_left, exists_eq_left', exists_and_left, exists_eq, exists_eq', true_and, and_true, List.length_map, decide_eq_true_eq, reduceCtorEq, if_true, if_false, Bool.not_true, Bool.not_false, Bool.false_eq_true, Option.some.injEq, Sl.ow.injEq, Sl.fz.injEq, D.lst.injEq, D.tup.injEq, D.dct.injEq, List.cons.injEq, and_assoc, and_self, Int.toNat_natCast, atI_0, atI_1, atI_2, strs_eq, bx_eq, scr_eq, sAug, iaddD, joinD, vSortSet, vSortK, listKD, dgetD, vSortG, iRangeD, mulXD, vRev, revD, vSortSetX, sortSetR, sortSDx, sPopTo, vLc2, noOwB, noOwB_blk, vMaxD, vMaxG, mEm, vZip, zipD, sindexXD, vLrD, sExt, sBad, vEnumT, vSumG, sEm, vFldA, vMeth, vMake, vNewM, sMemo, sMemoD, KVar, Slf, KPair]
  refine ⟨m, ps, rfl, by omega, hg, ?_⟩
  simp only [x5, clTS, ctS, same1ZS, st0, List.map, List.length, List.replicate, List.cons_append, List.nil_append, sSeq, sSet, sIf, sRet, sRetN, sNext, sFor, sDrop, sApp, sStore, sBxSet, sAsg, put, settle, frz, vVar, vC, v2, v1, vB, vM, vTup, vLst, vSl, vCall, vIsi, vIf, vAnd, vOr, vNot, vChain, vDisp1, vDNewK, vBxI, vBxD, vBxNew, vScLen, vScIx, vEnum, enD, sNil, sCons, aNil, aCons, tOf, tBl, tAnd, tOr, tNot, truthD, boolD, iRange1, iRange2, iVal, iRaw, rawI, itemsD, pNo, pSome, slD, on1, on2, lenD, intD, addD, subD, mulD, fdivD, modD, powD, negD, ltD, leD, gtD, geD, eqD, neD, isD, isNotD, inD, notInD, ixD, tupD, listD, minD, maxD, gSet, gNilD, gConsD, gTupD, tyD, countD, sindexD, vLc, List.getElem?_cons_zero, List.getElem?_cons_succ, List.set_cons_zero, List.set_cons_succ, bx_eq, scr_eq, D.int.injEq, D.str.injEq, D.bl.injEq, Prod.mk.injEq, exists_eq_left, exists_eq_left', exists_and_left, exists_eq, exists_eq', true_and, and_true, List.length_map, decide_eq_true_eq, reduceCtorEq, if_true, if_false, Bool.not_true, Bool.not_false, Bool.false_eq_true, Option.some.injEq, Sl.ow.injEq, Sl.fz.injEq, D.lst.injEq, D.tup.injEq, D.dct.injEq, List.cons.injEq, and_assoc, and_self, Int.toNat_natCast, atI_0, atI_1, atI_2, strs_eq, bx_eq, scr_eq, sAug, iaddD, joinD, vSortSet, vSortK, listKD, dgetD, vSortG, iRangeD, mulXD, vRev, revD, vSortSetX, sortSetR, sortSDx, sPopTo, vLc2, noOwB, noOwB_blk, vMaxD, vMaxG, mEm, vZip, zipD, sindexXD, vLrD, sExt, sBad, vEnumT, vSumG, sEm, vFldA, vMeth, vMake, vNewM, sMemo, sMemoD, KVar, Slf, KPair]
  have hch : ∀ s ∈ sortK (clF ps (Lt m) [[]]), chars s := fun s hs => small_chars (Sml_clF (ps := ps) (Lt m) [[]] 0 (Lt_small (by omega)) Sml0 s ((sortK_perm _).mem_iff.mp hs)).1
  have hle := (sortK_perm (clF ps (Lt m) [[]])).length_eq
  have h6 := clF_len6 (m := m) (ps := ps) (by omega)
  refine ⟨m, ps, rfl, by omega, hg, rfl, .inr (.inr (.inr ⟨_, hch, by omega, rfl⟩)), m, ps, rfl, 0, rfl, by omega, hg, by omega, rfl, .inr (.inl trivial), ?_⟩
  simp only [x6, st0, List.map, List.length, List.replicate, List.cons_append, List.nil_append, sSeq, sSet, sIf, sRet, sRetN, sNext, sFor, sDrop, sApp, sStore, sBxSet, sAsg, put, settle, frz, vVar, vC, v2, v1, vB, vM, vTup, vLst, vSl, vCall, vIsi, vIf, vAnd, vOr, vNot, vChain, vDisp1, vDNewK, vBxI, vBxD, vBxNew, vScLen, vScIx, vEnum, enD, sNil, sCons, aNil, aCons, tOf, tBl, tAnd, tOr, tNot, truthD, boolD, iRange1, iRange2, iVal, iRaw, rawI, itemsD, pNo, pSome, slD, on1, on2, lenD, intD, addD, subD, mulD, fdivD, modD, powD, negD, ltD, leD, gtD, geD, eqD, neD, isD, isNotD, inD, notInD, ixD, tupD, listD, minD, maxD, gSet, gNilD, gConsD, gTupD, tyD, countD, sindexD, vLc, List.getElem?_cons_zero, List.getElem?_cons_succ, List.set_cons_zero, List.set_cons_succ, bx_eq, scr_eq, D.int.injEq, D.str.injEq, D.bl.injEq, Prod.mk.injEq, exists_eq_left, exists_eq_left', exists_and_left, exists_eq, exists_eq', true_and, and_true, List.length_map, decide_eq_true_eq, reduceCtorEq, if_true, if_false, Bool.not_true, Bool.not_false, Bool.false_eq_true, Option.some.injEq, Sl.ow.injEq, Sl.fz.injEq, D.lst.injEq, D.tup.injEq, D.dct.injEq, List.cons.injEq, and_assoc, and_self, Int.toNat_natCast, atI_0, atI_1, atI_2, strs_eq, bx_eq, scr_eq, sAug, iaddD, joinD, vSortSet, vSortK, listKD, dgetD, vSortG, iRangeD, mulXD, vRev, revD, vSortSetX, sortSetR, sortSDx, sPopTo, vLc2, noOwB, noOwB_blk, vMaxD, vMaxG, mEm, vZip, zipD, sindexXD, vLrD, sExt, sBad, vEnumT, vSumG, sEm, vFldA, vMeth, vMake, vNewM, sMemo, sMemoD, KVar, Slf, KPair]
  refine ⟨by decide, by decide, ?_⟩
  show lcD _ _ _ [_, _, _, .no, _, .fz (alD m ps), _, .no, .no, .no] (rngL ((0 : Nat) : Int) 15) ((List.range 0).map fun k => D.int (ctN m ps k)) _
  refine nm_lc (by omega) hg 15 0 (by omega) ?_
  have L2 := fun {Z s1 s2 s4 s5} hz => @law_l2 n Z m ps s1 s2 s4 s5 hg _ (sortK_perm _) hz
  generalize hl2 : l2_law boxS alphabetS lwS same1ZS trS ctS clS clTS = L at L2
  unfold x7
  rw [hl2]
  simp only [st0, List.map, List.length, List.replicate, List.cons_append, List.nil_append, sSeq, sSet, sIf, sRet, sRetN, sNext, sFor, sDrop, sApp, sStore, sBxSet, sAsg, put, settle, frz, vVar, vC, v2, v1, vB, vM, vTup, vLst, vSl, vCall, vIsi, vIf, vAnd, vOr, vNot, vChain, vDisp1, vDNewK, vBxI, vBxD, vBxNew, vScLen, vScIx, vEnum, enD, sNil, sCons, aNil, aCons, tOf, tBl, tAnd, tOr, tNot, truthD, boolD, iRange1, iRange2, iVal, iRaw, rawI, itemsD, pNo, pSome, slD, on1, on2, lenD, intD, addD, subD, mulD, fdivD, modD, powD, negD, ltD, leD, gtD, geD, eqD, neD, isD, isNotD, inD, notInD, ixD, tupD, listD, minD, maxD, gSet, gNilD, gConsD, gTupD, tyD, countD, sindexD, vLc, List.getElem?_cons_zero, List.getElem?_cons_succ, List.set_cons_zero, List.set_cons_succ, bx_eq, scr_eq, D.int.injEq, D.str.injEq, D.bl.injEq, Prod.mk.injEq, exists_eq_left, exists_eq_left', exists_and_left, exists_eq, exists_eq', true_and, and_true, List.length_map, decide_eq_true_eq, reduceCtorEq, if_true, if_false, Bool.not_true, Bool.not_false, Bool.false_eq_true, Option.some.injEq, Sl.ow.injEq, Sl.fz.injEq, D.lst.injEq, D.tup.injEq, D.dct.injEq, List.cons.injEq, and_assoc, and_self, Int.toNat_natCast, atI_0, atI_1, atI_2, strs_eq, bx_eq, scr_eq, sAug, iaddD, joinD, vSortSet, vSortK, listKD, dgetD, vSortG, iRangeD, mulXD, vRev, revD, vSortSetX, sortSetR, sortSDx, sPopTo, vLc2, noOwB, noOwB_blk, vMaxD, vMaxG, mEm, vZip, zipD, sindexXD, vLrD, sExt, sBad, vEnumT, vSumG, sEm, vFldA, vMeth, vMake, vNewM, sMemo, sMemoD, KVar, Slf, KPair]
  refine ⟨by decide, by decide, by decide, by decide, ?_⟩
  refine L2 (fun s3 s6 s8 s9 => ?_) 14 0 _ _ _ _ (by omega) (.inr rfl)
  exact hq
end TC

namespace TC
open PySem PySem.Spec PyProof.Rows L2
/-! ### the text, printed by gen.py -/
def top (i : Nat) : Stmt := PySem.Challenge.pw_traceclasses_k21_how_many_traces.main.body.getD i (.Pass ⟨0, 0, 0, 0⟩)
abbrev st_independent : Stmt := top 1
abbrev N_independent : List Str := ["alphabet", "x", "y"]
abbrev P_independent : List Str := ["alphabet", "x", "y"]
theorem sc_independent : FnScope N_independent P_independent (defScope st_independent) := ⟨rfl, rfl, rfl, by decide +kernel, rfl, by decide +kernel, by decide +kernel⟩
abbrev st_free : Stmt := top 2
abbrev N_free : List Str := ["alphabet", "word", "other", "x", "y"]
abbrev P_free : List Str := ["alphabet", "word", "other"]
theorem sc_free : FnScope N_free P_free (defScope st_free) := ⟨rfl, rfl, rfl, by decide +kernel, rfl, by decide +kernel, by decide +kernel⟩
abbrev st_cliques : Stmt := top 4
abbrev N_cliques : List Str := ["alphabet", "found", "letter", "clique"]
abbrev P_cliques : List Str := ["alphabet"]
theorem sc_cliques : FnScope N_cliques P_cliques (defScope st_cliques) := ⟨rfl, rfl, rfl, by decide +kernel, rfl, by decide +kernel, by decide +kernel⟩
abbrev st_barred_behind : Stmt := top 5
abbrev N_barred_behind : List Str := ["alphabet", "barred", "letter", "other"]
abbrev P_barred_behind : List Str := ["alphabet", "barred", "letter"]
theorem sc_barred_behind : FnScope N_barred_behind P_barred_behind (defScope st_barred_behind) := ⟨rfl, rfl, rfl, by decide +kernel, rfl, by decide +kernel, by decide +kernel⟩
abbrev st_count_traces : Stmt := top 7
abbrev N_count_traces : List Str := ["alphabet", "n"]
abbrev P_count_traces : List Str := ["alphabet", "n"]
theorem sc_count_traces : FnScope N_count_traces P_count_traces (defScope st_count_traces) := ⟨rfl, rfl, rfl, by decide +kernel, rfl, by decide +kernel, by decide +kernel⟩
abbrev st_traces : Stmt := top 8
abbrev N_traces : List Str := ["alphabet", "n"]
abbrev P_traces : List Str := ["alphabet", "n"]
theorem sc_traces : FnScope N_traces P_traces (defScope st_traces) := ⟨rfl, rfl, rfl, by decide +kernel, rfl, by decide +kernel, by decide +kernel⟩
abbrev st__law_free : Stmt := top 10
abbrev N__law_free : List Str := ["_law_alphabet_here", "_law_x", "_law_y"]
abbrev P__law_free : List Str := ["_law_alphabet_here", "_law_x", "_law_y"]
theorem sc__law_free : FnScope N__law_free P__law_free (defScope st__law_free) := ⟨rfl, rfl, rfl, by decide +kernel, rfl, by decide +kernel, by decide +kernel⟩
abbrev st__law_apart : Stmt := top 11
abbrev N__law_apart : List Str := ["_law_alphabet_here", "_law_word", "_law_other", "_law_x", "_law_y"]
abbrev P__law_apart : List Str := ["_law_alphabet_here", "_law_word", "_law_other"]
theorem sc__law_apart : FnScope N__law_apart P__law_apart (defScope st__law_apart) := ⟨rfl, rfl, rfl, by decide +kernel, rfl, by decide +kernel, by decide +kernel⟩
abbrev st__law_cell : Stmt := top 12
abbrev N__law_cell : List Str := ["_law_script", "_law_k"]
abbrev P__law_cell : List Str := ["_law_script", "_law_k"]
theorem sc__law_cell : FnScope N__law_cell P__law_cell (defScope st__law_cell) := ⟨rfl, rfl, rfl, by decide +kernel, rfl, by decide +kernel, by decide +kernel⟩
abbrev st__law_digits : Stmt := top 13
abbrev N__law_digits : List Str := ["_law_script", "_law_first", "_law_last", "_law_digits_here", "_law_k", "_law_cell_here", "_law_turn", "_law_seed"]
abbrev P__law_digits : List Str := ["_law_script", "_law_first", "_law_last"]
theorem sc__law_digits : FnScope N__law_digits P__law_digits (defScope st__law_digits) := ⟨rfl, rfl, rfl, by decide +kernel, rfl, by decide +kernel, by decide +kernel⟩
abbrev st__law_box : Stmt := top 14
abbrev N__law_box : List Str := ["_law_script", "_law_first", "_law_last"]
abbrev P__law_box : List Str := ["_law_script", "_law_first", "_law_last"]
theorem sc__law_box : FnScope N__law_box P__law_box (defScope st__law_box) := ⟨rfl, rfl, rfl, by decide +kernel, rfl, by decide +kernel, by decide +kernel⟩
abbrev st__law_draw : Stmt := top 15
abbrev N__law_draw : List Str := ["_law_box_here", "_law_many", "_law_at"]
abbrev P__law_draw : List Str := ["_law_box_here", "_law_many"]
theorem sc__law_draw : FnScope N__law_draw P__law_draw (defScope st__law_draw) := ⟨rfl, rfl, rfl, by decide +kernel, rfl, by decide +kernel, by decide +kernel⟩
abbrev st__law_alphabet : Stmt := top 16
abbrev N__law_alphabet : List Str := ["_law_box_here", "_law_most", "_law_letters", "_law_pairs", "_law_j", "_law_k"]
abbrev P__law_alphabet : List Str := ["_law_box_here", "_law_most"]
theorem sc__law_alphabet : FnScope N__law_alphabet P__law_alphabet (defScope st__law_alphabet) := ⟨rfl, rfl, rfl, by decide +kernel, rfl, by decide +kernel, by decide +kernel⟩
abbrev st__law_all : Stmt := top 17
abbrev N__law_all : List Str := ["_law_alphabet_here", "_law_most", "_law_words", "_law_last", "_law_k", "_law_longer", "_law_word", "_law_x"]
abbrev P__law_all : List Str := ["_law_alphabet_here", "_law_most"]
theorem sc__law_all : FnScope N__law_all P__law_all (defScope st__law_all) := ⟨rfl, rfl, rfl, by decide +kernel, rfl, by decide +kernel, by decide +kernel⟩
abbrev st__law_leaders : Stmt := top 18
abbrev N__law_leaders : List Str := ["_law_alphabet_here", "_law_word", "_law_found", "_law_x", "_law_ahead", "_law_y"]
abbrev P__law_leaders : List Str := ["_law_alphabet_here", "_law_word"]
theorem sc__law_leaders : FnScope N__law_leaders P__law_leaders (defScope st__law_leaders) := ⟨rfl, rfl, rfl, by decide +kernel, rfl, by decide +kernel, by decide +kernel⟩
abbrev st__law_without : Stmt := top 19
abbrev N__law_without : List Str := ["_law_word", "_law_x", "_law_place"]
abbrev P__law_without : List Str := ["_law_word", "_law_x"]
theorem sc__law_without : FnScope N__law_without P__law_without (defScope st__law_without) := ⟨rfl, rfl, rfl, by decide +kernel, rfl, by decide +kernel, by decide +kernel⟩
abbrev st__law_least : Stmt := top 20
abbrev N__law_least : List Str := ["_law_alphabet_here", "_law_word", "_law_least_here", "_law_x"]
abbrev P__law_least : List Str := ["_law_alphabet_here", "_law_word"]
theorem sc__law_least : FnScope N__law_least P__law_least (defScope st__law_least) := ⟨rfl, rfl, rfl, by decide +kernel, rfl, by decide +kernel, by decide +kernel⟩
abbrev st__law_least_words : Stmt := top 21
abbrev N__law_least_words : List Str := ["_law_alphabet_here", "_law_n", "_law_found", "_law_word"]
abbrev P__law_least_words : List Str := ["_law_alphabet_here", "_law_n"]
theorem sc__law_least_words : FnScope N__law_least_words P__law_least_words (defScope st__law_least_words) := ⟨rfl, rfl, rfl, by decide +kernel, rfl, by decide +kernel, by decide +kernel⟩
abbrev st__law_same : Stmt := top 22
abbrev N__law_same : List Str := ["_law_actual", "_law_expected", "_law_k"]
abbrev P__law_same : List Str := ["_law_actual", "_law_expected"]
theorem sc__law_same : FnScope N__law_same P__law_same (defScope st__law_same) := ⟨rfl, rfl, rfl, by decide +kernel, rfl, by decide +kernel, by decide +kernel⟩
abbrev st__law_cliques : Stmt := top 23
abbrev N__law_cliques : List Str := ["_law_alphabet_here", "_law_found", "_law_x", "_law_clique"]
abbrev P__law_cliques : List Str := ["_law_alphabet_here"]
theorem sc__law_cliques : FnScope N__law_cliques P__law_cliques (defScope st__law_cliques) := ⟨rfl, rfl, rfl, by decide +kernel, rfl, by decide +kernel, by decide +kernel⟩
abbrev st_law : Stmt := top 24
abbrev N_law : List Str := ["_law_script", "_law_box_here", "_law_alphabet_here", "_law_n", "_law_due", "_law_wide", "_law_rows", "_law_numbers", "_law_total", "_law_clique"]
abbrev P_law : List Str := ["_law_script"]
theorem sc_law : FnScope N_law P_law (defScope st_law) := ⟨rfl, rfl, rfl, by decide +kernel, rfl, by decide +kernel, by decide +kernel⟩
abbrev st_next_letters : Stmt := (clsBody (top 6)).getD 1 (.Pass ⟨0, 0, 0, 0⟩)
abbrev N_next_letters : List Str := ["self", "barred", "letter"]
abbrev P_next_letters : List Str := ["self", "barred"]
theorem sc_next_letters : FnScope N_next_letters P_next_letters (defScope st_next_letters) := ⟨rfl, rfl, rfl, by decide +kernel, rfl, by decide +kernel, by decide +kernel⟩
abbrev st_count : Stmt := (clsBody (top 6)).getD 2 (.Pass ⟨0, 0, 0, 0⟩)
abbrev N_count : List Str := ["self", "n", "barred", "_", "later"]
abbrev P_count : List Str := ["self", "n", "barred"]
theorem sc_count : FnScope N_count P_count (defScope st_count) := ⟨rfl, rfl, rfl, by decide +kernel, rfl, by decide +kernel, by decide +kernel⟩
abbrev st_words : Stmt := (clsBody (top 6)).getD 3 (.Pass ⟨0, 0, 0, 0⟩)
abbrev N_words : List Str := ["self", "n", "barred", "letter", "later", "rest"]
abbrev P_words : List Str := ["self", "n", "barred"]
theorem sc_words : FnScope N_words P_words (defScope st_words) := ⟨rfl, rfl, rfl, by decide +kernel, rfl, by decide +kernel, by decide +kernel⟩
abbrev st_init : Stmt := (clsBody (top 6)).getD 0 (.Pass ⟨0, 0, 0, 0⟩)
theorem sc_init : FnScope ["self", "alphabet"] ["self", "alphabet"] (defScope st_init) := ⟨rfl, rfl, rfl, by decide +kernel, rfl, by decide +kernel, by decide +kernel⟩
def fn : List He.DefD := [⟨("independent", none), "independent", "independent", defArgs st_independent, defBody st_independent, defScope st_independent, [], []⟩, ⟨("free", none), "free", "free", defArgs st_free, defBody st_free, defScope st_free, [], []⟩, ⟨("cliques", none), "cliques", "cliques", defArgs st_cliques, defBody st_cliques, defScope st_cliques, [], []⟩, ⟨("barred_behind", none), "barred_behind", "barred_behind", defArgs st_barred_behind, defBody st_barred_behind, defScope st_barred_behind, [], []⟩, ⟨("count_traces", none), "count_traces", "count_traces", defArgs st_count_traces, defBody st_count_traces, defScope st_count_traces, [], []⟩, ⟨("traces", none), "traces", "traces", defArgs st_traces, defBody st_traces, defScope st_traces, [], []⟩, ⟨("_law_free", none), "_law_free", "_law_free", defArgs st__law_free, defBody st__law_free, defScope st__law_free, [], []⟩, ⟨("_law_apart", none), "_law_apart", "_law_apart", defArgs st__law_apart, defBody st__law_apart, defScope st__law_apart, [], []⟩, ⟨("_law_cell", none), "_law_cell", "_law_cell", defArgs st__law_cell, defBody st__law_cell, defScope st__law_cell, [], []⟩, ⟨("_law_digits", none), "_law_digits", "_law_digits", defArgs st__law_digits, defBody st__law_digits, defScope st__law_digits, [], []⟩, ⟨("_law_box", none), "_law_box", "_law_box", defArgs st__law_box, defBody st__law_box, defScope st__law_box, [], []⟩, ⟨("_law_draw", none), "_law_draw", "_law_draw", defArgs st__law_draw, defBody st__law_draw, defScope st__law_draw, [], []⟩, ⟨("_law_alphabet", none), "_law_alphabet", "_law_alphabet", defArgs st__law_alphabet, defBody st__law_alphabet, defScope st__law_alphabet, [], []⟩, ⟨("_law_all", none), "_law_all", "_law_all", defArgs st__law_all, defBody st__law_all, defScope st__law_all, [], []⟩, ⟨("_law_leaders", none), "_law_leaders", "_law_leaders", defArgs st__law_leaders, defBody st__law_leaders, defScope st__law_leaders, [], []⟩, ⟨("_law_without", none), "_law_without", "_law_without", defArgs st__law_without, defBody st__law_without, defScope st__law_without, [], []⟩, ⟨("_law_least", none), "_law_least", "_law_least", defArgs st__law_least, defBody st__law_least, defScope st__law_least, [], []⟩, ⟨("_law_least_words", none), "_law_least_words", "_law_least_words", defArgs st__law_least_words, defBody st__law_least_words, defScope st__law_least_words, [], []⟩, ⟨("_law_same", none), "_law_same", "_law_same", defArgs st__law_same, defBody st__law_same, defScope st__law_same, [], []⟩, ⟨("_law_cliques", none), "_law_cliques", "_law_cliques", defArgs st__law_cliques, defBody st__law_cliques, defScope st__law_cliques, [], []⟩, ⟨("law", none), "law", "law", defArgs st_law, defBody st_law, defScope st_law, [], []⟩, ⟨("Counter", some "next_letters"), "next_letters", "Counter.next_letters", defArgs st_next_letters, defBody st_next_letters, defScope st_next_letters, [], []⟩, ⟨("Counter", some "count"), "count", "Counter.count", defArgs st_count, defBody st_count, defScope st_count, [], []⟩, ⟨("Counter", some "words"), "words", "Counter.words", defArgs st_words, defBody st_words, defScope st_words, [], []⟩, ⟨("Counter", some "__init__"), "__init__", "Counter.__init__", defArgs st_init, defBody st_init, defScope st_init, [], []⟩]
def fa : List He.Fa := [.glo "independent", .glo "free", .glo "cliques", .glo "barred_behind", .glo "count_traces", .glo "traces", .glo "_law_free", .glo "_law_apart", .glo "_law_cell", .glo "_law_digits", .glo "_law_box", .glo "_law_draw", .glo "_law_alphabet", .glo "_law_all", .glo "_law_leaders", .glo "_law_without", .glo "_law_least", .glo "_law_least_words", .glo "_law_same", .glo "_law_cliques", .glo "law", .free "min", .free "max", .free "all", .free "sorted", .free "len", .free "tuple", .free "range", .free "int", .free "set", .free "isinstance", .free "bool", .free "str", .free "sum", .cls "Counter", .noat "Counter" "alphabet", .noat "Counter" "known", .mkr "Counter", .glo "Counter", .meth "Counter" "next_letters", .meth "Counter" "count", .meth "Counter" "words"]
def tf : List He.Defn := [("free", none), ("cliques", none), ("barred_behind", none), ("_law_cliques", none), ("Counter", some "count")]
section
variable {P : Program} {w : World} {K : PySem.W.Frag} {mg : Str → Option Value} {base : Heap} {Y : ExI} {MF : MemF}
theorem c_cls (kn : Kn fa fn tf K mg base) : Cls K (He.ga K "Counter") := kn.cls 34
theorem c_noA (kn : Kn fa fn tf K mg base) : NoAttr K (He.ga K "Counter") "alphabet" := kn.noat 35
theorem c_noK (kn : Kn fa fn tf K mg base) : NoAttr K (He.ga K "Counter") "known" := kn.noat 36
theorem c_mkr (kn : Kn fa fn tf K mg base) : Mk K (He.ga K "Counter") (He.fAd K ("Counter", some "__init__")) := kn.mkr 37
theorem g_cls (kn : Kn fa fn tf K mg base) : mg "Counter" = some (.ref (He.ga K "Counter")) := kn.glo 38
theorem c_meth_next_letters (kn : Kn fa fn tf K mg base) : Meth K (He.ga K "Counter") "next_letters" (He.fAd K ("Counter", some "next_letters")) := kn.meth 39
theorem c_meth_count (kn : Kn fa fn tf K mg base) : Meth K (He.ga K "Counter") "count" (He.fAd K ("Counter", some "count")) := kn.meth 40
theorem c_meth_words (kn : Kn fa fn tf K mg base) : Meth K (He.ga K "Counter") "words" (He.fAd K ("Counter", some "words")) := kn.meth 41
theorem ok_init (kn : Kn fa fn tf K mg base) : OkI P w K mg base 1 "Counter" (.dT []) := by
  obtain ⟨fd, F⟩ := kn.def_ 24
  exact OkI.mk (k := 0) F sc_init (c_cls kn) (c_noA kn) (c_noK kn) dnew_T (fun A outer s H E => init_pss pe_dnewT) (fun _ _ _ _ _ _ us hl => match us, hl with | [_, _], _ => rfl)
theorem g_independent (kn : Kn fa fn tf K mg base) : mg "independent" = some (.ref (He.fAd K ("independent", none))) := kn.glo 0
theorem g_free (kn : Kn fa fn tf K mg base) : mg "free" = some (.ref (He.fAd K ("free", none))) := kn.glo 1
theorem g_cliques (kn : Kn fa fn tf K mg base) : mg "cliques" = some (.ref (He.fAd K ("cliques", none))) := kn.glo 2
theorem g_barred_behind (kn : Kn fa fn tf K mg base) : mg "barred_behind" = some (.ref (He.fAd K ("barred_behind", none))) := kn.glo 3
theorem g_count_traces (kn : Kn fa fn tf K mg base) : mg "count_traces" = some (.ref (He.fAd K ("count_traces", none))) := kn.glo 4
theorem g_traces (kn : Kn fa fn tf K mg base) : mg "traces" = some (.ref (He.fAd K ("traces", none))) := kn.glo 5
theorem g__law_free (kn : Kn fa fn tf K mg base) : mg "_law_free" = some (.ref (He.fAd K ("_law_free", none))) := kn.glo 6
theorem g__law_apart (kn : Kn fa fn tf K mg base) : mg "_law_apart" = some (.ref (He.fAd K ("_law_apart", none))) := kn.glo 7
theorem g__law_cell (kn : Kn fa fn tf K mg base) : mg "_law_cell" = some (.ref (He.fAd K ("_law_cell", none))) := kn.glo 8
theorem g__law_digits (kn : Kn fa fn tf K mg base) : mg "_law_digits" = some (.ref (He.fAd K ("_law_digits", none))) := kn.glo 9
theorem g__law_box (kn : Kn fa fn tf K mg base) : mg "_law_box" = some (.ref (He.fAd K ("_law_box", none))) := kn.glo 10
theorem g__law_draw (kn : Kn fa fn tf K mg base) : mg "_law_draw" = some (.ref (He.fAd K ("_law_draw", none))) := kn.glo 11
theorem g__law_alphabet (kn : Kn fa fn tf K mg base) : mg "_law_alphabet" = some (.ref (He.fAd K ("_law_alphabet", none))) := kn.glo 12
theorem g__law_all (kn : Kn fa fn tf K mg base) : mg "_law_all" = some (.ref (He.fAd K ("_law_all", none))) := kn.glo 13
theorem g__law_leaders (kn : Kn fa fn tf K mg base) : mg "_law_leaders" = some (.ref (He.fAd K ("_law_leaders", none))) := kn.glo 14
theorem g__law_without (kn : Kn fa fn tf K mg base) : mg "_law_without" = some (.ref (He.fAd K ("_law_without", none))) := kn.glo 15
theorem g__law_least (kn : Kn fa fn tf K mg base) : mg "_law_least" = some (.ref (He.fAd K ("_law_least", none))) := kn.glo 16
theorem g__law_least_words (kn : Kn fa fn tf K mg base) : mg "_law_least_words" = some (.ref (He.fAd K ("_law_least_words", none))) := kn.glo 17
theorem g__law_same (kn : Kn fa fn tf K mg base) : mg "_law_same" = some (.ref (He.fAd K ("_law_same", none))) := kn.glo 18
theorem g__law_cliques (kn : Kn fa fn tf K mg base) : mg "_law_cliques" = some (.ref (He.fAd K ("_law_cliques", none))) := kn.glo 19
theorem g_law (kn : Kn fa fn tf K mg base) : mg "law" = some (.ref (He.fAd K ("law", none))) := kn.glo 20
theorem m_min (kn : Kn fa fn tf K mg base) : mg "min" = none := kn.free 21
theorem m_max (kn : Kn fa fn tf K mg base) : mg "max" = none := kn.free 22
theorem m_all (kn : Kn fa fn tf K mg base) : mg "all" = none := kn.free 23
theorem m_sorted (kn : Kn fa fn tf K mg base) : mg "sorted" = none := kn.free 24
theorem m_len (kn : Kn fa fn tf K mg base) : mg "len" = none := kn.free 25
theorem m_tuple (kn : Kn fa fn tf K mg base) : mg "tuple" = none := kn.free 26
theorem m_range (kn : Kn fa fn tf K mg base) : mg "range" = none := kn.free 27
theorem m_int (kn : Kn fa fn tf K mg base) : mg "int" = none := kn.free 28
theorem m_set (kn : Kn fa fn tf K mg base) : mg "set" = none := kn.free 29
theorem m_isinstance (kn : Kn fa fn tf K mg base) : mg "isinstance" = none := kn.free 30
theorem m_bool (kn : Kn fa fn tf K mg base) : mg "bool" = none := kn.free 31
theorem m_str (kn : Kn fa fn tf K mg base) : mg "str" = none := kn.free 32
theorem m_sum (kn : Kn fa fn tf K mg base) : mg "sum" = none := kn.free 33
theorem bo_min : bootBuiltins "min" = some (.builtin "min") := by decide +kernel
theorem bo_max : bootBuiltins "max" = some (.builtin "max") := by decide +kernel
theorem bo_all : bootBuiltins "all" = some (.builtin "all") := by decide +kernel
theorem bo_sorted : bootBuiltins "sorted" = some (.builtin "sorted") := by decide +kernel
theorem bo_len : bootBuiltins "len" = some (.builtin "len") := by decide +kernel
theorem bo_tuple : bootBuiltins "tuple" = some (.type "tuple") := by decide +kernel
theorem bo_range : bootBuiltins "range" = some (.type "range") := by decide +kernel
theorem bo_int : bootBuiltins "int" = some (.type "int") := by decide +kernel
theorem bo_set : bootBuiltins "set" = some (.type "set") := by decide +kernel
theorem bo_isinstance : bootBuiltins "isinstance" = some (.builtin "isinstance") := by decide +kernel
theorem bo_bool : bootBuiltins "bool" = some (.type "bool") := by decide +kernel
theorem bo_str : bootBuiltins "str" = some (.type "str") := by decide +kernel
theorem bo_sum : bootBuiltins "sum" = some (.builtin "sum") := by decide +kernel
theorem d_independent {k : Nat} (kn : Kn fa fn tf K mg base) (A : Around) (outer : List Env) (s : Shared) (H : Hp) (E : XK) (hr : Room (k) (A.deeper (envOfC "independent" (defScope st_independent) s.heap.objs.size (He.fAd K ("independent", none)) (.ref (He.codeOf K ("independent", none)))))) :
    DSs (bxO K (insO (He.ga K "Counter") true MF)) Y (tbs K tf) E0 (cxOf CX0 P w K mg base N_independent "independent" (defScope st_independent) (He.fAd K ("independent", none)) (.ref (He.codeOf K ("independent", none))) A outer s H E).nox (defBody st_independent) e_independent :=
  dss_one (ds_ret (de_cmp (od_in hr.u) (de_op od_add (de_callB (cr_min rfl) (by rfl) (m_min kn) bo_min (da_cons (de_var (i := 1)) (da_cons (de_var (i := 2)) (da_nil)))) (de_callB (cr_max rfl) (by rfl) (m_max kn) bo_max (da_cons (de_var (i := 1)) (da_cons (de_var (i := 2)) (da_nil))))) (de_ix hr.u (de_var (i := 0)) (de_int)) (by rfl)))
theorem ok_independent {k : Nat} {S : Spc} (kn : Kn fa fn tf K mg base) (hlen : ∀ ds Q E, S ds Q E → ds.length = 3) (hp : ∀ ds Q E, S ds Q E → e_independent  (st0 3 ds) { nx := fun _ => Q .non, rt := Q }) :
    OkD P w K mg base (bxO K (insO (He.ga K "Counter") true MF)) Y (tbs K tf) (k + 1) ("independent", none) P_independent S := by
  obtain ⟨fd, F⟩ := kn.def_ 0
  exact OkD.mk F sc_independent (fun A outer s H E hr => d_independent kn  A outer s H E hr) (fun _ _ _ _ _ _ us hl => match us, hl with | [_, _, _], _ => rfl) hlen hp
theorem d_free {k k_independent : Nat} {S_independent : Spc} (kn : Kn fa fn tf K mg base) (o_independent : OkD P w K mg base (bxO K (insO (He.ga K "Counter") true MF)) Y (tbs K tf) k_independent ("independent", none) P_independent S_independent) (l_independent : k_independent ≤ k) (A : Around) (outer : List Env) (s : Shared) (H : Hp) (E : XK) (hr : Room (k + 5) (A.deeper (envOfC "free" (defScope st_free) s.heap.objs.size (He.fAd K ("free", none)) (.ref (He.codeOf K ("free", none)))))) :
    DSs (bxO K (insO (He.ga K "Counter") true MF)) Y (tbs K tf) E0 (cxOf CX0 P w K mg base N_free "free" (defScope st_free) (He.fAd K ("free", none)) (.ref (He.codeOf K ("free", none))) A outer s H E).nox (defBody st_free) (e_free S_independent) :=
  dss_one (ds_ret (de_all (hr.mono (Nat.add_le_add_left (by decide) _)) (by rfl) (m_all kn) bo_all (gexp2 (own := [("x", 3), ("y", 4)]) (own2 := [4]) (hr.mono (Nat.le_add_right _ _)) (kn.tab (p := ("free", none)) (by decide)) (mem_tbs (by decide)) rfl rfl sc_free.nd (di_raw (de_var (i := 1))) (fun _ _ _ _ _ _ _ _ _ hg => dg_name (i := 3) sc_free.nd rfl (by first | exact Or.inl rfl | exact Or.inr rfl)) (fun _ _ _ _ _ _ _ _ _ hg => dts_nil) (fun _ _ _ _ _ _ _ _ _ hg => di_val (de_var (i := 2))) (fun _ _ _ _ _ _ _ _ _ hg => dg_name (i := 4) sc_free.nd rfl (by first | exact Or.inl rfl | exact Or.inr rfl)) (fun _ _ _ _ _ _ _ _ _ hg => dts_nil) (fun _ _ _ _ _ _ _ _ _ hg => de_callD o_independent hg l_independent (g_independent kn) (das_cons (de_var (i := 0)) (das_cons (de_var (i := 3)) (das_cons (de_var (i := 4)) (das_nil))))) (blkOk_of (by kernel_rfl)) (by decide) (show (".0" : Str) ∉ N_free by decide +kernel))))
theorem ok_free {k k_independent : Nat} {S_independent : Spc} {S : Spc} (kn : Kn fa fn tf K mg base) (o_independent : OkD P w K mg base (bxO K (insO (He.ga K "Counter") true MF)) Y (tbs K tf) k_independent ("independent", none) P_independent S_independent) (l_independent : k_independent ≤ k) (hlen : ∀ ds Q E, S ds Q E → ds.length = 3) (hp : ∀ ds Q E, S ds Q E → e_free S_independent (st0 5 ds) { nx := fun _ => Q .non, rt := Q }) :
    OkD P w K mg base (bxO K (insO (He.ga K "Counter") true MF)) Y (tbs K tf) (k + 5 + 1) ("free", none) P_free S := by
  obtain ⟨fd, F⟩ := kn.def_ 1
  exact OkD.mk F sc_free (fun A outer s H E hr => d_free kn o_independent l_independent A outer s H E hr) (fun _ _ _ _ _ _ us hl => match us, hl with | [_, _, _], _ => rfl) hlen hp
theorem d_cliques {k k_free : Nat} {S_free : Spc} (kn : Kn fa fn tf K mg base) (o_free : OkD P w K mg base (bxO K (insO (He.ga K "Counter") true MF)) Y (tbs K tf) k_free ("free", none) P_free S_free) (l_free : k_free ≤ k) (A : Around) (outer : List Env) (s : Shared) (H : Hp) (E : XK) (hr : Room (k + 5) (A.deeper (envOfC "cliques" (defScope st_cliques) s.heap.objs.size (He.fAd K ("cliques", none)) (.ref (He.codeOf K ("cliques", none)))))) :
    DSs (bxO K (insO (He.ga K "Counter") true MF)) Y (tbs K tf) E0 (cxOf CX0 P w K mg base N_cliques "cliques" (defScope st_cliques) (He.fAd K ("cliques", none)) (.ref (He.codeOf K ("cliques", none))) A outer s H E).nox (defBody st_cliques) (e_cliques S_free) :=
  dss_cons (ds_set (i := 1) sc_cliques.nd rfl (by first | exact Or.inl rfl | exact Or.inr rfl) (de_lst (das_cons (de_str (l := [])) (das_nil))))
    (dss_cons (ds_for (own := [2]) PassesOwn.never rfl (di_val (de_ix hr.u (de_var (i := 0)) (de_int))) (dg_name (i := 2) sc_cliques.nd rfl (by first | exact Or.inl rfl | exact Or.inr rfl)) (dss_one (ds_ext (i := 1) (de_lc (own := [("clique", 3)]) rfl sc_cliques.nd (di_raw (de_var (i := 1))) (blkOk_of (by kernel_rfl)) (fun _ _ _ _ _ => dg_name (i := 3) sc_cliques.nd rfl (by first | exact Or.inl rfl | exact Or.inr rfl)) (fun _ _ _ _ _ => dts_one (dt_of (de_callD o_free hr (Nat.le_trans l_free (Nat.le_add_right _ _)) (g_free kn) (das_cons (de_var (i := 0)) (das_cons (de_var (i := 3)) (das_cons (de_var (i := 2)) (das_nil))))))) (fun _ _ _ _ _ => de_op od_add (de_var (i := 3)) (de_var (i := 2)))))))
    (dss_one (ds_ret (de_callTy cr_tup (by rfl) (m_tuple kn) bo_tuple (da_cons (de_sortK (k := k + 2) hr (kn.tab (p := ("cliques", none)) (by decide)) (mem_tbs (by decide)) rfl (by rfl) (m_sorted kn) bo_sorted (m_len kn) bo_len ⟨rfl, rfl, rfl, by decide +kernel, rfl, by decide +kernel, by decide +kernel⟩ rfl rfl (fun _ => rfl) rfl (fun _ _ _ _ _ _ => rfl) (by decide) (by decide) (de_var (i := 1))) (da_nil))))))
theorem ok_cliques {k k_free : Nat} {S_free : Spc} {S : Spc} (kn : Kn fa fn tf K mg base) (o_free : OkD P w K mg base (bxO K (insO (He.ga K "Counter") true MF)) Y (tbs K tf) k_free ("free", none) P_free S_free) (l_free : k_free ≤ k) (hlen : ∀ ds Q E, S ds Q E → ds.length = 1) (hp : ∀ ds Q E, S ds Q E → e_cliques S_free (st0 4 ds) { nx := fun _ => Q .non, rt := Q }) :
    OkD P w K mg base (bxO K (insO (He.ga K "Counter") true MF)) Y (tbs K tf) (k + 5 + 1) ("cliques", none) P_cliques S := by
  obtain ⟨fd, F⟩ := kn.def_ 2
  exact OkD.mk F sc_cliques (fun A outer s H E hr => d_cliques kn o_free l_free A outer s H E hr) (fun _ _ _ _ _ _ us hl => match us, hl with | [_], _ => rfl) hlen hp
theorem d_barred_behind {k k_independent : Nat} {S_independent : Spc} (kn : Kn fa fn tf K mg base) (o_independent : OkD P w K mg base (bxO K (insO (He.ga K "Counter") true MF)) Y (tbs K tf) k_independent ("independent", none) P_independent S_independent) (l_independent : k_independent ≤ k) (A : Around) (outer : List Env) (s : Shared) (H : Hp) (E : XK) (hr : Room (k + 5) (A.deeper (envOfC "barred_behind" (defScope st_barred_behind) s.heap.objs.size (He.fAd K ("barred_behind", none)) (.ref (He.codeOf K ("barred_behind", none)))))) :
    DSs (bxO K (insO (He.ga K "Counter") true MF)) Y (tbs K tf) E0 (cxOf CX0 P w K mg base N_barred_behind "barred_behind" (defScope st_barred_behind) (He.fAd K ("barred_behind", none)) (.ref (He.codeOf K ("barred_behind", none))) A outer s H E).nox (defBody st_barred_behind) (e_barred_behind S_independent) :=
  dss_one (ds_ret (de_joinG (hr.mono (Nat.add_le_add_left (by decide) _)) (de_str (l := [])) (gexp1 (own := [("other", 3)]) (hr.mono (Nat.le_add_right _ _)) (kn.tab (p := ("barred_behind", none)) (by decide)) (mem_tbs (by decide)) rfl rfl sc_barred_behind.nd (di_raw (de_ix hr.u (de_var (i := 0)) (de_int))) (fun _ _ _ _ _ _ _ _ _ hg => dg_name (i := 3) sc_barred_behind.nd rfl (by first | exact Or.inl rfl | exact Or.inr rfl)) (fun _ _ _ _ _ _ _ _ _ hg => dts_one (L2.PW.pt (dw_and (dt_of (de_callD o_independent hg l_independent (g_independent kn) (das_cons (de_var (i := 0)) (das_cons (de_var (i := 3)) (das_cons (de_var (i := 2)) (das_nil)))))) (dw_and1 (L2.PW.pt (dw_or (dt_cmp (od_in hg.u) (de_var (i := 3)) (de_var (i := 1)) (by rfl)) (dw_or1 (dt_cmp od_lt (de_var (i := 3)) (de_var (i := 2)) (by rfl))))))))) (fun _ _ _ _ _ _ _ _ _ hg => de_var (i := 3)) (blkOk_of (by kernel_rfl)) (show (".0" : Str) ∉ N_barred_behind by decide +kernel))))
theorem ok_barred_behind {k k_independent : Nat} {S_independent : Spc} {S : Spc} (kn : Kn fa fn tf K mg base) (o_independent : OkD P w K mg base (bxO K (insO (He.ga K "Counter") true MF)) Y (tbs K tf) k_independent ("independent", none) P_independent S_independent) (l_independent : k_independent ≤ k) (hlen : ∀ ds Q E, S ds Q E → ds.length = 3) (hp : ∀ ds Q E, S ds Q E → e_barred_behind S_independent (st0 4 ds) { nx := fun _ => Q .non, rt := Q }) :
    OkD P w K mg base (bxO K (insO (He.ga K "Counter") true MF)) Y (tbs K tf) (k + 5 + 1) ("barred_behind", none) P_barred_behind S := by
  obtain ⟨fd, F⟩ := kn.def_ 3
  exact OkD.mk F sc_barred_behind (fun A outer s H E hr => d_barred_behind kn o_independent l_independent A outer s H E hr) (fun _ _ _ _ _ _ us hl => match us, hl with | [_, _, _], _ => rfl) hlen hp
theorem d_count_traces {k k_count : Nat} {S_count : Spc} (kn : Kn fa fn tf K mg base) (l2 : 2 ≤ k) (o_count : OkD P w K mg base (bxO K (insO (He.ga K "Counter") true MF)) Y (tbs K tf) k_count ("Counter", some "count") P_count S_count) (l_count : k_count ≤ k) (A : Around) (outer : List Env) (s : Shared) (H : Hp) (E : XK) (hr : Room (k) (A.deeper (envOfC "count_traces" (defScope st_count_traces) s.heap.objs.size (He.fAd K ("count_traces", none)) (.ref (He.codeOf K ("count_traces", none)))))) :
    DSs (bxO K (insO (He.ga K "Counter") true MF)) Y (tbs K tf) E0 (cxOf CX0 P w K mg base N_count_traces "count_traces" (defScope st_count_traces) (He.fAd K ("count_traces", none)) (.ref (He.codeOf K ("count_traces", none))) A outer s H E).nox (defBody st_count_traces) (e_count_traces MF S_count) :=
  dss_one (ds_ret (de_methD o_count hr l_count (c_cls kn) (c_meth_count kn) (de_makeD (ok0 := (fun _ _ => True)) (fun _ _ _ => memo_T0) (ok_init kn) hr (by omega) (c_mkr kn) (g_cls kn) (das_cons (de_var (i := 0)) (das_nil))) (das_cons (de_var (i := 1)) (das_cons (de_str (l := [])) (das_nil)))))
theorem ok_count_traces {k k_count : Nat} {S_count : Spc} {S : Spc} (kn : Kn fa fn tf K mg base) (l2 : 2 ≤ k) (o_count : OkD P w K mg base (bxO K (insO (He.ga K "Counter") true MF)) Y (tbs K tf) k_count ("Counter", some "count") P_count S_count) (l_count : k_count ≤ k) (hlen : ∀ ds Q E, S ds Q E → ds.length = 2) (hp : ∀ ds Q E, S ds Q E → e_count_traces MF S_count (st0 2 ds) { nx := fun _ => Q .non, rt := Q }) :
    OkD P w K mg base (bxO K (insO (He.ga K "Counter") true MF)) Y (tbs K tf) (k + 1) ("count_traces", none) P_count_traces S := by
  obtain ⟨fd, F⟩ := kn.def_ 4
  exact OkD.mk F sc_count_traces (fun A outer s H E hr => d_count_traces kn l2 o_count l_count A outer s H E hr) (fun _ _ _ _ _ _ us hl => match us, hl with | [_, _], _ => rfl) hlen hp
theorem d_traces {k k_words : Nat} {S_words : Spc} (kn : Kn fa fn tf K mg base) (l2 : 2 ≤ k) (o_words : OkD P w K mg base (bxO K (insO (He.ga K "Counter") true MF)) Y (tbs K tf) k_words ("Counter", some "words") P_words S_words) (l_words : k_words ≤ k) (A : Around) (outer : List Env) (s : Shared) (H : Hp) (E : XK) (hr : Room (k) (A.deeper (envOfC "traces" (defScope st_traces) s.heap.objs.size (He.fAd K ("traces", none)) (.ref (He.codeOf K ("traces", none)))))) :
    DSs (bxO K (insO (He.ga K "Counter") true MF)) Y (tbs K tf) E0 (cxOf CX0 P w K mg base N_traces "traces" (defScope st_traces) (He.fAd K ("traces", none)) (.ref (He.codeOf K ("traces", none))) A outer s H E).nox (defBody st_traces) (e_traces MF S_words) :=
  dss_one (ds_ret (de_callTy cr_tup (by rfl) (m_tuple kn) bo_tuple (da_cons (de_methD o_words hr l_words (c_cls kn) (c_meth_words kn) (de_makeD (ok0 := (fun _ _ => True)) (fun _ _ _ => memo_T0) (ok_init kn) hr (by omega) (c_mkr kn) (g_cls kn) (das_cons (de_var (i := 0)) (das_nil))) (das_cons (de_var (i := 1)) (das_cons (de_str (l := [])) (das_nil)))) (da_nil))))
theorem ok_traces {k k_words : Nat} {S_words : Spc} {S : Spc} (kn : Kn fa fn tf K mg base) (l2 : 2 ≤ k) (o_words : OkD P w K mg base (bxO K (insO (He.ga K "Counter") true MF)) Y (tbs K tf) k_words ("Counter", some "words") P_words S_words) (l_words : k_words ≤ k) (hlen : ∀ ds Q E, S ds Q E → ds.length = 2) (hp : ∀ ds Q E, S ds Q E → e_traces MF S_words (st0 2 ds) { nx := fun _ => Q .non, rt := Q }) :
    OkD P w K mg base (bxO K (insO (He.ga K "Counter") true MF)) Y (tbs K tf) (k + 1) ("traces", none) P_traces S := by
  obtain ⟨fd, F⟩ := kn.def_ 5
  exact OkD.mk F sc_traces (fun A outer s H E hr => d_traces kn l2 o_words l_words A outer s H E hr) (fun _ _ _ _ _ _ us hl => match us, hl with | [_, _], _ => rfl) hlen hp
theorem d__law_free {k : Nat} (kn : Kn fa fn tf K mg base) (A : Around) (outer : List Env) (s : Shared) (H : Hp) (E : XK) (hr : Room (k) (A.deeper (envOfC "_law_free" (defScope st__law_free) s.heap.objs.size (He.fAd K ("_law_free", none)) (.ref (He.codeOf K ("_law_free", none)))))) :
    DSs (bxO K (insO (He.ga K "Counter") true MF)) Y (tbs K tf) E0 (cxOf CX0 P w K mg base N__law_free "_law_free" (defScope st__law_free) (He.fAd K ("_law_free", none)) (.ref (He.codeOf K ("_law_free", none))) A outer s H E).nox (defBody st__law_free) e__law_free :=
  dss_one (ds_ret (de_or (de_cmp (od_in hr.u) (de_op od_add (de_var (i := 1)) (de_var (i := 2))) (de_ix hr.u (de_var (i := 0)) (de_int)) (by rfl)) (de_one (de_cmp (od_in hr.u) (de_op od_add (de_var (i := 2)) (de_var (i := 1))) (de_ix hr.u (de_var (i := 0)) (de_int)) (by rfl)))))
theorem ok__law_free {k : Nat} {S : Spc} (kn : Kn fa fn tf K mg base) (hlen : ∀ ds Q E, S ds Q E → ds.length = 3) (hp : ∀ ds Q E, S ds Q E → e__law_free  (st0 3 ds) { nx := fun _ => Q .non, rt := Q }) :
    OkD P w K mg base (bxO K (insO (He.ga K "Counter") true MF)) Y (tbs K tf) (k + 1) ("_law_free", none) P__law_free S := by
  obtain ⟨fd, F⟩ := kn.def_ 6
  exact OkD.mk F sc__law_free (fun A outer s H E hr => d__law_free kn  A outer s H E hr) (fun _ _ _ _ _ _ us hl => match us, hl with | [_, _, _], _ => rfl) hlen hp
theorem d__law_apart {k k__law_free : Nat} {S__law_free : Spc} (kn : Kn fa fn tf K mg base) (o__law_free : OkD P w K mg base (bxO K (insO (He.ga K "Counter") true MF)) Y (tbs K tf) k__law_free ("_law_free", none) P__law_free S__law_free) (l__law_free : k__law_free ≤ k) (A : Around) (outer : List Env) (s : Shared) (H : Hp) (E : XK) (hr : Room (k) (A.deeper (envOfC "_law_apart" (defScope st__law_apart) s.heap.objs.size (He.fAd K ("_law_apart", none)) (.ref (He.codeOf K ("_law_apart", none)))))) :
    DSs (bxO K (insO (He.ga K "Counter") true MF)) Y (tbs K tf) E0 (cxOf CX0 P w K mg base N__law_apart "_law_apart" (defScope st__law_apart) (He.fAd K ("_law_apart", none)) (.ref (He.codeOf K ("_law_apart", none))) A outer s H E).nox (defBody st__law_apart) (e__law_apart S__law_free) :=
  dss_cons (ds_for (own := [3]) PassesOwn.never rfl (di_val (de_var (i := 1))) (dg_name (i := 3) sc__law_apart.nd rfl (by first | exact Or.inl rfl | exact Or.inr rfl)) (dss_one (ds_for (own := [4]) PassesOwn.never rfl (di_val (de_var (i := 2))) (dg_name (i := 4) sc__law_apart.nd rfl (by first | exact Or.inl rfl | exact Or.inr rfl)) (dss_one (ds_if (dt_not (dt_of (de_callD o__law_free hr l__law_free (g__law_free kn) (das_cons (de_var (i := 0)) (das_cons (de_var (i := 3)) (das_cons (de_var (i := 4)) (das_nil))))))) (dss_one (ds_ret (de_bl))) (dss_nil))))))
    (dss_one (ds_ret (de_bl)))
theorem ok__law_apart {k k__law_free : Nat} {S__law_free : Spc} {S : Spc} (kn : Kn fa fn tf K mg base) (o__law_free : OkD P w K mg base (bxO K (insO (He.ga K "Counter") true MF)) Y (tbs K tf) k__law_free ("_law_free", none) P__law_free S__law_free) (l__law_free : k__law_free ≤ k) (hlen : ∀ ds Q E, S ds Q E → ds.length = 3) (hp : ∀ ds Q E, S ds Q E → e__law_apart S__law_free (st0 5 ds) { nx := fun _ => Q .non, rt := Q }) :
    OkD P w K mg base (bxO K (insO (He.ga K "Counter") true MF)) Y (tbs K tf) (k + 1) ("_law_apart", none) P__law_apart S := by
  obtain ⟨fd, F⟩ := kn.def_ 7
  exact OkD.mk F sc__law_apart (fun A outer s H E hr => d__law_apart kn o__law_free l__law_free A outer s H E hr) (fun _ _ _ _ _ _ us hl => match us, hl with | [_, _, _], _ => rfl) hlen hp
theorem d__law_cell {k : Nat} (kn : Kn fa fn tf K mg base) (A : Around) (outer : List Env) (s : Shared) (H : Hp) (E : XK) (hr : Room (k) (A.deeper (envOfC "_law_cell" (defScope st__law_cell) s.heap.objs.size (He.fAd K ("_law_cell", none)) (.ref (He.codeOf K ("_law_cell", none)))))) :
    DSs (bxO K (insO (He.ga K "Counter") true MF)) Y (tbs K tf) E0 (cxOf CX0 P w K mg base N__law_cell "_law_cell" (defScope st__law_cell) (He.fAd K ("_law_cell", none)) (.ref (He.codeOf K ("_law_cell", none))) A outer s H E).nox (defBody st__law_cell) e__law_cell :=
  dss_cons (ds_if (dt_cmp od_lt (de_var (i := 1)) (de_scLen (by rfl) (m_len kn) bo_len (de_var (i := 0))) (by rfl)) (dss_one (ds_ret (de_scIx (de_var (i := 0)) (de_var (i := 1))))) (dss_nil))
    (dss_one (ds_ret (de_int)))
theorem ok__law_cell {k : Nat} {S : Spc} (kn : Kn fa fn tf K mg base) (hlen : ∀ ds Q E, S ds Q E → ds.length = 2) (hp : ∀ ds Q E, S ds Q E → e__law_cell  (st0 2 ds) { nx := fun _ => Q .non, rt := Q }) :
    OkD P w K mg base (bxO K (insO (He.ga K "Counter") true MF)) Y (tbs K tf) (k + 1) ("_law_cell", none) P__law_cell S := by
  obtain ⟨fd, F⟩ := kn.def_ 8
  exact OkD.mk F sc__law_cell (fun A outer s H E hr => d__law_cell kn  A outer s H E hr) (fun _ _ _ _ _ _ us hl => match us, hl with | [_, _], _ => rfl) hlen hp
theorem d__law_digits {k k__law_cell : Nat} {S__law_cell : Spc} (kn : Kn fa fn tf K mg base) (o__law_cell : OkD P w K mg base (bxO K (insO (He.ga K "Counter") true MF)) Y (tbs K tf) k__law_cell ("_law_cell", none) P__law_cell S__law_cell) (l__law_cell : k__law_cell ≤ k) (A : Around) (outer : List Env) (s : Shared) (H : Hp) (E : XK) (hr : Room (k) (A.deeper (envOfC "_law_digits" (defScope st__law_digits) s.heap.objs.size (He.fAd K ("_law_digits", none)) (.ref (He.codeOf K ("_law_digits", none)))))) :
    DSs (bxO K (insO (He.ga K "Counter") true MF)) Y (tbs K tf) E0 (cxOf CX0 P w K mg base N__law_digits "_law_digits" (defScope st__law_digits) (He.fAd K ("_law_digits", none)) (.ref (He.codeOf K ("_law_digits", none))) A outer s H E).nox (defBody st__law_digits) (e__law_digits S__law_cell) :=
  dss_cons (ds_set (i := 3) sc__law_digits.nd rfl (by first | exact Or.inl rfl | exact Or.inr rfl) (de_lst (das_nil)))
    (dss_cons (ds_for (own := [4]) PassesOwn.never rfl (di_range2 (by rfl) (m_range kn) (da_cons (de_var (i := 1)) (da_cons (de_var (i := 2)) (da_nil)))) (dg_name (i := 4) sc__law_digits.nd rfl (by first | exact Or.inl rfl | exact Or.inr rfl)) (dss_cons (ds_set (i := 5) sc__law_digits.nd rfl (by first | exact Or.inl rfl | exact Or.inr rfl) (de_callD o__law_cell hr l__law_cell (g__law_cell kn) (das_cons (de_var (i := 0)) (das_cons (de_var (i := 4)) (das_nil)))))
    (dss_cons (ds_if (dt_cmp od_lt (de_var (i := 5)) (de_int) (by rfl)) (dss_one (ds_set (i := 5) sc__law_digits.nd rfl (by first | exact Or.inl rfl | exact Or.inr rfl) (de_op od_sub (de_int) (de_op od_mulX (de_int) (de_var (i := 5)))))) (dss_nil))
    (dss_one (ds_if (dt_cmp od_ge (de_var (i := 5)) (de_op od_pow (de_int) (de_int)) (by rfl)) (dss_one (ds_for (own := [6]) PassesOwn.never rfl (di_range1 (by rfl) (m_range kn) (da_cons (de_int) (da_nil))) (dg_name (i := 6) sc__law_digits.nd rfl (by first | exact Or.inl rfl | exact Or.inr rfl)) (dss_one (ds_if (dt_cmp od_gt (de_var (i := 5)) (de_int) (by rfl)) (dss_cons (ds_app (i := 3) (de_op od_mod (de_callTy cr_int (by rfl) (m_int kn) bo_int (da_cons (de_var (i := 5)) (da_nil))) (de_int)))
    (dss_one (ds_set (i := 5) sc__law_digits.nd rfl (by first | exact Or.inl rfl | exact Or.inr rfl) (de_op od_fdiv (de_var (i := 5)) (de_int))))) (dss_nil))))) (dss_cons (ds_set (i := 7) sc__law_digits.nd rfl (by first | exact Or.inl rfl | exact Or.inr rfl) (de_op od_mod (de_callTy cr_int (by rfl) (m_int kn) bo_int (da_cons (de_op od_add (de_op od_add (de_op od_mulX (de_var (i := 5)) (de_int)) (de_op od_mulX (de_var (i := 4)) (de_int))) (de_int)) (da_nil))) (de_int)))
    (dss_one (ds_for (own := [6]) PassesOwn.never rfl (di_range1 (by rfl) (m_range kn) (da_cons (de_int) (da_nil))) (dg_name (i := 6) sc__law_digits.nd rfl (by first | exact Or.inl rfl | exact Or.inr rfl)) (dss_cons (ds_set (i := 7) sc__law_digits.nd rfl (by first | exact Or.inl rfl | exact Or.inr rfl) (de_op od_mod (de_callTy cr_int (by rfl) (m_int kn) bo_int (da_cons (de_op od_add (de_op od_add (de_op od_mulX (de_var (i := 7)) (de_int)) (de_op od_mulX (de_int) (de_var (i := 6)))) (de_int)) (da_nil))) (de_int)))
    (dss_one (ds_app (i := 3) (de_op od_mod (de_callTy cr_int (by rfl) (m_int kn) bo_int (da_cons (de_op od_fdiv (de_var (i := 7)) (de_int)) (da_nil))) (de_int)))))))))))))
    (dss_one (ds_ret (de_var (i := 3)))))
theorem ok__law_digits {k k__law_cell : Nat} {S__law_cell : Spc} {S : Spc} (kn : Kn fa fn tf K mg base) (o__law_cell : OkD P w K mg base (bxO K (insO (He.ga K "Counter") true MF)) Y (tbs K tf) k__law_cell ("_law_cell", none) P__law_cell S__law_cell) (l__law_cell : k__law_cell ≤ k) (hlen : ∀ ds Q E, S ds Q E → ds.length = 3) (hp : ∀ ds Q E, S ds Q E → e__law_digits S__law_cell (st0 8 ds) { nx := fun _ => Q .non, rt := Q }) :
    OkD P w K mg base (bxO K (insO (He.ga K "Counter") true MF)) Y (tbs K tf) (k + 1) ("_law_digits", none) P__law_digits S := by
  obtain ⟨fd, F⟩ := kn.def_ 9
  exact OkD.mk F sc__law_digits (fun A outer s H E hr => d__law_digits kn o__law_cell l__law_cell A outer s H E hr) (fun _ _ _ _ _ _ us hl => match us, hl with | [_, _, _], _ => rfl) hlen hp
theorem d__law_box {k k__law_digits : Nat} {S__law_digits : Spc} (kn : Kn fa fn tf K mg base) (o__law_digits : OkD P w K mg base (bxO K (insO (He.ga K "Counter") true MF)) Y (tbs K tf) k__law_digits ("_law_digits", none) P__law_digits S__law_digits) (l__law_digits : k__law_digits ≤ k) (A : Around) (outer : List Env) (s : Shared) (H : Hp) (E : XK) (hr : Room (k) (A.deeper (envOfC "_law_box" (defScope st__law_box) s.heap.objs.size (He.fAd K ("_law_box", none)) (.ref (He.codeOf K ("_law_box", none)))))) :
    DSs (bxO K (insO (He.ga K "Counter") true MF)) Y (tbs K tf) E0 (cxOf CX0 P w K mg base N__law_box "_law_box" (defScope st__law_box) (He.fAd K ("_law_box", none)) (.ref (He.codeOf K ("_law_box", none))) A outer s H E).nox (defBody st__law_box) (e__law_box S__law_digits) :=
  dss_one (ds_ret (de_bxNew (de_callD o__law_digits hr l__law_digits (g__law_digits kn) (das_cons (de_var (i := 0)) (das_cons (de_var (i := 1)) (das_cons (de_var (i := 2)) (das_nil))))) (de_int)))
theorem ok__law_box {k k__law_digits : Nat} {S__law_digits : Spc} {S : Spc} (kn : Kn fa fn tf K mg base) (o__law_digits : OkD P w K mg base (bxO K (insO (He.ga K "Counter") true MF)) Y (tbs K tf) k__law_digits ("_law_digits", none) P__law_digits S__law_digits) (l__law_digits : k__law_digits ≤ k) (hlen : ∀ ds Q E, S ds Q E → ds.length = 3) (hp : ∀ ds Q E, S ds Q E → e__law_box S__law_digits (st0 3 ds) { nx := fun _ => Q .non, rt := Q }) :
    OkD P w K mg base (bxO K (insO (He.ga K "Counter") true MF)) Y (tbs K tf) (k + 1) ("_law_box", none) P__law_box S := by
  obtain ⟨fd, F⟩ := kn.def_ 10
  exact OkD.mk F sc__law_box (fun A outer s H E hr => d__law_box kn o__law_digits l__law_digits A outer s H E hr) (fun _ _ _ _ _ _ us hl => match us, hl with | [_, _, _], _ => rfl) hlen hp
theorem d__law_draw {k : Nat} (kn : Kn fa fn tf K mg base) (A : Around) (outer : List Env) (s : Shared) (H : Hp) (E : XK) (hr : Room (k) (A.deeper (envOfC "_law_draw" (defScope st__law_draw) s.heap.objs.size (He.fAd K ("_law_draw", none)) (.ref (He.codeOf K ("_law_draw", none)))))) :
    DSs (bxO K (insO (He.ga K "Counter") true MF)) Y (tbs K tf) E0 (cxOf CX0 P w K mg base N__law_draw "_law_draw" (defScope st__law_draw) (He.fAd K ("_law_draw", none)) (.ref (He.codeOf K ("_law_draw", none))) A outer s H E).nox (defBody st__law_draw) e__law_draw :=
  dss_cons (ds_set (i := 2) sc__law_draw.nd rfl (by first | exact Or.inl rfl | exact Or.inr rfl) (de_bxI (de_var (i := 0))))
    (dss_cons (ds_bxSet (de_var (i := 0)) (de_op od_add (de_var (i := 2)) (de_int)))
    (dss_cons (ds_if (dt_cmp od_lt (de_var (i := 2)) (de_callB cr_len (by rfl) (m_len kn) bo_len (da_cons (de_bxD (de_var (i := 0))) (da_nil))) (by rfl)) (dss_one (ds_ret (de_op od_mod (de_callTy cr_int (by rfl) (m_int kn) bo_int (da_cons (de_ix hr.u (de_bxD (de_var (i := 0))) (de_var (i := 2))) (da_nil))) (de_var (i := 1))))) (dss_nil))
    (dss_one (ds_ret (de_int)))))
theorem ok__law_draw {k : Nat} {S : Spc} (kn : Kn fa fn tf K mg base) (hlen : ∀ ds Q E, S ds Q E → ds.length = 2) (hp : ∀ ds Q E, S ds Q E → e__law_draw  (st0 3 ds) { nx := fun _ => Q .non, rt := Q }) :
    OkD P w K mg base (bxO K (insO (He.ga K "Counter") true MF)) Y (tbs K tf) (k + 1) ("_law_draw", none) P__law_draw S := by
  obtain ⟨fd, F⟩ := kn.def_ 11
  exact OkD.mk F sc__law_draw (fun A outer s H E hr => d__law_draw kn  A outer s H E hr) (fun _ _ _ _ _ _ us hl => match us, hl with | [_, _], _ => rfl) hlen hp
theorem d__law_alphabet {k k__law_draw : Nat} {S__law_draw : Spc} (kn : Kn fa fn tf K mg base) (o__law_draw : OkD P w K mg base (bxO K (insO (He.ga K "Counter") true MF)) Y (tbs K tf) k__law_draw ("_law_draw", none) P__law_draw S__law_draw) (l__law_draw : k__law_draw ≤ k) (A : Around) (outer : List Env) (s : Shared) (H : Hp) (E : XK) (hr : Room (k) (A.deeper (envOfC "_law_alphabet" (defScope st__law_alphabet) s.heap.objs.size (He.fAd K ("_law_alphabet", none)) (.ref (He.codeOf K ("_law_alphabet", none)))))) :
    DSs (bxO K (insO (He.ga K "Counter") true MF)) Y (tbs K tf) E0 (cxOf CX0 P w K mg base N__law_alphabet "_law_alphabet" (defScope st__law_alphabet) (He.fAd K ("_law_alphabet", none)) (.ref (He.codeOf K ("_law_alphabet", none))) A outer s H E).nox (defBody st__law_alphabet) (e__law_alphabet S__law_draw) :=
  dss_cons (ds_set (i := 2) sc__law_alphabet.nd rfl (by first | exact Or.inl rfl | exact Or.inr rfl) (de_sl (de_str (l := [97, 98, 99, 100, 101, 102])) (do_no) (do_some (de_op od_add (de_int) (de_callD o__law_draw hr l__law_draw (g__law_draw kn) (das_cons (de_var (i := 0)) (das_cons (de_var (i := 1)) (das_nil))))))))
    (dss_cons (ds_set (i := 3) sc__law_alphabet.nd rfl (by first | exact Or.inl rfl | exact Or.inr rfl) (de_lst (das_nil)))
    (dss_cons (ds_for (own := [4]) PassesOwn.never rfl (di_range1 (by rfl) (m_range kn) (da_cons (de_callB cr_len (by rfl) (m_len kn) bo_len (da_cons (de_var (i := 2)) (da_nil))) (da_nil))) (dg_name (i := 4) sc__law_alphabet.nd rfl (by first | exact Or.inl rfl | exact Or.inr rfl)) (dss_one (ds_for (own := [5]) PassesOwn.never rfl (di_range2 (by rfl) (m_range kn) (da_cons (de_op od_add (de_var (i := 4)) (de_int)) (da_cons (de_callB cr_len (by rfl) (m_len kn) bo_len (da_cons (de_var (i := 2)) (da_nil))) (da_nil)))) (dg_name (i := 5) sc__law_alphabet.nd rfl (by first | exact Or.inl rfl | exact Or.inr rfl)) (dss_one (ds_if (dt_cmp od_lt (de_callD o__law_draw hr l__law_draw (g__law_draw kn) (das_cons (de_var (i := 0)) (das_cons (de_int) (das_nil)))) (de_int) (by rfl)) (dss_one (ds_app (i := 3) (de_op od_add (de_ix hr.u (de_var (i := 2)) (de_var (i := 4))) (de_ix hr.u (de_var (i := 2)) (de_var (i := 5)))))) (dss_nil))))))
    (dss_one (ds_ret (de_tup (das_cons (de_str (l := [97, 108, 112, 104, 97, 98, 101, 116])) (das_cons (de_var (i := 2)) (das_cons (de_callTy cr_tup (by rfl) (m_tuple kn) bo_tuple (da_cons (de_callB (cr_sortDx rfl) (by rfl) (m_sorted kn) bo_sorted (da_cons (de_var (i := 3)) (da_nil))) (da_nil))) (das_nil)))))))))
theorem ok__law_alphabet {k k__law_draw : Nat} {S__law_draw : Spc} {S : Spc} (kn : Kn fa fn tf K mg base) (o__law_draw : OkD P w K mg base (bxO K (insO (He.ga K "Counter") true MF)) Y (tbs K tf) k__law_draw ("_law_draw", none) P__law_draw S__law_draw) (l__law_draw : k__law_draw ≤ k) (hlen : ∀ ds Q E, S ds Q E → ds.length = 2) (hp : ∀ ds Q E, S ds Q E → e__law_alphabet S__law_draw (st0 6 ds) { nx := fun _ => Q .non, rt := Q }) :
    OkD P w K mg base (bxO K (insO (He.ga K "Counter") true MF)) Y (tbs K tf) (k + 1) ("_law_alphabet", none) P__law_alphabet S := by
  obtain ⟨fd, F⟩ := kn.def_ 12
  exact OkD.mk F sc__law_alphabet (fun A outer s H E hr => d__law_alphabet kn o__law_draw l__law_draw A outer s H E hr) (fun _ _ _ _ _ _ us hl => match us, hl with | [_, _], _ => rfl) hlen hp
theorem d__law_all {k : Nat} (kn : Kn fa fn tf K mg base) (A : Around) (outer : List Env) (s : Shared) (H : Hp) (E : XK) (hr : Room (k) (A.deeper (envOfC "_law_all" (defScope st__law_all) s.heap.objs.size (He.fAd K ("_law_all", none)) (.ref (He.codeOf K ("_law_all", none)))))) :
    DSs (bxO K (insO (He.ga K "Counter") true MF)) Y (tbs K tf) E0 (cxOf CX0 P w K mg base N__law_all "_law_all" (defScope st__law_all) (He.fAd K ("_law_all", none)) (.ref (He.codeOf K ("_law_all", none))) A outer s H E).nox (defBody st__law_all) e__law_all :=
  dss_cons (ds_set (i := 2) sc__law_all.nd rfl (by first | exact Or.inl rfl | exact Or.inr rfl) (de_lst (das_cons (de_str (l := [])) (das_nil))))
    (dss_cons (ds_set (i := 3) sc__law_all.nd rfl (by first | exact Or.inl rfl | exact Or.inr rfl) (de_lst (das_cons (de_str (l := [])) (das_nil))))
    (dss_cons (ds_for (own := [4]) PassesOwn.never rfl (di_range1 (by rfl) (m_range kn) (da_cons (de_var (i := 1)) (da_nil))) (dg_name (i := 4) sc__law_all.nd rfl (by first | exact Or.inl rfl | exact Or.inr rfl)) (dss_cons (ds_set (i := 5) sc__law_all.nd rfl (by first | exact Or.inl rfl | exact Or.inr rfl) (de_lst (das_nil)))
    (dss_cons (ds_for (own := [6]) PassesOwn.never rfl (di_val (de_var (i := 3))) (dg_name (i := 6) sc__law_all.nd rfl (by first | exact Or.inl rfl | exact Or.inr rfl)) (dss_one (ds_for (own := [7]) PassesOwn.never rfl (di_val (de_ix hr.u (de_var (i := 0)) (de_int))) (dg_name (i := 7) sc__law_all.nd rfl (by first | exact Or.inl rfl | exact Or.inr rfl)) (dss_one (ds_app (i := 5) (de_op od_add (de_var (i := 6)) (de_var (i := 7))))))))
    (dss_cons (ds_set (i := 2) sc__law_all.nd rfl (by first | exact Or.inl rfl | exact Or.inr rfl) (de_op od_add (de_var (i := 2)) (de_var (i := 5))))
    (dss_one (ds_set (i := 3) sc__law_all.nd rfl (by first | exact Or.inl rfl | exact Or.inr rfl) (de_var (i := 5))))))))
    (dss_one (ds_ret (de_var (i := 2))))))
theorem ok__law_all {k : Nat} {S : Spc} (kn : Kn fa fn tf K mg base) (hlen : ∀ ds Q E, S ds Q E → ds.length = 2) (hp : ∀ ds Q E, S ds Q E → e__law_all  (st0 8 ds) { nx := fun _ => Q .non, rt := Q }) :
    OkD P w K mg base (bxO K (insO (He.ga K "Counter") true MF)) Y (tbs K tf) (k + 1) ("_law_all", none) P__law_all S := by
  obtain ⟨fd, F⟩ := kn.def_ 13
  exact OkD.mk F sc__law_all (fun A outer s H E hr => d__law_all kn  A outer s H E hr) (fun _ _ _ _ _ _ us hl => match us, hl with | [_, _], _ => rfl) hlen hp
theorem d__law_leaders {k k__law_free : Nat} {S__law_free : Spc} (kn : Kn fa fn tf K mg base) (o__law_free : OkD P w K mg base (bxO K (insO (He.ga K "Counter") true MF)) Y (tbs K tf) k__law_free ("_law_free", none) P__law_free S__law_free) (l__law_free : k__law_free ≤ k) (A : Around) (outer : List Env) (s : Shared) (H : Hp) (E : XK) (hr : Room (k) (A.deeper (envOfC "_law_leaders" (defScope st__law_leaders) s.heap.objs.size (He.fAd K ("_law_leaders", none)) (.ref (He.codeOf K ("_law_leaders", none)))))) :
    DSs (bxO K (insO (He.ga K "Counter") true MF)) Y (tbs K tf) E0 (cxOf CX0 P w K mg base N__law_leaders "_law_leaders" (defScope st__law_leaders) (He.fAd K ("_law_leaders", none)) (.ref (He.codeOf K ("_law_leaders", none))) A outer s H E).nox (defBody st__law_leaders) (e__law_leaders S__law_free) :=
  dss_cons (ds_set (i := 2) sc__law_leaders.nd rfl (by first | exact Or.inl rfl | exact Or.inr rfl) (de_lst (das_nil)))
    (dss_cons (ds_for (own := [3]) PassesOwn.never rfl (di_val (de_sortSetX rfl (by rfl) (m_sorted kn) bo_sorted (by rfl) (m_set kn) bo_set (de_var (i := 1)))) (dg_name (i := 3) sc__law_leaders.nd rfl (by first | exact Or.inl rfl | exact Or.inr rfl)) (dss_cons (ds_set (i := 4) sc__law_leaders.nd rfl (by first | exact Or.inl rfl | exact Or.inr rfl) (de_sl (de_var (i := 1)) (do_no) (do_some (de_bm F.plainAttrs_str F.slot_str_index F.type_str_index mt_sindexD (de_var (i := 1)) (da_cons (de_var (i := 3)) (da_nil))))))
    (dss_one (ds_if (dt_cmp (od_eq hr.u) (de_callB cr_len (by rfl) (m_len kn) bo_len (da_cons (de_lc (own := [("_law_y", 5)]) rfl sc__law_leaders.nd (di_raw (de_var (i := 4))) (blkOk_of (by kernel_rfl)) (fun _ _ _ _ _ => dg_name (i := 5) sc__law_leaders.nd rfl (by first | exact Or.inl rfl | exact Or.inr rfl)) (fun _ _ _ _ _ => dts_one (dt_not (dt_of (de_callD o__law_free hr l__law_free (g__law_free kn) (das_cons (de_var (i := 0)) (das_cons (de_var (i := 3)) (das_cons (de_var (i := 5)) (das_nil)))))))) (fun _ _ _ _ _ => de_var (i := 5))) (da_nil))) (de_int) (by rfl)) (dss_one (ds_app (i := 2) (de_var (i := 3)))) (dss_nil)))))
    (dss_one (ds_ret (de_var (i := 2)))))
theorem ok__law_leaders {k k__law_free : Nat} {S__law_free : Spc} {S : Spc} (kn : Kn fa fn tf K mg base) (o__law_free : OkD P w K mg base (bxO K (insO (He.ga K "Counter") true MF)) Y (tbs K tf) k__law_free ("_law_free", none) P__law_free S__law_free) (l__law_free : k__law_free ≤ k) (hlen : ∀ ds Q E, S ds Q E → ds.length = 2) (hp : ∀ ds Q E, S ds Q E → e__law_leaders S__law_free (st0 6 ds) { nx := fun _ => Q .non, rt := Q }) :
    OkD P w K mg base (bxO K (insO (He.ga K "Counter") true MF)) Y (tbs K tf) (k + 1) ("_law_leaders", none) P__law_leaders S := by
  obtain ⟨fd, F⟩ := kn.def_ 14
  exact OkD.mk F sc__law_leaders (fun A outer s H E hr => d__law_leaders kn o__law_free l__law_free A outer s H E hr) (fun _ _ _ _ _ _ us hl => match us, hl with | [_, _], _ => rfl) hlen hp
theorem d__law_without {k : Nat} (kn : Kn fa fn tf K mg base) (A : Around) (outer : List Env) (s : Shared) (H : Hp) (E : XK) (hr : Room (k) (A.deeper (envOfC "_law_without" (defScope st__law_without) s.heap.objs.size (He.fAd K ("_law_without", none)) (.ref (He.codeOf K ("_law_without", none)))))) :
    DSs (bxO K (insO (He.ga K "Counter") true MF)) Y (tbs K tf) E0 (cxOf CX0 P w K mg base N__law_without "_law_without" (defScope st__law_without) (He.fAd K ("_law_without", none)) (.ref (He.codeOf K ("_law_without", none))) A outer s H E).nox (defBody st__law_without) e__law_without :=
  dss_cons (ds_set (i := 2) sc__law_without.nd rfl (by first | exact Or.inl rfl | exact Or.inr rfl) (de_bm F.plainAttrs_str F.slot_str_index F.type_str_index mt_sindexD (de_var (i := 0)) (da_cons (de_var (i := 1)) (da_nil))))
    (dss_one (ds_ret (de_op od_add (de_sl (de_var (i := 0)) (do_no) (do_some (de_var (i := 2)))) (de_sl (de_var (i := 0)) (do_some (de_op od_add (de_var (i := 2)) (de_int))) (do_no)))))
theorem ok__law_without {k : Nat} {S : Spc} (kn : Kn fa fn tf K mg base) (hlen : ∀ ds Q E, S ds Q E → ds.length = 2) (hp : ∀ ds Q E, S ds Q E → e__law_without  (st0 3 ds) { nx := fun _ => Q .non, rt := Q }) :
    OkD P w K mg base (bxO K (insO (He.ga K "Counter") true MF)) Y (tbs K tf) (k + 1) ("_law_without", none) P__law_without S := by
  obtain ⟨fd, F⟩ := kn.def_ 15
  exact OkD.mk F sc__law_without (fun A outer s H E hr => d__law_without kn  A outer s H E hr) (fun _ _ _ _ _ _ us hl => match us, hl with | [_, _], _ => rfl) hlen hp
theorem d__law_least {k k__law_leaders k__law_without : Nat} {S__law_leaders S__law_without : Spc} (kn : Kn fa fn tf K mg base) (o__law_leaders : OkD P w K mg base (bxO K (insO (He.ga K "Counter") true MF)) Y (tbs K tf) k__law_leaders ("_law_leaders", none) P__law_leaders S__law_leaders) (l__law_leaders : k__law_leaders ≤ k) (o__law_without : OkD P w K mg base (bxO K (insO (He.ga K "Counter") true MF)) Y (tbs K tf) k__law_without ("_law_without", none) P__law_without S__law_without) (l__law_without : k__law_without ≤ k) (A : Around) (outer : List Env) (s : Shared) (H : Hp) (E : XK) (hr : Room (k) (A.deeper (envOfC "_law_least" (defScope st__law_least) s.heap.objs.size (He.fAd K ("_law_least", none)) (.ref (He.codeOf K ("_law_least", none)))))) :
    DSs (bxO K (insO (He.ga K "Counter") true MF)) Y (tbs K tf) E0 (cxOf CX0 P w K mg base N__law_least "_law_least" (defScope st__law_least) (He.fAd K ("_law_least", none)) (.ref (He.codeOf K ("_law_least", none))) A outer s H E).nox (defBody st__law_least) (e__law_least S__law_leaders S__law_without) :=
  dss_cons (ds_set (i := 2) sc__law_least.nd rfl (by first | exact Or.inl rfl | exact Or.inr rfl) (de_str (l := [])))
    (dss_cons (ds_while PassesOwn.never (dt_cmp od_gt (de_callB cr_len (by rfl) (m_len kn) bo_len (da_cons (de_var (i := 1)) (da_nil))) (de_int) (by rfl)) (dss_cons (ds_set (i := 3) sc__law_least.nd rfl (by first | exact Or.inl rfl | exact Or.inr rfl) (de_ix hr.u (de_callD o__law_leaders hr l__law_leaders (g__law_leaders kn) (das_cons (de_var (i := 0)) (das_cons (de_var (i := 1)) (das_nil)))) (de_int)))
    (dss_cons (ds_set (i := 2) sc__law_least.nd rfl (by first | exact Or.inl rfl | exact Or.inr rfl) (de_op od_add (de_var (i := 2)) (de_var (i := 3))))
    (dss_one (ds_set (i := 1) sc__law_least.nd rfl (by first | exact Or.inl rfl | exact Or.inr rfl) (de_callD o__law_without hr l__law_without (g__law_without kn) (das_cons (de_var (i := 1)) (das_cons (de_var (i := 3)) (das_nil)))))))))
    (dss_one (ds_ret (de_var (i := 2)))))
theorem ok__law_least {k k__law_leaders k__law_without : Nat} {S__law_leaders S__law_without : Spc} {S : Spc} (kn : Kn fa fn tf K mg base) (o__law_leaders : OkD P w K mg base (bxO K (insO (He.ga K "Counter") true MF)) Y (tbs K tf) k__law_leaders ("_law_leaders", none) P__law_leaders S__law_leaders) (l__law_leaders : k__law_leaders ≤ k) (o__law_without : OkD P w K mg base (bxO K (insO (He.ga K "Counter") true MF)) Y (tbs K tf) k__law_without ("_law_without", none) P__law_without S__law_without) (l__law_without : k__law_without ≤ k) (hlen : ∀ ds Q E, S ds Q E → ds.length = 2) (hp : ∀ ds Q E, S ds Q E → e__law_least S__law_leaders S__law_without (st0 4 ds) { nx := fun _ => Q .non, rt := Q }) :
    OkD P w K mg base (bxO K (insO (He.ga K "Counter") true MF)) Y (tbs K tf) (k + 1) ("_law_least", none) P__law_least S := by
  obtain ⟨fd, F⟩ := kn.def_ 16
  exact OkD.mk F sc__law_least (fun A outer s H E hr => d__law_least kn o__law_leaders l__law_leaders o__law_without l__law_without A outer s H E hr) (fun _ _ _ _ _ _ us hl => match us, hl with | [_, _], _ => rfl) hlen hp
theorem d__law_least_words {k k__law_all k__law_least : Nat} {S__law_all S__law_least : Spc} (kn : Kn fa fn tf K mg base) (o__law_all : OkD P w K mg base (bxO K (insO (He.ga K "Counter") true MF)) Y (tbs K tf) k__law_all ("_law_all", none) P__law_all S__law_all) (l__law_all : k__law_all ≤ k) (o__law_least : OkD P w K mg base (bxO K (insO (He.ga K "Counter") true MF)) Y (tbs K tf) k__law_least ("_law_least", none) P__law_least S__law_least) (l__law_least : k__law_least ≤ k) (A : Around) (outer : List Env) (s : Shared) (H : Hp) (E : XK) (hr : Room (k) (A.deeper (envOfC "_law_least_words" (defScope st__law_least_words) s.heap.objs.size (He.fAd K ("_law_least_words", none)) (.ref (He.codeOf K ("_law_least_words", none)))))) :
    DSs (bxO K (insO (He.ga K "Counter") true MF)) Y (tbs K tf) E0 (cxOf CX0 P w K mg base N__law_least_words "_law_least_words" (defScope st__law_least_words) (He.fAd K ("_law_least_words", none)) (.ref (He.codeOf K ("_law_least_words", none))) A outer s H E).nox (defBody st__law_least_words) (e__law_least_words S__law_all S__law_least) :=
  dss_cons (ds_set (i := 2) sc__law_least_words.nd rfl (by first | exact Or.inl rfl | exact Or.inr rfl) (de_lst (das_nil)))
    (dss_cons (ds_for (own := [3]) PassesOwn.never rfl (di_val (de_callD o__law_all hr l__law_all (g__law_all kn) (das_cons (de_var (i := 0)) (das_cons (de_var (i := 1)) (das_nil))))) (dg_name (i := 3) sc__law_least_words.nd rfl (by first | exact Or.inl rfl | exact Or.inr rfl)) (dss_one (ds_if (L2.PW.pt (dw_and (dt_cmp (od_eq hr.u) (de_callB cr_len (by rfl) (m_len kn) bo_len (da_cons (de_var (i := 3)) (da_nil))) (de_var (i := 1)) (by rfl)) (dw_and1 (dt_cmp (od_eq hr.u) (de_var (i := 3)) (de_callD o__law_least hr l__law_least (g__law_least kn) (das_cons (de_var (i := 0)) (das_cons (de_var (i := 3)) (das_nil)))) (by rfl))))) (dss_one (ds_app (i := 2) (de_var (i := 3)))) (dss_nil))))
    (dss_one (ds_ret (de_callB (cr_sortDx rfl) (by rfl) (m_sorted kn) bo_sorted (da_cons (de_var (i := 2)) (da_nil))))))
theorem ok__law_least_words {k k__law_all k__law_least : Nat} {S__law_all S__law_least : Spc} {S : Spc} (kn : Kn fa fn tf K mg base) (o__law_all : OkD P w K mg base (bxO K (insO (He.ga K "Counter") true MF)) Y (tbs K tf) k__law_all ("_law_all", none) P__law_all S__law_all) (l__law_all : k__law_all ≤ k) (o__law_least : OkD P w K mg base (bxO K (insO (He.ga K "Counter") true MF)) Y (tbs K tf) k__law_least ("_law_least", none) P__law_least S__law_least) (l__law_least : k__law_least ≤ k) (hlen : ∀ ds Q E, S ds Q E → ds.length = 2) (hp : ∀ ds Q E, S ds Q E → e__law_least_words S__law_all S__law_least (st0 4 ds) { nx := fun _ => Q .non, rt := Q }) :
    OkD P w K mg base (bxO K (insO (He.ga K "Counter") true MF)) Y (tbs K tf) (k + 1) ("_law_least_words", none) P__law_least_words S := by
  obtain ⟨fd, F⟩ := kn.def_ 17
  exact OkD.mk F sc__law_least_words (fun A outer s H E hr => d__law_least_words kn o__law_all l__law_all o__law_least l__law_least A outer s H E hr) (fun _ _ _ _ _ _ us hl => match us, hl with | [_, _], _ => rfl) hlen hp
theorem d__law_same {k k__law_same : Nat} {S__law_same : Spc} (kn : Kn fa fn tf K mg base) (o__law_same : OkD P w K mg base (bxO K (insO (He.ga K "Counter") true MF)) Y (tbs K tf) k__law_same ("_law_same", none) P__law_same S__law_same) (l__law_same : k__law_same ≤ k) (A : Around) (outer : List Env) (s : Shared) (H : Hp) (E : XK) (hr : Room (k) (A.deeper (envOfC "_law_same" (defScope st__law_same) s.heap.objs.size (He.fAd K ("_law_same", none)) (.ref (He.codeOf K ("_law_same", none)))))) :
    DSs (bxO K (insO (He.ga K "Counter") true MF)) Y (tbs K tf) E0 (cxOf CX0 P w K mg base N__law_same "_law_same" (defScope st__law_same) (He.fAd K ("_law_same", none)) (.ref (He.codeOf K ("_law_same", none))) A outer s H E).nox (defBody st__law_same) (e__law_same S__law_same) :=
  dss_cons (ds_if (dt_of (de_isi (by simp) (by rfl) (m_isinstance kn) (by rfl) (m_tuple kn) bo_tuple (de_var (i := 1)))) (dss_cons (ds_if (L2.PW.pt (dw_or (dt_not (dt_of (de_isi (by simp) (by rfl) (m_isinstance kn) (by rfl) (m_tuple kn) bo_tuple (de_var (i := 0))))) (dw_or1 (dt_cmp (od_ne hr.u) (de_callB cr_len (by rfl) (m_len kn) bo_len (da_cons (de_var (i := 0)) (da_nil))) (de_callB cr_len (by rfl) (m_len kn) bo_len (da_cons (de_var (i := 1)) (da_nil))) (by rfl))))) (dss_one (ds_ret (de_bl))) (dss_nil))
    (dss_cons (ds_for (own := [2]) PassesOwn.never rfl (di_range1 (by rfl) (m_range kn) (da_cons (de_callB cr_len (by rfl) (m_len kn) bo_len (da_cons (de_var (i := 1)) (da_nil))) (da_nil))) (dg_name (i := 2) sc__law_same.nd rfl (by first | exact Or.inl rfl | exact Or.inr rfl)) (dss_one (ds_if (dt_not (dt_of (de_callD o__law_same hr l__law_same (g__law_same kn) (das_cons (de_ix hr.u (de_var (i := 0)) (de_var (i := 2))) (das_cons (de_ix hr.u (de_var (i := 1)) (de_var (i := 2))) (das_nil)))))) (dss_one (ds_ret (de_bl))) (dss_nil))))
    (dss_one (ds_ret (de_bl))))) (dss_nil))
    (dss_cons (ds_if (dt_cmp od_is (de_var (i := 1)) (de_non) (by rfl)) (dss_one (ds_ret (de_cmp od_is (de_var (i := 0)) (de_non) (by rfl)))) (dss_nil))
    (dss_cons (ds_if (dt_of (de_isi (by simp) (by rfl) (m_isinstance kn) (by rfl) (m_bool kn) bo_bool (de_var (i := 1)))) (dss_one (ds_ret (de_and (de_isi (by simp) (by rfl) (m_isinstance kn) (by rfl) (m_bool kn) bo_bool (de_var (i := 0))) (de_one (de_cmp (od_eq hr.u) (de_var (i := 0)) (de_var (i := 1)) (by rfl)))))) (dss_nil))
    (dss_cons (ds_if (dt_of (de_isi (by simp) (by rfl) (m_isinstance kn) (by rfl) (m_int kn) bo_int (de_var (i := 1)))) (dss_one (ds_ret (de_and (de_isi (by simp) (by rfl) (m_isinstance kn) (by rfl) (m_int kn) bo_int (de_var (i := 0))) (de_and (de_not (de_isi (by simp) (by rfl) (m_isinstance kn) (by rfl) (m_bool kn) bo_bool (de_var (i := 0)))) (de_one (de_cmp (od_eq hr.u) (de_var (i := 0)) (de_var (i := 1)) (by rfl))))))) (dss_nil))
    (dss_one (ds_ret (de_and (de_isi (by simp) (by rfl) (m_isinstance kn) (by rfl) (m_str kn) bo_str (de_var (i := 0))) (de_one (de_cmp (od_eq hr.u) (de_var (i := 0)) (de_var (i := 1)) (by rfl)))))))))
theorem ok__law_same {k k__law_same : Nat} {S__law_same : Spc} {S : Spc} (kn : Kn fa fn tf K mg base) (o__law_same : OkD P w K mg base (bxO K (insO (He.ga K "Counter") true MF)) Y (tbs K tf) k__law_same ("_law_same", none) P__law_same S__law_same) (l__law_same : k__law_same ≤ k) (hlen : ∀ ds Q E, S ds Q E → ds.length = 2) (hp : ∀ ds Q E, S ds Q E → e__law_same S__law_same (st0 3 ds) { nx := fun _ => Q .non, rt := Q }) :
    OkD P w K mg base (bxO K (insO (He.ga K "Counter") true MF)) Y (tbs K tf) (k + 1) ("_law_same", none) P__law_same S := by
  obtain ⟨fd, F⟩ := kn.def_ 18
  exact OkD.mk F sc__law_same (fun A outer s H E hr => d__law_same kn o__law_same l__law_same A outer s H E hr) (fun _ _ _ _ _ _ us hl => match us, hl with | [_, _], _ => rfl) hlen hp
theorem d__law_cliques {k k__law_apart : Nat} {S__law_apart : Spc} (kn : Kn fa fn tf K mg base) (o__law_apart : OkD P w K mg base (bxO K (insO (He.ga K "Counter") true MF)) Y (tbs K tf) k__law_apart ("_law_apart", none) P__law_apart S__law_apart) (l__law_apart : k__law_apart ≤ k) (A : Around) (outer : List Env) (s : Shared) (H : Hp) (E : XK) (hr : Room (k + 5) (A.deeper (envOfC "_law_cliques" (defScope st__law_cliques) s.heap.objs.size (He.fAd K ("_law_cliques", none)) (.ref (He.codeOf K ("_law_cliques", none)))))) :
    DSs (bxO K (insO (He.ga K "Counter") true MF)) Y (tbs K tf) E0 (cxOf CX0 P w K mg base N__law_cliques "_law_cliques" (defScope st__law_cliques) (He.fAd K ("_law_cliques", none)) (.ref (He.codeOf K ("_law_cliques", none))) A outer s H E).nox (defBody st__law_cliques) (e__law_cliques S__law_apart) :=
  dss_cons (ds_set (i := 1) sc__law_cliques.nd rfl (by first | exact Or.inl rfl | exact Or.inr rfl) (de_lst (das_cons (de_str (l := [])) (das_nil))))
    (dss_cons (ds_for (own := [2]) PassesOwn.never rfl (di_val (de_ix hr.u (de_var (i := 0)) (de_int))) (dg_name (i := 2) sc__law_cliques.nd rfl (by first | exact Or.inl rfl | exact Or.inr rfl)) (dss_one (ds_set (i := 1) sc__law_cliques.nd rfl (by first | exact Or.inl rfl | exact Or.inr rfl) (de_op od_add (de_var (i := 1)) (de_lc (own := [("_law_clique", 3)]) rfl sc__law_cliques.nd (di_raw (de_var (i := 1))) (blkOk_of (by kernel_rfl)) (fun _ _ _ _ _ => dg_name (i := 3) sc__law_cliques.nd rfl (by first | exact Or.inl rfl | exact Or.inr rfl)) (fun _ _ _ _ _ => dts_one (dt_of (de_callD o__law_apart hr (Nat.le_trans l__law_apart (Nat.le_add_right _ _)) (g__law_apart kn) (das_cons (de_var (i := 0)) (das_cons (de_var (i := 3)) (das_cons (de_var (i := 2)) (das_nil))))))) (fun _ _ _ _ _ => de_op od_add (de_var (i := 3)) (de_var (i := 2))))))))
    (dss_one (ds_ret (de_sortK (k := k + 2) hr (kn.tab (p := ("_law_cliques", none)) (by decide)) (mem_tbs (by decide)) rfl (by rfl) (m_sorted kn) bo_sorted (m_len kn) bo_len ⟨rfl, rfl, rfl, by decide +kernel, rfl, by decide +kernel, by decide +kernel⟩ rfl rfl (fun _ => rfl) rfl (fun _ _ _ _ _ _ => rfl) (by decide) (by decide) (de_var (i := 1))))))
theorem ok__law_cliques {k k__law_apart : Nat} {S__law_apart : Spc} {S : Spc} (kn : Kn fa fn tf K mg base) (o__law_apart : OkD P w K mg base (bxO K (insO (He.ga K "Counter") true MF)) Y (tbs K tf) k__law_apart ("_law_apart", none) P__law_apart S__law_apart) (l__law_apart : k__law_apart ≤ k) (hlen : ∀ ds Q E, S ds Q E → ds.length = 1) (hp : ∀ ds Q E, S ds Q E → e__law_cliques S__law_apart (st0 4 ds) { nx := fun _ => Q .non, rt := Q }) :
    OkD P w K mg base (bxO K (insO (He.ga K "Counter") true MF)) Y (tbs K tf) (k + 5 + 1) ("_law_cliques", none) P__law_cliques S := by
  obtain ⟨fd, F⟩ := kn.def_ 19
  exact OkD.mk F sc__law_cliques (fun A outer s H E hr => d__law_cliques kn o__law_apart l__law_apart A outer s H E hr) (fun _ _ _ _ _ _ us hl => match us, hl with | [_], _ => rfl) hlen hp
theorem d_law {k k__law_box k__law_alphabet k__law_least_words k__law_same k_traces k_count_traces k__law_cliques k_cliques : Nat} {S__law_box S__law_alphabet S__law_least_words S__law_same S_traces S_count_traces S__law_cliques S_cliques : Spc} (kn : Kn fa fn tf K mg base) (o__law_box : OkD P w K mg base (bxO K (insO (He.ga K "Counter") true MF)) Y (tbs K tf) k__law_box ("_law_box", none) P__law_box S__law_box) (l__law_box : k__law_box ≤ k) (o__law_alphabet : OkD P w K mg base (bxO K (insO (He.ga K "Counter") true MF)) Y (tbs K tf) k__law_alphabet ("_law_alphabet", none) P__law_alphabet S__law_alphabet) (l__law_alphabet : k__law_alphabet ≤ k) (o__law_least_words : OkD P w K mg base (bxO K (insO (He.ga K "Counter") true MF)) Y (tbs K tf) k__law_least_words ("_law_least_words", none) P__law_least_words S__law_least_words) (l__law_least_words : k__law_least_words ≤ k) (o__law_same : OkD P w K mg base (bxO K (insO (He.ga K "Counter") true MF)) Y (tbs K tf) k__law_same ("_law_same", none) P__law_same S__law_same) (l__law_same : k__law_same ≤ k) (o_traces : OkD P w K mg base (bxO K (insO (He.ga K "Counter") true MF)) Y (tbs K tf) k_traces ("traces", none) P_traces S_traces) (l_traces : k_traces ≤ k) (o_count_traces : OkD P w K mg base (bxO K (insO (He.ga K "Counter") true MF)) Y (tbs K tf) k_count_traces ("count_traces", none) P_count_traces S_count_traces) (l_count_traces : k_count_traces ≤ k) (o__law_cliques : OkD P w K mg base (bxO K (insO (He.ga K "Counter") true MF)) Y (tbs K tf) k__law_cliques ("_law_cliques", none) P__law_cliques S__law_cliques) (l__law_cliques : k__law_cliques ≤ k) (o_cliques : OkD P w K mg base (bxO K (insO (He.ga K "Counter") true MF)) Y (tbs K tf) k_cliques ("cliques", none) P_cliques S_cliques) (l_cliques : k_cliques ≤ k) (A : Around) (outer : List Env) (s : Shared) (H : Hp) (E : XK) (hr : Room (k) (A.deeper (envOfC "law" (defScope st_law) s.heap.objs.size (He.fAd K ("law", none)) (.ref (He.codeOf K ("law", none)))))) :
    DSs (bxO K (insO (He.ga K "Counter") true MF)) Y (tbs K tf) E0 (cxOf CX0 P w K mg base N_law "law" (defScope st_law) (He.fAd K ("law", none)) (.ref (He.codeOf K ("law", none))) A outer s H E).nox (defBody st_law) (e_law S__law_box S__law_alphabet S__law_least_words S__law_same S_traces S_count_traces S__law_cliques S_cliques) :=
  dss_cons (ds_set (i := 1) sc_law.nd rfl (by first | exact Or.inl rfl | exact Or.inr rfl) (de_callD o__law_box hr l__law_box (g__law_box kn) (das_cons (de_var (i := 0)) (das_cons (de_int) (das_cons (de_int) (das_nil))))))
    (dss_cons (ds_set (i := 2) sc_law.nd rfl (by first | exact Or.inl rfl | exact Or.inr rfl) (de_callD o__law_alphabet hr l__law_alphabet (g__law_alphabet kn) (das_cons (de_var (i := 1)) (das_cons (de_int) (das_nil)))))
    (dss_cons (ds_for (own := [3]) PassesOwn.never rfl (di_range1 (by rfl) (m_range kn) (da_cons (de_int) (da_nil))) (dg_name (i := 3) sc_law.nd rfl (by first | exact Or.inl rfl | exact Or.inr rfl)) (dss_cons (ds_set (i := 4) sc_law.nd rfl (by first | exact Or.inl rfl | exact Or.inr rfl) (de_callD o__law_least_words hr l__law_least_words (g__law_least_words kn) (das_cons (de_var (i := 2)) (das_cons (de_var (i := 3)) (das_nil)))))
    (dss_one (ds_if (L2.PW.pt (dw_or (dt_not (dt_of (de_callD o__law_same hr l__law_same (g__law_same kn) (das_cons (de_callD o_traces hr l_traces (g_traces kn) (das_cons (de_var (i := 2)) (das_cons (de_var (i := 3)) (das_nil)))) (das_cons (de_callTy cr_tup (by rfl) (m_tuple kn) bo_tuple (da_cons (de_var (i := 4)) (da_nil))) (das_nil)))))) (dw_or1 (dt_not (dt_of (de_callD o__law_same hr l__law_same (g__law_same kn) (das_cons (de_callD o_count_traces hr l_count_traces (g_count_traces kn) (das_cons (de_var (i := 2)) (das_cons (de_var (i := 3)) (das_nil)))) (das_cons (de_callB cr_len (by rfl) (m_len kn) bo_len (da_cons (de_var (i := 4)) (da_nil))) (das_nil))))))))) (dss_one (ds_ret (de_bl))) (dss_nil)))))
    (dss_cons (ds_set (i := 5) sc_law.nd rfl (by first | exact Or.inl rfl | exact Or.inr rfl) (de_callD o__law_alphabet hr l__law_alphabet (g__law_alphabet kn) (das_cons (de_var (i := 1)) (das_cons (de_int) (das_nil)))))
    (dss_cons (ds_set (i := 6) sc_law.nd rfl (by first | exact Or.inl rfl | exact Or.inr rfl) (de_callD o__law_cliques hr l__law_cliques (g__law_cliques kn) (das_cons (de_var (i := 5)) (das_nil))))
    (dss_cons (ds_if (L2.PW.pt (dw_or (dt_not (dt_of (de_callD o__law_same hr l__law_same (g__law_same kn) (das_cons (de_callD o_cliques hr l_cliques (g_cliques kn) (das_cons (de_var (i := 5)) (das_nil))) (das_cons (de_callTy cr_tup (by rfl) (m_tuple kn) bo_tuple (da_cons (de_var (i := 6)) (da_nil))) (das_nil)))))) (dw_or1 (dt_not (dt_of (de_callD o__law_same hr l__law_same (g__law_same kn) (das_cons (de_callD o_count_traces hr l_count_traces (g_count_traces kn) (das_cons (de_var (i := 5)) (das_cons (de_int) (das_nil)))) (das_cons (de_int) (das_nil))))))))) (dss_one (ds_ret (de_bl))) (dss_nil))
    (dss_cons (ds_setLc (i := 7) (own := [("_law_n", 3)]) rfl sc_law.nd rfl rfl (sw_true rfl rfl rfl rfl) (DI.raw (di_range1 (by rfl) (m_range kn) (da_cons (de_int) (da_nil)))) (blkOk_of (by kernel_rfl)) (fun _ _ _ _ _ => dg_name (i := 3) sc_law.nd rfl (by first | exact Or.inl rfl | exact Or.inr rfl)) (fun _ _ _ _ _ => dts_nil) (fun _ _ _ _ _ => de_callD o_count_traces hr l_count_traces (g_count_traces kn) (das_cons (de_var (i := 5)) (das_cons (de_var (i := 3)) (das_nil)))))
    (dss_cons (ds_for (own := [3]) PassesOwn.never rfl (di_range2 (by rfl) (m_range kn) (da_cons (de_int) (da_cons (de_int) (da_nil)))) (dg_name (i := 3) sc_law.nd rfl (by first | exact Or.inl rfl | exact Or.inr rfl)) (dss_cons (ds_set (i := 8) sc_law.nd rfl (by first | exact Or.inl rfl | exact Or.inr rfl) (de_int))
    (dss_cons (ds_for (own := [9]) PassesOwn.never rfl (di_val (de_var (i := 6))) (dg_name (i := 9) sc_law.nd rfl (by first | exact Or.inl rfl | exact Or.inr rfl)) (dss_one (ds_if (dt_cmp od_le (de_callB cr_len (by rfl) (m_len kn) bo_len (da_cons (de_var (i := 9)) (da_nil))) (de_var (i := 3)) (by rfl)) (dss_one (ds_set (i := 8) sc_law.nd rfl (by first | exact Or.inl rfl | exact Or.inr rfl) (de_op od_add (de_var (i := 8)) (de_op od_mulX (de_op od_sub (de_int) (de_op od_mulX (de_int) (de_op od_mod (de_callB cr_len (by rfl) (m_len kn) bo_len (da_cons (de_var (i := 9)) (da_nil))) (de_int)))) (de_ix hr.u (de_var (i := 7)) (de_op od_sub (de_var (i := 3)) (de_callB cr_len (by rfl) (m_len kn) bo_len (da_cons (de_var (i := 9)) (da_nil))))))))) (dss_nil))))
    (dss_one (ds_if (dt_cmp (od_ne hr.u) (de_var (i := 8)) (de_int) (by rfl)) (dss_one (ds_ret (de_bl))) (dss_nil))))))
    (dss_one (ds_ret (de_bl))))))))))
theorem ok_law {k k__law_box k__law_alphabet k__law_least_words k__law_same k_traces k_count_traces k__law_cliques k_cliques : Nat} {S__law_box S__law_alphabet S__law_least_words S__law_same S_traces S_count_traces S__law_cliques S_cliques : Spc} {S : Spc} {fd : FuncData} (kn : Kn fa fn tf K mg base) (F : FunD K "law" "law" (defArgs st_law) (defBody st_law) (defScope st_law) [] [] (He.fAd K ("law", none)) fd) (o__law_box : OkD P w K mg base (bxO K (insO (He.ga K "Counter") true MF)) Y (tbs K tf) k__law_box ("_law_box", none) P__law_box S__law_box) (l__law_box : k__law_box ≤ k) (o__law_alphabet : OkD P w K mg base (bxO K (insO (He.ga K "Counter") true MF)) Y (tbs K tf) k__law_alphabet ("_law_alphabet", none) P__law_alphabet S__law_alphabet) (l__law_alphabet : k__law_alphabet ≤ k) (o__law_least_words : OkD P w K mg base (bxO K (insO (He.ga K "Counter") true MF)) Y (tbs K tf) k__law_least_words ("_law_least_words", none) P__law_least_words S__law_least_words) (l__law_least_words : k__law_least_words ≤ k) (o__law_same : OkD P w K mg base (bxO K (insO (He.ga K "Counter") true MF)) Y (tbs K tf) k__law_same ("_law_same", none) P__law_same S__law_same) (l__law_same : k__law_same ≤ k) (o_traces : OkD P w K mg base (bxO K (insO (He.ga K "Counter") true MF)) Y (tbs K tf) k_traces ("traces", none) P_traces S_traces) (l_traces : k_traces ≤ k) (o_count_traces : OkD P w K mg base (bxO K (insO (He.ga K "Counter") true MF)) Y (tbs K tf) k_count_traces ("count_traces", none) P_count_traces S_count_traces) (l_count_traces : k_count_traces ≤ k) (o__law_cliques : OkD P w K mg base (bxO K (insO (He.ga K "Counter") true MF)) Y (tbs K tf) k__law_cliques ("_law_cliques", none) P__law_cliques S__law_cliques) (l__law_cliques : k__law_cliques ≤ k) (o_cliques : OkD P w K mg base (bxO K (insO (He.ga K "Counter") true MF)) Y (tbs K tf) k_cliques ("cliques", none) P_cliques S_cliques) (l_cliques : k_cliques ≤ k) (hlen : ∀ ds Q E, S ds Q E → ds.length = 1) (hp : ∀ ds Q E, S ds Q E → e_law S__law_box S__law_alphabet S__law_least_words S__law_same S_traces S_count_traces S__law_cliques S_cliques (st0 10 ds) { nx := fun _ => Q .non, rt := Q }) :
    FnOk P w K mg base CX0 (k + 1) (He.fAd K ("law", none)) fd P_law (spD (bxO K (insO (He.ga K "Counter") true MF)) Y (tbs K tf) S) :=
  fnE F sc_law hlen (fun A outer s H E hr => d_law kn o__law_box l__law_box o__law_alphabet l__law_alphabet o__law_least_words l__law_least_words o__law_same l__law_same o_traces l_traces o_count_traces l_count_traces o__law_cliques l__law_cliques o_cliques l_cliques A outer s H E hr) hp
theorem d_next_letters {k k_barred_behind : Nat} {S_barred_behind : Spc} (kn : Kn fa fn tf K mg base) (o_barred_behind : OkD P w K mg base (bxO K (insO (He.ga K "Counter") true MF)) Y (tbs K tf) k_barred_behind ("barred_behind", none) P_barred_behind S_barred_behind) (l_barred_behind : k_barred_behind ≤ k) (A : Around) (outer : List Env) (s : Shared) (H : Hp) (E : XK) (hr : Room (k) (A.deeper (envOfC "Counter.next_letters" (defScope st_next_letters) s.heap.objs.size (He.fAd K ("Counter", some "next_letters")) (.ref (He.codeOf K ("Counter", some "next_letters")))))) :
    DSs (bxO K (insO (He.ga K "Counter") true MF)) Y (tbs K tf) E0 (cxOf CX0 P w K mg base N_next_letters "Counter.next_letters" (defScope st_next_letters) (He.fAd K ("Counter", some "next_letters")) (.ref (He.codeOf K ("Counter", some "next_letters"))) A outer s H E).nox (defBody st_next_letters) (e_next_letters S_barred_behind) :=
  dss_one (ds_ret (de_lc (own := [("letter", 2)]) rfl sc_next_letters.nd (di_raw (de_ix hr.u (de_fldA (de_var (i := 0)) (c_cls kn) (c_noA kn)) (de_int))) (blkOk_of (by kernel_rfl)) (fun _ _ _ _ _ => dg_name (i := 2) sc_next_letters.nd rfl (by first | exact Or.inl rfl | exact Or.inr rfl)) (fun _ _ _ _ _ => dts_one (dt_cmp (od_notIn hr.u) (de_var (i := 2)) (de_var (i := 1)) (by rfl))) (fun _ _ _ _ _ => de_tup (das_cons (de_var (i := 2)) (das_cons (de_callD o_barred_behind hr l_barred_behind (g_barred_behind kn) (das_cons (de_fldA (de_var (i := 0)) (c_cls kn) (c_noA kn)) (das_cons (de_var (i := 1)) (das_cons (de_var (i := 2)) (das_nil))))) (das_nil))))))
theorem ok_next_letters {k k_barred_behind : Nat} {S_barred_behind : Spc} {S : Spc} (kn : Kn fa fn tf K mg base) (o_barred_behind : OkD P w K mg base (bxO K (insO (He.ga K "Counter") true MF)) Y (tbs K tf) k_barred_behind ("barred_behind", none) P_barred_behind S_barred_behind) (l_barred_behind : k_barred_behind ≤ k) (hlen : ∀ ds Q E, S ds Q E → ds.length = 2) (hp : ∀ ds Q E, S ds Q E → e_next_letters S_barred_behind (st0 3 ds) { nx := fun _ => Q .non, rt := Q }) :
    OkD P w K mg base (bxO K (insO (He.ga K "Counter") true MF)) Y (tbs K tf) (k + 1) ("Counter", some "next_letters") P_next_letters S := by
  obtain ⟨fd, F⟩ := kn.def_ 21
  exact OkD.mk F sc_next_letters (fun A outer s H E hr => d_next_letters kn o_barred_behind l_barred_behind A outer s H E hr) (fun _ _ _ _ _ _ us hl => match us, hl with | [_, _], _ => rfl) hlen hp
theorem d_count {k k_next_letters k_count : Nat} {S_next_letters S_count : Spc} (kn : Kn fa fn tf K mg base) (fin : MemFin MF) (o_next_letters : OkD P w K mg base (bxO K (insO (He.ga K "Counter") true MF)) Y (tbs K tf) k_next_letters ("Counter", some "next_letters") P_next_letters S_next_letters) (l_next_letters : k_next_letters ≤ k) (o_count : OkD P w K mg base (bxO K (insO (He.ga K "Counter") true MF)) Y (tbs K tf) k_count ("Counter", some "count") P_count S_count) (l_count : k_count ≤ k) (A : Around) (outer : List Env) (s : Shared) (H : Hp) (E : XK) (hr : Room (k + 5) (A.deeper (envOfC "Counter.count" (defScope st_count) s.heap.objs.size (He.fAd K ("Counter", some "count")) (.ref (He.codeOf K ("Counter", some "count")))))) :
    DSs (bxO K (insO (He.ga K "Counter") true MF)) Y (tbs K tf) E0 (cxOf CX0 P w K mg base N_count "Counter.count" (defScope st_count) (He.fAd K ("Counter", some "count")) (.ref (He.codeOf K ("Counter", some "count"))) A outer s H E).nox (defBody st_count) (e_count MF S_next_letters S_count) :=
  dss_cons (ds_if (dt_cmp (od_eq hr.u) (de_var (i := 1)) (de_int) (by rfl)) (dss_one (ds_ret (de_int))) (dss_nil))
    (dss_memo hr.u fin (c_cls kn) (c_noK kn) kread_pair (pe_pairK (i := 1) (j := 2) rfl rfl (by first | exact Or.inl rfl | exact Or.inr (Or.inl rfl) | exact Or.inr (Or.inr rfl)) (by first | exact Or.inl rfl | exact Or.inr (Or.inl rfl) | exact Or.inr (Or.inr rfl))) (pe_pairK (i := 1) (j := 2) rfl rfl (by first | exact Or.inl rfl | exact Or.inr (Or.inl rfl) | exact Or.inr (Or.inr rfl)) (by first | exact Or.inl rfl | exact Or.inr (Or.inl rfl) | exact Or.inr (Or.inr rfl))) (pe_pairK (i := 1) (j := 2) rfl rfl (by first | exact Or.inl rfl | exact Or.inr (Or.inl rfl) | exact Or.inr (Or.inr rfl)) (by first | exact Or.inl rfl | exact Or.inr (Or.inl rfl) | exact Or.inr (Or.inr rfl))) (de_sumG (hr.mono (Nat.add_le_add_left (by decide) _)) (by rfl) (m_sum kn) bo_sum (gexp1 (own := [("_", 3), ("later", 4)]) (hr.mono (Nat.le_add_right _ _)) (kn.tab (p := ("Counter", some "count")) (by decide)) (mem_tbs (by decide)) rfl rfl sc_count.nd (di_raw (de_methD o_next_letters hr (Nat.le_trans l_next_letters (Nat.le_add_right _ _)) (c_cls kn) (c_meth_next_letters kn) (de_var (i := 0)) (das_cons (de_var (i := 2)) (das_nil)))) (fun _ _ _ _ _ _ _ _ _ hg => dg_tup rfl (dgs_cons (dg_name (i := 3) sc_count.nd rfl (by first | exact Or.inl rfl | exact Or.inr rfl)) (dgs_cons (dg_name (i := 4) sc_count.nd rfl (by first | exact Or.inl rfl | exact Or.inr rfl)) (dgs_nil)))) (fun _ _ _ _ _ _ _ _ _ hg => dts_nil) (fun _ _ _ _ _ _ _ _ _ hg => de_methD o_count hg l_count (c_cls kn) (c_meth_count kn) (de_var (i := 0)) (das_cons (de_op od_sub (de_var (i := 1)) (de_int)) (das_cons (de_var (i := 4)) (das_nil)))) (blkOk_of (by kernel_rfl)) (show (".0" : Str) ∉ N_count by decide +kernel))))
theorem ok_count {k k_next_letters k_count : Nat} {S_next_letters S_count : Spc} {S : Spc} (kn : Kn fa fn tf K mg base) (fin : MemFin MF) (o_next_letters : OkD P w K mg base (bxO K (insO (He.ga K "Counter") true MF)) Y (tbs K tf) k_next_letters ("Counter", some "next_letters") P_next_letters S_next_letters) (l_next_letters : k_next_letters ≤ k) (o_count : OkD P w K mg base (bxO K (insO (He.ga K "Counter") true MF)) Y (tbs K tf) k_count ("Counter", some "count") P_count S_count) (l_count : k_count ≤ k) (hlen : ∀ ds Q E, S ds Q E → ds.length = 3) (hp : ∀ ds Q E, S ds Q E → e_count MF S_next_letters S_count (st0 5 ds) { nx := fun _ => Q .non, rt := Q }) :
    OkD P w K mg base (bxO K (insO (He.ga K "Counter") true MF)) Y (tbs K tf) (k + 5 + 1) ("Counter", some "count") P_count S := by
  obtain ⟨fd, F⟩ := kn.def_ 22
  exact OkD.mk F sc_count (fun A outer s H E hr => d_count kn fin o_next_letters l_next_letters o_count l_count A outer s H E hr) (fun _ _ _ _ _ _ us hl => match us, hl with | [_, _, _], _ => rfl) hlen hp
theorem d_words {k k_next_letters k_words : Nat} {S_next_letters S_words : Spc} (kn : Kn fa fn tf K mg base) (o_next_letters : OkD P w K mg base (bxO K (insO (He.ga K "Counter") true MF)) Y (tbs K tf) k_next_letters ("Counter", some "next_letters") P_next_letters S_next_letters) (l_next_letters : k_next_letters ≤ k) (o_words : OkD P w K mg base (bxO K (insO (He.ga K "Counter") true MF)) Y (tbs K tf) k_words ("Counter", some "words") P_words S_words) (l_words : k_words ≤ k) (A : Around) (outer : List Env) (s : Shared) (H : Hp) (E : XK) (hr : Room (k) (A.deeper (envOfC "Counter.words" (defScope st_words) s.heap.objs.size (He.fAd K ("Counter", some "words")) (.ref (He.codeOf K ("Counter", some "words")))))) :
    DSs (bxO K (insO (He.ga K "Counter") true MF)) Y (tbs K tf) E0 (cxOf CX0 P w K mg base N_words "Counter.words" (defScope st_words) (He.fAd K ("Counter", some "words")) (.ref (He.codeOf K ("Counter", some "words"))) A outer s H E).nox (defBody st_words) (e_words S_next_letters S_words) :=
  dss_cons (ds_if (dt_cmp (od_eq hr.u) (de_var (i := 1)) (de_int) (by rfl)) (dss_one (ds_ret (de_lst (das_cons (de_str (l := [])) (das_nil))))) (dss_nil))
    (dss_one (ds_ret (de_lc2 (own := [("letter", 3), ("later", 4), ("rest", 5)]) (own1 := [5]) rfl sc_words.nd (di_raw (de_methD o_next_letters hr l_next_letters (c_cls kn) (c_meth_next_letters kn) (de_var (i := 0)) (das_cons (de_var (i := 2)) (das_nil)))) (blkOk_of (by kernel_rfl)) (by decide) (fun _ _ _ _ _ => dg_tup rfl (dgs_cons (dg_name (i := 3) sc_words.nd rfl (by first | exact Or.inl rfl | exact Or.inr rfl)) (dgs_cons (dg_name (i := 4) sc_words.nd rfl (by first | exact Or.inl rfl | exact Or.inr rfl)) (dgs_nil)))) (fun _ _ _ _ _ => dts_nil) (fun _ _ _ _ _ => di_val (de_methD o_words hr l_words (c_cls kn) (c_meth_words kn) (de_var (i := 0)) (das_cons (de_op od_sub (de_var (i := 1)) (de_int)) (das_cons (de_var (i := 4)) (das_nil))))) (fun _ _ _ _ _ => dg_name (i := 5) sc_words.nd rfl (by first | exact Or.inl rfl | exact Or.inr rfl)) (fun _ _ _ _ _ => dts_nil) (fun _ _ _ _ _ => de_op od_add (de_var (i := 3)) (de_var (i := 5))))))
theorem ok_words {k k_next_letters k_words : Nat} {S_next_letters S_words : Spc} {S : Spc} (kn : Kn fa fn tf K mg base) (o_next_letters : OkD P w K mg base (bxO K (insO (He.ga K "Counter") true MF)) Y (tbs K tf) k_next_letters ("Counter", some "next_letters") P_next_letters S_next_letters) (l_next_letters : k_next_letters ≤ k) (o_words : OkD P w K mg base (bxO K (insO (He.ga K "Counter") true MF)) Y (tbs K tf) k_words ("Counter", some "words") P_words S_words) (l_words : k_words ≤ k) (hlen : ∀ ds Q E, S ds Q E → ds.length = 3) (hp : ∀ ds Q E, S ds Q E → e_words S_next_letters S_words (st0 6 ds) { nx := fun _ => Q .non, rt := Q }) :
    OkD P w K mg base (bxO K (insO (He.ga K "Counter") true MF)) Y (tbs K tf) (k + 1) ("Counter", some "words") P_words S := by
  obtain ⟨fd, F⟩ := kn.def_ 23
  exact OkD.mk F sc_words (fun A outer s H E hr => d_words kn o_next_letters l_next_letters o_words l_words A outer s H E hr) (fun _ _ _ _ _ _ us hl => match us, hl with | [_, _, _], _ => rfl) hlen hp
end
end TC

namespace TC
open PySem PySem.Spec PyProof.Rows L2
/-! ### joined -/
section
variable {O : ObjI} {Y : ExI} {TB : List Addr} {P : Program} {w : World} {K : PySem.W.Frag} {mg : Str → Option Value} {base : Heap}
theorem OkD.no {x qual : Str} {params : Arguments} {body : List Stmt} {scope : Scope} {at_ : Str × Option Str} {fd : FuncData} {ps : List Str} {k : Nat} (F : FunD K x qual params body scope [] [] (He.fAd K at_) fd)
    (hb : ∀ (kV doc pm : Value) (an : Option Addr) (cdv ct : Value) (us : List Value), us.length = ps.length → bindArgs (PySem.W.fnOf x qual params body scope .none kV doc pm an cdv ct) ⟨us, []⟩ = pure (ps.zip us)) : OkD P w K mg base O Y TB k at_ ps noS :=
  ⟨fd, ⟨fun vs H Q E ⟨_, _, _, _, _, _, sp, _⟩ => sp.elim, fun A outer s H args us vs Q E hr e0 hb r ⟨_, _, _, _, _, _, sp, _⟩ => sp.elim⟩, F.kp, F.bindsN hb⟩
end
abbrev MFc : MemF := cMF
theorem MFc_fin : MemFin MFc := cMF_fin
def kLaw : Nat := 100
section
variable {P : Program} {w : World} {K : PySem.W.Frag} {mg : Str → Option Value} {base : Heap}
theorem law_ok {fd : FuncData} (kn : Kn fa fn tf K mg base) (F : FunD K "law" "law" (defArgs st_law) (defBody st_law) (defScope st_law) [] [] (He.fAd K ("law", none)) fd) :
    FnOk P w K mg base CX0 kLaw (He.fAd K ("law", none)) fd P_law (spD (bxO K (insO (He.ga K "Counter") true MFc)) noY (tbs K tf) lawS) := by
  have i1 := ok_independent (P := P) (w := w) (K := K) (mg := mg) (base := base) (Y := noY) (MF := MFc) (k := 0) (S := freeS) kn  (by rintro ds Q E ⟨_, _, _, _, rfl, _⟩; rfl) (p_independent)
  have i2 := ok_free (P := P) (w := w) (K := K) (mg := mg) (base := base) (Y := noY) (MF := MFc) (k := 1) (S := freeWS) kn i1 (by decide) (by rintro ds Q E ⟨_, _, _, _, rfl, _⟩; rfl) (p_free)
  have i3 := ok_cliques (P := P) (w := w) (K := K) (mg := mg) (base := base) (Y := noY) (MF := MFc) (k := 7) (S := clTS) kn i2 (by decide) (by rintro ds Q E ⟨_, _, rfl, _⟩; rfl) (p_cliques)
  have i4 := ok_barred_behind (P := P) (w := w) (K := K) (mg := mg) (base := base) (Y := noY) (MF := MFc) (k := 1) (S := bbS) kn i1 (by decide) (by rintro ds Q E ⟨_, _, _, _, rfl, _⟩; rfl) (p_bb)
  have nl := ok_next_letters (P := P) (w := w) (K := K) (mg := mg) (base := base) (Y := noY) (MF := MFc) (k := 7) (S := nlS) kn i4 (by decide) (by rintro ds Q E ⟨_, _, _, _, rfl, _⟩; rfl) (p_next)
  have c_ : OkD P w K mg base (bxO K (insO (He.ga K "Counter") true MFc)) noY (tbs K tf) 0 ("Counter", some "count") P_count noS := by
    obtain ⟨fd, F⟩ := kn.def_ 22
    exact OkD.no F (fun _ _ _ _ _ _ us hl => match us, hl with | [_, _, _], _ => rfl)
  have c0 := ok_count (P := P) (w := w) (K := K) (mg := mg) (base := base) (Y := noY) (MF := MFc) (k := 8) (S := cntS 0) kn MFc_fin nl (by decide) c_ (by decide) (by rintro ds Q E ⟨_, _, _, _, rfl, _⟩; rfl) (p_count0)
  have c1 := ok_count (P := P) (w := w) (K := K) (mg := mg) (base := base) (Y := noY) (MF := MFc) (k := 14) (S := cntS 1) kn MFc_fin nl (by decide) c0 (by decide) (by rintro ds Q E ⟨_, _, _, _, rfl, _⟩; rfl) (p_count 0)
  have c2 := ok_count (P := P) (w := w) (K := K) (mg := mg) (base := base) (Y := noY) (MF := MFc) (k := 20) (S := cntS 2) kn MFc_fin nl (by decide) c1 (by decide) (by rintro ds Q E ⟨_, _, _, _, rfl, _⟩; rfl) (p_count 1)
  have c3 := ok_count (P := P) (w := w) (K := K) (mg := mg) (base := base) (Y := noY) (MF := MFc) (k := 26) (S := cntS 3) kn MFc_fin nl (by decide) c2 (by decide) (by rintro ds Q E ⟨_, _, _, _, rfl, _⟩; rfl) (p_count 2)
  have c4 := ok_count (P := P) (w := w) (K := K) (mg := mg) (base := base) (Y := noY) (MF := MFc) (k := 32) (S := cntS 4) kn MFc_fin nl (by decide) c3 (by decide) (by rintro ds Q E ⟨_, _, _, _, rfl, _⟩; rfl) (p_count 3)
  have c5 := ok_count (P := P) (w := w) (K := K) (mg := mg) (base := base) (Y := noY) (MF := MFc) (k := 38) (S := cntS 5) kn MFc_fin nl (by decide) c4 (by decide) (by rintro ds Q E ⟨_, _, _, _, rfl, _⟩; rfl) (p_count 4)
  have c6 := ok_count (P := P) (w := w) (K := K) (mg := mg) (base := base) (Y := noY) (MF := MFc) (k := 44) (S := cntS 6) kn MFc_fin nl (by decide) c5 (by decide) (by rintro ds Q E ⟨_, _, _, _, rfl, _⟩; rfl) (p_count 5)
  have c7 := ok_count (P := P) (w := w) (K := K) (mg := mg) (base := base) (Y := noY) (MF := MFc) (k := 50) (S := cntS 7) kn MFc_fin nl (by decide) c6 (by decide) (by rintro ds Q E ⟨_, _, _, _, rfl, _⟩; rfl) (p_count 6)
  have c8 := ok_count (P := P) (w := w) (K := K) (mg := mg) (base := base) (Y := noY) (MF := MFc) (k := 56) (S := cntS 8) kn MFc_fin nl (by decide) c7 (by decide) (by rintro ds Q E ⟨_, _, _, _, rfl, _⟩; rfl) (p_count 7)
  have c9 := ok_count (P := P) (w := w) (K := K) (mg := mg) (base := base) (Y := noY) (MF := MFc) (k := 62) (S := cntS 9) kn MFc_fin nl (by decide) c8 (by decide) (by rintro ds Q E ⟨_, _, _, _, rfl, _⟩; rfl) (p_count 8)
  have c10 := ok_count (P := P) (w := w) (K := K) (mg := mg) (base := base) (Y := noY) (MF := MFc) (k := 68) (S := cntS 10) kn MFc_fin nl (by decide) c9 (by decide) (by rintro ds Q E ⟨_, _, _, _, rfl, _⟩; rfl) (p_count 9)
  have c11 := ok_count (P := P) (w := w) (K := K) (mg := mg) (base := base) (Y := noY) (MF := MFc) (k := 74) (S := cntS 11) kn MFc_fin nl (by decide) c10 (by decide) (by rintro ds Q E ⟨_, _, _, _, rfl, _⟩; rfl) (p_count 10)
  have c12 := ok_count (P := P) (w := w) (K := K) (mg := mg) (base := base) (Y := noY) (MF := MFc) (k := 80) (S := cntS 12) kn MFc_fin nl (by decide) c11 (by decide) (by rintro ds Q E ⟨_, _, _, _, rfl, _⟩; rfl) (p_count 11)
  have c13 := ok_count (P := P) (w := w) (K := K) (mg := mg) (base := base) (Y := noY) (MF := MFc) (k := 86) (S := cntS 13) kn MFc_fin nl (by decide) c12 (by decide) (by rintro ds Q E ⟨_, _, _, _, rfl, _⟩; rfl) (p_count 12)
  have c14 := ok_count (P := P) (w := w) (K := K) (mg := mg) (base := base) (Y := noY) (MF := MFc) (k := 92) (S := cntS 14) kn MFc_fin nl (by decide) c13 (by decide) (by rintro ds Q E ⟨_, _, _, _, rfl, _⟩; rfl) (p_count 13)
  have w_ : OkD P w K mg base (bxO K (insO (He.ga K "Counter") true MFc)) noY (tbs K tf) 0 ("Counter", some "words") P_words noS := by
    obtain ⟨fd, F⟩ := kn.def_ 23
    exact OkD.no F (fun _ _ _ _ _ _ us hl => match us, hl with | [_, _, _], _ => rfl)
  have w0 := ok_words (P := P) (w := w) (K := K) (mg := mg) (base := base) (Y := noY) (MF := MFc) (k := 8) (S := wrdS 0) kn nl (by decide) w_ (by decide) (by rintro ds Q E ⟨_, _, _, _, _, rfl, _⟩; rfl) (p_words0)
  have w1 := ok_words (P := P) (w := w) (K := K) (mg := mg) (base := base) (Y := noY) (MF := MFc) (k := 9) (S := wrdS 1) kn nl (by decide) w0 (by decide) (by rintro ds Q E ⟨_, _, _, _, _, rfl, _⟩; rfl) (p_words 0)
  have w2 := ok_words (P := P) (w := w) (K := K) (mg := mg) (base := base) (Y := noY) (MF := MFc) (k := 10) (S := wrdS 2) kn nl (by decide) w1 (by decide) (by rintro ds Q E ⟨_, _, _, _, _, rfl, _⟩; rfl) (p_words 1)
  have w3 := ok_words (P := P) (w := w) (K := K) (mg := mg) (base := base) (Y := noY) (MF := MFc) (k := 11) (S := wrdS 3) kn nl (by decide) w2 (by decide) (by rintro ds Q E ⟨_, _, _, _, _, rfl, _⟩; rfl) (p_words 2)
  have w4 := ok_words (P := P) (w := w) (K := K) (mg := mg) (base := base) (Y := noY) (MF := MFc) (k := 12) (S := wrdS 4) kn nl (by decide) w3 (by decide) (by rintro ds Q E ⟨_, _, _, _, _, rfl, _⟩; rfl) (p_words 3)
  have ct := ok_count_traces (P := P) (w := w) (K := K) (mg := mg) (base := base) (Y := noY) (MF := MFc) (k := 98) (S := ctS) kn (by decide) c14 (by decide) (by rintro ds Q E ⟨_, _, _, rfl, _⟩; rfl) (p_count_traces)
  have tr := ok_traces (P := P) (w := w) (K := K) (mg := mg) (base := base) (Y := noY) (MF := MFc) (k := 13) (S := trS) kn (by decide) w4 (by decide) (by rintro ds Q E ⟨_, _, _, rfl, _⟩; rfl) (p_traces)
  have l1 := ok__law_cell (P := P) (w := w) (K := K) (mg := mg) (base := base) (Y := noY) (MF := MFc) (k := 0) (S := cellS) kn  (by rintro ds Q E ⟨_, _, rfl, _⟩; rfl) (p_cell)
  have l2 := ok__law_digits (P := P) (w := w) (K := K) (mg := mg) (base := base) (Y := noY) (MF := MFc) (k := 1) (S := digitsS) kn l1 (by decide) (by rintro ds Q E ⟨_, _, rfl, _⟩; rfl) (p_digits)
  have l3 := ok__law_box (P := P) (w := w) (K := K) (mg := mg) (base := base) (Y := noY) (MF := MFc) (k := 2) (S := boxS) kn l2 (by decide) (by rintro ds Q E ⟨_, _, rfl, _⟩; rfl) (p_box)
  have l4 := ok__law_draw (P := P) (w := w) (K := K) (mg := mg) (base := base) (Y := noY) (MF := MFc) (k := 0) (S := drawS) kn  (by rintro ds Q E ⟨_, _, rfl, _⟩; rfl) (p_draw)
  have l5 := ok__law_alphabet (P := P) (w := w) (K := K) (mg := mg) (base := base) (Y := noY) (MF := MFc) (k := 1) (S := alphabetS) kn l4 (by decide) (by rintro ds Q E ⟨_, _, rfl, _⟩; rfl) (p_alphabet)
  have l7 := ok__law_free (P := P) (w := w) (K := K) (mg := mg) (base := base) (Y := noY) (MF := MFc) (k := 0) (S := freeS) kn  (by rintro ds Q E ⟨_, _, _, _, rfl, _⟩; rfl) (p_lfree)
  have l8 := ok__law_apart (P := P) (w := w) (K := K) (mg := mg) (base := base) (Y := noY) (MF := MFc) (k := 1) (S := freeWS) kn l7 (by decide) (by rintro ds Q E ⟨_, _, _, _, rfl, _⟩; rfl) (p_apart)
  have l9 := ok__law_all (P := P) (w := w) (K := K) (mg := mg) (base := base) (Y := noY) (MF := MFc) (k := 0) (S := allS) kn  (by rintro ds Q E ⟨_, _, _, rfl, _⟩; rfl) (p_all)
  have m0 := ok__law_leaders (P := P) (w := w) (K := K) (mg := mg) (base := base) (Y := noY) (MF := MFc) (k := 1) (S := leadS) kn l7 (by decide) (by rintro ds Q E ⟨_, _, _, rfl, _⟩; rfl) (p_leaders)
  have m1 := ok__law_without (P := P) (w := w) (K := K) (mg := mg) (base := base) (Y := noY) (MF := MFc) (k := 0) (S := withoutS) kn  (by rintro ds Q E ⟨_, _, rfl, _⟩; rfl) (p_lwithout)
  have m2 := ok__law_least (P := P) (w := w) (K := K) (mg := mg) (base := base) (Y := noY) (MF := MFc) (k := 2) (S := leastS) kn m0 (by decide) m1 (by decide) (by rintro ds Q E ⟨_, _, _, rfl, _⟩; rfl) (p_lleast)
  have m3 := ok__law_least_words (P := P) (w := w) (K := K) (mg := mg) (base := base) (Y := noY) (MF := MFc) (k := 3) (S := lwS) kn l9 (by decide) m2 (by decide) (by rintro ds Q E ⟨_, _, _, rfl, _⟩; rfl) (p_least_words)
  have m4 := ok__law_cliques (P := P) (w := w) (K := K) (mg := mg) (base := base) (Y := noY) (MF := MFc) (k := 2) (S := clS) kn l8 (by decide) (by rintro ds Q E ⟨_, _, rfl, _⟩; rfl) (p_lcliques)
  have s_ : OkD P w K mg base (bxO K (insO (He.ga K "Counter") true MFc)) noY (tbs K tf) 0 ("_law_same", none) P__law_same noS := by
    obtain ⟨fd, F⟩ := kn.def_ 18
    exact OkD.no F (fun _ _ _ _ _ _ us hl => match us, hl with | [_, _], _ => rfl)
  have s0 := ok__law_same (P := P) (w := w) (K := K) (mg := mg) (base := base) (Y := noY) (MF := MFc) (k := 0) (S := same0IS) kn s_ (by decide) (by rintro ds Q E ⟨_, rfl, _⟩; rfl) (p_same0I)
  have s1 := ok__law_same (P := P) (w := w) (K := K) (mg := mg) (base := base) (Y := noY) (MF := MFc) (k := 1) (S := same1ZS) kn s0 (by decide) (by rintro ds Q E ⟨_, rfl, _⟩; rfl) (p_same1Z)
  exact ok_law (MF := MFc) (k := 99) kn F l3 (by decide) l5 (by decide) m3 (by decide) s1 (by decide) tr (by decide) ct (by decide) m4 (by decide) i3 (by decide) (by rintro ds Q E ⟨_, _, rfl, _⟩; rfl) (p_law)
end
end TC

namespace TC
open PySem PySem.Spec PyProof.Rows L2
/-! ### the head -/
abbrev RR : PySem.W.OpenRow := PySem.W.OpenLaw.row PySem.Challenge.rw_traceclasses_k21_how_many_traces
def exb : PySem.W.Frag → Bool := fun _ => true
abbrev hk : PySem.W.Hook := He.hookX 4 fa fn [] tf exb
def ob (s : PySem.W.SharedT) : He.AlX := He.obsX 4 fa fn [] tf exb (HandSHeadRun.getT s)
theorem ob_eq (s : PySem.W.SharedT) : ob s = hk.obs s.abs := He.obsX_eq (HandSHeadRun.getT_eq s)
abbrev loose : List Str := ["independent", "free", "cliques", "barred_behind", "Counter", "count_traces", "traces", "_law_free", "_law_apart", "_law_cell", "_law_digits", "_law_box", "_law_draw", "_law_alphabet", "_law_all", "_law_leaders", "_law_without", "_law_least", "_law_least_words", "_law_same", "_law_cliques"]
theorem run (w : World) : HandSHeadRun.RunEq RR (PySem.W.view RR.prog [24]) hk ob 2000 loose w := by
  intro os
  kernel_rfl
end TC
open PySem PySem.W PySem.Calls PyProof.Rows
theorem PySem.Challenge.cw_traceclasses_k21_how_many_traces_holds : PySem.Challenge.rw_traceclasses_k21_how_many_traces.Holds := by
  w_on; o_law
  refine HandSHeadRun.head_any (r := TC.RR) (q := view TC.RR.prog [24]) (H := TC.hk) (ob := TC.ob) (M := 2000) (loose := TC.loose) (d := HandSHeadRun.topDef TC.RR.prog 24) (kwd := []) TC.ob_eq
    (by kernel_rfl) (fun s => by kernel_rfl) TC.run (by kernel_rfl) (by kernel_rfl) (by kernel_rfl) (by rfl) (by first | assumption | decide +kernel) (by decide +kernel) ⟨rfl, rfl, rfl, rfl, rfl, by decide +kernel⟩ ?hw ?hc
  case hw => w_witness2
  case hc =>
    refine LamX.walk_ofTsE (l := PySem.Challenge.rw_traceclasses_k21_how_many_traces) (n := 63) (k := TC.kLaw) (x := "_law_script") (CX := fun _ => L2.CX0) rfl (by decide) (by kernel_rfl) ⟨rfl, by decide, by decide⟩ ?F (fun _ _ _ _ _ z => z)
    intro w mg fa h Y G hmg0
    obtain ⟨K, KX, c⟩ := Y
    have hmg : mg ("law" : PySem.Str) = some (.ref fa) := by
      have e : (HandSHeadRun.topDef TC.RR.prog 24).name = ("law" : PySem.Str) := by kernel_rfl
      rw [← e]
      exact hmg0
    exact ⟨K, KX, TC.lawAt_ofE (tf := TC.tf) (ex := TC.exb) (EO := TC.insO (He.ga K "Counter") true TC.MFc) KX G c hmg 20 20 rfl rfl rfl (fun _ _ _ _ _ _ us hl => match us, hl with | [_], _ => rfl) rfl rfl fun base fd kn F => TC.law_ok kn F⟩

