import PyProof.Rows.All
import Wide.All
import OpenK.AllK
import Wide.FinOn
import HandS.ForMost
import HandS.ForExc
import HandS.Wide
import HandS.WideBits
import HandS.IsInst
import HandS.ExcInit
import HandS.EndBits
import HandS.TupAny
import HandS.Style
import HandS.NoneIn
import HandS.StrMore
import HandS.TryOnly
import HandS.TryMany
import HandS.SuiteRaise
import HandS.ExcField
import HandS.ExcIs
import HandS.Flow
import HandS.CallSlots
import HandS.Flt
import HandS.HeadHook1
import HandS.HeadHook2
import HandS.HeadHook3
import HandS.HeadHook4
import HandS.HeadEnd
import HandS.Head0
import HandS.Head1
import HandS.Head2
import HandS.Defaults
import PyProof.ListStr
import HandS.MakeKwOnly
import HandS.HotCalls
import HandS.SetFor
import KE.DataFind
import HandS.Dict
import PyProof.StrLawsIn
import HandS.Replace
import KE.KUnpackStar
import HandS.Text
import PySem.Challenge.RW_scaledesk_k11_whole_read_numbers
set_option Elab.async false
set_option linter.all false
set_option maxRecDepth 100000
set_option maxHeartbeats 4000000
/-! The D layer: values with tuples as plain data, over the hand layer. -/
namespace DD
open PySem PySem.Spec L2
open PyProof.Rows hiding St

/-- a value; tuples are plain data, what may change is named by its address -/
inductive D where
  | non | bl (b : Bool) | int (i : Int) | str (x : List Nat) | ref (a : Addr) | ty (n : String) | fn (n : String) | tup (xs : List D) | fls (xs : List D)
  deriving Inhabited
/-- a list that never changes -/
def FzL (K : PySem.W.Frag) (H : Hp) (a : Addr) (vs : List V) : Prop := (∃ o, H a = some (.frz o (.lst vs))) ∨
  ∃ (o : Obj) (its : Array Value) (n : Nat), K.lookup a = some o ∧ o.cls = .type "list" ∧ o.dict = none ∧ o.data = .seq its n ∧ its.size ≤ sizeLine ∧ Vals vs its.toList
theorem FzL.s {K : PySem.W.Frag} {H : Hp} {a : Addr} {vs : List V} (h : FzL K H a vs) : SqL K H a vs := h.elim (fun ⟨o, q⟩ => .inl (.inr ⟨o, q⟩)) .inr
/-- the codes of a text -/
abbrev Ok (x : List Nat) : Prop := ∀ c ∈ x, c < 1114112
mutual
inductive RV (K : PySem.W.Frag) (H : Hp) : D → V → Prop
  | non : RV K H .non .non
  | bl (b : Bool) : RV K H (.bl b) (.bl b)
  | int (i : Int) : RV K H (.int i) (.int i)
  | str (x : List Nat) (h : Ok x) : RV K H (.str x) (.str ⟨x.toArray⟩)
  | ref (a : Addr) : RV K H (.ref a) (.ref a)
  | ty (n : String) : RV K H (.ty n) (.ty n)
  | fn (n : String) : RV K H (.fn n) (.ref (He.ga K (Str.ofString n)))
  | tup {a : Addr} {vs : List V} {xs : List D} : SqT K H a vs → RVs K H xs vs → RV K H (.tup xs) (.ref a)
  | fls {a : Addr} {vs : List V} {xs : List D} : FzL K H a vs → RVs K H xs vs → RV K H (.fls xs) (.ref a)
inductive RVs (K : PySem.W.Frag) (H : Hp) : List D → List V → Prop
  | nil : RVs K H [] []
  | cons {x : D} {xs : List D} {v : V} {vs : List V} : RV K H x v → RVs K H xs vs → RVs K H (x :: xs) (v :: vs)
end
/-- tuples, frozen things and errors' dicts stay -/
structure TK (H H' : Hp) : Prop where
  tup : ∀ a xs, H a = some (.tup xs) → H' a = some (.tup xs)
  frz : ∀ a o u, H a = some (.frz o u) → H' a = some (.frz o u)
  xd : ∀ a ws, H a = some (.xd ws) → H' a = some (.xd ws)
theorem TK.refl (H : Hp) : TK H H := ⟨fun _ _ e => e, fun _ _ _ e => e, fun _ _ e => e⟩
theorem TK.trans {H H1 H2 : Hp} (a : TK H H1) (b : TK H1 H2) : TK H H2 := ⟨fun x y e => b.tup x y (a.tup x y e), fun x y z e => b.frz x y z (a.frz x y z e), fun x y e => b.xd x y (a.xd x y e)⟩
theorem TK.new {H : Hp} {p : Addr} {o : HO} (h : H p = none) : TK H (upd H p o) :=
  ⟨fun a xs e => by rw [upd_ne (ne_of_none e h)]; exact e, fun a x u e => by rw [upd_ne (ne_of_none e h)]; exact e, fun a x e => by rw [upd_ne (ne_of_none e h)]; exact e⟩
theorem TK.mut {H : Hp} {p : Addr} {o u : HO} (h : H p = some o) (h1 : ∀ xs, o ≠ .tup xs) (h2 : ∀ x u, o ≠ .frz x u) (h3 : ∀ ws, o ≠ .xd ws := by exact fun _ z => nomatch z) : TK H (upd H p u) :=
  ⟨fun a xs e => by
    have n : a ≠ p := fun z => by subst z; rw [h] at e; exact h1 _ (Option.some.inj e)
    rw [upd_ne n]; exact e,
   fun a x w e => by
    have n : a ≠ p := fun z => by subst z; rw [h] at e; exact h2 _ _ (Option.some.inj e)
    rw [upd_ne n]; exact e,
   fun a w e => by
    have n : a ≠ p := fun z => by subst z; rw [h] at e; exact h3 _ (Option.some.inj e)
    rw [upd_ne n]; exact e⟩
section
variable {K : PySem.W.Frag} {H H' : Hp}
theorem TK.sqT (t : TK H H') {a : Addr} {xs : List V} (h : SqT K H a xs) : SqT K H' a xs := by
  rcases h with (h | ⟨o, h⟩) | h
  · exact .inl (.inl (t.tup _ _ h))
  · exact .inl (.inr ⟨o, t.frz _ _ _ h⟩)
  · exact .inr h
theorem TK.fzl (t : TK H H') {a : Addr} {xs : List V} (h : FzL K H a xs) : FzL K H' a xs := h.elim (fun ⟨o, q⟩ => .inl ⟨o, t.frz _ _ _ q⟩) .inr
mutual
theorem RV.mono (t : TK H H') : ∀ {d : D} {v : V}, RV K H d v → RV K H' d v
  | _, _, .non => .non
  | _, _, .bl b => .bl b
  | _, _, .int i => .int i
  | _, _, .str x h => .str x h
  | _, _, .ref a => .ref a
  | _, _, .ty n => .ty n
  | _, _, .fn n => .fn n
  | _, _, .tup h r => .tup (t.sqT h) (RVs.mono t r)
  | _, _, .fls h r => .fls (t.fzl h) (RVs.mono t r)
theorem RVs.mono (t : TK H H') : ∀ {ds : List D} {vs : List V}, RVs K H ds vs → RVs K H' ds vs
  | _, _, .nil => .nil
  | _, _, .cons h r => .cons (RV.mono t h) (RVs.mono t r)
end
theorem RVs.length : ∀ {ds : List D} {vs : List V}, RVs K H ds vs → ds.length = vs.length
  | _, _, .nil => rfl
  | _, _, .cons _ r => congrArg (· + 1) (RVs.length r)
theorem RVs.get : ∀ {ds : List D} {vs : List V} {i : Nat} {d : D}, RVs K H ds vs → ds[i]? = some d → ∃ v, vs[i]? = some v ∧ RV K H d v
  | _, _, _, _, .nil, e => by simp at e
  | _, _, 0, _, .cons r _, e => by simp at e; subst e; exact ⟨_, rfl, r⟩
  | _, _, i + 1, d, .cons _ t, e => by
    obtain ⟨u, h1, h2⟩ := RVs.get (i := i) (d := d) t (by simpa using e)
    exact ⟨u, by simpa using h1, h2⟩
theorem RVs.append : ∀ {ds es : List D} {vs us : List V}, RVs K H ds vs → RVs K H es us → RVs K H (ds ++ es) (vs ++ us)
  | _, _, _, _, .nil, s => s
  | _, _, _, _, .cons r t, s => .cons r (RVs.append t s)
theorem RVs.set {d : D} {v : V} (r : RV K H d v) : ∀ {ds : List D} {vs : List V} (i : Nat), RVs K H ds vs → RVs K H (ds.set i d) (vs.set i v)
  | _, _, _, .nil => .nil
  | _, _, 0, .cons _ t => .cons r t
  | _, _, i + 1, .cons q t => .cons q (RVs.set r i t)
theorem RVs.take : ∀ {ds : List D} {vs : List V} (n : Nat), RVs K H ds vs → RVs K H (ds.take n) (vs.take n)
  | _, _, 0, _ => .nil
  | _, _, _ + 1, .nil => .nil
  | _, _, n + 1, .cons r t => .cons r (RVs.take n t)
theorem RVs.drop : ∀ {ds : List D} {vs : List V} (n : Nat), RVs K H ds vs → RVs K H (ds.drop n) (vs.drop n)
  | _, _, 0, r => r
  | _, _, _ + 1, .nil => .nil
  | _, _, n + 1, .cons _ t => RVs.drop n t
theorem RVs.reverse : ∀ {ds : List D} {vs : List V}, RVs K H ds vs → RVs K H ds.reverse vs.reverse
  | _, _, .nil => .nil
  | _, _, .cons r t => by rw [List.reverse_cons, List.reverse_cons]; exact RVs.append (RVs.reverse t) (.cons r .nil)
theorem RVs.dropLast {ds : List D} {vs : List V} (r : RVs K H ds vs) : RVs K H ds.dropLast vs.dropLast := by
  rw [List.dropLast_eq_take, List.dropLast_eq_take, r.length]; exact r.take _
theorem RVs.repl {d : D} {v : V} (r : RV K H d v) : ∀ n, RVs K H (List.replicate n d) (List.replicate n v)
  | 0 => .nil
  | n + 1 => .cons r (RVs.repl r n)
end
/-! ### objects -/
abbrev DKey := Sum Int (List Nat)
def DKey.k : DKey → Key
  | .inl i => .inl i
  | .inr x => .inr ⟨x.toArray⟩
inductive DO where
  | lst (xs : List D) | dic (kvs : List (DKey × D)) | dit (kvs : List (List DKey × D)) | ins (C : String) (fs : List (Str × D))
abbrev DH := Addr → Option DO
def dup (h : DH) (a : Addr) (o : DO) : DH := fun b => if b = a then some o else h b
theorem dup_same {h : DH} {a : Addr} {o : DO} : dup h a o a = some o := by unfold dup; rw [if_pos rfl]
theorem dup_ne {h : DH} {a b : Addr} {o : DO} (n : b ≠ a) : dup h a o b = h b := by unfold dup; rw [if_neg n]
theorem dup_dup {h : DH} {a : Addr} {o u : DO} : dup (dup h a o) a u = dup h a u := by funext b; unfold dup; split <;> rfl
/-- less is known -/
def Sub (h h' : DH) : Prop := ∀ a o, h a = some o → h' a = some o
theorem Sub.refl (h : DH) : Sub h h := fun _ _ e => e
theorem Sub.trans {h h1 h2 : DH} (a : Sub h h1) (b : Sub h1 h2) : Sub h h2 := fun x o e => b x o (a x o e)
theorem dne {h : DH} {a b : Addr} {o : DO} (h1 : h a = some o) (h2 : h b = none) : a ≠ b := by
  intro e; subst e; rw [h1] at h2; cases h2
theorem Sub.new {h : DH} {p : Addr} {o : DO} (n : h p = none) : Sub h (dup h p o) := fun a u e => by rw [dup_ne (dne e n)]; exact e
theorem Sub.newT {h0 h : DH} {p : Addr} {o : DO} (s : Sub h0 h) (n : h p = none) : Sub h0 (dup h p o) := s.trans (.new n)
theorem Sub.free {h h' : DH} (s : Sub h h') {p : Addr} (n : h' p = none) : h p = none := by
  cases e : h p with
  | none => rfl
  | some o => rw [s p o e] at n; cases n
/-- an object that h does not know may change -/
theorem Sub.mut {h h' : DH} {p : Addr} {o : DO} (s : Sub h h') (n : h p = none) : Sub h (dup h' p o) := fun a u e => by rw [dup_ne (dne e n)]; exact s a u e
def RKW {κ μ : Type} (f : κ → μ) (K : PySem.W.Frag) (H : Hp) : List (κ × D) → List (μ × V) → Prop := Paired fun p q => f p.1 = q.1 ∧ RV K H p.2 q.2
abbrev RKV (K : PySem.W.Frag) (H : Hp) : List (Str × D) → List (Str × V) → Prop := RKW id K H
def RO (K : PySem.W.Frag) (H : Hp) (a : Addr) : DO → Prop
  | .lst xs => ∃ vs, H a = some (.lst vs) ∧ RVs K H xs vs
  | .dic kvs => ∃ ws, H a = some (.dK ws) ∧ RKW DKey.k K H kvs ws
  | .dit kvs => ∃ ws, H a = some (.dT ws) ∧ RKW (List.map DKey.k) K H kvs ws
  | .ins C fs => ∃ dx ws, H a = some (.ins (He.ga K (Str.ofString C)) dx ws) ∧ RKV K H fs ws
def Rep (K : PySem.W.Frag) (h : DH) (H : Hp) : Prop := ∀ a o, h a = some o → RO K H a o
section
variable {K : PySem.W.Frag} {H H' : Hp} {h h' : DH}
theorem RKW.mono {κ μ : Type} {f : κ → μ} (t : TK H H') {xs : List (κ × D)} {ys : List (μ × V)} (r : RKW f K H xs ys) : RKW f K H' xs ys := Paired.mapP r fun _ _ q => ⟨q.1, q.2.mono t⟩
theorem RO.mono (t : TK H H') {a : Addr} (e : H' a = H a) : ∀ {o : DO}, RO K H a o → RO K H' a o
  | .lst xs, ⟨vs, q, r⟩ => ⟨vs, e.trans q, r.mono t⟩
  | .dic kvs, ⟨ws, q, r⟩ => ⟨ws, e.trans q, RKW.mono t r⟩
  | .dit kvs, ⟨ws, q, r⟩ => ⟨ws, e.trans q, RKW.mono t r⟩
  | .ins C fs, ⟨dx, ws, q, r⟩ => ⟨dx, ws, e.trans q, RKW.mono t r⟩
theorem RO.there {a : Addr} : ∀ {o : DO}, RO K H a o → ∃ u, H a = some u
  | .lst _, ⟨_, q, _⟩ => ⟨_, q⟩
  | .dic _, ⟨_, q, _⟩ => ⟨_, q⟩
  | .dit _, ⟨_, q, _⟩ => ⟨_, q⟩
  | .ins _ _, ⟨_, _, q, _⟩ => ⟨_, q⟩
theorem Rep.free (r : Rep K h H) {a : Addr} (n : H a = Option.none) : h a = Option.none := by
  cases e : h a with
  | none => rfl
  | some o =>
    obtain ⟨u, q⟩ := (r a o e).there
    rw [n] at q; cases q
theorem Rep.sub (r : Rep K h H) (s : Sub h' h) : Rep K h' H := fun a o e => r a o (s a o e)
/-- a tracked thing beside -/
theorem Rep.more (r : Rep K h H) {p : Addr} {o : HO} (n : H p = Option.none) : Rep K h (upd H p o) := fun a u e =>
  (r a u e).mono (.new n) (upd_ne fun z => by subst z; rw [r.free n] at e; cases e)
theorem Rep.new (r : Rep K h H) {p : Addr} {o : HO} {u : DO} (n : H p = Option.none) (x : RO K (upd H p o) p u) : Rep K (dup h p u) (upd H p o) := fun a w e => by
  by_cases z : a = p
  · subst z; rw [dup_same] at e; cases e; exact x
  · rw [dup_ne z] at e
    exact (r a w e).mono (.new n) (upd_ne z)
theorem Rep.mut (r : Rep K h H) {p : Addr} {o o0 : HO} {u : DO} (h0 : H p = Option.some o0) (h1 : ∀ xs, o0 ≠ .tup xs) (h2 : ∀ x u, o0 ≠ .frz x u) (x : RO K (upd H p o) p u) (h3 : ∀ ws, o0 ≠ .xd ws := by exact fun _ z => nomatch z) : Rep K (dup h p u) (upd H p o) := fun a w e => by
  by_cases z : a = p
  · subst z; rw [dup_same] at e; cases e; exact x
  · rw [dup_ne z] at e
    exact (r a w e).mono (.mut h0 h1 h2 h3) (upd_ne z)
end
/-! ### the names' values -/
abbrev Env := List (Option D)
inductive RO1 (K : PySem.W.Frag) (H : Hp) : Option D → Option V → Prop
  | non {v : Option V} : RO1 K H none v
  | som {d : D} {v : V} : RV K H d v → RO1 K H (some d) (some v)
abbrev RepE (K : PySem.W.Frag) (H : Hp) : Env → St → Prop := Paired (RO1 K H)
section
variable {K : PySem.W.Frag} {H H' : Hp}
theorem RO1.mono (t : TK H H') {x : Option D} {y : Option V} (r : RO1 K H x y) : RO1 K H' x y := by
  cases r with
  | non => exact .non
  | som r => exact .som (r.mono t)
theorem RepE.mono (t : TK H H') {env : Env} {σ : St} (r : RepE K H env σ) : RepE K H' env σ := Paired.mapP r fun _ _ q => q.mono t
theorem RepE.get : ∀ {env : Env} {σ : St} {i : Nat} {d : D}, RepE K H env σ → env[i]? = some (some d) → ∃ v, σ[i]? = some (some v) ∧ RV K H d v
  | _, _, _, _, .nil, e => by simp at e
  | _, _, 0, _, .cons r _, e => by
    simp at e; subst e
    cases r with
    | som r => exact ⟨_, rfl, r⟩
  | _, _, i + 1, d, .cons _ t, e => by
    obtain ⟨u, h1, h2⟩ := RepE.get (i := i) (d := d) t (by simpa using e)
    exact ⟨u, by simpa using h1, h2⟩
theorem RepE.set {d : D} {v : V} (r : RV K H d v) : ∀ {env : Env} {σ : St} (i : Nat), RepE K H env σ → RepE K H (env.set i (some d)) (σ.set i (some v))
  | _, _, _, .nil => .nil
  | _, _, 0, .cons _ t => .cons (.som r) t
  | _, _, i + 1, .cons q t => .cons q (RepE.set r i t)
theorem RepE.del : ∀ {env : Env} {σ : St} (i : Nat) {x : Option V}, RepE K H env σ → RepE K H (env.set i none) (σ.set i x)
  | _, _, _, _, .nil => .nil
  | _, _, 0, _, .cons _ t => .cons .non t
  | _, _, i + 1, _, .cons q t => .cons q (RepE.del i t)
theorem RepE.nones : ∀ n, RepE K H (List.replicate n none) (List.replicate n none)
  | 0 => .nil
  | n + 1 => .cons .non (RepE.nones n)
theorem RepE.vals : ∀ {ds : List D} {vs : List V}, RVs K H ds vs → RepE K H (ds.map some) (vs.map some)
  | _, _, .nil => .nil
  | _, _, .cons r t => .cons (.som r) (RepE.vals t)
theorem Paired.app {α β : Type} {R : α → β → Prop} : ∀ {a c : List α} {b d : List β}, Paired R a b → Paired R c d → Paired R (a ++ c) (b ++ d)
  | _, _, _, _, .nil, s => s
  | _, _, _, _, .cons r t, s => .cons r (Paired.app t s)
end
def dstart (n : Nat) (ds : List D) : Env := ds.map some ++ List.replicate (n - ds.length) none
theorem RepE.start {K : PySem.W.Frag} {H : Hp} {ds : List D} {vs : List V} {N : List Str} (r : RVs K H ds vs) : RepE K H (dstart N.length ds) (L2.start N vs) := by
  unfold dstart L2.start
  rw [r.length]
  exact Paired.app (RepE.vals r) (RepE.nones _)
/-! ### exceptions -/
/-- the exception classes of the program -/
inductive XN where
  | DeskError | NoNumber | NoScale | NoBase | NoWidth | NoText | NoProgram | NoTree | NoDivisor | NoExponent | NoRoot | TooLong | TooMany | Nothing | Stop
  deriving DecidableEq
def XN.s : XN → Str
  | .DeskError => "DeskError" | .NoNumber => "NoNumber" | .NoScale => "NoScale" | .NoBase => "NoBase" | .NoWidth => "NoWidth" | .NoText => "NoText" | .NoProgram => "NoProgram" | .NoTree => "NoTree"
  | .NoDivisor => "NoDivisor" | .NoExponent => "NoExponent" | .NoRoot => "NoRoot" | .TooLong => "TooLong" | .TooMany => "TooMany" | .Nothing => "Nothing" | .Stop => "Stop"
/-- an exception: its class, its own fields (none: none are told) -/
structure DX where
  cls : XN
  fs : Option (List (Str × D))
abbrev xad (K : PySem.W.Frag) (n : XN) : Addr := He.ga K n.s
def RX (K : PySem.W.Frag) (H : Hp) (x : DX) (c : Value) (dd : Option Addr) : Prop :=
  c = .ref (xad K x.cls) ∧ match x.fs with
    | none => dd = none
    | some fs => ∃ a ws, dd = some a ∧ H a = some (.xd ws) ∧ RKV K H fs ws
/-! ### the judgements -/
abbrev DK := D → DH → Prop
abbrev DXK := DX → DH → Prop
abbrev WE := Env → DH → DK → DXK → Prop
abbrev WT := Env → DH → (Bool → DH → Prop) → DXK → Prop
abbrev WA := Env → DH → (List D → DH → Prop) → DXK → Prop
structure DEnds where
  nx : Env → DH → Prop
  rt : DK
  bk : Env → DH → Prop := fun _ _ => False
  ct : Env → DH → Prop := fun _ _ => False
  xc : DX → Env → DH → Prop
abbrev WS := DEnds → Env → DH → Prop
/-- the heap at the entry; what is wanted of exceptions -/
structure Ct where
  Hb : Hp
  Wd : DX → Env → DH → Prop
def RdE (K : PySem.W.Frag) (C : Ct) (w : WE) : TE := fun σ H Q => ∃ (env : Env) (h : DH) (Qd : DK) (Ed : DXK), TK C.Hb H ∧ RepE K H env σ ∧ Rep K h H ∧ w env h Qd Ed ∧
  (∀ d h' v H', Qd d h' → TK H H' → RV K H' d v → Rep K h' H' → Q v H') ∧ ∀ x h', Ed x h' → C.Wd x env h'
def RdT (K : PySem.W.Frag) (C : Ct) (w : WT) : TT := fun σ H Q => ∃ (env : Env) (h : DH) (Qd : Bool → DH → Prop) (Ed : DXK), TK C.Hb H ∧ RepE K H env σ ∧ Rep K h H ∧ w env h Qd Ed ∧
  (∀ b h' H', Qd b h' → TK H H' → Rep K h' H' → Q b H') ∧ ∀ x h', Ed x h' → C.Wd x env h'
def RdA (K : PySem.W.Frag) (C : Ct) (w : WA) : TA := fun σ H Q => ∃ (env : Env) (h : DH) (Qd : List D → DH → Prop) (Ed : DXK), TK C.Hb H ∧ RepE K H env σ ∧ Rep K h H ∧ w env h Qd Ed ∧
  (∀ ds h' vs H', Qd ds h' → TK H H' → RVs K H' ds vs → Rep K h' H' → Q vs H') ∧ ∀ x h', Ed x h' → C.Wd x env h'
def RdS (K : PySem.W.Frag) (C : Ct) (w : WS) : TS := fun D σ H => ∃ (F : DEnds) (env : Env) (h : DH), TK C.Hb H ∧ RepE K H env σ ∧ Rep K h H ∧ w F env h ∧
  (∀ env h σ' H', F.nx env h → TK H H' → RepE K H' env σ' → Rep K h H' → D.nx σ' H') ∧
  (∀ d h v H', F.rt d h → TK H H' → RV K H' d v → Rep K h H' → D.rt v H') ∧
  (∀ env h σ' H', F.bk env h → TK H H' → RepE K H' env σ' → Rep K h H' → D.bk σ' H') ∧
  (∀ env h σ' H', F.ct env h → TK H H' → RepE K H' env σ' → Rep K h H' → D.ct σ' H') ∧
  ∀ x env h, F.xc x env h → C.Wd x env h
abbrev DE (X : Cx) (C : Ct) (e : Expr) (w : WE) : Prop := PE X e (RdE X.K C w)
abbrev DT (X : Cx) (C : Ct) (e : Expr) (w : WT) : Prop := PT X e (RdT X.K C w)
abbrev DW (X : Cx) (C : Ct) (e : Expr) (w : WT) : Prop := PW X e (RdT X.K C w)
abbrev DA (X : Cx) (C : Ct) (es : List Expr) (w : WA) : Prop := PA X es (RdA X.K C w)
abbrev DS (X : Cx) (C : Ct) (st : Stmt) (w : WS) : Prop := PS X st (RdS X.K C w)
abbrev DB (X : Cx) (C : Ct) (sts : List Stmt) (w : WS) : Prop := PSs X sts (RdS X.K C w)
/-- what the context must take of exceptions -/
def lift (K : PySem.W.Frag) (C : Ct) : WX := fun c dd σ H => ∃ x env h, TK C.Hb H ∧ RepE K H env σ ∧ Rep K h H ∧ RX K H x c dd ∧ C.Wd x env h
theorem pe_imp {X : Cx} {e : Expr} {t t' : TE} (p : PE X e t) (f : ∀ σ H Q, t' σ H Q → t σ H Q) : PE X e t' := ⟨fun pins s σ H Q I q => p.run pins s σ H Q I (f σ H Q q)⟩
theorem pt_imp {X : Cx} {e : Expr} {t t' : TT} (p : PT X e t) (f : ∀ σ H Q, t' σ H Q → t σ H Q) : PT X e t' := ⟨fun pins s σ H Q I q => p.run pins s σ H Q I (f σ H Q q)⟩
theorem pw_imp {X : Cx} {e : Expr} {t t' : TT} (p : PW X e t) (f : ∀ σ H Q, t' σ H Q → t σ H Q) : PW X e t' := ⟨fun wh pins s σ H Q I q => p.run wh pins s σ H Q I (f σ H Q q)⟩
theorem pa_imp {X : Cx} {e : List Expr} {t t' : TA} (p : PA X e t) (f : ∀ σ H Q, t' σ H Q → t σ H Q) : PA X e t' := ⟨fun pos pins s σ H Q I q => p.run pos pins s σ H Q I (f σ H Q q)⟩
theorem ps_imp {X : Cx} {st : Stmt} {t t' : TS} (p : PS X st t) (f : ∀ D σ H, t' D σ H → t D σ H) : PS X st t' := ⟨fun pins s σ H D I q => p.run pins s σ H D I (f D σ H q)⟩
theorem pss_imp {X : Cx} {st : List Stmt} {t t' : TS} (p : PSs X st t) (f : ∀ D σ H, t' D σ H → t D σ H) : PSs X st t' := ⟨fun pins s σ H D I q => p.run pins s σ H D I (f D σ H q)⟩
end DD

namespace DD
open PySem PySem.Spec L2
open PyProof.Rows hiding St
/-! ### names and constants -/
section
variable {X : Cx} {C : Ct} {pos : Pos}
@[reducible] def wVar (i : Nat) : WE := fun env h Q _ => match env[i]? with
  | some (some d) => Q d h
  | _ => False
@[reducible] def wC (d : D) : WE := fun _ h Q _ => Q d h
theorem rd_c {K : PySem.W.Frag} {d : D} {v : V} (r : ∀ H, RV K H d v) {σ : L2.St} {H : Hp} {Q : VK} : RdE K C (wC d) σ H Q → tC v σ H Q :=
  fun ⟨_, h, _, _, _, _, rp, hw, hq, _⟩ => hq d h v H hw (.refl H) (r H) rp
theorem de_var (i : Nat) {x : Str} (hN : X.N[i]? = some x := by rfl) (hv : Vis X.env.scope x := by first | exact Or.inl rfl | exact Or.inr (Or.inl rfl) | exact Or.inr (Or.inr rfl)) (hd : (x == ("__debug__" : Str)) = false := by decide)
    (hcd : (x == ("__classdict__" : Str)) = false := by decide) : DE X C (.Name x pos) (wVar i) := pe_imp (pe_var hN hv hd hcd) fun σ H Q ⟨env, h, Qd, Ed, tk, re, rp, hw, hq, hx⟩ => by
  unfold wVar at hw
  split at hw
  · rename_i d e
    obtain ⟨v, e2, r⟩ := re.get e
    exact ⟨v, e2, hq d h v H hw (.refl H) r rp⟩
  · exact hw.elim
theorem de_int {i j} : DE X C (.Constant (.int i) j pos) (wC (.int i)) := pe_imp pe_int fun _ _ _ => rd_c fun _ => .int i
theorem de_bl {b j} : DE X C (.Constant (.bool b) j pos) (wC (.bl b)) := pe_imp pe_bl fun _ _ _ => rd_c fun _ => .bl b
theorem de_non {j} : DE X C (.Constant .none j pos) (wC .non) := pe_imp pe_non fun _ _ _ => rd_c fun _ => .non
/-- the codes of a written text -/
def S (s : String) : List Nat := s.toList.map Char.toNat
theorem ofString_S (s : String) : Str.ofString s = ⟨(S s).toArray⟩ := by
  show (⟨(cpsOfBytes 0 0 s.toByteArray.data.toList).toArray⟩ : Str) = _
  rw [cpsOfBytes_string]
  rfl
theorem ok_S (s : String) : Ok (S s) := fun c hc => by
  obtain ⟨ch, _, rfl⟩ := List.mem_map.mp hc
  have h := ch.valid
  have e : ch.toNat = ch.val.toNat := rfl
  simp only [UInt32.isValidChar, Nat.isValidChar] at h
  omega
theorem RV.strS {K : PySem.W.Frag} {H : Hp} (s : String) : RV K H (.str (S s)) (.str (Str.ofString s)) := by
  rw [ofString_S]; exact .str _ (ok_S s)
theorem de_str {s : String} {j} : DE X C (.Constant (.str (Str.ofString s)) j pos) (wC (.str (S s))) := pe_imp pe_str fun _ _ _ => rd_c fun _ => .strS s
/-- what a module's name holds -/
def GV (K : PySem.W.Frag) (mg : Str → Option Value) (x : Str) (d : D) : Prop := ∃ u v, mg x = some u ∧ RelV v u ∧ ∀ H, RV K H d v
theorem de_glob {x : Str} {d : D} (hg : Gl X x) (g : GV X.K X.mg x d) (hd : (x == ("__debug__" : Str)) = false := by decide) : DE X C (.Name x pos) (wC d) := by
  obtain ⟨u, v, hm, r, q⟩ := g
  exact pe_imp (pe_glob hg hm r hd) fun _ _ _ => rd_c q
theorem de_blt {x : Str} {n : String} (hg : Gl X x) (hm : X.mg x = none) (hv : bootBuiltins x = some (.type n)) (hn : x ≠ "__name__" := by decide) (hd : (x == ("__debug__" : Str)) = false := by decide) : DE X C (.Name x pos) (wC (.ty n)) :=
  pe_imp (pe_bltn (v := .ty n) hg hm hv rfl hn hd) fun _ _ _ => rd_c fun _ => .ty n
end
/-! ### operators -/
abbrev O2 := D → D → DH → DK → Prop
def OpD (K : PySem.W.Frag) (o : O2) (r : R2) : Prop := ∀ x y h Qd vx vy H (Q : VK), o x y h Qd → RV K H x vx → RV K H y vy → Rep K h H →
  (∀ d h' v H', Qd d h' → TK H H' → RV K H' d v → Rep K h' H' → Q v H') → r vx vy H Q
/-- a rule of the hand layer serves the D-operation -/
def DOp (X : Cx) (f : Value → Value → Sem Value) (o : O2) : Prop := ∃ r, OpR X f r ∧ OpD X.K o r
@[reducible] def wBin (o : O2) (wa wb : WE) : WE := fun env h Q E => wa env h (fun x h1 => wb env h1 (fun y h2 => o x y h2 Q) E) E
theorem rd_bin {K : PySem.W.Frag} {C : Ct} {o : O2} {r : R2} {wa wb : WE} (ho : OpD K o r) {σ : L2.St} {H : Hp} {Q : VK} : RdE K C (wBin o wa wb) σ H Q → tOp r (RdE K C wa) (RdE K C wb) σ H Q :=
  fun ⟨env, h, Qd, Ed, tk, re, rp, hw, hq, hx⟩ => ⟨env, h, _, Ed, tk, re, rp, hw, fun x h1 vx H1 w1 t1 rx rp1 => ⟨env, h1, _, Ed, tk.trans t1, re.mono t1, rp1, w1, fun y h2 vy H2 o2 t2 ry rp2 =>
    ho _ _ _ _ _ _ _ _ o2 (rx.mono t2) ry rp2 fun d h' v H' q t r p => hq d h' v H' q ((t1.trans t2).trans t) r p, hx⟩, hx⟩
section
variable {X : Cx} {C : Ct} {pos : Pos} {a b c : Expr} {wa wb wc : WE} {o o' : O2}
theorem DOp.or {f : Value → Value → Sem Value} (h : DOp X f o) (h' : DOp X f o') : DOp X f (fun x y h Q => o x y h Q ∨ o' x y h Q) := by
  obtain ⟨r, hr, hd⟩ := h
  obtain ⟨r', hr', hd'⟩ := h'
  exact ⟨_, hr.or hr', fun x y h Qd vx vy H Q ho rx ry rp k => ho.elim (fun z => .inl (hd _ _ _ _ _ _ _ _ z rx ry rp k)) (fun z => .inr (hd' _ _ _ _ _ _ _ _ z rx ry rp k))⟩
theorem DOp.imp {f : Value → Value → Sem Value} (h : DOp X f o) (i : ∀ x y h Q, o' x y h Q → o x y h Q) : DOp X f o' := by
  obtain ⟨r, hr, hd⟩ := h
  exact ⟨r, hr, fun x y h Qd vx vy H Q ho rx ry rp k => hd _ _ _ _ _ _ _ _ (i _ _ _ _ ho) rx ry rp k⟩
theorem de_op {op : Operator} (h : DOp X (binaryOp op) o) (ha : DE X C a wa) (hb : DE X C b wb) : DE X C (.BinOp a op b pos) (wBin o wa wb) := by
  obtain ⟨r, hr, hd⟩ := h
  exact pe_imp (pe_op hr ha hb) fun _ _ _ => rd_bin hd
theorem de_cmp {op : CmpOp} (h : DOp X (compareOp op) o) (ha : DE X C a wa) (hb : DE X C b wb) (hm : behindInMarks op b = false := by first | exact nomark _ | with_unfolding_all rfl) : DE X C (.Compare a [op] [b] pos) (wBin o wa wb) := by
  obtain ⟨r, hr, hd⟩ := h
  exact pe_imp (pe_cmpR hr ha hb hm) fun _ _ _ => rd_bin hd
/-- a value that is a truth value, as a test -/
@[reducible] def wTest (w : WE) : WT := fun env h Q E => w env h (fun d h1 => match d with
  | .bl k => Q k h1
  | _ => False) E
theorem rd_test {K : PySem.W.Frag} {w : WE} {t : TE} (f : ∀ σ H Q, RdE K C w σ H Q → t σ H Q) {σ : L2.St} {H : Hp} {Q : Bool → Hp → Prop} : RdT K C (wTest w) σ H Q → tTest t σ H Q :=
  fun ⟨env, h, Qd, Ed, tk, re, rp, hw, hq, hx⟩ => f _ _ _ ⟨env, h, _, Ed, tk, re, rp, hw, fun d h' v H' w1 t1 rv rp1 => by
    split at w1
    · rename_i k
      cases rv
      exact ⟨k, rfl, hq k h' H' w1 t1 rp1⟩
    · exact w1.elim, hx⟩
theorem dt_cmp {op : CmpOp} (h : DOp X (compareOp op) o) (ha : DE X C a wa) (hb : DE X C b wb) (hm : behindInMarks op b = false := by first | exact nomark _ | with_unfolding_all rfl) : DT X C (.Compare a [op] [b] pos) (wTest (wBin o wa wb)) := by
  obtain ⟨r, hr, hd⟩ := h
  exact pt_imp (pt_cmpR hr ha hb hm) fun _ _ _ => rd_test fun _ _ _ => rd_bin hd
theorem dt_val {e : Expr} {w : WE} (h : DE X C e w) (he : ∀ whole, isTrue e X.env whole = (do let v ← whole; standAt e.pos; holding [v] (truthy v)) := by intro _; rfl) : DT X C e (wTest w) :=
  pt_imp (pt_val h he) fun _ _ _ q => rd_test (t := RdE X.K C w) (fun _ _ _ z => z) q
/-- a op b op' c -/
@[reducible] def wChain (o o' : O2) (wa wb wc : WE) : WE := fun env h Q E => wa env h (fun x h1 => wb env h1 (fun y h2 => o x y h2 fun z h3 => match z with
  | .bl k => if k = true then wc env h3 (fun u h4 => o' y u h4 Q) E else Q (.bl false) h3
  | _ => False) E) E
theorem rd_chain {K : PySem.W.Frag} {r r' : R2} (ho : OpD K o r) (ho' : OpD K o' r') {σ : L2.St} {H : Hp} {Q : VK} : RdE K C (wChain o o' wa wb wc) σ H Q → tChain r r' (RdE K C wa) (RdE K C wb) (RdE K C wc) σ H Q :=
  fun ⟨env, h, Qd, Ed, tk, re, rp, hw, hq, hx⟩ => ⟨env, h, _, Ed, tk, re, rp, hw, fun x h1 vx H1 w1 t1 rx rp1 => ⟨env, h1, _, Ed, tk.trans t1, re.mono t1, rp1, w1, fun y h2 vy H2 o2 t2 ry rp2 =>
    ho _ _ _ _ _ _ _ _ o2 (rx.mono t2) ry rp2 fun d h3 v H3 q t3 rv p3 => by
      split at q
      · rename_i k
        cases rv
        refine ⟨k, rfl, ?_⟩
        cases k with
        | true =>
          rw [if_pos rfl] at q ⊢
          exact ⟨env, h3, _, Ed, tk.trans ((t1.trans t2).trans t3), re.mono ((t1.trans t2).trans t3), p3, q, fun u h4 vu H4 o4 t4 ru rp4 => ho' _ _ _ _ _ _ _ _ o4 (ry.mono (t3.trans t4)) ru rp4 fun d h5 v H5 q5 t5 r5 p5 =>
            hq d h5 v H5 q5 ((((t1.trans t2).trans t3).trans t4).trans t5) r5 p5, hx⟩
        | false =>
          rw [if_neg Bool.false_ne_true] at q ⊢
          exact hq _ h3 _ H3 q ((t1.trans t2).trans t3) (.bl false) p3
      · exact q.elim, hx⟩, hx⟩
theorem de_chain {op op' : CmpOp} (h : DOp X (compareOp op) o) (h' : DOp X (compareOp op') o') (ha : DE X C a wa) (hb : DE X C b wb) (hc : DE X C c wc) (hm : lastMarks [op, op'] [b, c] = false := by with_unfolding_all rfl) :
    DE X C (.Compare a [op, op'] [b, c] pos) (wChain o o' wa wb wc) := by
  obtain ⟨r, hr, hd⟩ := h
  obtain ⟨r', hr', hd'⟩ := h'
  exact pe_imp (pe_chain hr hr' ha hb hc hm) fun _ _ _ => rd_chain hd hd'
theorem dt_chain {op op' : CmpOp} (h : DOp X (compareOp op) o) (h' : DOp X (compareOp op') o') (ha : DE X C a wa) (hb : DE X C b wb) (hc : DE X C c wc) (hm : lastMarks [op, op'] [b, c] = false := by with_unfolding_all rfl) :
    DT X C (.Compare a [op, op'] [b, c] pos) (wTest (wChain o o' wa wb wc)) := by
  obtain ⟨r, hr, hd⟩ := h
  obtain ⟨r', hr', hd'⟩ := h'
  exact pt_imp (pt_chain hr hr' ha hb hc hm) fun _ _ _ => rd_test fun _ _ _ => rd_chain hd hd'
/-! ### and, or, not, if -/
variable {ta tb : WT} {rest : List Expr}
@[reducible] def wAnd (t u : WT) : WT := fun env h Q E => t env h (fun k h1 => if k = true then u env h1 Q E else Q false h1) E
@[reducible] def wOr (t u : WT) : WT := fun env h Q E => t env h (fun k h1 => if k = true then Q true h1 else u env h1 Q E) E
@[reducible] def wNot (t : WT) : WT := fun env h Q E => t env h (fun k h1 => Q (!k) h1) E
theorem dw_and1 (ha : DT X C a ta) : DW X C (.BoolOp .And [a] pos) ta := pw_and1 ha
theorem dw_or1 (ha : DT X C a ta) : DW X C (.BoolOp .Or [a] pos) ta := pw_or1 ha
theorem dw_and (ha : DT X C a ta) (hb : DW X C (.BoolOp .And (b :: rest) pos) tb) : DW X C (.BoolOp .And (a :: b :: rest) pos) (wAnd ta tb) :=
  pw_imp (pw_and ha hb) fun σ H Q ⟨env, h, Qd, Ed, tk, re, rp, hw, hq, hx⟩ => ⟨env, h, _, Ed, tk, re, rp, hw, fun k h1 H1 w1 t1 rp1 => by
    cases k with
    | true =>
      rw [if_pos rfl] at w1 ⊢
      exact ⟨env, h1, _, Ed, tk.trans t1, re.mono t1, rp1, w1, fun b h2 H2 w2 t2 rp2 => hq b h2 H2 w2 (t1.trans t2) rp2, hx⟩
    | false =>
      rw [if_neg Bool.false_ne_true] at w1 ⊢
      exact hq _ h1 H1 w1 t1 rp1, hx⟩
theorem dw_or (ha : DT X C a ta) (hb : DW X C (.BoolOp .Or (b :: rest) pos) tb) : DW X C (.BoolOp .Or (a :: b :: rest) pos) (wOr ta tb) :=
  pw_imp (pw_or ha hb) fun σ H Q ⟨env, h, Qd, Ed, tk, re, rp, hw, hq, hx⟩ => ⟨env, h, _, Ed, tk, re, rp, hw, fun k h1 H1 w1 t1 rp1 => by
    cases k with
    | false =>
      rw [if_neg Bool.false_ne_true] at w1 ⊢
      exact ⟨env, h1, _, Ed, tk.trans t1, re.mono t1, rp1, w1, fun b h2 H2 w2 t2 rp2 => hq b h2 H2 w2 (t1.trans t2) rp2, hx⟩
    | true =>
      rw [if_pos rfl] at w1 ⊢
      exact hq _ h1 H1 w1 t1 rp1, hx⟩
theorem dt_w {e : Expr} {w : WT} (h : DW X C e w) : DT X C e w := h.pt
theorem dt_not (ha : DT X C a ta) : DT X C (.UnaryOp .Not a pos) (wNot ta) :=
  pt_imp (pt_not ha) fun σ H Q ⟨env, h, Qd, Ed, tk, re, rp, hw, hq, hx⟩ => ⟨env, h, _, Ed, tk, re, rp, hw, fun k h1 H1 w1 t1 rp1 => hq _ h1 H1 w1 t1 rp1, hx⟩
/-- .. as values -/
@[reducible] def wAndV (wa wb : WE) : WE := fun env h Q E => wa env h (fun d h1 => match d with
  | .bl k => if k = true then wb env h1 Q E else Q (.bl false) h1
  | _ => False) E
@[reducible] def wOrV (wa wb : WE) : WE := fun env h Q E => wa env h (fun d h1 => match d with
  | .bl k => if k = true then Q (.bl true) h1 else wb env h1 Q E
  | _ => False) E
@[reducible] def wNotV (wa : WE) : WE := fun env h Q E => wa env h (fun d h1 => match d with
  | .bl k => Q (.bl (!k)) h1
  | _ => False) E
theorem de_one {op} (h : DE X C a wa) : DE X C (.BoolOp op [a] pos) wa := pe_one h
theorem de_and (ha : DE X C a wa) (hb : DE X C (.BoolOp .And (b :: rest) pos) wb) : DE X C (.BoolOp .And (a :: b :: rest) pos) (wAndV wa wb) :=
  pe_imp (pe_and ha hb) fun σ H Q ⟨env, h, Qd, Ed, tk, re, rp, hw, hq, hx⟩ => ⟨env, h, _, Ed, tk, re, rp, hw, fun d h1 v H1 w1 t1 rv rp1 => by
    split at w1
    · rename_i k
      cases rv
      refine ⟨k, rfl, ?_⟩
      cases k with
      | true =>
        rw [if_pos rfl] at w1 ⊢
        exact ⟨env, h1, _, Ed, tk.trans t1, re.mono t1, rp1, w1, fun b h2 v H2 w2 t2 r2 rp2 => hq b h2 v H2 w2 (t1.trans t2) r2 rp2, hx⟩
      | false =>
        rw [if_neg Bool.false_ne_true] at w1 ⊢
        exact hq _ h1 _ H1 w1 t1 (.bl _) rp1
    · exact w1.elim, hx⟩
theorem de_or (ha : DE X C a wa) (hb : DE X C (.BoolOp .Or (b :: rest) pos) wb) : DE X C (.BoolOp .Or (a :: b :: rest) pos) (wOrV wa wb) :=
  pe_imp (pe_or ha hb) fun σ H Q ⟨env, h, Qd, Ed, tk, re, rp, hw, hq, hx⟩ => ⟨env, h, _, Ed, tk, re, rp, hw, fun d h1 v H1 w1 t1 rv rp1 => by
    split at w1
    · rename_i k
      cases rv
      refine ⟨k, rfl, ?_⟩
      cases k with
      | false =>
        rw [if_neg Bool.false_ne_true] at w1 ⊢
        exact ⟨env, h1, _, Ed, tk.trans t1, re.mono t1, rp1, w1, fun b h2 v H2 w2 t2 r2 rp2 => hq b h2 v H2 w2 (t1.trans t2) r2 rp2, hx⟩
      | true =>
        rw [if_pos rfl] at w1 ⊢
        exact hq _ h1 _ H1 w1 t1 (.bl _) rp1
    · exact w1.elim, hx⟩
theorem de_not (ha : DE X C a wa) : DE X C (.UnaryOp .Not a pos) (wNotV wa) :=
  pe_imp (pe_not ha) fun σ H Q ⟨env, h, Qd, Ed, tk, re, rp, hw, hq, hx⟩ => ⟨env, h, _, Ed, tk, re, rp, hw, fun d h1 v H1 w1 t1 rv rp1 => by
    split at w1
    · rename_i k
      cases rv
      exact ⟨k, rfl, hq _ h1 _ H1 w1 t1 (.bl _) rp1⟩
    · exact w1.elim, hx⟩
@[reducible] def wIfE (t : WT) (wa wb : WE) : WE := fun env h Q E => t env h (fun k h1 => if k = true then wa env h1 Q E else wb env h1 Q E) E
theorem de_ifExp (hc : DT X C c ta) (ha : DE X C a wa) (hb : DE X C b wb) : DE X C (.IfExp c a b pos) (wIfE ta wa wb) :=
  pe_imp (pe_ifExp hc ha hb) fun σ H Q ⟨env, h, Qd, Ed, tk, re, rp, hw, hq, hx⟩ => ⟨env, h, _, Ed, tk, re, rp, hw, fun k h1 H1 w1 t1 rp1 => by
    cases k with
    | true =>
      rw [if_pos rfl] at w1 ⊢
      exact ⟨env, h1, _, Ed, tk.trans t1, re.mono t1, rp1, w1, fun b h2 v H2 w2 t2 r2 rp2 => hq b h2 v H2 w2 (t1.trans t2) r2 rp2, hx⟩
    | false =>
      rw [if_neg Bool.false_ne_true] at w1 ⊢
      exact ⟨env, h1, _, Ed, tk.trans t1, re.mono t1, rp1, w1, fun b h2 v H2 w2 t2 r2 rp2 => hq b h2 v H2 w2 (t1.trans t2) r2 rp2, hx⟩, hx⟩
end
/-! ### argument lists, displays -/
section
variable {X : Cx} {C : Ct} {pos : Pos} {e : Expr} {es : List Expr} {we : WE} {w : WA}
@[reducible] def wNil : WA := fun _ h Q _ => Q [] h
@[reducible] def wCons (we : WE) (w : WA) : WA := fun env h Q E => we env h (fun d h1 => w env h1 (fun ds h2 => Q (d :: ds) h2) E) E
theorem da_nil : DA X C [] wNil := pa_imp pa_nil fun σ H Q ⟨env, h, Qd, Ed, tk, re, rp, hw, hq, hx⟩ => hq [] h [] H hw (.refl H) .nil rp
theorem da_cons (ha : DE X C e we) (hr : DA X C es w) (hs : starEach (e :: es) X.env = (false, eval e X.env) :: starEach es X.env := by rfl) : DA X C (e :: es) (wCons we w) :=
  pa_imp (pa_cons ha hr hs) fun σ H Q ⟨env, h, Qd, Ed, tk, re, rp, hw, hq, hx⟩ => ⟨env, h, _, Ed, tk, re, rp, hw, fun d h1 v H1 w1 t1 rv rp1 => ⟨env, h1, _, Ed, tk.trans t1, re.mono t1, rp1, w1, fun ds h2 vs H2 w2 t2 rs rp2 =>
    hq _ h2 _ H2 w2 (t1.trans t2) (.cons (rv.mono t2) rs) rp2, hx⟩, hx⟩
@[reducible] def wTup (w : WA) : WE := fun env h Q E => w env h (fun ds h1 => ds.length ≤ sizeLine ∧ Q (.tup ds) h1) E
@[reducible] def wLst (w : WA) : WE := fun env h Q E => w env h (fun ds h1 => ds.length ≤ sizeLine ∧ ∀ p, h1 p = none → Q (.ref p) (dup h1 p (.lst ds))) E
theorem RV.new {K : PySem.W.Frag} {H : Hp} {p : Addr} {ds : List D} {vs : List V} (n : H p = none) (r : RVs K H ds vs) : RV K (upd H p (.tup vs)) (.tup ds) (.ref p) := .tup (.of upd_same) (r.mono (.new n))
theorem RO.newL {K : PySem.W.Frag} {H : Hp} {p : Addr} {ds : List D} {vs : List V} (n : H p = none) (r : RVs K H ds vs) : RO K (upd H p (.lst vs)) p (.lst ds) := ⟨vs, upd_same, r.mono (.new n)⟩
theorem de_tup {x1} (h : DA X C es w) : DE X C (.Tuple es x1 pos) (wTup w) :=
  pe_imp (pe_tup h) fun σ H Q ⟨env, h, Qd, Ed, tk, re, rp, hw, hq, hx⟩ => ⟨env, h, _, Ed, tk, re, rp, hw, fun ds h1 vs H1 w1 t1 rs rp1 => ⟨by rw [← rs.length]; exact w1.1, fun p hp =>
    hq _ h1 _ _ w1.2 (t1.trans (.new hp)) (.new hp rs) (rp1.more hp)⟩, hx⟩
theorem de_lst (h : DA X C es w) : DE X C (.List es pos) (wLst w) :=
  pe_imp (pe_lst h) fun σ H Q ⟨env, h, Qd, Ed, tk, re, rp, hw, hq, hx⟩ => ⟨env, h, _, Ed, tk, re, rp, hw, fun ds h1 vs H1 w1 t1 rs rp1 => ⟨by rw [← rs.length]; exact w1.1, fun p hp =>
    hq _ _ _ _ (w1.2 p (rp1.free hp)) (t1.trans (.new hp)) (.ref p) (rp1.new hp (.newL hp rs))⟩, hx⟩
end
/-! ### operators on values -/
@[reducible] def oI (P : Int → Int → Prop) (g : Int → Int → D) : O2 := fun x y h Q => match x, y with
  | .int i, .int j => P i j ∧ Q (g i j) h
  | _, _ => False
theorem opd_I {K : PySem.W.Frag} {P : Int → Int → Prop} {g : Int → Int → D} {gV : Int → Int → V} (hg : ∀ i j H, RV K H (g i j) (gV i j)) : OpD K (oI P g) (rI P gV) := fun x y h Qd vx vy H Q ho rx ry rp k => by
  unfold oI at ho
  split at ho
  · cases rx; cases ry
    exact ⟨_, _, rfl, rfl, ho.1, k _ _ _ _ ho.2 (.refl H) (hg _ _ _) rp⟩
  · exact ho.elim
def PT2 (_ _ : Int) : Prop := True
theorem opd_I0 {K : PySem.W.Frag} {g : Int → Int → D} {gV : Int → Int → V} (hg : ∀ i j H, RV K H (g i j) (gV i j)) : OpD K (oI PT2 g) (rI0 gV) := fun x y h Qd vx vy H Q ho rx ry rp k => by
  unfold oI at ho
  split at ho
  · cases rx; cases ry
    exact ⟨_, _, rfl, rfl, k _ _ _ _ ho.2 (.refl H) (hg _ _ _) rp⟩
  · exact ho.elim
/-- the factors' bits together -/
def PMul (i j : Int) : Prop := Builtin.Int.intBits i + Builtin.Int.intBits j ≤ 134217728
def PDiv (_ j : Int) : Prop := 0 < j ∧ j.natAbs.log2 < 9000
def PMod (_ j : Int) : Prop := 0 < j
def PPow (i j : Int) : Prop := 0 ≤ j ∧ (Builtin.Int.intBits i : Int) * j ≤ 2 ^ 27
theorem PMul.ok {i j : Int} (h : PMul i j) : IntMulOk i j := by
  unfold PMul at h
  unfold IntMulOk
  intro z
  rw [Bool.and_eq_true] at z
  have z2 := z.2
  unfold Builtin.Int.intTooBig at z2
  have z3 := of_decide_eq_true z2
  have e : bitsLine = 134217728 := by decide
  rw [e] at z3
  omega
abbrev oSub : O2 := oI PT2 fun i j => .int (i - j)
abbrev oDiv : O2 := oI PDiv fun i j => .int (i / j)
abbrev oMod : O2 := oI PMod fun i j => .int (i % j)
abbrev oPow : O2 := oI PPow fun i j => .int (i ^ j.toNat)
abbrev oLt : O2 := oI PT2 fun i j => .bl (decide (i < j))
abbrev oLe : O2 := oI PT2 fun i j => .bl (decide (i ≤ j))
abbrev oGt : O2 := oI PT2 fun i j => .bl (decide (j < i))
abbrev oGe : O2 := oI PT2 fun i j => .bl (decide (j ≤ i))
/-- + of ints, texts, tuples, lists -/
@[reducible] def oAdd : O2 := fun x y h Q => match x, y with
  | .int i, .int j => Q (.int (i + j)) h
  | .str a, .str b => a.length + b.length ≤ sizeLine ∧ Q (.str (a ++ b)) h
  | .tup xs, .tup ys => xs.length + ys.length ≤ sizeLine ∧ Q (.tup (xs ++ ys)) h
  | .ref a, .ref b => (match h a, h b with
    | some (.lst xs), some (.lst ys) => xs.length + ys.length ≤ sizeLine ∧ ∀ p, h p = none → Q (.ref p) (dup h p (.lst (xs ++ ys)))
    | _, _ => False)
  | _, _ => False
section
variable {X : Cx}
theorem str_len (x : List Nat) : (⟨x.toArray⟩ : Str).length = x.length := by
  show x.toArray.size = _
  exact List.size_toArray
theorem str_app (x y : List Nat) : (⟨x.toArray⟩ : Str) ++ ⟨y.toArray⟩ = ⟨(x ++ y).toArray⟩ := by
  show (⟨x.toArray ++ y.toArray⟩ : Str) = _
  simp
theorem Ok.append {x y : List Nat} (a : Ok x) (b : Ok y) : Ok (x ++ y) := fun c hc => (List.mem_append.mp hc).elim (a c) (b c)
theorem do_add : DOp X (binaryOp .Add) oAdd := by
  refine ⟨_, op_add.or (op_add_str.or (op_catA.or op_cat)), fun x y h Qd vx vy H Q ho rx ry rp k => ?_⟩
  unfold oAdd at ho
  split at ho
  · cases rx; cases ry
    exact .inl ⟨_, _, rfl, rfl, k _ _ _ _ ho (.refl H) (.int _) rp⟩
  · cases rx with
    | str _ ha => cases ry with
      | str _ hb =>
        refine .inr (.inl ⟨_, _, rfl, rfl, by rw [str_len, str_len]; exact ho.1, ?_⟩)
        rw [str_app]
        exact k _ _ _ _ ho.2 (.refl H) (.str _ (ha.append hb)) rp
  · cases rx with
    | tup sa ra => cases ry with
      | tup sb rb =>
        refine .inr (.inr (.inl ⟨_, _, _, _, rfl, rfl, sa, sb, by rw [← ra.length, ← rb.length]; exact ho.1, fun e => ?_, fun _ e => ?_, fun _ _ p hp => ?_⟩))
        · subst e
          cases ra
          exact k _ _ _ _ ho.2 (.refl H) (.tup sb rb) rp
        · subst e
          cases rb
          rw [List.append_nil] at ho
          exact k _ _ _ _ ho.2 (.refl H) (.tup sa ra) rp
        · exact k _ _ _ _ ho.2 (.new hp) (.tup (.of upd_same) ((ra.append rb).mono (.new hp))) (rp.more hp)
  · cases rx; cases ry
    split at ho
    · rename_i a b _ _ xs ys e1 e2
      obtain ⟨vs, q1, r1⟩ := rp a _ e1
      obtain ⟨ws, q2, r2⟩ := rp b _ e2
      refine .inr (.inr (.inr ⟨_, _, _, _, rfl, rfl, q1, q2, by rw [← r1.length, ← r2.length]; exact ho.1, fun p hp => ?_⟩))
      exact k _ _ _ _ (ho.2 p (rp.free hp)) (.new hp) (.ref p) (rp.new hp ⟨_, upd_same, (r1.append r2).mono (.new hp)⟩)
    · exact ho.elim
  · exact ho.elim
theorem do_sub : DOp X (binaryOp .Sub) oSub := ⟨_, op_sub, opd_I0 fun _ _ _ => .int _⟩
theorem do_div : DOp X (binaryOp .FloorDiv) oDiv := ⟨_, op_fdivW, opd_I fun _ _ _ => .int _⟩
theorem do_mod : DOp X (binaryOp .Mod) oMod := ⟨_, op_mod, opd_I fun _ _ _ => .int _⟩
theorem do_pow : DOp X (binaryOp .Pow) oPow := ⟨_, opI (C := PPow) (g := fun i j => i ^ j.toNat) fun _ _ _ _ _ _ _ hc q => pow_int hc.1 hc.2 q, opd_I fun _ _ _ => .int _⟩
theorem do_lt : DOp X (compareOp .Lt) oLt := ⟨_, op_lt, opd_I0 fun _ _ _ => .bl _⟩
theorem do_le : DOp X (compareOp .LtE) oLe := ⟨_, op_le, opd_I0 fun _ _ _ => .bl _⟩
theorem do_gt : DOp X (compareOp .Gt) oGt := ⟨_, op_gt, opd_I0 fun _ _ _ => .bl _⟩
theorem do_ge : DOp X (compareOp .GtE) oGe := ⟨_, op_ge, opd_I0 fun _ _ _ => .bl _⟩
end
end DD

namespace DD
open PySem PySem.Spec L2
open PyProof.Rows hiding St
/-! ### data that == compares -/
inductive PD where
  | non | bl (b : Bool) | int (i : Int) | str (x : List Nat) | lst (xs : List PD) | tup (xs : List PD)
mutual
def PD.py : PD → PyData
  | .non => .none
  | .bl b => .bool b
  | .int i => .int i
  | .str x => .str ⟨x.toArray⟩
  | .lst xs => .list (PD.pys xs)
  | .tup xs => .tuple (PD.pys xs)
def PD.pys : List PD → List PyData
  | [] => []
  | x :: xs => x.py :: PD.pys xs
end
mutual
def eqP : PD → PD → Bool
  | .non, .non => true
  | .bl a, .bl b => decide (a = b)
  | .bl a, .int j => decide ((if a then 1 else 0) = j)
  | .int i, .bl b => decide (i = (if b then 1 else 0))
  | .int i, .int j => decide (i = j)
  | .str x, .str y => decide (x = y)
  | .lst xs, .lst ys => eqPs xs ys
  | .tup xs, .tup ys => eqPs xs ys
  | _, _ => false
def eqPs : List PD → List PD → Bool
  | [], [] => true
  | x :: xs, y :: ys => eqP x y && eqPs xs ys
  | _, _ => false
end
mutual
theorem eqP_ok : ∀ x y : PD, PyData.eqv x.py y.py = eqP x y
  | .non, y => by cases y <;> simp [PD.py, PyData.eqv, eqP]
  | .bl a, y => by cases y <;> simp [PD.py, PyData.eqv, eqP] <;> rw [Bool.eq_iff_iff] <;> simp
  | .int i, y => by cases y <;> simp [PD.py, PyData.eqv, eqP] <;> rw [Bool.eq_iff_iff] <;> simp
  | .str x, y => by cases y <;> simp [PD.py, PyData.eqv, eqP] <;> rw [Bool.eq_iff_iff] <;> simp
  | .lst xs, .lst ys => by simp only [PD.py, PyData.eqv, eqP]; exact eqPs_ok xs ys
  | .lst xs, .non => by simp [PD.py, PyData.eqv, eqP]
  | .lst xs, .bl _ => by simp [PD.py, PyData.eqv, eqP]
  | .lst xs, .int _ => by simp [PD.py, PyData.eqv, eqP]
  | .lst xs, .str _ => by simp [PD.py, PyData.eqv, eqP]
  | .lst xs, .tup _ => by simp [PD.py, PyData.eqv, eqP]
  | .tup xs, .tup ys => by simp only [PD.py, PyData.eqv, eqP]; exact eqPs_ok xs ys
  | .tup xs, .non => by simp [PD.py, PyData.eqv, eqP]
  | .tup xs, .bl _ => by simp [PD.py, PyData.eqv, eqP]
  | .tup xs, .int _ => by simp [PD.py, PyData.eqv, eqP]
  | .tup xs, .str _ => by simp [PD.py, PyData.eqv, eqP]
  | .tup xs, .lst _ => by simp [PD.py, PyData.eqv, eqP]
theorem eqPs_ok : ∀ xs ys : List PD, PyData.eqvAll (PD.pys xs) (PD.pys ys) = eqPs xs ys
  | [], [] => by simp [PD.pys, PyData.eqvAll, eqPs]
  | [], _ :: _ => by simp [PD.pys, PyData.eqvAll, eqPs]
  | _ :: _, [] => by simp [PD.pys, PyData.eqvAll, eqPs]
  | x :: xs, y :: ys => by simp only [PD.pys, PyData.eqvAll, eqPs]; rw [eqP_ok x y, eqPs_ok xs ys]
end
mutual
def PD.depth : PD → Nat
  | .lst xs => PD.depths xs + 1
  | .tup xs => PD.depths xs + 1
  | _ => 0
def PD.depths : List PD → Nat
  | [] => 0
  | x :: xs => max x.depth (PD.depths xs)
end
mutual
theorem depth_ok : ∀ x : PD, x.py.depth = x.depth
  | .non => by simp [PD.py, PyData.depth, PD.depth]
  | .bl _ => by simp [PD.py, PyData.depth, PD.depth]
  | .int _ => by simp [PD.py, PyData.depth, PD.depth]
  | .str _ => by simp [PD.py, PyData.depth, PD.depth]
  | .lst xs => by simp only [PD.py, PyData.depth, PD.depth]; rw [depths_ok xs]
  | .tup xs => by simp only [PD.py, PyData.depth, PD.depth]; rw [depths_ok xs]
theorem depths_ok : ∀ xs : List PD, PyData.depthAll (PD.pys xs) = PD.depths xs
  | [] => by simp [PD.pys, PyData.depthAll, PD.depths]
  | x :: xs => by simp only [PD.pys, PyData.depthAll, PD.depths]; rw [depth_ok x, depths_ok xs]
end
mutual
/-- a value as data; f tells the lists -/
def pyW (f : Addr → Option PD) : D → Option PD
  | .non => some .non
  | .bl b => some (.bl b)
  | .int i => some (.int i)
  | .str x => some (.str x)
  | .ref a => f a
  | .ty _ => none
  | .fn _ => none
  | .tup xs => (match pyWs f xs with
    | some ds => some (.tup ds)
    | none => none)
  | .fls xs => (match pyWs f xs with
    | some ds => some (.lst ds)
    | none => none)
def pyWs (f : Addr → Option PD) : List D → Option (List PD)
  | [] => some []
  | x :: xs => match pyW f x, pyWs f xs with
    | some d, some ds => some (d :: ds)
    | _, _ => none
end
def pyN (h : DH) : Nat → Addr → Option PD
  | 0, _ => none
  | n + 1, a => match h a with
    | some (.lst xs) => (match pyWs (pyN h n) xs with
      | some ds => some (.lst ds)
      | none => none)
    | _ => none
abbrev py (h : DH) (d : D) : Option PD := pyW (pyN h 4) d
section
variable {K : PySem.W.Frag} {H : Hp} {h : DH}
abbrev PyOk (K : PySem.W.Frag) (H : Hp) (f : Addr → Option PD) : Prop := ∀ a d, f a = some d → Dp K H (.ref a) d.py ∧ d.py.canLay0 = true
mutual
theorem pyW_ok {f : Addr → Option PD} (hf : PyOk K H f) : ∀ (x : D) (v : V) (d : PD), RV K H x v → pyW f x = some d → Dp K H v d.py ∧ d.py.canLay0 = true
  | .non, _, _, r, e => by simp [pyW] at e; subst e; cases r; exact ⟨.non, rfl⟩
  | .bl b, _, _, r, e => by simp [pyW] at e; subst e; cases r; exact ⟨.bl b, rfl⟩
  | .int b, _, _, r, e => by simp [pyW] at e; subst e; cases r; exact ⟨.int b, rfl⟩
  | .str b, _, _, r, e => by
    simp [pyW] at e; subst e
    cases r with
    | str _ hb =>
      refine ⟨.str _, ?_⟩
      show (PyData.strOk ⟨b.toArray⟩) = true
      unfold PyData.strOk
      rw [List.all_toArray, List.all_eq_true]
      exact fun c hc => decide_eq_true (hb c hc)
  | .ref a, _, d, r, e => by
    simp only [pyW] at e
    cases r
    exact hf a d e
  | .ty _, _, _, r, e => by simp [pyW] at e
  | .fn _, _, _, r, e => by simp [pyW] at e
  | .tup xs, _, d, r, e => by
    simp only [pyW] at e
    split at e
    · rename_i ds e2
      cases e
      cases r with
      | tup sa ra =>
        obtain ⟨p, q⟩ := pyWs_ok hf xs _ ds ra e2
        exact ⟨.tup sa p, by simpa [PD.py, PyData.canLay0] using q⟩
    · cases e
  | .fls xs, _, d, r, e => by
    simp only [pyW] at e
    split at e
    · rename_i ds e2
      cases e
      cases r with
      | fls sa ra =>
        obtain ⟨p, q⟩ := pyWs_ok hf xs _ ds ra e2
        exact ⟨.lst sa.s p, by simpa [PD.py, PyData.canLay0] using q⟩
    · cases e
theorem pyWs_ok {f : Addr → Option PD} (hf : PyOk K H f) : ∀ (xs : List D) (vs : List V) (ds : List PD), RVs K H xs vs → pyWs f xs = some ds → DpAll K H vs (PD.pys ds) ∧ PyData.canLayAll0 (PD.pys ds) = true
  | [], _, _, r, e => by simp [pyWs] at e; subst e; cases r; exact ⟨.nil, rfl⟩
  | x :: xs, _, ds, r, e => by
    simp only [pyWs] at e
    split at e
    · rename_i d es e1 e2
      cases e
      cases r with
      | cons r1 r2 =>
        obtain ⟨p1, q1⟩ := pyW_ok hf x _ d r1 e1
        obtain ⟨p2, q2⟩ := pyWs_ok hf xs _ es r2 e2
        exact ⟨.cons p1 p2, by simp [PD.pys, PyData.canLayAll0, q1, q2]⟩
    · cases e
end
theorem pyN_ok (rp : Rep K h H) : ∀ n, PyOk K H (pyN h n)
  | 0 => fun a d e => by simp [pyN] at e
  | n + 1 => fun a d e => by
    simp only [pyN] at e
    split at e
    · rename_i xs q
      split at e
      · rename_i ds e2
        cases e
        obtain ⟨vs, q2, r⟩ := rp a _ q
        obtain ⟨p1, p2⟩ := pyWs_ok (pyN_ok rp n) xs vs ds r e2
        exact ⟨.lst (.of q2) p1, by simpa [PD.py, PyData.canLay0] using p2⟩
      · cases e
    · cases e
end
def oEq : O2 := fun x y h Q => match py h x, py h y with
  | some d, some e => (d.depth ≤ 64 ∧ e.depth ≤ 64) ∧ Q (.bl (eqP d e)) h
  | _, _ => False
def oNe : O2 := fun x y h Q => match py h x, py h y with
  | some d, some e => (d.depth ≤ 64 ∧ e.depth ≤ 64) ∧ Q (.bl (!eqP d e)) h
  | _, _ => False
section
variable {X : Cx}
theorem shaped_of {d : PD} (h1 : d.depth ≤ 64) (h2 : d.py.canLay0 = true) : SeqAt.shaped d.py = true := by
  unfold SeqAt.shaped
  rw [h2, depth_ok]
  simpa using h1
theorem do_eq (hu : X.A.units + 64 < cLine) : DOp X (compareOp .Eq) oEq := ⟨_, op_eqD hu, fun x y h Qd vx vy H Q ho rx ry rp k => by
  unfold oEq at ho
  split at ho
  · rename_i d e e1 e2
    obtain ⟨p1, q1⟩ := pyW_ok (pyN_ok rp 4) x vx d rx e1
    obtain ⟨p2, q2⟩ := pyW_ok (pyN_ok rp 4) y vy e ry e2
    refine ⟨d.py, e.py, p1, p2, shaped_of ho.1.1 q1, shaped_of ho.1.2 q2, ?_⟩
    rw [eqP_ok]
    exact k _ _ _ _ ho.2 (.refl H) (.bl _) rp
  · exact ho.elim⟩
theorem do_ne (hu : X.A.units + 64 < cLine) : DOp X (compareOp .NotEq) oNe := ⟨_, op_neD hu, fun x y h Qd vx vy H Q ho rx ry rp k => by
  unfold oNe at ho
  split at ho
  · rename_i d e e1 e2
    obtain ⟨p1, q1⟩ := pyW_ok (pyN_ok rp 4) x vx d rx e1
    obtain ⟨p2, q2⟩ := pyW_ok (pyN_ok rp 4) y vy e ry e2
    refine ⟨d.py, e.py, p1, p2, shaped_of ho.1.1 q1, shaped_of ho.1.2 q2, ?_⟩
    rw [eqP_ok]
    exact k _ _ _ _ ho.2 (.refl H) (.bl _) rp
  · exact ho.elim⟩
end
/-! ### * -/
@[reducible] def oMul : O2 := fun x y h Q => match x, y with
  | .int i, .int j => PMul i j ∧ Q (.int (i * j)) h
  | .str a, .int n => (-100000 ≤ n ∧ n ≤ 100000 ∧ a.length ≤ 100) ∧ Q (.str (List.replicate n.toNat a).flatten) h
  | .ref a, .int n => (match h a with
    | some (.lst xs) => (-100000 ≤ n ∧ n ≤ 100000 ∧ xs.length ≤ 100) ∧ ∀ p, h p = none → Q (.ref p) (dup h p (.lst (List.replicate n.toNat xs).flatten))
    | _ => False)
  | _, _ => False
theorem Ok.flat {a : List Nat} (h : Ok a) (n : Nat) : Ok (List.replicate n a).flatten := fun c hc => by
  obtain ⟨l, h1, h2⟩ := List.mem_flatten.mp hc
  rw [List.eq_of_mem_replicate h1] at h2
  exact h c h2
theorem RVs.flat {K : PySem.W.Frag} {H : Hp} {ds : List D} {vs : List V} (r : RVs K H ds vs) : ∀ n, RVs K H (List.replicate n ds).flatten (List.replicate n vs).flatten
  | 0 => .nil
  | n + 1 => by
    rw [List.replicate_succ, List.replicate_succ, List.flatten_cons, List.flatten_cons]
    exact r.append (r.flat n)
theorem foldl_app (a : List Nat) : ∀ (n : Nat) (z : Array Nat), (List.replicate n a.toArray).foldl (· ++ ·) z = z ++ ((List.replicate n a).flatten).toArray
  | 0, z => by simp
  | n + 1, z => by
    rw [List.replicate_succ, List.foldl_cons, foldl_app a n, List.replicate_succ, List.flatten_cons]
    simp
theorem txt_mul (a : List Nat) (n : Int) : Txt.mul ⟨a.toArray⟩ n = ⟨((List.replicate n.toNat a).flatten).toArray⟩ := by
  unfold Txt.mul
  split
  · rename_i h
    have e : n.toNat = 0 := by omega
    rw [e]
    rfl
  · split
    · rename_i h1 h2
      rw [Bool.or_eq_true, beq_iff_eq, beq_iff_eq, str_len] at h2
      rcases h2 with h2 | h2
      · subst h2
        simp
      · have e : a = [] := List.length_eq_zero_iff.mp h2
        subst e
        simp
    · show (⟨List.foldl (· ++ ·) #[] (List.replicate n.toNat a.toArray)⟩ : Str) = _
      rw [foldl_app]
      simp
section
variable {X : Cx}
theorem mulok {a : List Nat} {n : Int} (h : -100000 ≤ n ∧ n ≤ 100000 ∧ a.length ≤ 100) : MulOk ⟨a.toArray⟩ n := by
  obtain ⟨h1, h2, h3⟩ := h
  refine ⟨?_, fun h4 _ => ?_, fun h4 _ => ?_⟩
  · rw [decide_eq_false (by omega), decide_eq_false (by omega)]; rfl
  · rw [str_len]
    have : 92233720368547 ≤ ((2 : Int) ^ 63 - 1) / n := by
      rw [Int.le_ediv_iff_mul_le (by omega)]
      omega
    omega
  · rw [str_len]
    unfold Builtin.Str.tooLong
    have : a.length * n.toNat ≤ 100 * 100000 := Nat.mul_le_mul h3 (by omega)
    have e : sizeLine = 16777216 := by decide
    rw [e]
    simp
    omega
theorem op_mul_str : OpR X (binaryOp .Mult) (fun x y H Q => ∃ a n, x = .str a ∧ y = .int n ∧ MulOk a n ∧ Q (.str (Txt.mul a n)) H) := by
  intro pins s σ H x y v u Q I rx ry h
  obtain ⟨a, n, rfl, rfl, hm, q⟩ := h
  obtain ⟨t, rfl⟩ := rx
  obtain ⟨t', rfl⟩ := ry
  exact SB.mul hm fun t' k => ⟨.str _, H, I.tok _, ⟨_, rfl⟩, q⟩
theorem do_mul : DOp X (binaryOp .Mult) oMul := by
  refine ⟨_, (opI (C := PMul) (g := fun i j => i * j) fun _ _ _ _ _ _ _ hc q => mul_int q hc.ok).or (op_mul_str.or op_rep), fun x y h Qd vx vy H Q ho rx ry rp k => ?_⟩
  unfold oMul at ho
  split at ho
  · cases rx; cases ry
    exact .inl ⟨_, _, rfl, rfl, ho.1, k _ _ _ _ ho.2 (.refl H) (.int _) rp⟩
  · cases ry
    cases rx with
    | str _ ha =>
      refine .inr (.inl ⟨_, _, rfl, rfl, mulok ho.1, ?_⟩)
      rw [txt_mul]
      exact k _ _ _ _ ho.2 (.refl H) (.str _ (ha.flat _)) rp
  · cases rx; cases ry
    split at ho
    · rename_i a n _ xs e1
      obtain ⟨vs, q1, r1⟩ := rp a _ e1
      obtain ⟨⟨h1, h2, h3⟩, h4⟩ := ho
      refine .inr (.inr ⟨_, _, _, rfl, rfl, q1, by omega, by omega, ?_, fun p hp => ?_⟩)
      · rw [← r1.length]
        have : xs.length * n.toNat ≤ 100 * 100000 := Nat.mul_le_mul h3 (by omega)
        have e : sizeLine = 16777216 := by decide
        omega
      · exact k _ _ _ _ (h4 p (rp.free hp)) (.new hp) (.ref p) (rp.new hp ⟨_, upd_same, (r1.flat _).mono (.new hp)⟩)
    · exact ho.elim
  · exact ho.elim
end
end DD

namespace DD
open PySem PySem.Spec L2
open PyProof.Rows hiding St
/-! ### in, is -/
def flatD : D → Bool
  | .non => true
  | .bl _ => true
  | .int _ => true
  | .str _ => true
  | _ => false
def eqF : D → D → Bool
  | .non, .non => true
  | .bl a, .bl b => decide (a = b)
  | .bl a, .int b => decide ((if a then 1 else 0) = b)
  | .int a, .bl b => decide (a = (if b then 1 else 0))
  | .int a, .int b => decide (a = b)
  | .str a, .str b => decide (a = b)
  | _, _ => false
def inD (x : D) (xs : List D) : Bool := xs.any fun y => eqF y x
section
variable {K : PySem.W.Frag} {H : Hp} {h : DH}
theorem flat_of {d : D} {v : V} (r : RV K H d v) (f : flatD d = true) : flatV v = true := by
  cases r <;> first | rfl | cases f
theorem eqF_of {d e : D} {v u : V} (r : RV K H d v) (q : RV K H e u) : flatD d = true → flatD e = true → eqV v u = eqF d e := by
  intro f g
  cases r <;> first | (cases f; done) | (cases q <;> first | (cases g; done) | rfl | (simp only [eqV, eqF]; rw [Bool.eq_iff_iff]; simp))
theorem flats_of : ∀ {ds : List D} {vs : List V}, RVs K H ds vs → ds.all flatD = true → vs.all flatV = true
  | _, _, .nil, _ => rfl
  | _, _, .cons r t, f => by
    rw [List.all_cons, Bool.and_eq_true] at f
    rw [List.all_cons, flat_of r f.1, flats_of t f.2]
    rfl
theorem inD_of {x : D} {v : V} (r : RV K H x v) (f : flatD x = true) : ∀ {ds : List D} {vs : List V}, RVs K H ds vs → ds.all flatD = true → inV v vs = inD x ds
  | _, _, .nil, _ => rfl
  | _, _, .cons q t, g => by
    rw [List.all_cons, Bool.and_eq_true] at g
    have ih := inD_of r f t g.2
    unfold inV inD at ih ⊢
    rw [List.any_cons, List.any_cons, ih, eqF_of q r g.1 f]
end
def oInG (neg : Bool) : O2 := fun x y h Q => match y with
  | .tup ys => (flatD x = true ∧ ys.all flatD = true) ∧ Q (.bl (if neg then !inD x ys else inD x ys)) h
  | .str z => (match x with
    | .str [c] => Q (.bl (if neg then !decide (c ∈ z) else decide (c ∈ z))) h
    | _ => False)
  | .ref a => (match h a with
    | some (.lst ys) => (flatD x = true ∧ ys.all flatD = true) ∧ Q (.bl (if neg then !inD x ys else inD x ys)) h
    | _ => False)
  | .fls ys => (flatD x = true ∧ ys.all flatD = true) ∧ Q (.bl (if neg then !inD x ys else inD x ys)) h
  | _ => False
abbrev oIn : O2 := oInG false
abbrev oNi : O2 := oInG true
theorem opd_in {K : PySem.W.Frag} (neg : Bool) : OpD K (oInG neg) (fun x y H Q => (∃ (c : Nat) (z : Str), x = .str ⟨#[c]⟩ ∧ y = .str z ∧ Q (.bl (if neg then !decide (c ∈ z.cps.toList) else decide (c ∈ z.cps.toList))) H) ∨ rIn K neg x y H Q) := fun x y h Qd vx vy H Q ho rx ry rp k => by
  unfold oInG at ho
  split at ho
  · cases ry with
    | tup sy ry =>
      refine .inr ⟨_, _, rfl, .inr sy, flat_of rx ho.1.1, flats_of ry ho.1.2, ?_⟩
      rw [inD_of rx ho.1.1 ry ho.1.2]
      exact k _ _ _ _ ho.2 (.refl H) (.bl _) rp
  · split at ho
    · cases rx with
      | str _ _ => cases ry with
        | str _ _ => exact .inl ⟨_, _, rfl, rfl, k _ _ _ _ ho (.refl H) (.bl _) rp⟩
    · exact ho.elim
  · cases ry
    split at ho
    · rename_i ys e
      obtain ⟨vs, q, r⟩ := rp _ _ e
      refine .inr ⟨_, _, rfl, .inl (.of q), flat_of rx ho.1.1, flats_of r ho.1.2, ?_⟩
      rw [inD_of rx ho.1.1 r ho.1.2]
      exact k _ _ _ _ ho.2 (.refl H) (.bl _) rp
    · exact ho.elim
  · cases ry with
    | fls sy ry =>
      refine .inr ⟨_, _, rfl, .inl sy.s, flat_of rx ho.1.1, flats_of ry ho.1.2, ?_⟩
      rw [inD_of rx ho.1.1 ry ho.1.2]
      exact k _ _ _ _ ho.2 (.refl H) (.bl _) rp
  · exact ho.elim
def isNon : D → Bool
  | .non => true
  | _ => false
def oIs : O2 := fun x y h Q => match y with
  | .non => Q (.bl (isNon x)) h
  | .bl b => (match x with
    | .bl a => Q (.bl (decide (a = b))) h
    | _ => False)
  | _ => False
def oNis : O2 := fun x y h Q => match y with
  | .non => Q (.bl (!isNon x)) h
  | .bl b => (match x with
    | .bl a => Q (.bl (!decide (a = b))) h
    | _ => False)
  | _ => False
section
variable {X : Cx}
theorem do_in : DOp X (compareOp .In) oIn := ⟨_, op_in_sign.or op_in_seq, opd_in false⟩
theorem do_ni : DOp X (compareOp .NotIn) oNi := ⟨_, op_notIn_sign.or op_notIn_seq, opd_in true⟩
theorem isN_of {K : PySem.W.Frag} {H : Hp} {x : D} {v : V} (r : RV K H x v) : decide (v = .non) = isNon x := by
  cases r <;> simp [isNon]
theorem do_is : DOp X (compareOp .Is) oIs := ⟨_, op_isN.or op_isBl, fun x y h Qd vx vy H Q ho rx ry rp k => by
  unfold oIs at ho
  split at ho
  · cases ry
    refine .inl ⟨rfl, ?_⟩
    rw [isN_of rx]
    exact k _ _ _ _ ho (.refl H) (.bl _) rp
  · split at ho
    · cases rx; cases ry
      exact .inr ⟨_, _, rfl, rfl, k _ _ _ _ ho (.refl H) (.bl _) rp⟩
    · exact ho.elim
  · exact ho.elim⟩
theorem do_nis : DOp X (compareOp .IsNot) oNis := ⟨_, op_notN.or op_notBl, fun x y h Qd vx vy H Q ho rx ry rp k => by
  unfold oNis at ho
  split at ho
  · cases ry
    refine .inl ⟨rfl, ?_⟩
    rw [isN_of rx]
    exact k _ _ _ _ ho (.refl H) (.bl _) rp
  · split at ho
    · cases rx; cases ry
      exact .inr ⟨_, _, rfl, rfl, k _ _ _ _ ho (.refl H) (.bl _) rp⟩
    · exact ho.elim
  · exact ho.elim⟩
end
/-! ### unary minus -/
@[reducible] def wNeg (wa : WE) : WE := fun env h Q E => wa env h (fun d h1 => match d with
  | .int i => Q (.int (-i)) h1
  | _ => False) E
section
variable {X : Cx} {C : Ct} {pos : Pos} {a b : Expr} {wa wb : WE}
theorem de_neg (ha : DE X C a wa) : DE X C (.UnaryOp .USub a pos) (wNeg wa) :=
  pe_imp (pe_un un_neg ha) fun σ H Q ⟨env, h, Qd, Ed, tk, re, rp, hw, hq, hx⟩ => ⟨env, h, _, Ed, tk, re, rp, hw, fun d h1 v H1 w1 t1 rv rp1 => by
    split at w1
    · cases rv
      exact ⟨_, rfl, hq _ h1 _ H1 w1 t1 (.int _) rp1⟩
    · exact w1.elim, hx⟩
/-! ### subscripts, slices -/
def oIx : O2 := fun x y h Q => match x, y with
  | .tup xs, .int i => (match atI xs i with
    | some d => Q d h
    | none => False)
  | .str s, .int i => s.length ≤ sizeLine ∧ (match atI s i with
    | some c => Q (.str [c]) h
    | none => False)
  | .ref a, .int i => (match h a with
    | some (.lst xs) => (match atI xs i with
      | some d => Q d h
      | none => False)
    | _ => False)
  | .fls xs, .int i => (match atI xs i with
    | some d => Q d h
    | none => False)
  | _, _ => False
theorem atI_R {K : PySem.W.Frag} {H : Hp} {ds : List D} {vs : List V} {i : Int} {d : D} (r : RVs K H ds vs) (e : atI ds i = some d) : ∃ v, atI vs i = some v ∧ RV K H d v := by
  unfold atI at e ⊢
  rw [← r.length]
  cases q : ixN ds.length i with
  | none => rw [q] at e; cases e
  | some j =>
    rw [q] at e
    exact r.get (i := j) e
theorem atI_mem {α : Type} {xs : List α} {i : Int} {x : α} (e : atI xs i = some x) : x ∈ xs := by
  unfold atI at e
  cases q : ixN xs.length i with
  | none => rw [q] at e; cases e
  | some j =>
    rw [q] at e
    exact List.mem_of_getElem? e
theorem opd_ix {K : PySem.W.Frag} : OpD K oIx (rIx K) := fun x y h Qd vx vy H Q ho rx ry rp k => by
  unfold oIx at ho
  split at ho
  · cases ry
    cases rx with
    | tup sx rx =>
      split at ho
      · rename_i d e
        obtain ⟨v, e2, r⟩ := atI_R rx e
        exact .inr (.inl ⟨_, _, _, v, rfl, rfl, sx, e2, k _ _ _ _ ho (.refl H) r rp⟩)
      · exact ho.elim
  · cases ry
    cases rx with
    | str s hs =>
      obtain ⟨hz, ho⟩ := ho
      split at ho
      · rename_i c e
        refine .inr (.inr ⟨_, _, c, rfl, rfl, by rw [str_len]; exact hz, by simpa using e, ?_⟩)
        exact k _ _ _ _ ho (.refl H) (.str [c] fun z hz => by rw [List.mem_singleton] at hz; subst hz; exact hs _ (atI_mem e)) rp
      · exact ho.elim
  · cases ry; cases rx
    split at ho
    · rename_i ys e
      obtain ⟨vs, q, r⟩ := rp _ _ e
      split at ho
      · rename_i d e
        obtain ⟨v, e2, r⟩ := atI_R r e
        exact .inl ⟨_, _, _, v, rfl, rfl, .of q, e2, k _ _ _ _ ho (.refl H) r rp⟩
      · exact ho.elim
    · exact ho.elim
  · cases ry
    cases rx with
    | fls sx rx =>
      split at ho
      · rename_i d e
        obtain ⟨v, e2, r⟩ := atI_R rx e
        exact .inl ⟨_, _, _, v, rfl, rfl, sx.s, e2, k _ _ _ _ ho (.refl H) r rp⟩
      · exact ho.elim
  · exact ho.elim
theorem de_ix (ha : DE X C a wa) (hb : DE X C b wb) (hs : PlainIx b := by exact fun _ _ => rfl) : DE X C (.Subscript a b pos) (wBin oIx wa wb) := pe_imp (pe_ix ix_seq ha hb hs) fun _ _ _ => rd_bin opd_ix
/-- the part of a sequence -/
def cutL {α : Type} (xs : List α) (lo hi : Option Int) : List α := (xs.drop (HT.sIx xs.length 0 lo)).take (HT.sIx xs.length xs.length hi - HT.sIx xs.length 0 lo)
abbrev WO := Env → DH → (Option Int → DH → Prop) → DXK → Prop
@[reducible] def wNo : WO := fun _ h Q _ => Q none h
@[reducible] def wPart (w : WE) : WO := fun env h Q E => w env h (fun d h1 => match d with
  | .int i => Q (some i) h1
  | _ => False) E
def RdO (K : PySem.W.Frag) (C : Ct) (w : WO) : TO := fun σ H Q => ∃ (env : Env) (h : DH) (Qd : Option Int → DH → Prop) (Ed : DXK), TK C.Hb H ∧ RepE K H env σ ∧ Rep K h H ∧ w env h Qd Ed ∧
  (∀ b h' H', Qd b h' → TK H H' → Rep K h' H' → Q b H') ∧ ∀ x h', Ed x h' → C.Wd x env h'
abbrev DPo (X : Cx) (C : Ct) (e : Option Expr) (w : WO) : Prop := PO X e (RdO X.K C w)
theorem dpo_none : DPo X C none wNo := ⟨fun pins s σ H Q I ⟨env, h, Qd, Ed, tk, re, rp, hw, hq, hx⟩ => po_none.run pins s σ H Q I (hq none h H hw (.refl H) rp)⟩
theorem dpo_some (ha : DE X C a wa) : DPo X C (some a) (wPart wa) := ⟨fun pins s σ H Q I ⟨env, h, Qd, Ed, tk, re, rp, hw, hq, hx⟩ => (po_some ha).run pins s σ H Q I ⟨env, h, _, Ed, tk, re, rp, hw, fun d h1 v H1 w1 t1 rv rp1 => by
    split at w1
    · cases rv
      exact ⟨_, rfl, hq _ h1 H1 w1 t1 rp1⟩
    · exact w1.elim, hx⟩⟩
def oSl (x : D) (lo hi : Option Int) (h : DH) (Q : DK) : Prop := match x with
  | .str s => s.length ≤ sizeLine ∧ Q (.str (cutL s lo hi)) h
  | .tup xs => Q (.tup (cutL xs lo hi)) h
  | .ref a => (match h a with
    | some (.lst xs) => ∀ p, h p = none → Q (.ref p) (dup h p (.lst (cutL xs lo hi)))
    | _ => False)
  | .fls xs => ∀ p, h p = none → Q (.ref p) (dup h p (.lst (cutL xs lo hi)))
  | _ => False
@[reducible] def wSl (we : WE) (wl wh : WO) : WE := fun env h Q E => we env h (fun x h1 => wl env h1 (fun l h2 => wh env h2 (fun u h3 => oSl x l u h3 Q) E) E) E
theorem RVs.cut {K : PySem.W.Frag} {H : Hp} {ds : List D} {vs : List V} (r : RVs K H ds vs) (lo hi : Option Int) : RVs K H (cutL ds lo hi) (cutV vs lo hi) := by
  unfold cutL cutV
  rw [r.length]
  exact (r.drop _).take _
theorem cutS_L (s : List Nat) (lo hi : Option Int) : cutS ⟨s.toArray⟩ lo hi = ⟨(cutL s lo hi).toArray⟩ := by
  unfold cutS cutL
  rw [str_len]
theorem Ok.cut {s : List Nat} (h : Ok s) (lo hi : Option Int) : Ok (cutL s lo hi) := fun c hc => h c (List.mem_of_mem_drop (List.mem_of_mem_take hc))
theorem cutL_whole {α : Type} {xs : List α} {lo hi : Option Int} (e : HT.sIx xs.length 0 lo = 0 ∧ HT.sIx xs.length xs.length hi = xs.length) : cutL xs lo hi = xs := by
  unfold cutL
  rw [e.1, e.2, List.drop_zero, Nat.sub_zero, List.take_length]
theorem de_slice {lo hi : Option Expr} {wl wh : WO} {p2 : Pos} (ha : DE X C a wa) (hl : DPo X C lo wl) (hh : DPo X C hi wh) : DE X C (.Subscript a (.Slice lo hi none p2) pos) (wSl wa wl wh) :=
  pe_imp (pe_slice (sl_str.or (sl_tupA.or sl_list)) ha hl hh) fun σ H Q ⟨env, h, Qd, Ed, tk, re, rp, hw, hq, hx⟩ => ⟨env, h, _, Ed, tk, re, rp, hw, fun x h1 vx H1 w1 t1 rx rp1 => ⟨env, h1, _, Ed, tk.trans t1, re.mono t1, rp1, w1, fun l h2 H2 w2 t2 rp2 =>
    ⟨env, h2, _, Ed, (tk.trans t1).trans t2, (re.mono t1).mono t2, rp2, w2, fun u h3 H3 w3 t3 rp3 => by
      have tt := (t1.trans t2).trans t3
      have rx3 := rx.mono (t2.trans t3)
      unfold oSl at w3
      split at w3
      · cases rx3 with
        | str s hs =>
          refine .inl ⟨_, rfl, by rw [str_len]; exact w3.1, ?_⟩
          rw [cutS_L]
          exact hq _ _ _ _ w3.2 tt (.str _ (hs.cut _ _)) rp3
      · cases rx3 with
        | tup sx rr =>
          refine .inr (.inl ⟨_, _, rfl, sx, fun e => ?_, fun _ p hp => ?_⟩)
          · rw [← rr.length] at e
            rw [cutL_whole e] at w3
            exact hq _ _ _ _ w3 tt (.tup sx rr) rp3
          · exact hq _ _ _ _ w3 (tt.trans (.new hp)) (.tup (.of upd_same) ((rr.cut _ _).mono (.new hp))) (rp3.more hp)
      · cases rx3
        split at w3
        · rename_i ys e
          obtain ⟨vs, q, r⟩ := rp3 _ _ e
          exact .inr (.inr ⟨_, _, rfl, .of q, fun p hp => hq _ _ _ _ (w3 p (rp3.free hp)) (tt.trans (.new hp)) (.ref p) (rp3.new hp ⟨_, upd_same, (r.cut _ _).mono (.new hp)⟩)⟩)
        · exact w3.elim
      · cases rx3 with
        | fls sx r => exact .inr (.inr ⟨_, _, rfl, sx.s, fun p hp => hq _ _ _ _ (w3 p (rp3.free hp)) (tt.trans (.new hp)) (.ref p) (rp3.new hp ⟨_, upd_same, (r.cut _ _).mono (.new hp)⟩)⟩)
      · exact w3.elim, hx⟩, hx⟩, hx⟩
/-- xs[::-1] of a list -/
@[reducible] def wRev (wa : WE) : WE := fun env h Q E => wa env h (fun d h1 => match d with
  | .ref a => (match h1 a with
    | some (.lst xs) => ∀ p, h1 p = none → Q (.ref p) (dup h1 p (.lst xs.reverse))
    | _ => False)
  | _ => False) E
theorem de_rev {k : Nat} {p1 p2 p3 : Pos} (ha : DE X C a wa) : DE X C (.Subscript a (.Slice none none (some (.UnaryOp .USub (.Constant (.int 1) k p1) p2)) p3) pos) (wRev wa) :=
  pe_imp (pe_revL ha) fun σ H Q ⟨env, h, Qd, Ed, tk, re, rp, hw, hq, hx⟩ => ⟨env, h, _, Ed, tk, re, rp, hw, fun d h1 v H1 w1 t1 rv rp1 => by
    split at w1
    · cases rv
      split at w1
      · rename_i xs e
        obtain ⟨vs, q, r⟩ := rp1 _ _ e
        exact ⟨_, _, rfl, .of q, fun p hp => hq _ _ _ _ (w1 p (rp1.free hp)) (t1.trans (.new hp)) (.ref p) (rp1.new hp ⟨_, upd_same, r.reverse.mono (.new hp)⟩)⟩
      · exact w1.elim
    · exact w1.elim, hx⟩
end
end DD

namespace DD
open PySem PySem.Spec L2
open PyProof.Rows hiding St
/-! ### calls of what is built in -/
abbrev OC := List D → DH → DK → Prop
def DCl (X : Cx) (f : Value) (o : OC) : Prop := ∃ r, CallR X f r ∧ ∀ ds h Qd vs H (Q : VK), o ds h Qd → RVs X.K H ds vs → Rep X.K h H → (∀ d h' v H', Qd d h' → TK H H' → RV X.K H' d v → Rep X.K h' H' → Q v H') → r vs H Q
@[reducible] def wCB (o : OC) (wa : WA) : WE := fun env h Q E => wa env h (fun ds h1 => o ds h1 Q) E
section
variable {X : Cx} {C : Ct} {x : Str} {p pos : Pos} {e : Expr} {es : List Expr} {wa : WA} {o : OC} {id T : String}
theorem rd_cb {K : PySem.W.Frag} {r : List V → Hp → VK → Prop} (hd : ∀ ds h Qd vs H (Q : VK), o ds h Qd → RVs K H ds vs → Rep K h H → (∀ d h' v H', Qd d h' → TK H H' → RV K H' d v → Rep K h' H' → Q v H') → r vs H Q)
    {σ : L2.St} {H : Hp} {Q : VK} : RdE K C (wCB o wa) σ H Q → tCB r (RdA K C wa) σ H Q := fun ⟨env, h, Qd, Ed, tk, re, rp, hw, hq, hx⟩ => ⟨env, h, _, Ed, tk, re, rp, hw, fun ds h1 vs H1 w1 t1 rs rp1 =>
    hd _ _ _ _ _ _ w1 rs rp1 fun d h' v H' q t r p => hq d h' v H' q (t1.trans t) r p, hx⟩
theorem de_callB (h : DCl X (.builtin id) o) (hg : Gl X x) (hm : X.mg x = none) (hv : bootBuiltins x = some (.builtin id)) (ha : DA X C (e :: es) wa) (hn : x ≠ "__name__" := by decide) (hdb : (x == ("__debug__" : Str)) = false := by decide)
    (he : starEach (e :: es) X.env = (false, eval e X.env) :: starEach es X.env := by rfl) (hpl : (backTo pos (starEach es X.env)).any (·.1) = false := by rfl) : DE X C (.Call (.Name x p) (e :: es) [] pos) (wCB o wa) := by
  obtain ⟨r, hr, hd⟩ := h
  exact pe_imp (pe_callB hr hg hm hv ha hn hdb he hpl) fun _ _ _ => rd_cb hd
theorem de_callTy (h : DCl X (.type T) o) (hg : Gl X x) (hm : X.mg x = none) (hv : bootBuiltins x = some (.type T)) (ha : DA X C (e :: es) wa) (hn : x ≠ "__name__" := by decide) (hdb : (x == ("__debug__" : Str)) = false := by decide)
    (he : starEach (e :: es) X.env = (false, eval e X.env) :: starEach es X.env := by rfl) (hpl : (backTo pos (starEach es X.env)).any (·.1) = false := by rfl) : DE X C (.Call (.Name x p) (e :: es) [] pos) (wCB o wa) := by
  obtain ⟨r, hr, hd⟩ := h
  exact pe_imp (pe_callTy hr hg hm hv ha hn hdb he hpl) fun _ _ _ => rd_cb hd
end
@[reducible] def oLen : OC := fun ds h Q => match ds with
  | [.str s] => s.length ≤ sizeLine ∧ Q (.int s.length) h
  | [.tup xs] => Q (.int xs.length) h
  | [.fls xs] => Q (.int xs.length) h
  | [.ref a] => (match h a with
    | some (.lst xs) => Q (.int xs.length) h
    | some (.dic kvs) => Q (.int kvs.length) h
    | _ => False)
  | _ => False
@[reducible] def oAbs : OC := fun ds h Q => match ds with
  | [.int i] => Q (.int (i.natAbs : Nat)) h
  | _ => False
@[reducible] def oMax : OC := fun ds h Q => match ds with
  | [.int i, .int j] => Q (.int (max i j)) h
  | [.int i, .int j, .int k] => Q (.int (max (max i j) k)) h
  | _ => False
@[reducible] def oMin : OC := fun ds h Q => match ds with
  | [.int i, .int j] => Q (.int (min i j)) h
  | _ => False
@[reducible] def oInt : OC := fun ds h Q => match ds with
  | [.int i] => Q (.int i) h
  | [.bl b] => Q (.int (if b = true then 1 else 0)) h
  | [.str x] => ∃ n, PySem.intText? ⟨x.toArray⟩ = some n ∧ x.length ≤ 640 ∧ Q (.int n) h
  | _ => False
@[reducible] def oStr : OC := fun ds h Q => match ds with
  | [.int i] => i.natAbs.log2 < 1920 ∧ Q (.str (S (toString i))) h
  | _ => False
@[reducible] def oDivmod : OC := fun ds h Q => match ds with
  | [.int i, .int j] => PDiv i j ∧ Q (.tup [.int (i / j), .int (i % j)]) h
  | _ => False
def bls : List D → Option (List Bool)
  | [] => some []
  | .bl b :: r => (match bls r with
    | some bs => some (b :: bs)
    | none => none)
  | _ => none
def oAll : OC := fun ds h Q => match ds with
  | [.ref a] => (match h a with
    | some (.lst xs) => (match bls xs with
      | some bs => Q (.bl (bs.all (fun b => b))) h
      | none => False)
    | _ => False)
  | _ => False
def oAny : OC := fun ds h Q => match ds with
  | [.ref a] => (match h a with
    | some (.lst xs) => (match bls xs with
      | some bs => Q (.bl (bs.any (fun b => b))) h
      | none => False)
    | _ => False)
  | _ => False
@[reducible] def oList : OC := fun ds h Q => match ds with
  | [.ref a] => (match h a with
    | some (.lst xs) => ∀ p, h p = none → Q (.ref p) (dup h p (.lst xs))
    | _ => False)
  | [.fls xs] => ∀ p, h p = none → Q (.ref p) (dup h p (.lst xs))
  | [.tup xs] => ∀ p, h p = none → Q (.ref p) (dup h p (.lst xs))
  | [.str s] => s.length ≤ sizeLine ∧ ∀ p, h p = none → Q (.ref p) (dup h p (.lst (s.map fun c => .str [c])))
  | _ => False
theorem vals_signs : ∀ {l : List Nat} {us : List Value}, us.length = l.length → (∀ (j : Nat) v, us[j]? = some v → ∃ c u, l[j]? = some c ∧ v = .str ⟨#[c]⟩ u) → Vals (l.map fun c => V.str ⟨#[c]⟩) us
  | [], [], _, _ => .nil
  | c :: l, u :: us, hl, h => by
    obtain ⟨c', t, e, rfl⟩ := h 0 u rfl
    cases e
    exact .cons ⟨t, rfl⟩ (vals_signs (Nat.succ.inj hl) fun j v e => h (j + 1) v (by simpa using e))
  | [], _ :: _, hl, _ => by simp at hl
  | _ :: _, [], hl, _ => by simp at hl
theorem call_list_txt {X : Cx} (hc : X.calm = true) : CallR X (.type "list") (fun xs H Q => ∃ l : List Nat, xs = [.str ⟨l.toArray⟩] ∧ l.length ≤ sizeLine ∧ ∀ p, H p = none → Q (.ref p) (upd H p (.lst (l.map fun c => V.str ⟨#[c]⟩)))) := by
  intro pins s σ H xs us Q I r h
  obtain ⟨l, rfl, hl, q⟩ := h
  obtain ⟨u, rfl, t, rfl⟩ := vals1 r
  refine call_list_str (I.ok.hd hc) _ t (hn := by simpa using hl) fun h' tk acc c' hk hS hacc => ?_
  have hlen : acc.toList.length = l.length := by
    have := hacc.1
    simpa using this
  refine ⟨.ref s.heap.objs.size, _, I.laid (t' := tk) hk (Nat.le_refl _) (show ObjOk X.prog X.w _ h' _ (.lst _) from ⟨by rw [List.length_map]; exact hl, acc.toList, c', vals_signs hlen (fun j v e => ?_), by simpa using hS⟩), rfl, q _ (I.hok.fresh (Nat.le_refl _))⟩
  obtain ⟨c, u, hc, rfl⟩ := hacc.2 j v (by simpa using e)
  exact ⟨c, u, by simpa using hc, rfl⟩
theorem rvs_signs {K : PySem.W.Frag} {H : Hp} : ∀ {l : List Nat}, Ok l → RVs K H (l.map fun c => D.str [c]) (l.map fun c => V.str ⟨#[c]⟩)
  | [], _ => .nil
  | c :: l, h => .cons (.str [c] fun z hz => by rw [List.mem_singleton] at hz; subst hz; exact h _ (List.mem_cons_self ..)) (rvs_signs fun z hz => h z (List.mem_cons_of_mem _ hz))
@[reducible] def oTuple : OC := fun ds h Q => match ds with
  | [.ref a] => (match h a with
    | some (.lst xs) => Q (.tup xs) h
    | _ => False)
  | [.fls xs] => Q (.tup xs) h
  | [.tup xs] => Q (.tup xs) h
  | _ => False
/-- a value's built-in type -/
def tyD (h : DH) : D → Option String
  | .non => some "NoneType"
  | .bl _ => some "bool"
  | .int _ => some "int"
  | .str _ => some "str"
  | .tup _ => some "tuple"
  | .ref a => (match h a with
    | some (.lst _) => some "list"
    | some (.dic _) => some "dict"
    | some (.dit _) => some "dict"
    | _ => none)
  | .ty _ => none
  | .fn _ => none
  | .fls _ => some "list"
inductive TN where
  | int | bool | str | tuple | list
def TN.s : TN → String
  | .int => "int" | .bool => "bool" | .str => "str" | .tuple => "tuple" | .list => "list"
def isTy (t : String) : TN → Bool
  | .int => t == "int" || t == "bool"
  | .bool => t == "bool"
  | .str => t == "str"
  | .tuple => t == "tuple"
  | .list => t == "list"
theorem kit_all (n : TN) : ∀ t ∈ ["NoneType", "bool", "int", "str", "tuple", "list", "dict"], kitB t n.s = some (isTy t n) := by
  cases n <;> decide +kernel
/-- isinstance(x, n) -/
@[reducible] def wIsi (n : TN) (wa : WE) : WE := fun env h Q E => wa env h (fun d h1 => match tyD h1 d with
  | some t => Q (.bl (isTy t n)) h1
  | none => False) E
section
variable {X : Cx} {C : Ct}
theorem dc_len : DCl X (.builtin "len") oLen := ⟨_, call_len.or call_lenD, fun ds h Qd vs H Q ho rs rp k => by
  unfold oLen at ho
  split at ho
  · cases rs with
    | cons r t => cases t; cases r with
      | str s hs =>
        refine .inl ⟨_, _, rfl, ⟨by rw [str_len]; exact ho.1, (str_len _).symm⟩, k _ _ _ _ ho.2 (.refl H) (.int _) rp⟩
  · cases rs with
    | cons r t => cases t; cases r with
      | tup sx rx => exact .inl ⟨_, _, rfl, .inr ⟨_, sx, rx.length⟩, k _ _ _ _ ho (.refl H) (.int _) rp⟩
  · cases rs with
    | cons r t => cases t; cases r with
      | fls sx rx => exact .inl ⟨_, _, rfl, .inl ⟨_, sx.s, rx.length⟩, k _ _ _ _ ho (.refl H) (.int _) rp⟩
  · cases rs with
    | cons r t =>
      cases t; cases r
      split at ho
      · rename_i xs e
        obtain ⟨vs, q, r⟩ := rp _ _ e
        exact .inl ⟨_, _, rfl, .inl ⟨_, .of q, r.length⟩, k _ _ _ _ ho (.refl H) (.int _) rp⟩
      · rename_i xs e
        obtain ⟨ws, q, r⟩ := rp _ _ e
        have el : xs.length = ws.length := Paired.length r
        rw [el] at ho
        exact .inr ⟨_, _, rfl, q, k _ _ _ _ ho (.refl H) (.int _) rp⟩
      · exact ho.elim
  · exact ho.elim⟩
theorem dc_abs : DCl X (.builtin "abs") oAbs := ⟨_, call_abs, fun ds h Qd vs H Q ho rs rp k => by
  unfold oAbs at ho
  split at ho
  · rename_i i
    cases rs with
    | cons r t =>
      cases t; cases r
      have e : ((i.natAbs : Nat) : Int) = if i < 0 then -i else i := by split <;> omega
      rw [e] at ho
      exact ⟨_, rfl, k _ _ _ _ ho (.refl H) (.int _) rp⟩
  · exact ho.elim⟩
theorem dc_max (hc : X.calm = true) : DCl X (.builtin "max") oMax := ⟨_, (call_max2 hc).or (call_max3Nu hc), fun ds h Qd vs H Q ho rs rp k => by
  unfold oMax at ho
  split at ho
  · rename_i i j
    cases rs with
    | cons r t => cases t with
      | cons r2 t =>
        cases t; cases r; cases r2
        have e : max i j = if j > i then j else i := by split <;> omega
        rw [e] at ho
        exact .inl ⟨_, _, rfl, k _ _ _ _ ho (.refl H) (.int _) rp⟩
  · rename_i i j l
    cases rs with
    | cons r t => cases t with
      | cons r2 t => cases t with
        | cons r3 t =>
          cases t; cases r; cases r2; cases r3
          refine .inr ⟨_, _, _, _, rfl, ?_, k _ _ _ _ ho (.refl H) (.int _) rp⟩
          show (((nuMax2 (.int i) (.int j)).bind fun m => nuMax2 m (.int l)) : Option V) = some (.int (max (max i j) l))
          have e : ∀ a b : Int, nuMax2 (.int a) (.int b) = some (.int (max a b)) := fun a b => by
            show (some (decide (a < b))).map (fun c => if c = true then V.int b else V.int a) = _
            rw [Option.map_some]
            by_cases hab : a < b
            · rw [decide_eq_true hab, if_pos rfl, show max a b = b by omega]
            · rw [decide_eq_false hab, if_neg Bool.false_ne_true, show max a b = a by omega]
          rw [e, Option.bind_some, e]
  · exact ho.elim⟩
theorem dc_min (hc : X.calm = true) : DCl X (.builtin "min") oMin := ⟨_, call_min2 hc, fun ds h Qd vs H Q ho rs rp k => by
  unfold oMin at ho
  split at ho
  · rename_i i j
    cases rs with
    | cons r t => cases t with
      | cons r2 t =>
        cases t; cases r; cases r2
        have e : min i j = if j < i then j else i := by split <;> omega
        rw [e] at ho
        exact ⟨_, _, rfl, k _ _ _ _ ho (.refl H) (.int _) rp⟩
  · exact ho.elim⟩
theorem dc_int : DCl X (.type "int") oInt := ⟨_, call_int1.or call_int_str, fun ds h Qd vs H Q ho rs rp k => by
  unfold oInt at ho
  split at ho
  · cases rs with
    | cons r t => cases t; cases r; exact .inl (.inl ⟨_, rfl, k _ _ _ _ ho (.refl H) (.int _) rp⟩)
  · cases rs with
    | cons r t => cases t; cases r; exact .inl (.inr ⟨_, rfl, k _ _ _ _ ho (.refl H) (.int _) rp⟩)
  · cases rs with
    | cons r t => cases t; cases r with
      | str x hx =>
        obtain ⟨n, e, hl, q⟩ := ho
        exact .inr ⟨_, n, rfl, e, by rw [str_len]; exact hl, k _ _ _ _ q (.refl H) (.int _) rp⟩
  · exact ho.elim⟩
theorem dc_str : DCl X (.type "str") oStr := ⟨_, call_str_int, fun ds h Qd vs H Q ho rs rp k => by
  unfold oStr at ho
  split at ho
  · cases rs with
    | cons r t => cases t; cases r; exact ⟨_, rfl, ho.1, k _ _ _ _ ho.2 (.refl H) (.strS _) rp⟩
  · exact ho.elim⟩
theorem dc_divmod : DCl X (.builtin "divmod") oDivmod := ⟨_, call_divmodW, fun ds h Qd vs H Q ho rs rp k => by
  unfold oDivmod at ho
  split at ho
  · cases rs with
    | cons r t => cases t with
      | cons r2 t =>
        cases t; cases r; cases r2
        exact ⟨_, _, rfl, ⟨ho.1.1, PyProof.noPylong_of_log2 ho.1.2⟩, fun p hp => k _ _ _ _ ho.2 (.new hp) (.tup (.of upd_same) (.cons (.int _) (.cons (.int _) .nil))) (rp.more hp)⟩
  · exact ho.elim⟩
theorem bls_ok {K : PySem.W.Frag} {H : Hp} : ∀ {ds : List D} {vs : List V} {bs : List Bool}, RVs K H ds vs → bls ds = some bs → vs = bs.map V.bl
  | [], _, _, r, e => by cases r; simp [bls] at e; subst e; rfl
  | d :: ds, _, bs, r, e => by
    cases r with
    | cons r1 r2 =>
      cases r1 <;> simp only [bls] at e <;> first | (cases e; done) | skip
      split at e
      · rename_i cs e2
        cases e
        rw [bls_ok r2 e2]
        rfl
      · cases e
theorem dc_all (hc : X.calm = true) : DCl X (.builtin "all") oAll := ⟨_, cr_all hc, fun ds h Qd vs H Q ho rs rp k => by
  unfold oAll at ho
  split at ho
  · cases rs with
    | cons r t =>
      cases t; cases r
      split at ho
      · rename_i xs e
        obtain ⟨vs, q, r⟩ := rp _ _ e
        split at ho
        · rename_i bs e2
          have e3 := bls_ok r e2
          subst e3
          exact ⟨_, bs, rfl, .of q, k _ _ _ _ ho (.refl H) (.bl _) rp⟩
        · exact ho.elim
      · exact ho.elim
  · exact ho.elim⟩
theorem dc_any (hc : X.calm = true) : DCl X (.builtin "any") oAny := ⟨_, cr_any hc, fun ds h Qd vs H Q ho rs rp k => by
  unfold oAny at ho
  split at ho
  · cases rs with
    | cons r t =>
      cases t; cases r
      split at ho
      · rename_i xs e
        obtain ⟨vs, q, r⟩ := rp _ _ e
        split at ho
        · rename_i bs e2
          have e3 := bls_ok r e2
          subst e3
          exact ⟨_, bs, rfl, .of q, k _ _ _ _ ho (.refl H) (.bl _) rp⟩
        · exact ho.elim
      · exact ho.elim
  · exact ho.elim⟩
theorem dc_list (hc : X.calm = true) : DCl X (.type "list") oList := ⟨_, call_list_of.or (call_list_txt hc), fun ds h Qd vs H Q ho rs rp k => by
  unfold oList at ho
  split at ho
  · cases rs with
    | cons r t =>
      cases t; cases r
      split at ho
      · rename_i xs e
        obtain ⟨vs, q, r⟩ := rp _ _ e
        exact .inl ⟨_, _, rfl, .inl (.of q), fun p hp => k _ _ _ _ (ho p (rp.free hp)) (.new hp) (.ref p) (rp.new hp (.newL hp r))⟩
      · exact ho.elim
  · cases rs with
    | cons r t => cases t; cases r with
      | fls sx rx => exact .inl ⟨_, _, rfl, .inl sx.s, fun p hp => k _ _ _ _ (ho p (rp.free hp)) (.new hp) (.ref p) (rp.new hp (.newL hp rx))⟩
  · cases rs with
    | cons r t => cases t; cases r with
      | tup sx rx => exact .inl ⟨_, _, rfl, .inr sx, fun p hp => k _ _ _ _ (ho p (rp.free hp)) (.new hp) (.ref p) (rp.new hp (.newL hp rx))⟩
  · cases rs with
    | cons r t => cases t; cases r with
      | str _ hs => exact .inr ⟨_, rfl, ho.1, fun p hp => k _ _ _ _ (ho.2 p (rp.free hp)) (.new hp) (.ref p) (rp.new hp (.newL hp (rvs_signs hs)))⟩
  · exact ho.elim⟩
theorem dc_tuple : DCl X (.type "tuple") oTuple := ⟨_, call_tuple_of, fun ds h Qd vs H Q ho rs rp k => by
  unfold oTuple at ho
  split at ho
  · cases rs with
    | cons r t =>
      cases t; cases r
      split at ho
      · rename_i xs e
        obtain ⟨vs, q, r⟩ := rp _ _ e
        exact ⟨_, _, rfl, .inl ⟨.of q, fun p hp => k _ _ _ _ ho (.new hp) (.new hp r) (rp.more hp)⟩⟩
      · exact ho.elim
  · cases rs with
    | cons r t => cases t; cases r with
      | fls sx rx => exact ⟨_, _, rfl, .inl ⟨sx.s, fun p hp => k _ _ _ _ ho (.new hp) (.new hp rx) (rp.more hp)⟩⟩
  · cases rs with
    | cons r t => cases t; cases r with
      | tup sx rx => exact ⟨_, _, rfl, .inr ⟨sx, k _ _ _ _ ho (.refl H) (.tup sx rx) rp⟩⟩
  · exact ho.elim⟩
theorem tyX_of {K : PySem.W.Frag} {H : Hp} {h : DH} {d : D} {v : V} {t : String} (r : RV K H d v) (rp : Rep K h H) (e : tyD h d = some t) : TyX K H v (.type t) ∧ t ∈ ["NoneType", "bool", "int", "str", "tuple", "list", "dict"] := by
  cases r with
  | non => cases e; exact ⟨.base .non, by decide⟩
  | bl b => cases e; exact ⟨.base (.bl b), by decide⟩
  | int b => cases e; exact ⟨.base (.int b), by decide⟩
  | str b _ => cases e; exact ⟨.base (.str _), by decide⟩
  | ty n => cases e
  | fn n => cases e
  | tup sx rx =>
    cases e
    refine ⟨?_, by decide⟩
    rcases sx with (sx | ⟨o, sx⟩) | ⟨o, its, n, q, c, _⟩
    · exact .base (.tup sx)
    · exact .fTuple sx
    · exact .kTuple q c
  | fls sx rx =>
    cases e
    refine ⟨?_, by decide⟩
    rcases sx with ⟨o, sx⟩ | ⟨o, its, n, q, c, _⟩
    · exact .base (.frz sx)
    · exact .kList q c
  | ref a =>
    simp only [tyD] at e
    split at e
    · rename_i xs q
      cases e
      obtain ⟨vs, q, r⟩ := rp _ _ q
      exact ⟨.base (.lst q), by decide⟩
    · rename_i xs q
      cases e
      obtain ⟨vs, q, r⟩ := rp _ _ q
      exact ⟨.base (.dK q), by decide⟩
    · rename_i xs q
      cases e
      obtain ⟨vs, q, r⟩ := rp _ _ q
      exact ⟨.base (.dT q), by decide⟩
    · cases e
theorem de_isi {a : Expr} {wa : WE} {p q pos : Pos} {y : Str} (n : TN) (hg : Gl X "isinstance") (hm : X.mg "isinstance" = none) (hg2 : Gl X y) (hm2 : X.mg y = none) (hv2 : bootBuiltins y = some (.type n.s)) (ha : DE X C a wa)
    (hs : starEach [a, .Name y q] X.env = (false, eval a X.env) :: starEach [.Name y q] X.env := by rfl) (hn : y ≠ "__name__" := by decide) (hdb : (y == ("__debug__" : Str)) = false := by decide) :
    DE X C (.Call (.Name "isinstance" p) [a, .Name y q] [] pos) (wIsi n wa) :=
  pe_imp (pe_callB call_isi hg hm (by decide +kernel) (pa_cons ha (pa_cons (pe_bltn (v := .ty n.s) hg2 hm2 hv2 rfl hn hdb) pa_nil) hs) (he := hs) (hpl := by rfl)) fun σ H Q ⟨env, h, Qd, Ed, tk, re, rp, hw, hq, hx⟩ =>
    ⟨env, h, _, Ed, tk, re, rp, hw, fun d h1 v H1 w1 t1 rv rp1 => by
      split at w1
      · rename_i t e
        obtain ⟨ty, hm⟩ := tyX_of rv rp1 e
        exact ⟨_, _, _, _, _, rfl, .ty _, ty, kit_ty (kit_all n t hm), hq _ h1 _ H1 w1 t1 (.bl _) rp1⟩
      · exact w1.elim, hx⟩
end
/-! ### methods of what is built in -/
abbrev OM := D → List D → DH → DK → Prop
def tyq (T : String) (x : D) (h : DH) : Prop := match x with
  | .str _ => T = "str"
  | .ref a => (match h a with
    | some (.lst _) => T = "list"
    | some (.dic _) => T = "dict"
    | some (.dit _) => T = "dict"
    | _ => False)
  | .fls _ => T = "list"
  | _ => False
def DM (X : Cx) (id : String) (o : OM) : Prop := ∃ r, MtR X id r ∧ ∀ x ds h Qd vx vs H (Q : VK), o x ds h Qd → RV X.K H x vx → RVs X.K H ds vs → Rep X.K h H → (∀ d h' v H', Qd d h' → TK H H' → RV X.K H' d v → Rep X.K h' H' → Q v H') → r vx vs H Q
@[reducible] def wM (T : String) (o : OM) (wo : WE) (wa : WA) : WE := fun env h Q E => wo env h (fun x h1 => tyq T x h1 ∧ wa env h1 (fun ds h2 => o x ds h2 Q) E) E
@[reducible] def wM0 (T : String) (o : OM) (wo : WE) : WE := fun env h Q E => wo env h (fun x h1 => tyq T x h1 ∧ o x [] h1 Q) E
theorem tyV_of {K : PySem.W.Frag} {H : Hp} {h : DH} {d : D} {v : V} {T : String} (r : RV K H d v) (rp : Rep K h H) (e : tyq T d h) : tyV K T v H := by
  cases r with
  | str b _ => exact e
  | fls sx rx => exact .inl ⟨e, _, sx.s⟩
  | ref a =>
    simp only [tyq] at e
    split at e
    · rename_i xs q
      obtain ⟨vs, q, r⟩ := rp _ _ q
      exact .inl ⟨e, _, .of q⟩
    · rename_i xs q
      obtain ⟨vs, q, r⟩ := rp _ _ q
      exact .inr (.inr (.inl ⟨e, .inl ⟨_, q⟩⟩))
    · rename_i xs q
      obtain ⟨vs, q, r⟩ := rp _ _ q
      exact .inr (.inr (.inl ⟨e, .inr ⟨_, q⟩⟩))
    · exact e.elim
  | _ => exact e.elim
section
variable {X : Cx} {C : Ct} {o e : Expr} {es : List Expr} {wo : WE} {wa : WA} {name : Str} {apos cpos : Pos} {T id : String} {om : OM}
theorem de_m (pa : PlainAttrs T) (slot : Slot T name id) (hty : typeOf (.builtin id) = pure (.type "method_descriptor")) (hm : DM X id om) (ho : DE X C o wo) (ha : DA X C (e :: es) wa)
    (hbase : attributeBase o name X.env (eval o X.env) = eval o X.env := by rfl)
    (hfew : ((backTo cpos (starEach (e :: es) X.env)).all (fun x => !x.1) && (backToKw cpos (keywordEach [] X.env)).all (fun x => x.1.isSome)
      && decide ((e :: es).length + ([] : List Keyword).length + (if ([] : List Keyword).isEmpty then 0 else 1) < 30)) = true := by rfl)
    (hline : (apos.endLine == cpos.line) = true := by rfl) (hs : starEach (e :: es) X.env = (false, eval e X.env) :: starEach es X.env := by rfl) (hplain : (backTo cpos (starEach es X.env)).any (·.1) = false := by rfl) :
    DE X C (.Call (.Attribute o name apos) (e :: es) [] cpos) (wM T om wo wa) := by
  obtain ⟨r, hr, hd⟩ := hm
  exact pe_imp (pe_bm pa slot hty hr ho ha hbase hfew hline hs hplain) fun σ H Q ⟨env, h, Qd, Ed, tk, re, rp, hw, hq, hx⟩ => ⟨env, h, _, Ed, tk, re, rp, hw, fun x h1 vx H1 w1 t1 rx rp1 => ⟨tyV_of rx rp1 w1.1,
    env, h1, _, Ed, tk.trans t1, re.mono t1, rp1, w1.2, fun ds h2 vs H2 w2 t2 rs rp2 => hd _ _ _ _ _ _ _ _ w2 (rx.mono t2) rs rp2 fun d h' v H' q t r p => hq d h' v H' q ((t1.trans t2).trans t) r p, hx⟩, hx⟩
theorem de_m0 (pa : PlainAttrs T) (slot : Slot T name id) (hty : typeOf (.builtin id) = pure (.type "method_descriptor")) (hm : DM X id om) (ho : DE X C o wo)
    (hbase : attributeBase o name X.env (eval o X.env) = eval o X.env := by rfl) (hline : (apos.endLine == cpos.line) = true := by rfl) : DE X C (.Call (.Attribute o name apos) [] [] cpos) (wM0 T om wo) := by
  obtain ⟨r, hr, hd⟩ := hm
  exact pe_imp (pe_bm0 pa slot hty hr ho hbase hline) fun σ H Q ⟨env, h, Qd, Ed, tk, re, rp, hw, hq, hx⟩ => ⟨env, h, _, Ed, tk, re, rp, hw, fun x h1 vx H1 w1 t1 rx rp1 => ⟨tyV_of rx rp1 w1.1,
    hd _ _ _ _ _ _ _ _ w1.2 rx .nil rp1 fun d h' v H' q t r p => hq d h' v H' q (t1.trans t) r p⟩, hx⟩
end
def omAppend : OM := fun x ds h Q => match x, ds with
  | .ref a, [y] => (match h a with
    | some (.lst xs) => xs.length < sizeLine ∧ Q .non (dup h a (.lst (xs ++ [y])))
    | _ => False)
  | _, _ => False
section
variable {X : Cx}
theorem notT (vs : List V) : ∀ xs, HO.lst vs ≠ .tup xs := fun _ z => nomatch z
theorem notF (vs : List V) : ∀ x u, HO.lst vs ≠ .frz x u := fun _ _ z => nomatch z
theorem dm_append : DM X "list.append" omAppend := ⟨rAppend, mt_append, fun x ds h Qd vx vs H Q ho rx rs rp k => by
  unfold omAppend at ho
  split at ho
  · rename_i a y
    cases rx
    cases rs with
    | @cons _ _ w _ r t =>
      cases t
      split at ho
      · rename_i xs e
        obtain ⟨vs, q, r2⟩ := rp _ _ e
        refine ⟨_, _, _, rfl, rfl, q, by rw [← r2.length]; exact ho.1, ?_⟩
        have t := TK.mut (u := .lst (vs ++ [w])) q (notT vs) (notF vs)
        exact k _ _ _ _ ho.2 t .non (rp.mut q (notT vs) (notF vs) ⟨_, upd_same, (r2.append (.cons r .nil)).mono t⟩)
      · exact ho.elim
  · exact ho.elim⟩
end
end DD

namespace DD
open PySem PySem.Spec L2
open PyProof.Rows hiding St
/-! ### blocks, small statements -/
section
variable {X : Cx} {C : Ct} {pos : Pos} {e c : Expr} {we : WE} {wc : WT} {st : Stmt} {rest : List Stmt} {s t : WS}
@[reducible] def wNext : WS := fun F env h => F.nx env h
@[reducible] def wSeq (s t : WS) : WS := fun F env h => s { F with nx := t F } env h
@[reducible] def wExpr (we : WE) : WS := fun F env h => we env h (fun _ h1 => F.nx env h1) (fun x h1 => F.xc x env h1)
@[reducible] def wRet (we : WE) : WS := fun F env h => we env h F.rt (fun x h1 => F.xc x env h1)
@[reducible] def wRetN : WS := fun F _ h => F.rt .non h
@[reducible] def wIf (wc : WT) (s t : WS) : WS := fun F env h => wc env h (fun k h1 => if k = true then s F env h1 else t F env h1) (fun x h1 => F.xc x env h1)
@[reducible] def wSet (i : Nat) (we : WE) : WS := fun F env h => we env h (fun d h1 => F.nx (env.set i (some d)) h1) (fun x h1 => F.xc x env h1)
theorem db_nil : DB X C [] wNext := pss_imp pss_nil fun D σ H ⟨F, env, h, tk, re, rp, hw, b1, _⟩ => b1 env h σ H hw (.refl H) re rp
theorem db_cons (h1 : DS X C st s) (h2 : DB X C rest t) : DB X C (st :: rest) (wSeq s t) := pss_imp (pss_cons h1 h2) fun D σ H ⟨F, env, h, tk, re, rp, hw, b1, b2, b3, b4, b5⟩ =>
  ⟨{ F with nx := t F }, env, h, tk, re, rp, hw, fun e1 g1 σ1 H1 q t1 re1 rp1 => ⟨F, e1, g1, tk.trans t1, re1, rp1, q, fun e g σ' H' q t r p => b1 e g σ' H' q (t1.trans t) r p, fun d g v H' q t r p => b2 d g v H' q (t1.trans t) r p,
    fun e g σ' H' q t r p => b3 e g σ' H' q (t1.trans t) r p, fun e g σ' H' q t r p => b4 e g σ' H' q (t1.trans t) r p, b5⟩, b2, b3, b4, b5⟩
theorem db_one (h1 : DS X C st s) : DB X C [st] s := pss_one h1
theorem ds_pass : DS X C (.Pass pos) wNext := ps_imp ps_pass fun D σ H ⟨F, env, h, tk, re, rp, hw, b1, _⟩ => b1 env h σ H hw (.refl H) re rp
theorem ds_expr (he : DE X C e we) (hs : swapsWith e none pos.line X.env = pure false := by rfl) : DS X C (.Expr e pos) (wExpr we) := ps_imp (ps_expr he hs) fun D σ H ⟨F, env, h, tk, re, rp, hw, b1, b2, b3, b4, b5⟩ =>
  ⟨env, h, _, _, tk, re, rp, hw, fun d h1 v H1 q t1 r1 rp1 => b1 env h1 σ H1 q t1 (re.mono t1) rp1, fun x h1 q => b5 x env h1 q⟩
theorem ds_ret (he : DE X C e we) : DS X C (.Return (some e) pos) (wRet we) := ps_imp (ps_ret he) fun D σ H ⟨F, env, h, tk, re, rp, hw, b1, b2, b3, b4, b5⟩ =>
  ⟨env, h, _, _, tk, re, rp, hw, fun d h1 v H1 q t1 r1 rp1 => b2 d h1 v H1 q t1 r1 rp1, fun x h1 q => b5 x env h1 q⟩
theorem ds_retN : DS X C (.Return none pos) wRetN := ps_imp ps_retN fun D σ H ⟨F, env, h, tk, re, rp, hw, b1, b2, b3, b4, b5⟩ => b2 .non h .non H hw (.refl H) .non rp
theorem ds_if {a b : List Stmt} (hc : DT X C c wc) (ha : DB X C a s) (hb : DB X C b t) : DS X C (.If c a b pos) (wIf wc s t) := ps_imp (ps_if hc ha hb) fun D σ H ⟨F, env, h, tk, re, rp, hw, b1, b2, b3, b4, b5⟩ =>
  ⟨env, h, _, _, tk, re, rp, hw, fun k h1 H1 q t1 rp1 => by
    have key : ∀ (w : WS), w F env h1 → RdS X.K C w D σ H1 := fun w q => ⟨F, env, h1, tk.trans t1, re.mono t1, rp1, q, fun e g σ' H' q t r p => b1 e g σ' H' q (t1.trans t) r p, fun d g v H' q t r p => b2 d g v H' q (t1.trans t) r p,
      fun e g σ' H' q t r p => b3 e g σ' H' q (t1.trans t) r p, fun e g σ' H' q t r p => b4 e g σ' H' q (t1.trans t) r p, b5⟩
    cases k with
    | true =>
      rw [if_pos rfl] at q
      exact iteT (key s q)
    | false =>
      rw [if_neg Bool.false_ne_true] at q
      exact iteF (key t q), fun x h1 q => b5 x env h1 q⟩
theorem ds_set {i : Nat} {x : Str} {pos' : Pos} (hN : X.N.Nodup) (hi : X.N[i]? = some x) (hx : Loc X.env.scope x) (he : DE X C e we) (hs : swapsWith e (some (.Name x pos')) pos.line X.env = pure false := by rfl)
    (hf : X.fn x = true ∨ X.env.scope.names.lookup x = some .local := by first | exact .inl rfl | exact .inr rfl | assumption) : DS X C (.Assign [.Name x pos'] e pos) (wSet i we) :=
  ps_imp (ps_set hN hi hx he hs hf) fun D σ H ⟨F, env, h, tk, re, rp, hw, b1, b2, b3, b4, b5⟩ => ⟨env, h, _, _, tk, re, rp, hw, fun d h1 v H1 q t1 r1 rp1 => b1 _ h1 _ H1 q t1 ((re.mono t1).set r1 i) rp1, fun x h1 q => b5 x env h1 q⟩
end
/-! ### targets -/
abbrev WG := D → Env → DH → (Env → DH → Prop) → (DX → Env → DH → Prop) → Prop
abbrev WGs := List D → Env → DH → (Env → DH → Prop) → (DX → Env → DH → Prop) → Prop
def RdG (K : PySem.W.Frag) (C : Ct) (g : WG) : TG := fun v σ H Q => ∃ (d : D) (env : Env) (h : DH) (Qd : Env → DH → Prop) (Ed : DX → Env → DH → Prop), TK C.Hb H ∧ RepE K H env σ ∧ Rep K h H ∧ RV K H d v ∧ g d env h Qd Ed ∧
  (∀ e' h' σ' H', Qd e' h' → TK H H' → RepE K H' e' σ' → Rep K h' H' → Q σ' H') ∧ ∀ x e' h', Ed x e' h' → C.Wd x e' h'
def RdGs (K : PySem.W.Frag) (C : Ct) (g : WGs) : TGs := fun vs σ H Q => ∃ (ds : List D) (env : Env) (h : DH) (Qd : Env → DH → Prop) (Ed : DX → Env → DH → Prop), TK C.Hb H ∧ RepE K H env σ ∧ Rep K h H ∧ RVs K H ds vs ∧ g ds env h Qd Ed ∧
  (∀ e' h' σ' H', Qd e' h' → TK H H' → RepE K H' e' σ' → Rep K h' H' → Q σ' H') ∧ ∀ x e' h', Ed x e' h' → C.Wd x e' h'
abbrev DGt (X : Cx) (C : Ct) (t : Expr) (g : WG) : Prop := PG X t (RdG X.K C g)
abbrev DGs (X : Cx) (C : Ct) (ts : List Expr) (g : WGs) : Prop := PGs X ts (RdGs X.K C g)
section
variable {X : Cx} {C : Ct} {pos : Pos} {e : Expr} {es : List Expr} {we : WE} {g : WG} {gs : WGs}
@[reducible] def wgName (i : Nat) : WG := fun d env h Q _ => Q (env.set i (some d)) h
@[reducible] def wgNil : WGs := fun ds env h Q _ => match ds with
  | [] => Q env h
  | _ => False
@[reducible] def wgCons (g : WG) (gs : WGs) : WGs := fun ds env h Q E => match ds with
  | d :: r => g d env h (fun e' h' => gs r e' h' Q E) E
  | [] => False
/-- a tuple, a list of that length -/
@[reducible] def wgTup (n : Nat) (gs : WGs) : WG := fun d env h Q E => match d with
  | .tup xs => xs.length = n ∧ gs xs env h Q E
  | .ref a => (match h a with
    | some (.lst xs) => xs.length = n ∧ gs xs env h Q E
    | _ => False)
  | _ => False
theorem pg_imp {t : Expr} {r r' : TG} (p : PG X t r) (f : ∀ v σ H Q, r' v σ H Q → r v σ H Q) : PG X t r' := ⟨fun pins s σ H v u Q I rv q => p.run pins s σ H v u Q I rv (f v σ H Q q)⟩
theorem pgs_imp {t : List Expr} {r r' : TGs} (p : PGs X t r) (f : ∀ v σ H Q, r' v σ H Q → r v σ H Q) : PGs X t r' := ⟨fun pins s σ H v u Q I rv q => p.run pins s σ H v u Q I rv (f v σ H Q q)⟩
theorem pg_or {t : Expr} {r r' : TG} (p : PG X t r) (p' : PG X t r') : PG X t (fun v σ H Q => r v σ H Q ∨ r' v σ H Q) := ⟨fun pins s σ H v u Q I rv q => q.elim (p.run pins s σ H v u Q I rv) (p'.run pins s σ H v u Q I rv)⟩
theorem dg_name {i : Nat} {x : Str} (hN : X.N.Nodup) (hi : X.N[i]? = some x) (hx : Loc X.env.scope x) (hf : X.fn x = true ∨ X.env.scope.names.lookup x = some .local := by first | exact .inl rfl | exact .inr rfl | assumption) : DGt X C (.Name x pos) (wgName i) :=
  pg_imp (pg_name hN hi hx hf) fun v σ H Q ⟨d, env, h, Qd, Ed, tk, re, rp, rv, hw, hq, hx⟩ => hq _ h _ H hw (.refl H) (re.set rv i) rp
theorem dgs_nil : DGs X C [] wgNil := pgs_imp pgs_nil fun vs σ H Q ⟨ds, env, h, Qd, Ed, tk, re, rp, rv, hw, hq, hx⟩ => by
  unfold wgNil at hw
  split at hw
  · cases rv
    exact ⟨rfl, hq _ h _ H hw (.refl H) re rp⟩
  · exact hw.elim
theorem dgs_cons (h1 : DGt X C e g) (h2 : DGs X C es gs) (hs : (assignEach (e :: es) X.env).map (·.2) = assign e X.env :: (assignEach es X.env).map (·.2) := by rfl) : DGs X C (e :: es) (wgCons g gs) :=
  pgs_imp (pgs_cons h1 h2 hs) fun vs σ H Q ⟨ds, env, h, Qd, Ed, tk, re, rp, rv, hw, hq, hx⟩ => by
    unfold wgCons at hw
    split at hw
    · cases rv with
      | cons r1 r2 => exact ⟨_, _, rfl, _, env, h, _, _, tk, re, rp, r1, hw, fun e' h' σ' H' q t re' rp' => ⟨_, e', h', _, _, tk.trans t, re', rp', r2.mono t, q, fun e2 h2 σ2 H2 q2 t2 re2 rp2 => hq e2 h2 σ2 H2 q2 (t.trans t2) re2 rp2, hx⟩, hx⟩
    · exact hw.elim
theorem dg_tup {k n : Nat} (hc : X.calm = true) (h : DGs X C es gs) (hn : (assignEach es X.env).length = n := by rfl) (hst : (assignEach es X.env).findIdx? (·.1) = none := by rfl) : DGt X C (.Tuple es k pos) (wgTup n gs) :=
  pg_imp (pg_or (pg_tup hc h hn hst) (pg_unl hc h hn hst)) fun v σ H Q ⟨d, env, h, Qd, Ed, tk, re, rp, rv, hw, hq, hx⟩ => by
    unfold wgTup at hw
    split at hw
    · cases rv with
      | tup sx rx => exact .inl ⟨_, _, rfl, sx, by rw [← rx.length]; exact hw.1, _, env, h, _, _, tk, re, rp, rx, hw.2, hq, hx⟩
    · cases rv
      split at hw
      · rename_i xs e
        obtain ⟨vs, q, r⟩ := rp _ _ e
        exact .inr ⟨_, _, rfl, .of q, by rw [← r.length]; exact hw.1, _, env, h, _, _, tk, re, rp, r, hw.2, hq, hx⟩
      · exact hw.elim
    · exact hw.elim
@[reducible] def wAsg (we : WE) (g : WG) : WS := fun F env h => we env h (fun d h1 => g d env h1 F.nx F.xc) (fun x h1 => F.xc x env h1)
theorem ds_asg {tg : Expr} (he : DE X C e we) (hg : DGt X C tg g) (hs : swapsWithSole [tg] e pos.line X.env = pure false := by rfl) (hw : swappedStores [tg] e X.env = pure none := by rfl)
    (h1 : (assignEach [tg] X.env).map (·.2) = [assign tg X.env] := by rfl) : DS X C (.Assign [tg] e pos) (wAsg we g) :=
  ps_imp (ps_asg he hg hs hw h1) fun D σ H ⟨F, env, h, tk, re, rp, hw, b1, b2, b3, b4, b5⟩ => ⟨env, h, _, _, tk, re, rp, hw, fun d h1 v H1 q t1 r1 rp1 =>
    ⟨d, env, h1, _, _, tk.trans t1, re.mono t1, rp1, r1, q, fun e' h' σ' H' q t re' rp' => b1 e' h' σ' H' q (t1.trans t) re' rp', b5⟩, fun x h1 q => b5 x env h1 q⟩
/-- a, b = x, y with plain local names -/
@[reducible] def wPar (i j : Nat) (wa : WA) : WS := fun F env h => wa env h (fun ds h1 => match ds with
  | [d, e] => F.nx ((env.set i (some d)).set j (some e)) h1
  | _ => False) (fun x h1 => F.xc x env h1)
@[reducible] def wPar3 (i j k : Nat) (wa : WA) : WS := fun F env h => wa env h (fun ds h1 => match ds with
  | [d, e, f] => F.nx (((env.set i (some d)).set j (some e)).set k (some f)) h1
  | _ => False) (fun x h1 => F.xc x env h1)
theorem ds_par {i j : Nat} {x y : Str} {a b : Expr} {wa : WA} {px py pt : Pos} {kt k2 pt2} (hc : X.calm = true) (hN : X.N.Nodup) (hi : X.N[i]? = some x) (hj : X.N[j]? = some y) (hij : i ≠ j)
    (hx : X.env.scope.names.lookup x = some .local) (hy : X.env.scope.names.lookup y = some .local) (ha : DA X C [a, b] wa)
    (hw : swappedStores [.Tuple [.Name x px, .Name y py] kt pt] (.Tuple [a, b] k2 pt2) X.env = pure (some [x, y]) := by rfl)
    (hs : swapsWithSole [.Tuple [.Name x px, .Name y py] kt pt] (.Tuple [a, b] k2 pt2) pos.line X.env = pure false := by rfl) :
    DS X C (.Assign [.Tuple [.Name x px, .Name y py] kt pt] (.Tuple [a, b] k2 pt2) pos) (wPar i j wa) :=
  ps_imp (ps_par hc hN hi hj hij hx hy ha hw hs) fun D σ H ⟨F, env, h, tk, re, rp, hw, b1, b2, b3, b4, b5⟩ => ⟨env, h, _, _, tk, re, rp, hw, fun ds h1 vs H1 q t1 rs rp1 => by
    split at q
    · cases rs with
      | cons r1 rs => cases rs with
        | cons r2 rs =>
          cases rs
          exact ⟨_, _, rfl, b1 _ h1 _ H1 q t1 (((re.mono t1).set r1 i).set r2 j) rp1⟩
    · exact q.elim, fun x h1 q => b5 x env h1 q⟩
theorem ds_par3 {i j l : Nat} {x y z : Str} {a b c : Expr} {wa : WA} {px py pz pt : Pos} {kt k2 pt2} (hc : X.calm = true) (hN : X.N.Nodup) (hi : X.N[i]? = some x) (hj : X.N[j]? = some y) (hl : X.N[l]? = some z) (hij : i ≠ j) (hil : i ≠ l) (hjl : j ≠ l)
    (hx : X.env.scope.names.lookup x = some .local) (hy : X.env.scope.names.lookup y = some .local) (hz : X.env.scope.names.lookup z = some .local) (ha : DA X C [a, b, c] wa)
    (hw : swappedStores [.Tuple [.Name x px, .Name y py, .Name z pz] kt pt] (.Tuple [a, b, c] k2 pt2) X.env = pure (some [x, y, z]) := by rfl)
    (hs : swapsWithSole [.Tuple [.Name x px, .Name y py, .Name z pz] kt pt] (.Tuple [a, b, c] k2 pt2) pos.line X.env = pure false := by rfl) :
    DS X C (.Assign [.Tuple [.Name x px, .Name y py, .Name z pz] kt pt] (.Tuple [a, b, c] k2 pt2) pos) (wPar3 i j l wa) :=
  ps_imp (ps_par3 hc hN hi hj hl hij hil hjl hx hy hz ha hw hs) fun D σ H ⟨F, env, h, tk, re, rp, hw, b1, b2, b3, b4, b5⟩ => ⟨env, h, _, _, tk, re, rp, hw, fun ds h1 vs H1 q t1 rs rp1 => by
    split at q
    · cases rs with
      | cons r1 rs => cases rs with
        | cons r2 rs => cases rs with
          | cons r3 rs =>
            cases rs
            exact ⟨_, _, _, rfl, b1 _ h1 _ H1 q t1 ((((re.mono t1).set r1 i).set r2 j).set r3 l) rp1⟩
    · exact q.elim, fun x h1 q => b5 x env h1 q⟩
/-- x op= e at a name -/
@[reducible] def wAug (i : Nat) (we : WE) (o : O2) : WS := fun F env h => match env[i]? with
  | some (some x) => we env h (fun y h1 => o x y h1 (fun z h2 => F.nx (env.set i (some z)) h2)) (fun x h1 => F.xc x env h1)
  | _ => False
theorem ds_aug {i : Nat} {x : Str} {op : Operator} {o : O2} {pos' : Pos} (hN : X.N.Nodup) (hi : X.N[i]? = some x) (hx : Loc X.env.scope x) (he : DE X C e we) (ho : DOp X (inplaceOp op) o)
    (hf : X.fn x = true ∨ X.env.scope.names.lookup x = some .local := by first | exact .inl rfl | exact .inr rfl | assumption) : DS X C (.AugAssign (.Name x pos') op e pos) (wAug i we o) := by
  obtain ⟨r, hr, hd⟩ := ho
  refine ps_imp (ps_aug (ti := r) hN hi hx he (fun pins s σ H x y v u Q I rx ry q => hr pins s σ H x y v u Q I rx ry q) hf) fun D σ H ⟨F, env, h, tk, re, rp, hw, b1, b2, b3, b4, b5⟩ => ?_
  unfold wAug at hw
  split at hw
  · rename_i x e
    obtain ⟨v, e2, rv⟩ := re.get e
    exact ⟨v, e2, env, h, _, _, tk, re, rp, hw, fun y h1 vy H1 q t1 ry rp1 => hd _ _ _ _ _ _ _ _ q (rv.mono t1) ry rp1 fun z h2 vz H2 q2 t2 rz rp2 => b1 _ h2 _ H2 q2 (t1.trans t2) ((re.mono (t1.trans t2)).set rz i) rp2, fun x h1 q => b5 x env h1 q⟩
  · exact hw.elim
abbrev oAddI : O2 := oI PT2 fun i j => .int (i + j)
theorem di_add : DOp X (inplaceOp .Add) oAddI := ⟨_, opI0 (g := fun i j => i + j) fun _ _ _ _ _ _ _ q => iadd_int q, opd_I0 fun _ _ _ => .int _⟩
theorem di_mul : DOp X (inplaceOp .Mult) (oI PMul fun i j => .int (i * j)) := ⟨_, opI (C := PMul) (g := fun i j => i * j) fun _ _ _ _ _ _ _ hc q => imul_int q hc.ok, opd_I fun _ _ _ => .int _⟩
end
/-! ### while -/
section
variable {X : Cx} {C : Ct} {pos : Pos} {c : Expr} {body : List Stmt} {wc : WT} {b : WS}
@[reducible] def wWhile (wc : WT) (b : WS) : WS := fun F env h => ∃ W : Nat → Env → DH → Prop, (∃ m, W m env h) ∧ ∀ m env h, W m env h →
  wc env h (fun k h1 => if k = true then ∃ N : Env → DH → Prop, (∀ e' h', N e' h' → ∃ m', m' < m ∧ W m' e' h') ∧ b { F with nx := N, ct := N, bk := F.nx } env h1 else F.nx env h1) (fun x h1 => F.xc x env h1)
theorem ds_while (hp : PassesOwn (model X.prog X.w) X.A X.env X.xe) (hc : DT X C c wc) (hb : DB X C body b) : DS X C (.While c body [] pos) (wWhile wc b) :=
  ps_imp (ps_while hp hc hb) fun D σ H ⟨F, env, h, tk, re, rp, ⟨W, ⟨m0, w0⟩, turn⟩, b1, b2, b3, b4, b5⟩ => by
    refine ⟨fun m σ' H' => TK H H' ∧ ∃ env h, RepE X.K H' env σ' ∧ Rep X.K h H' ∧ W m env h, ⟨m0, .refl H, env, h, re, rp, w0⟩, fun m σ' H' ⟨t0, env, h, re, rp, w⟩ => ?_⟩
    refine ⟨env, h, _, _, tk.trans t0, re, rp, turn m env h w, fun k h1 H1 q t1 rp1 => ?_, fun x h1 q => b5 x env h1 q⟩
    cases k with
    | true =>
      rw [if_pos rfl] at q ⊢
      obtain ⟨N, hN, q⟩ := q
      have tt := t0.trans t1
      refine ⟨fun σ2 H2 => TK H H2 ∧ ∃ e h, RepE X.K H2 e σ2 ∧ Rep X.K h H2 ∧ N e h, fun σ2 H2 ⟨t2, e, h, re2, rp2, n⟩ => ?_, { F with nx := N, ct := N, bk := F.nx }, env, h1, (tk.trans t0).trans t1, re.mono t1, rp1, q, ?_, ?_, ?_, ?_, b5⟩
      · obtain ⟨m', hm, w'⟩ := hN e h n
        exact ⟨m', hm, t2, e, h, re2, rp2, w'⟩
      · exact fun e g σ2 H2 q t r p => ⟨tt.trans t, e, g, r, p, q⟩
      · exact fun d g v H2 q t r p => b2 d g v H2 q (tt.trans t) r p
      · exact fun e g σ2 H2 q t r p => b1 e g σ2 H2 q (tt.trans t) r p
      · exact fun e g σ2 H2 q t r p => ⟨tt.trans t, e, g, r, p, q⟩
    | false =>
      rw [if_neg Bool.false_ne_true] at q ⊢
      exact b1 env h1 σ' H1 q (t0.trans t1) (re.mono t1) rp1
end
/-! ### for -/
abbrev DIt := Nat → DH → Option (Option D)
abbrev WI := Env → DH → (DIt → DH → Prop) → DXK → Prop
def RIt1 (K : PySem.W.Frag) (J : It) (i : Nat) (h : DH) (H : Hp) : Option (Option D) → Prop
  | none => True
  | some none => J.stop i H
  | some (some d) => J.go i H ∧ ∀ x H', J.yld i H x H' → TK H H' ∧ RV K H' d x ∧ Rep K h H'
def RItR (K : PySem.W.Frag) (H1 : Hp) (J : It) (it : DIt) : Prop := ∀ i h H, TK H1 H → Rep K h H → RIt1 K J i h H (it i h)
def RdI (K : PySem.W.Frag) (C : Ct) (w : WI) : TI := fun σ H R => ∃ (env : Env) (h : DH) (Qd : DIt → DH → Prop) (Ed : DXK), TK C.Hb H ∧ RepE K H env σ ∧ Rep K h H ∧ w env h Qd Ed ∧
  (∀ it h' J H', Qd it h' → TK H H' → Rep K h' H' → RItR K H' J it → R J H') ∧ ∀ x h', Ed x h' → C.Wd x env h'
abbrev DIr (X : Cx) (C : Ct) (tg iter : Expr) (w : WI) : Prop := PI X tg iter (RdI X.K C w)
section
variable {X : Cx} {C : Ct} {pos : Pos} {tg iter e : Expr} {body : List Stmt} {wi : WI} {g : WG} {b : WS} {we : WE} {wa : WA}
theorem pi_imp {t t' : TI} (p : PI X tg iter t) (f : ∀ σ H R, t' σ H R → t σ H R) : PI X tg iter t' := ⟨fun pins s σ H R I q => p.run pins s σ H R I (f σ H R q)⟩
theorem pi_or {t t' : TI} (p : PI X tg iter t) (p' : PI X tg iter t') : PI X tg iter (fun σ H R => t σ H R ∨ t' σ H R) := ⟨fun pins s σ H R I q => q.elim (p.run pins s σ H R I) (p'.run pins s σ H R I)⟩
/-- a thing kept apart from what its reading is: the reading's end -/
theorem pi_fin {t : TI} (p : PI X tg iter t) {t' : TI} (f : ∀ σ H R, t' σ H R → t σ H R) : PI X tg iter t' := pi_imp p f
def itL (a : Addr) : DIt := fun i h => match h a with
  | some (.lst xs) => some xs[i]?
  | _ => none
def itX (xs : List D) : DIt := fun i _ => some xs[i]?
def itR (lo : Int) (n : Nat) : DIt := fun i _ => some (if i < n then some (.int (lo + i)) else none)
/-- a list, a tuple, a text -/
@[reducible] def wiSeq (we : WE) : WI := fun env h Q E => we env h (fun d h1 => match d with
  | .tup xs => Q (itX xs) h1
  | .str s => Q (itX (s.map fun c => .str [c])) h1
  | .ref a => (match h1 a with
    | some (.lst _) => Q (itL a) h1
    | _ => False)
  | .fls xs => Q (itX xs) h1
  | _ => False) E
theorem rit_list {K : PySem.W.Frag} {H1 : Hp} (a : Addr) : RItR K H1 (Itl K a) (itL a) := fun i h H t rp => by
  have key : ∀ (xs : List D) (vs : List V), SqL K H a vs → RVs K H xs vs → RIt1 K (Itl K a) i h H (some xs[i]?) := fun xs vs s r => by
    cases e : xs[i]? with
    | none => exact ⟨vs, s, by rw [← r.length]; exact List.getElem?_eq_none_iff.mp e⟩
    | some d =>
      obtain ⟨v, e2, rv⟩ := r.get e
      refine ⟨⟨vs, v, s, e2⟩, fun x H' ⟨eh, y⟩ => ?_⟩
      subst eh
      have := y vs s
      rw [e2] at this
      cases this
      exact ⟨.refl _, rv, rp⟩
  unfold itL
  cases q : h a with
  | none => trivial
  | some o =>
    cases o with
    | lst xs =>
      obtain ⟨vs, q1, r⟩ := rp _ _ q
      exact key xs vs (.of q1) r
    | _ => trivial
theorem rit_tup {K : PySem.W.Frag} {H1 : Hp} {a : Addr} {xs : List D} {vs : List V} (s : SqT K H1 a vs) (r : RVs K H1 xs vs) : RItR K H1 (Itt K a) (itX xs) := fun i h H t rp => by
  unfold itX
  cases e : xs[i]? with
  | none => exact ⟨vs, t.sqT s, by rw [← r.length]; exact List.getElem?_eq_none_iff.mp e⟩
  | some d =>
    obtain ⟨v, e2, rv⟩ := r.get e
    refine ⟨⟨vs, v, t.sqT s, e2⟩, fun x H' ⟨eh, y⟩ => ?_⟩
    subst eh
    have := y vs (t.sqT s)
    rw [e2] at this
    cases this
    exact ⟨.refl _, rv.mono t, rp⟩
theorem rit_fls {K : PySem.W.Frag} {H1 : Hp} {a : Addr} {xs : List D} {vs : List V} (s : FzL K H1 a vs) (r : RVs K H1 xs vs) : RItR K H1 (Itl K a) (itX xs) := fun i h H t rp => by
  unfold itX
  cases e : xs[i]? with
  | none => exact ⟨vs, (t.fzl s).s, by rw [← r.length]; exact List.getElem?_eq_none_iff.mp e⟩
  | some d =>
    obtain ⟨v, e2, rv⟩ := r.get e
    refine ⟨⟨vs, v, (t.fzl s).s, e2⟩, fun x H' ⟨eh, y⟩ => ?_⟩
    subst eh
    have := y vs (t.fzl s).s
    rw [e2] at this
    cases this
    exact ⟨.refl _, rv.mono t, rp⟩
theorem rit_str {K : PySem.W.Frag} {H1 : Hp} {s : List Nat} (hs : Ok s) : RItR K H1 (Its ⟨s.toArray⟩) (itX (s.map fun c => .str [c])) := fun i h H t rp => by
  unfold itX
  rw [List.getElem?_map]
  cases e : s[i]? with
  | none =>
    show s.toArray.size ≤ i
    rw [List.size_toArray]
    exact List.getElem?_eq_none_iff.mp e
  | some c =>
    refine ⟨?_, fun x H' ⟨eh, c', e2, ex⟩ => ?_⟩
    · show i < s.toArray.size
      rw [List.size_toArray]
      exact (List.getElem?_eq_some_iff.mp e).1
    · subst eh ex
      have e3 : s[i]? = some c' := by simpa using e2
      rw [e] at e3
      cases e3
      exact ⟨.refl _, .str [c] (fun z hz => by rw [List.mem_singleton] at hz; subst hz; exact hs _ (List.mem_of_getElem? e)), rp⟩
theorem rit_rng {K : PySem.W.Frag} {H1 : Hp} (lo : Int) (n : Nat) : RItR K H1 (Itr lo n) (itR lo n) := fun i h H t rp => by
  unfold itR
  by_cases e : i < n
  · rw [if_pos e]
    refine ⟨e, fun x H' ⟨eh, ex⟩ => ?_⟩
    subst eh ex
    exact ⟨.refl _, .int _, rp⟩
  · rw [if_neg e]
    exact Nat.le_of_not_lt e
def iAny (K : PySem.W.Frag) (te : TE) : TI := fun σ H R => te σ H fun x H1 => (∃ a, x = .ref a ∧ (∃ xs, SqL K H1 a xs) ∧ R (Itl K a) H1) ∨ (∃ a, x = .ref a ∧ (∃ xs, SqT K H1 a xs) ∧ R (Itt K a) H1) ∨ ∃ z, x = .str z ∧ R (Its z) H1
theorem pi_any {l : Expr} {tl : TE} (hl : PE X l tl) : PI X tg l (iAny X.K tl) := by
  refine ⟨fun pins s σ H R I h => ?_⟩
  refine thn (hl.run pins s σ H _ I h) fun v s1 ⟨x, H1, I1, r1, q1⟩ => ?_
  rcases q1 with ⟨a, e, ⟨xs, hq⟩, q⟩ | ⟨a, e, ⟨xs, hq⟩, q⟩ | ⟨x, ex, q⟩
  · subst e
    cases r1
    obtain ⟨its, rv, p, hz⟩ := I1.list hq
    refine wpAny_pyIter_list p.isList ?_
    refine ⟨s1.heap.objs.size, [s1.heap.objs.size], _, _, H1, rfl, I1.kept (t' := s1.toks) fun b o e => Heap.get?_push_of_some _ e, turn_list a _, ⟨_, Heap.get?_push_size _ rfl, rfl, rfl⟩, fun b hb => ?_, q⟩
    have e : b = s1.heap.objs.size := by simpa using hb
    subst e
    exact I1.fpOk (Nat.le_refl _) (I1.hok.fresh (Nat.le_refl _))
  · subst e
    cases r1
    obtain ⟨its, rv, p, hz⟩ := I1.tuple hq
    refine wpAny_pyIter_tuple (show s1.heap.IsTuple a its.toArray from p) ?_
    refine ⟨s1.heap.objs.size, [s1.heap.objs.size], _, _, H1, rfl, I1.kept (t' := s1.toks) fun b o e => Heap.get?_push_of_some _ e, turn_tuple a _, ⟨_, Heap.get?_push_size _ rfl, rfl, rfl⟩, fun b hb => ?_, q⟩
    have e : b = s1.heap.objs.size := by simpa using hb
    subst e
    exact I1.fpOk (Nat.le_refl _) (I1.hok.fresh (Nat.le_refl _))
  · subst ex
    obtain ⟨t, rfl⟩ := r1
    cases ha : x.cps.all (· < 128)
    · exact wpAny_pyIter_wide ha (pi_one (tk := s1.toks) I1 _ (turn_str _ x t "str_iterator" (.inr rfl)) ⟨_, Heap.get?_push_size _ rfl, rfl, rfl⟩ q)
    · exact wpAny_pyIter_ascii ha (pi_one (tk := s1.toks) I1 _ (turn_str _ x t "str_ascii_iterator" (.inl rfl)) ⟨_, Heap.get?_push_size _ rfl, rfl, rfl⟩ q)
theorem di_seq (he : DE X C e we) : DIr X C tg e (wiSeq we) :=
  pi_imp (pi_any he) fun σ H R ⟨env, h, Qd, Ed, tk, re, rp, hw, hq, hx⟩ => ⟨env, h, _, Ed, tk, re, rp, hw, fun d h1 v H1 w1 t1 rv rp1 => by
    split at w1
    · cases rv with
      | tup sx rx => exact .inr (.inl ⟨_, rfl, ⟨_, sx⟩, hq _ h1 _ H1 w1 t1 rp1 (rit_tup sx rx)⟩)
    · cases rv with
      | str s hs => exact .inr (.inr ⟨_, rfl, hq _ h1 _ H1 w1 t1 rp1 (rit_str hs)⟩)
    · cases rv
      split at w1
      · rename_i xs e
        obtain ⟨vs, q1, r⟩ := rp1 _ _ e
        exact .inl ⟨_, rfl, ⟨_, .of q1⟩, hq _ h1 _ H1 w1 t1 rp1 (rit_list _)⟩
      · exact w1.elim
    · cases rv with
      | fls sx rx => exact .inl ⟨_, rfl, ⟨_, sx.s⟩, hq _ h1 _ H1 w1 t1 rp1 (rit_fls sx rx)⟩
    · exact w1.elim, hx⟩
@[reducible] def wiR1 (wa : WA) : WI := fun env h Q E => wa env h (fun ds h1 => match ds with
  | [.int n] => (-(2 ^ 62) ≤ n ∧ n < 2 ^ 62) ∧ Q (itR 0 n.toNat) h1
  | _ => False) E
@[reducible] def wiR2 (wa : WA) : WI := fun env h Q E => wa env h (fun ds h1 => match ds with
  | [.int i, .int j] => (-(2 ^ 62) ≤ i ∧ i < 2 ^ 62 ∧ -(2 ^ 62) ≤ j ∧ j < 2 ^ 62) ∧ Q (itR i (j - i).toNat) h1
  | _ => False) E
theorem di_rng1 {a : Expr} {p : Pos} (hg : Gl X "range") (hm : X.mg "range" = none) (ha : DA X C [a] wa) (hs : starEach [a] X.env = [(false, eval a X.env)] := by rfl) : DIr X C tg (.Call (.Name "range" p) [a] [] pos) (wiR1 wa) :=
  pi_imp (pi_range1 hg hm ha hs) fun σ H R ⟨env, h, Qd, Ed, tk, re, rp, hw, hq, hx⟩ => ⟨env, h, _, Ed, tk, re, rp, hw, fun ds h1 vs H1 w1 t1 rs rp1 => by
    split at w1
    · cases rs with
      | cons r t => cases t; cases r; exact ⟨_, rfl, w1.1.1, w1.1.2, hq _ h1 _ H1 w1.2 t1 rp1 (rit_rng 0 _)⟩
    · exact w1.elim, hx⟩
theorem di_rng2 {a b : Expr} {p : Pos} (hg : Gl X "range") (hm : X.mg "range" = none) (ha : DA X C [a, b] wa) (hs : starEach [a, b] X.env = [(false, eval a X.env), (false, eval b X.env)] := by rfl) (hs2 : starEach [b] X.env = [(false, eval b X.env)] := by rfl) :
    DIr X C tg (.Call (.Name "range" p) [a, b] [] pos) (wiR2 wa) :=
  pi_imp (pi_range2 hg hm ha hs hs2) fun σ H R ⟨env, h, Qd, Ed, tk, re, rp, hw, hq, hx⟩ => ⟨env, h, _, Ed, tk, re, rp, hw, fun ds h1 vs H1 w1 t1 rs rp1 => by
    split at w1
    · cases rs with
      | cons r t => cases t with
        | cons r2 t => cases t; cases r; cases r2; exact ⟨_, _, rfl, w1.1, hq _ h1 _ H1 w1.2 t1 rp1 (rit_rng _ _)⟩
    · exact w1.elim, hx⟩
/-- for: an invariant W by the turn and a measure -/
def ForOf (it : DIt) (g : WG) (b : WS) (F : DEnds) (env : Env) (h1 : DH) : Prop := ∃ W : Nat → Nat → Env → DH → Prop, (∃ m, W 0 m env h1) ∧ ∀ i m env h, W i m env h → match it i h with
  | none => False
  | some none => F.nx env h
  | some (some d) => ∃ N : Env → DH → Prop, (∀ e' h', N e' h' → ∃ m', m' < m ∧ W (i + 1) m' e' h') ∧ g d env h (fun env2 h2 => b { F with nx := N, ct := N, bk := F.nx } env2 h2) F.xc
@[reducible] def wFor (wi : WI) (g : WG) (b : WS) : WS := fun F env h => wi env h (fun it h1 => ForOf it g b F env h1) (fun x h1 => F.xc x env h1)
/-- n items, P behind i of them -/
theorem for_n {it : DIt} {g : WG} {b : WS} {F : DEnds} {env : Env} {h : DH} (n : Nat) (P : Nat → Env → DH → Prop) (h0 : P 0 env h)
    (hs : ∀ i env h, i < n → P i env h → ∃ d, it i h = some (some d) ∧ g d env h (fun env2 h2 => b { F with nx := P (i + 1), ct := P (i + 1), bk := F.nx } env2 h2) F.xc)
    (hd : ∀ env h, P n env h → it n h = some none ∧ F.nx env h) : ForOf it g b F env h := by
  refine ⟨fun i m env h => m = n - i ∧ i ≤ n ∧ P i env h, ⟨n, by simp, Nat.zero_le _, h0⟩, ?_⟩
  rintro i m env h ⟨rfl, hi, p⟩
  by_cases hlt : i < n
  · obtain ⟨d, e, q⟩ := hs i env h hlt p
    rw [e]
    exact ⟨P (i + 1), fun e' h' p' => ⟨n - (i + 1), by omega, rfl, hlt, p'⟩, q⟩
  · have ei : i = n := by omega
    subst ei
    obtain ⟨e, q⟩ := hd env h p
    rw [e]
    exact q
theorem for_rng {j : Nat} {b : WS} {F : DEnds} {env : Env} {h : DH} {lo : Int} {n : Nat} (P : Nat → Env → DH → Prop) (h0 : P 0 env h)
    (hs : ∀ i env h, i < n → P i env h → b { F with nx := P (i + 1), ct := P (i + 1), bk := F.nx } (env.set j (some (.int (lo + i)))) h) (hd : ∀ env h, P n env h → F.nx env h) : ForOf (itR lo n) (wgName j) b F env h :=
  for_n n P h0 (fun i env h hi p => ⟨.int (lo + i), by unfold itR; rw [if_pos hi], hs i env h hi p⟩) fun env h p => ⟨by unfold itR; rw [if_neg (Nat.lt_irrefl _)], hd env h p⟩
theorem for_x {g : WG} {b : WS} {F : DEnds} {env : Env} {h : DH} {xs : List D} (P : Nat → Env → DH → Prop) (h0 : P 0 env h)
    (hs : ∀ i d env h, xs[i]? = some d → P i env h → g d env h (fun env2 h2 => b { F with nx := P (i + 1), ct := P (i + 1), bk := F.nx } env2 h2) F.xc) (hd : ∀ env h, P xs.length env h → F.nx env h) : ForOf (itX xs) g b F env h :=
  for_n xs.length P h0 (fun i env h hi p => ⟨xs[i], by unfold itX; rw [List.getElem?_eq_getElem hi], hs i _ env h (List.getElem?_eq_getElem hi) p⟩) fun env h p => ⟨by unfold itX; rw [List.getElem?_eq_none_iff.mpr (Nat.le_refl _)], hd env h p⟩
/-- over a list that stays -/
theorem for_l {g : WG} {b : WS} {F : DEnds} {env : Env} {h : DH} {a : Addr} {xs : List D} (P : Nat → Env → DH → Prop) (h0 : P 0 env h) (hl : ∀ i env h, P i env h → h a = some (.lst xs))
    (hs : ∀ i d env h, xs[i]? = some d → P i env h → g d env h (fun env2 h2 => b { F with nx := P (i + 1), ct := P (i + 1), bk := F.nx } env2 h2) F.xc) (hd : ∀ env h, P xs.length env h → F.nx env h) : ForOf (itL a) g b F env h := by
  have key : ∀ i env h, P i env h → itL a i h = some xs[i]? := fun i env h p => by
    unfold itL
    rw [hl i env h p]
  exact for_n xs.length P h0 (fun i env h hi p => ⟨xs[i], by rw [key i env h p, List.getElem?_eq_getElem hi], hs i _ env h (List.getElem?_eq_getElem hi) p⟩)
    fun env h p => ⟨by rw [key _ env h p, List.getElem?_eq_none_iff.mpr (Nat.le_refl _)], hd env h p⟩
theorem ds_for (hp : PassesOwn (model X.prog X.w) X.A X.env X.xe) (hc : X.calm = true) (hi : DIr X C tg iter wi) (hg : DGt X C tg g) (hb : DB X C body b)
    (hs : ∀ x, foldedSetIterable iter X.env x = pure x := by intro _; rfl) : DS X C (.For tg iter body [] pos) (wFor wi g b) :=
  ps_imp (ps_for hp hc hi hg hb hs) fun D σ H ⟨F, env, h, tk, re, rp, hw, b1, b2, b3, b4, b5⟩ => ⟨env, h, _, _, tk, re, rp, hw, fun it h1 J H1 ⟨W, ⟨m0, w0⟩, turn⟩ t1 rp1 rit => by
    refine ⟨fun i m σ' H' => TK H1 H' ∧ ∃ env h, RepE X.K H' env σ' ∧ Rep X.K h H' ∧ W i m env h, ⟨m0, .refl H1, env, h1, re.mono t1, rp1, w0⟩, fun i m σ' H' ⟨t0, env, h, re, rp, w⟩ => ?_⟩
    have hr := rit i h H' t0 rp
    have ht := turn i m env h w
    have tt := t1.trans t0
    cases e : it i h with
    | none =>
      rw [e] at ht
      exact ht.elim
    | some o =>
      rw [e] at ht hr
      cases o with
      | none => exact .inl ⟨hr, b1 env h σ' H' ht tt re rp⟩
      | some d =>
        obtain ⟨N, hN, q⟩ := ht
        refine .inr ⟨hr.1, fun σ2 H2 => TK H1 H2 ∧ ∃ e h, RepE X.K H2 e σ2 ∧ Rep X.K h H2 ∧ N e h, fun σ2 H2 ⟨t2, e, h, re2, rp2, n⟩ => ?_, fun x H2 y => ?_⟩
        · obtain ⟨m', hm, w'⟩ := hN e h n
          exact ⟨m', hm, t2, e, h, re2, rp2, w'⟩
        · obtain ⟨ta, rv, rpa⟩ := hr.2 x H2 y
          have t3 := tt.trans ta
          have t4 := t0.trans ta
          refine ⟨d, env, h, _, _, tk.trans t3, re.mono ta, rpa, rv, q, fun e2 h2 σ3 H3 q3 ta3 re3 rp3 => ⟨{ F with nx := N, ct := N, bk := F.nx }, e2, h2, (tk.trans t3).trans ta3, re3, rp3, q3, ?_, ?_, ?_, ?_, b5⟩, b5⟩
          · exact fun e g σ2 H2 q t r p => ⟨(t4.trans ta3).trans t, e, g, r, p, q⟩
          · exact fun d g v H2 q t r p => b2 d g v H2 q ((t3.trans ta3).trans t) r p
          · exact fun e g σ2 H2 q t r p => b1 e g σ2 H2 q ((t3.trans ta3).trans t) r p
          · exact fun e g σ2 H2 q t r p => ⟨(t4.trans ta3).trans t, e, g, r, p, q⟩, fun x h1 q => b5 x env h1 q⟩
end
/-! ### what a def promises -/
abbrev GM := List D → DH → DK → DXK → Prop
def spD (K : PySem.W.Frag) (G : GM) : Sp := fun vs H Q E => ∃ (ds : List D) (h : DH) (Qd : DK) (Ed : DXK), RVs K H ds vs ∧ Rep K h H ∧ G ds h Qd Ed ∧
  (∀ d h' v H', Qd d h' → TK H H' → RV K H' d v → Rep K h' H' → Q v H') ∧ ∀ x h' c dd H', Ed x h' → TK H H' → RX K H' x c dd → Rep K h' H' → E c dd H'
abbrev FnD (P : Program) (w : World) (K : PySem.W.Frag) (mg : Str → Option Value) (base : Heap) (k : Nat) (f : Addr) (fd : FuncData) (ps : List Str) (G : GM) : Prop := FnOk P w K mg base (L2.CX P w) k f fd ps (spD K G)
section
variable {P : Program} {w : World} {K : PySem.W.Frag} {mg : Str → Option Value} {base : Heap}
/-- what is wanted behind a def's body: less may be told of the heap -/
def dends (Q : DK) (E : DXK) : DEnds where
  nx := fun _ h => ∃ h', Sub h' h ∧ Q .non h'
  rt := fun d h => ∃ h', Sub h' h ∧ Q d h'
  xc := fun x _ h => ∃ h', Sub h' h ∧ E x h'
abbrev ctOf (H : Hp) (K : PySem.W.Frag) (E : XK) : Ct := ⟨H, fun x _ h => ∀ c dd H', TK H H' → RX K H' x c dd → Rep K h H' → E c dd H'⟩
theorem lift_ct {H : Hp} {E : XK} {c : Value} {dd : Option Addr} {σ : L2.St} {H' : Hp} (l : lift K (ctOf H K E) c dd σ H') : E c dd H' := by
  obtain ⟨x, env, h, t, _, rp, rx, q⟩ := l
  exact q c dd H' t rx rp
/-- THE RULE for a def: its body's term, and what the term asks -/
theorem fnd_of {x qual : Str} {st : Stmt} {f : Addr} {fd : FuncData} {N ps : List Str} {k : Nat} {G : GM} {b : WS} {dvs : List V} {kws : List (Str × V)} (F : FunD K x qual (defArgs st) (defBody st) (defScope st) dvs kws f fd) (Sc : FnScope N ps (defScope st)) (len : ∀ ds h Q E, G ds h Q E → ds.length = ps.length)
    (der : ∀ (cdv : Value) (A : Around) (outer : List PySem.Env) (s : Shared) (H : Hp) (E : XK), Room k (A.deeper (envOfC qual (defScope st) s.heap.objs.size f cdv)) →
      Takes (cxOf (L2.CX P w) P w K mg base N qual (defScope st) f cdv A outer s H E) (lift K (ctOf H K E)) →
      PassesOwn (model P w) (A.deeper (envOfC qual (defScope st) s.heap.objs.size f cdv)) (envOfC qual (defScope st) s.heap.objs.size f cdv) (cxOf (L2.CX P w) P w K mg base N qual (defScope st) f cdv A outer s H E).xe →
      DB (cxOf (L2.CX P w) P w K mg base N qual (defScope st) f cdv A outer s H E) (ctOf H K E) (defBody st) b)
    (vc : ∀ ds h Q E, G ds h Q E → b (dends Q E) (dstart N.length ds) h) : FnD P w K mg base (k + 1) f fd ps G := by
  refine F.ok (CX := L2.CX P w) Sc (fun vs H Q E ⟨ds, h, Qd, Ed, r, _, g, _⟩ => by rw [← r.length]; exact len _ _ _ _ g) fun cdv A outer s H vs Q E hr ⟨ds, h, Qd, Ed, r, rp, g, hq, hx⟩ => ?_
  refine ⟨_, der cdv A outer s H E hr ((takes_of rfl rfl rfl rfl).imp fun c d σ H' l => lift_ct l) (passes_of rfl), ?_⟩
  refine ⟨dends Qd Ed, dstart N.length ds, h, .refl H, .start r, rp, vc ds h Qd Ed g, ?_, ?_, fun _ _ _ _ z => z.elim, fun _ _ _ _ z => z.elim, ?_⟩
  · exact fun env h1 σ' H' ⟨h2, s2, q⟩ t re rp1 => hq .non h2 .non H' q t .non (rp1.sub s2)
  · exact fun d h1 v H' ⟨h2, s2, q⟩ t rv rp1 => hq d h2 v H' q t rv (rp1.sub s2)
  · exact fun x env h1 ⟨h2, s2, q⟩ c dd H' t rx rp1 => hx x h2 c dd H' q t rx (rp1.sub s2)
end
/-! ### calls of defs -/
section
variable {X : Cx} {C : Ct} {k : Nat} {f : Addr} {fd : FuncData} {ps : List Str} {G : GM} {x : Str} {p pos : Pos} {e : Expr} {es : List Expr} {wa : WA}
@[reducible] def wCall (G : GM) (wa : WA) : WE := fun env h Q E => wa env h (fun ds h1 => G ds h1 Q E) E
theorem rd_call {K : PySem.W.Frag} {σ : L2.St} {H : Hp} {Q : VK} : RdE K C (wCall G wa) σ H Q → tCallS (spD K G) (L2.WE (lift K C)) (RdA K C wa) σ H Q := fun ⟨env, h, Qd, Ed, tk, re, rp, hw, hq, hx⟩ =>
  ⟨env, h, _, Ed, tk, re, rp, hw, fun ds h1 vs H1 w1 t1 rs rp1 => ⟨ds, h1, Qd, Ed, rs, rp1, w1, fun d h' v H' q t r p => hq d h' v H' q (t1.trans t) r p, fun x h' c dd H' q t rx p =>
    ⟨x, env, h', (tk.trans t1).trans t, (re.mono t1).mono t, p, rx, hx x h' q⟩⟩, hx⟩
theorem de_call (F : FnD X.prog X.w X.K X.mg X.base k f fd ps G) (hr : Room k X.A) (hg : Gl X x) (hm : X.mg x = some (.ref f)) (hk : PySem.W.keepIn X.K (.ref f) = true) (hb : Binds X.K fd ps []) (tk : Takes X (lift X.K C))
    (ha : DA X C (e :: es) wa) (hdb : (x == ("__debug__" : Str)) = false := by decide) (he : starEach (e :: es) X.env = (false, eval e X.env) :: starEach es X.env := by rfl) (hpl : (backTo pos (starEach es X.env)).any (·.1) = false := by rfl) :
    DE X C (.Call (.Name x p) (e :: es) [] pos) (wCall G wa) := pe_imp (pe_callS F hr hg hm hk hb (fun σ => passAt tk σ) ha hdb he hpl) fun _ _ _ => rd_call
end
/-! ### raise -/
/-- an own exception class without an __init__ -/
structure ExcD (K : PySem.W.Frag) (mg : Str → Option Value) (n : XN) : Prop where
  q : PySem.W.excIn K (xad K n) He.veBase "ValueError.__new__" = true
  g : mg n.s = some (.ref (xad K n))
  kp : PySem.W.keepIn K (.ref (xad K n)) = true
  sb : PySem.W.subIn K (.ref (xad K n)) (.type "BaseException") = some true
  ty : PySem.W.typeIn K (.ref (xad K n)) = some (.type "type")
/-- one with an __init__ that keeps its one argument as the field f -/
structure ExcF (K : PySem.W.Frag) (mg : Str → Option Value) (n : XN) (f : Str) : Prop where
  o : OexC K (xad K n)
  g : mg n.s = some (.ref (xad K n))
  no : PySem.W.findIn K (.ref (xad K n)) f = some none
  ini : PySem.W.findIn K (.ref (xad K n)) "__init__" = some (some (.ref (He.ma K (xad K n) "__init__")))
  ity : PySem.W.typeIn K (.ref (He.ma K (xad K n) "__init__")) = some (.type "function")
/-- what __init__ promises -/
def spX (K : PySem.W.Frag) (n : XN) (f : Str) : Sp := fun vs H Q _ => ∃ (a : Addr) (y : V), vs = [.ref a, y] ∧ H a = some (exo a (xad K n) none) ∧ ∀ dx, H dx = none → dx ≠ a → Q .non (upd (upd H dx (exd dx [(f, y)])) a (exo a (xad K n) (some dx)))
section
variable {X : Cx} {C : Ct} {m : Str} {j : Nat} {p p2 pos pos' : Pos}
@[reducible] def wRaise (n : XN) : WS := fun F env h => F.xc ⟨n, none⟩ env h
@[reducible] def wRaiseF (n : XN) (f : Str) (we : WE) : WS := fun F env h => we env h (fun d h1 => F.xc ⟨n, some [(f, d)]⟩ env h1) (fun x h1 => F.xc x env h1)
theorem ds_raise {n : XN} {x : Str} (c : ExcD X.K X.mg n) (hn : x = n.s) (hc : X.calm = true) (tk : Takes X (lift X.K C)) (hg : Gl X x)
    (hdb : (x == ("__debug__" : Str)) = false := by decide) : DS X C (.Raise (some (.Call (.Name x p) [.Constant (.str m) j p2] [] pos)) none pos') (wRaise n) := by
  subst hn
  exact ps_imp (ps_raise hc tk (pmk_own PySem.F.excBase_ValueError c.q c.g c.kp (raises_own c.sb c.ty) hg hdb)) fun D σ H ⟨F, env, h, tk, re, rp, hw, b1, b2, b3, b4, b5⟩ => ⟨⟨n, none⟩, env, h, tk, re, rp, ⟨rfl, rfl⟩, b5 _ _ _ hw⟩
/-- what stands apart of an exception in the making -/
theorem Rep.undo {K : PySem.W.Frag} {h : DH} {H H' : Hp} (rp : Rep K h H) (k : ∀ b, H b ≠ none → H' b = H b) (t : TK H H') : Rep K h H' := fun a o e => by
  obtain ⟨u, q⟩ := (rp a o e).there
  exact (rp a o e).mono t (k a (by rw [q]; simp))
theorem ds_raiseF {n : XN} {x f : Str} {e : Expr} {we : WE} {k : Nat} {fd : FuncData} {ps : List Str} (c : ExcF X.K X.mg n f) (hn : x = n.s) (F1 : FnOk X.prog X.w X.K X.mg X.base (L2.CX X.prog X.w) k (He.ma X.K (xad X.K n) "__init__") fd ps (spX X.K n f)) (hb : Binds X.K fd ps [])
    (hr : Room (k + 1) X.A) (hc : X.calm = true) (tk : Takes X (lift X.K C)) (hg : Gl X x) (he : DE X C e we) (hdb : (x == ("__debug__" : Str)) = false := by decide)
    (hst : starEach (e :: []) X.env = (false, eval e X.env) :: starEach [] X.env := by rfl) : DS X C (.Raise (some (.Call (.Name x p) [e] [] pos)) none pos') (wRaiseF n f we) := by
  subst hn
  refine ps_imp (ps_raise hc tk (pmk_oex c.o c.ini c.ity F1 hr hb .nil (fun _ _ _ _ _ _ _ h => ?_) hg c.g (pa_cons he pa_nil hst) hdb hst rfl)) fun D σ H ⟨F, env, h, tk, re, rp, hw, b1, b2, b3, b4, b5⟩ => ?_
  · obtain ⟨_, _, _, _, _, _, _, _, _, _, _, _, z⟩ := h
    exact z.elim
  refine ⟨env, h, _, _, tk, re, rp, hw, fun d h1 v H1 q t1 r1 rp1 => ⟨by show 1 ≤ 1000; decide, fun a ha => ⟨a, v, rfl, upd_same, fun dx hdx ne => ⟨rfl, dx, [(f, v)], upd_same, by rw [upd_ne ne, upd_same], ?_, ?_⟩⟩⟩, fun x h1 q => b5 x env h1 q⟩
  · rw [upd_ne ne] at hdx
    exact hdx
  · rw [upd_ne ne] at hdx
    have e1 : upd (del (upd (upd (upd H1 a (exo a (xad X.K n) none)) dx (exd dx [(f, v)])) a (exo a (xad X.K n) (some dx))) a) dx (HO.xd [(f, v)]) = upd H1 dx (.xd [(f, v)]) := by
      funext b
      by_cases z1 : b = dx
      · simp [upd, z1]
      · by_cases z2 : b = a
        · subst z2
          simp [upd, del, z1, ha]
        · simp [upd, del, z1, z2]
    rw [e1]
    exact ⟨⟨n, some [(f, d)]⟩, env, h1, (tk.trans t1).trans (.new hdx), (re.mono t1).mono (.new hdx), rp1.more hdx, ⟨rfl, dx, [(f, v)], rfl, upd_same, .cons ⟨rfl, r1.mono (.new hdx)⟩ .nil⟩, b5 _ _ _ q⟩
end
end DD

namespace DD
open PySem PySem.Spec L2
open PyProof.Rows hiding St
/-! ### a def that stands at a name of the module, called with all its parameters by place -/
structure CalD (P : Program) (w : World) (K : PySem.W.Frag) (mg : Str → Option Value) (base : Heap) (k : Nat) (x : Str) (G : GM) : Prop where
  ex : ∃ f fd ps, FnD P w K mg base k f fd ps G ∧ mg x = some (.ref f) ∧ PySem.W.keepIn K (.ref f) = true ∧ Binds K fd ps []
section
variable {X : Cx} {C : Ct} {k j : Nat} {G : GM} {x : Str} {p pos : Pos} {e : Expr} {es : List Expr} {wa : WA}
theorem de_c (c : CalD X.prog X.w X.K X.mg X.base k x G) (hr : Room j X.A) (hk : k ≤ j) (hg : Gl X x) (tk : Takes X (lift X.K C)) (ha : DA X C (e :: es) wa) (hdb : (x == ("__debug__" : Str)) = false := by decide)
    (he : starEach (e :: es) X.env = (false, eval e X.env) :: starEach es X.env := by rfl) (hpl : (backTo pos (starEach es X.env)).any (·.1) = false := by rfl) : DE X C (.Call (.Name x p) (e :: es) [] pos) (wCall G wa) := by
  obtain ⟨f, fd, ps, F, hm, kp, hb⟩ := c.ex
  exact de_call F (hr.mono hk) hg hm kp hb tk ha hdb he hpl
end
theorem cal_of {P : Program} {w : World} {K : PySem.W.Frag} {mg : Str → Option Value} {base : Heap} {k : Nat} {x qual : Str} {G : GM} {params : Arguments} {body : List Stmt} {scope : Scope} {f : Addr} {fd : FuncData} {ps : List Str}
    (F : FunD K x qual params body scope [] [] f fd) (hm : mg x = some (.ref f)) (ok : FnD P w K mg base k f fd ps G)
    (h : ∀ (kV doc pm : Value) (an : Option Addr) (cdv ct : Value) (us : List Value), us.length = ps.length → bindArgs (PySem.W.fnOf x qual params body scope .none kV doc pm an cdv ct) ⟨us, []⟩ = pure (ps.zip us)) : CalD P w K mg base k x G :=
  ⟨f, fd, ps, ok, hm, F.kp, F.bindsN h⟩
/-! ### built-ins by name -/
theorem bo_len : bootBuiltins "len" = some (.builtin "len") := by decide +kernel
theorem bo_abs : bootBuiltins "abs" = some (.builtin "abs") := by decide +kernel
theorem bo_max : bootBuiltins "max" = some (.builtin "max") := by decide +kernel
theorem bo_min : bootBuiltins "min" = some (.builtin "min") := by decide +kernel
theorem bo_divmod : bootBuiltins "divmod" = some (.builtin "divmod") := by decide +kernel
theorem bo_all : bootBuiltins "all" = some (.builtin "all") := by decide +kernel
theorem bo_any : bootBuiltins "any" = some (.builtin "any") := by decide +kernel
theorem bo_int : bootBuiltins "int" = some (.type "int") := by decide +kernel
theorem bo_str : bootBuiltins "str" = some (.type "str") := by decide +kernel
theorem bo_bool : bootBuiltins "bool" = some (.type "bool") := by decide +kernel
theorem bo_list : bootBuiltins "list" = some (.type "list") := by decide +kernel
theorem bo_tuple : bootBuiltins "tuple" = some (.type "tuple") := by decide +kernel
def BIG : Int := 10 ^ 299
/-! ### an error that keeps one thing -/
structure IniD (P : Program) (w : World) (K : PySem.W.Frag) (mg : Str → Option Value) (base : Heap) (n : XN) (f : Str) : Prop where
  ex : ∃ fd ps, FnOk P w K mg base (L2.CX P w) 1 (He.ma K (xad K n) "__init__") fd ps (spX K n f) ∧ Binds K fd ps []
section
variable {X : Cx} {C : Ct} {p pos pos' : Pos} {j : Nat}
theorem ds_raiseI {n : XN} {x f : Str} {e : Expr} {we : WE} (c : ExcF X.K X.mg n f) (i : IniD X.prog X.w X.K X.mg X.base n f) (hn : x = n.s) (hr : Room j X.A) (hj : 2 ≤ j) (hc : X.calm = true) (tk : Takes X (lift X.K C)) (hg : Gl X x) (he : DE X C e we)
    (hdb : (x == ("__debug__" : Str)) = false := by decide) (hst : starEach (e :: []) X.env = (false, eval e X.env) :: starEach [] X.env := by rfl) : DS X C (.Raise (some (.Call (.Name x p) [e] [] pos)) none pos') (wRaiseF n f we) := by
  obtain ⟨fd, ps, F, hb⟩ := i.ex
  exact ds_raiseF c hn F hb (hr.mono hj) hc tk hg he hdb hst
end
theorem ini_of {P : Program} {w : World} {K : PySem.W.Frag} {mg : Str → Option Value} {base : Heap} {n : XN} {f qual : Str} {st : Stmt} {fd : FuncData} (F : FunD K "__init__" qual (defArgs st) (defBody st) (defScope st) [] [] (He.ma K (xad K n) "__init__") fd)
    (Sc : FnScope [("self" : Str), f] [("self" : Str), f] (defScope st)) (c : ExcF K mg n f)
    (der : ∀ (X : Cx), X.N = [("self" : Str), f] → X.env.scope = defScope st → PSs X (defBody st) (tOst X.K f (tVar 0) (tVar 1)))
    (b : ∀ (kV doc pm : Value) (an : Option Addr) (cdv ct : Value) (us : List Value), us.length = 2 → bindArgs (PySem.W.fnOf "__init__" qual (defArgs st) (defBody st) (defScope st) .none kV doc pm an cdv ct) ⟨us, []⟩ = pure ((["self", f] : List Str).zip us)) : IniD P w K mg base n f := by
  refine ⟨fd, [("self" : Str), f], F.ok (CX := L2.CX P w) Sc (fun vs H Q E ⟨_, _, e, _⟩ => by rw [e]; rfl) (fun cdv A outer s H vs Q E hr ⟨a, y, e, ha, q⟩ => ⟨_, der _ rfl rfl, ?_⟩), F.bindsN b⟩
  subst e
  exact ⟨_, rfl, _, rfl, a, xad K n, rfl, c.o, c.no, .inl ⟨ha, q⟩⟩
/-- what the head's look says of such a class -/
def oexB (K : PySem.W.Frag) (C : Addr) : Bool := match K.lookup C with
  | some ⟨.type t, dd, .cls cd, sl⟩ => decide (t = "type") && (match cd.mro, sl.toList with
    | .ref C' :: bm, [_, _, _, _, some (.builtin n), _] => decide (C' = C) && (decide (n = "ValueError.__new__") && (!cd.hasDel && (cd.hasDict && PySem.HandSPX.refsVE bm)))
    | _, _ => false)
  | _ => false
theorem oexB_ok {K : PySem.W.Frag} {C : Addr} (h : oexB K C = true) : ∃ nm q N bs bm sn sub ab col dd k0 k1 k2 k3 k5, K.lookup C = some (excClassObj nm q C N bs bm true sn sub ab col dd k0 k1 k2 k3 k5 "ValueError.__new__") ∧ PySem.HandSPX.refsVE bm = true := by
  unfold oexB at h
  split at h
  · rename_i t dd cd sl ho
    obtain ⟨h0, h⟩ := He.ba h
    split at h
    · rename_i C' bm k0 k1 k2 k3 n k5 hm hs
      obtain ⟨h1, h⟩ := He.ba h
      obtain ⟨h2, h⟩ := He.ba h
      obtain ⟨h3, h⟩ := He.ba h
      obtain ⟨h4, h5⟩ := He.ba h
      obtain ⟨nm, bs, mro, ns, qn, hd, sn, sub, ab, col, del⟩ := cd
      dsimp only at hm h3 h4
      have e0 := of_decide_eq_true h0
      have e1 := of_decide_eq_true h1
      have e2 := of_decide_eq_true h2
      have e3 : del = false := by simpa using h3
      subst hm e0 e1 e2 e3 h4
      have hsl : sl = #[k0, k1, k2, k3, some (.builtin "ValueError.__new__"), k5] := by
        obtain ⟨l⟩ := sl
        simp only at hs
        rw [hs]
      subst hsl
      exact ⟨_, _, _, _, _, _, _, _, _, _, _, _, _, _, _, ho, h5⟩
    · cases h
  · cases h
/-- all of an error class with one field -/
def excFB (n : XN) (f : Str) (K : PySem.W.Frag) : Bool := oexB K (xad K n) && (decide (PySem.W.findIn K (.ref (xad K n)) "__setattr__" = some (some (.builtin "object.__setattr__"))) && (decide (PySem.W.subIn K (.ref (xad K n)) (.type "BaseException") = some true) &&
  (decide (PySem.W.typeIn K (.ref (xad K n)) = some (.type "type")) && (PySem.W.keepIn K (.ref (xad K n)) && (decide (PySem.W.findIn K (.ref (xad K n)) f = some none) && (decide (PySem.W.findIn K (.ref (xad K n)) "__init__" = some (some (.ref (He.ma K (xad K n) "__init__")))) &&
  decide (PySem.W.typeIn K (.ref (He.ma K (xad K n) "__init__")) = some (.type "function"))))))))
theorem excF_of {K : PySem.W.Frag} {mg : Str → Option Value} {n : XN} {f : Str} (h : excFB n f K = true) (g : mg n.s = some (.ref (xad K n))) : ExcF K mg n f := by
  obtain ⟨h1, h⟩ := He.ba h
  obtain ⟨h2, h⟩ := He.ba h
  obtain ⟨h3, h⟩ := He.ba h
  obtain ⟨h4, h⟩ := He.ba h
  obtain ⟨h5, h⟩ := He.ba h
  obtain ⟨h6, h⟩ := He.ba h
  obtain ⟨h7, h8⟩ := He.ba h
  exact ⟨⟨oexB_ok h1, of_decide_eq_true h2, of_decide_eq_true h3, of_decide_eq_true h4, h5⟩, g, of_decide_eq_true h6, of_decide_eq_true h7, of_decide_eq_true h8⟩
theorem excD_of {K : PySem.W.Frag} {h : Heap} {mg : Str → Option Value} {n : XN} (X : K.In h) (G : h.Ns mainGlobals mg) (c : (He.Fa.exc n.s).ok K = true) (g : (He.Fa.glo n.s).ok K = true) : ExcD K mg n := by
  obtain ⟨h1, h2, h3, h4⟩ := He.exc_ok c
  exact ⟨h1, He.glo_ok X G g, h2, h3, h4⟩
theorem gv_int {K : PySem.W.Frag} {h : Heap} {mg : Str → Option Value} {x : Str} {i : Int} (X : K.In h) (G : h.Ns mainGlobals mg) (c : (He.Fa.int x i).ok K = true) : GV K mg x (.int i) := by
  obtain ⟨t, e⟩ := He.int_ok X G c
  exact ⟨_, .int i, e, ⟨t, rfl⟩, fun _ => .int i⟩
theorem gv_str {K : PySem.W.Frag} {h : Heap} {mg : Str → Option Value} {x : Str} {z : String} (X : K.In h) (G : h.Ns mainGlobals mg) (c : (He.Fa.str x (Str.ofString z)).ok K = true) : GV K mg x (.str (S z)) := by
  obtain ⟨t, e⟩ := He.str_ok X G c
  exact ⟨_, .str (Str.ofString z), e, ⟨t, rfl⟩, fun _ => .strS z⟩
/-! ### a law's end -/
theorem rvs_ints {K : PySem.W.Frag} {H : Hp} : ∀ ns : List Int, RVs K H (ns.map D.int) (ns.map V.int)
  | [] => .nil
  | n :: ns => .cons (.int n) (rvs_ints ns)
/-- what a law promises: over every list of at most 63 ints, each within its bits, True -/
def gLaw : GM := fun ds h Q E => ∃ ns : List Int, ds = [.fls (ns.map D.int)] ∧ (ns.length ≤ 63 ∧ ∀ z ∈ ns, Builtin.Int.intBits z ≤ 1048576) ∧ ∀ h', Q (.bl true) h'
theorem walk_D {l : PySem.W.OpenLaw} {k : Nat} {q : Program} {loose : List Str} {XP : (Str → Option Value) → Heap → Prop} {YP : World → Heap → Prop} {d : DefRec} {x : Str}
    (hn : l.most = some 63) (hdf : d.params.defaults = []) (hr : Room k callerA)
    (F : ∀ (w : World) (mg : Str → Option Value) (fa : Addr) (h : Heap), YP w h → h.Ns mainGlobals mg → mg d.name = some (.ref fa) →
      ∃ (K : PySem.W.Frag) (fd : FuncData), K.In h ∧ (∀ (s : Shared) (u : Value), BindsTo s fd ⟨[u], []⟩ [(x, u)]) ∧ ∀ base : Heap, K.In base → base.Ns mainGlobals mg → FnD l.prog w K mg base k fa fd [x] gLaw) :
    PySem.W.WalkO q loose XP YP l.row.toRowW d [] (fun f vs => PySem.call f vs) := by
  refine Att.attach_callB hn hdf fun w s₀ s₁ mg mb fa o pm cd doc a vs ns G Y ho hd hcd hmg hobj hints hlen hbits hg => ?_
  obtain ⟨K, fd, KX, hb, hF⟩ := F w mg fa _ Y G.T.g hmg
  refine law_call KX G.T.g G.T.b G.T.builtins G.T.nolimit hg hobj hints (Nat.le_trans hlen (by decide)) hr hF hb (fun H hO hS => ?_) fun H e s' h => ?_
  · have fz : FzL K H a (ns.map V.int) := by
      rcases hS with (hS | ⟨o, hS⟩) | hS
      · rcases hO a with z | ⟨_, _, z⟩ <;> rw [hS] at z <;> cases z
      · exact .inl ⟨o, hS⟩
      · exact .inr hS
    have rep : Rep K (fun _ => none) H := fun _ _ e => nomatch e
    have gl : gLaw [.fls (ns.map D.int)] (fun _ => none) (fun d _ => d = .bl true) (fun _ _ => False) := ⟨ns, rfl, ⟨hlen, hbits⟩, fun _ => rfl⟩
    refine ⟨_, _, _, _, .cons (.fls fz (rvs_ints ns)) .nil, rep, gl, fun d h' v H' q t r p => ?_, fun x h' c dd H' z => False.elim z⟩
    subst q
    cases r
    first | done | rfl
  · obtain ⟨_, _, _, _, _, _, _, _, _, _, _, _, z⟩ := h
    exact z.elim
end DD

namespace DD
open PySem PySem.Spec L2
open PyProof.Rows hiding St
/-! ### a def with one parameter by keyword alone, behind n by place -/
structure CalK (P : Program) (w : World) (K : PySem.W.Frag) (mg : Str → Option Value) (base : Heap) (k : Nat) (x : Str) (n : Nat) (y : Str) (dv : D) (G : GM) : Prop where
  ex : ∃ f fd ps v, FnD P w K mg base k f fd ps G ∧ mg x = some (.ref f) ∧ PySem.W.keepIn K (.ref f) = true ∧ (∀ H, RV K H dv v) ∧ (∃ ds, Vals [v] ds ∧ Binds K fd ps ds) ∧
    ∃ _ : List Value, KBn K fd ps n [y] (fun us ws => us ++ ws) (fun vs zs => vs ++ zs)
abbrev DKw (X : Cx) (C : Ct) (kws : List Keyword) (w : WA) : Prop := PK X kws (RdA X.K C w)
section
variable {X : Cx} {C : Ct} {k j n : Nat} {G : GM} {x y : Str} {dv : D} {p pos kpos : Pos} {e ke : Expr} {es : List Expr} {wa wk : WA} {we : WE} {kws : List Keyword}
theorem pk_imp {t t' : TA} (p : PK X kws t) (f : ∀ σ H Q, t' σ H Q → t σ H Q) : PK X kws t' := ⟨fun pos pins s σ H Q I q => p.run pos pins s σ H Q I (f σ H Q q)⟩
/-- one keyword -/
theorem dk_one (h : DE X C ke we) : DKw X C [⟨some y, ke, kpos⟩] (wCons we wNil) :=
  pk_imp (pk_cons h pk_nil) fun σ H Q ⟨env, h, Qd, Ed, tk, re, rp, hw, hq, hx⟩ => ⟨env, h, _, Ed, tk, re, rp, hw, fun d h1 v H1 q t1 r1 rp1 => hq [d] h1 [v] H1 q t1 (.cons r1 .nil) rp1, hx⟩
@[reducible] def wCallD (G : GM) (dv : D) (wa : WA) : WE := fun env h Q E => wa env h (fun ds h1 => G (ds ++ [dv]) h1 Q E) E
theorem de_cd (c : CalK X.prog X.w X.K X.mg X.base k x n y dv G) (hr : Room j X.A) (hk : k ≤ j) (hg : Gl X x) (tk : Takes X (lift X.K C)) (ha : DA X C (e :: es) wa) (hdb : (x == ("__debug__" : Str)) = false := by decide)
    (he : starEach (e :: es) X.env = (false, eval e X.env) :: starEach es X.env := by rfl) (hpl : (backTo pos (starEach es X.env)).any (·.1) = false := by rfl) : DE X C (.Call (.Name x p) (e :: es) [] pos) (wCallD G dv wa) := by
  obtain ⟨f, fd, ps, v, F, hm, kp, rv, ⟨ds, hv, hb⟩, _⟩ := c.ex
  refine pe_imp (pe_callSD F (hr.mono hk) hg hm kp hb hv (fun σ => passAt tk σ) ha hdb he hpl) fun σ H Q ⟨env, h, Qd, Ed, tk, re, rp, hw, hq, hx⟩ => ?_
  exact ⟨env, h, _, Ed, tk, re, rp, hw, fun ds h1 vs H1 w1 t1 rs rp1 => ⟨ds ++ [dv], h1, Qd, Ed, rs.append (.cons (rv H1) .nil), rp1, w1, fun d h' v H' q t r p => hq d h' v H' q (t1.trans t) r p, fun x h' c dd H' q t rx p =>
    ⟨x, env, h', (tk.trans t1).trans t, (re.mono t1).mono t, p, rx, hx x h' q⟩⟩, hx⟩
/-- the call behind its values -/
theorem run_kw {fd : FuncData} {ps ks : List Str} {f : Addr} {sp : Sp} {pins : List (Addr × Obj)} {σ : L2.St} {H : Hp} {s : Shared} {Q : VK} {us ws : List Value} {vs zs : List V} {U : XK} (F : FnOk X.prog X.w X.K X.mg X.base (L2.CX X.prog X.w) k f fd ps sp) (hr : Room k X.A)
    (hb : KBn X.K fd ps n ks (fun us ws => us ++ ws) (fun vs zs => vs ++ zs)) (hx : PassesAt (L2.CX X.prog X.w) X σ U) (I : Inv X pins σ H s) (r : Vals vs us) (rz : Vals zs ws) (l1 : vs.length = n) (l2 : zs.length = ks.length)
    (h : sp (vs ++ zs) H Q U) : wpAny (model X.prog X.w) X.A (call (.ref f) us (ks.zip ws)) (EP X pins σ Q) X.xe s := by
  have b := hb.to s us ws I.kIn (by rw [← r.length]; exact l1) (by rw [← rz.length]; exact l2)
  have goes := F.run X.A X.stack s H ⟨us, ks.zip ws⟩ (us ++ ws) (vs ++ zs) Q U hr I.env0 b (hb.rel r rz) h
  refine wpAny_call (codeAny_mono goes fun o s' hq => ?_)
  match o, hq with
  | .error e, hq => exact hx pins H s e s' I hq
  | .ok (.ret u), hq => exact I.after hq
  | .ok .next, hq => exact hq.elim
  | .ok .brk, hq => exact hq.elim
  | .ok .cont, hq => exact hq.elim
/-- what such a call asks -/
def tKw (n : Nat) (sp : Sp) (U : L2.St → XK) (t tk : TA) : TE := fun σ H Q => t σ H fun vs H1 => tk σ H1 fun zs H2 => vs.length = n ∧ zs.length = 1 ∧ sp (vs ++ zs) H2 Q (U σ)
theorem pe_kw {fd : FuncData} {ps : List Str} {f : Addr} {sp : Sp} {U : L2.St → XK} {t tk : TA} (F : FnOk X.prog X.w X.K X.mg X.base (L2.CX X.prog X.w) k f fd ps sp) (hr : Room k X.A) (hg : Gl X x) (hm : X.mg x = some (.ref f)) (hk : PySem.W.keepIn X.K (.ref f) = true)
    (hb : KBn X.K fd ps n [y] (fun us ws => us ++ ws) (fun vs zs => vs ++ zs)) (hx : ∀ σ, PassesAt (L2.CX X.prog X.w) X σ (U σ)) (ha : PA X (e :: es) t) (hkw : PK X kws tk)
    (hall : (backToKw pos (keywordEach kws X.env)).all (·.1.isSome) = true) (hks : (backToKw pos (keywordEach kws X.env)).filterMap (·.1) = [y]) (hdb : (x == ("__debug__" : Str)) = false)
    (he : starEach (e :: es) X.env = (false, eval e X.env) :: starEach es X.env) (hpl : ((backTo pos (starEach (e :: es) X.env)).any (·.1) || (backToKw pos (keywordEach kws X.env)).any (·.1.isNone)) = false) :
    PE X (.Call (.Name x p) (e :: es) kws pos) (tKw n sp U t tk) := by
  refine ⟨fun pins s σ H Q I h => wpAny_Call_Name_kw (ld_glob I hg hm ?_ hdb)⟩
  have go1 := ha.run pos pins s σ H _ I h
  refine PySem.W.callWith_KW (h₀ := X.base) I.ok.mod.kin hk hall (thn go1 fun us s1 ⟨vs, H1, I1, r, q⟩ => ?_) hpl he
  have go2 := hkw.run pos pins s1 σ H1 _ I1 q
  refine thn go2 fun ws s2 ⟨zs, H2, I2, rz, l1, l2, q2⟩ => ⟨I2.kIn, ?_⟩
  rw [hks]
  exact run_kw F hr hb (hx σ) I2 r rz l1 l2 q2
@[reducible] def wCallK (n : Nat) (G : GM) (wa wk : WA) : WE := fun env h Q E => wa env h (fun ds h1 => wk env h1 (fun es h2 => ds.length = n ∧ es.length = 1 ∧ G (ds ++ es) h2 Q E) E) E
theorem de_ck (c : CalK X.prog X.w X.K X.mg X.base k x n y dv G) (hr : Room j X.A) (hk : k ≤ j) (hg : Gl X x) (tk : Takes X (lift X.K C)) (ha : DA X C (e :: es) wa) (hkw : DKw X C kws wk) (hdb : (x == ("__debug__" : Str)) = false := by decide)
    (hall : (backToKw pos (keywordEach kws X.env)).all (·.1.isSome) = true := by rfl) (hks : (backToKw pos (keywordEach kws X.env)).filterMap (·.1) = [y] := by rfl)
    (he : starEach (e :: es) X.env = (false, eval e X.env) :: starEach es X.env := by rfl)
    (hpl : ((backTo pos (starEach (e :: es) X.env)).any (·.1) || (backToKw pos (keywordEach kws X.env)).any (·.1.isNone)) = false := by rfl) :
    DE X C (.Call (.Name x p) (e :: es) kws pos) (wCallK n G wa wk) := by
  obtain ⟨f, fd, ps, v, F, hm, kp, rv, _, mv, hb⟩ := c.ex
  refine pe_imp (pe_kw F (hr.mono hk) hg hm kp hb (fun σ => passAt tk σ) ha hkw hall hks hdb he hpl) fun σ H Q ⟨env, h, Qd, Ed, tk, re, rp, hw, hq, hx⟩ => ?_
  refine ⟨env, h, _, Ed, tk, re, rp, hw, fun ds h1 vs H1 w1 t1 rs rp1 => ⟨env, h1, _, Ed, tk.trans t1, re.mono t1, rp1, w1, fun es h2 zs H2 w2 t2 rz rp2 => ?_, hx⟩, hx⟩
  refine ⟨by rw [← rs.length]; exact w2.1, by rw [← rz.length]; exact w2.2.1, ds ++ es, h2, Qd, Ed, (rs.mono t2).append rz, rp2, w2.2.2, fun d h' v H' q t r p => hq d h' v H' q ((t1.trans t2).trans t) r p, fun x h' c dd H' q t rx p => ?_⟩
  exact ⟨x, env, h', ((tk.trans t1).trans t2).trans t, ((re.mono t1).mono t2).mono t, p, rx, hx x h' q⟩
end
theorem calk_of {P : Program} {w : World} {K : PySem.W.Frag} {mg : Str → Option Value} {base : Heap} {k n : Nat} {x y qual : Str} {G : GM} {params : Arguments} {body : List Stmt} {scope : Scope} {f : Addr} {fd : FuncData} {ps : List Str} {dv : D} {v : V}
    (F : FunD K x qual params body scope [] [(y, v)] f fd) (hm : mg x = some (.ref f)) (ok : FnD P w K mg base k f fd ps G) (rv : ∀ H, RV K H dv v) (hn : n + 1 = ps.length)
    (h : ∀ (A : Addr) (doc pm : Value) (an : Option Addr) (cdv ct : Value) (us : List Value) (u : Value), us.length = n → KwChain A [(y, u)] (bindArgs (PySem.W.fnOf x qual params body scope .none (.ref A) doc pm an cdv ct) ⟨us, []⟩) (ps.zip (us ++ [u])))
    (hk : ∀ (A : Addr) (doc pm : Value) (an : Option Addr) (cdv ct : Value) (us : List Value) (u : Value), us.length = n → bindArgs (PySem.W.fnOf x qual params body scope .none (.ref A) doc pm an cdv ct) ⟨us, [(y, u)]⟩ = pure (ps.zip (us ++ [u]))) : CalK P w K mg base k x n y dv G := by
  have b0 := F.binds0 (ps := ps) n (List.cons_ne_nil _ _) hn fun A doc pm an cdv ct us ks l1 l2 => match ks, l2 with
    | [u], _ => h A doc pm an cdv ct us u l1
  have b1 := F.kbinds0 (ps := ps) n [y] [] (fun us _ ws => us ++ ws) (List.cons_ne_nil _ _) (fun _ z => nomatch z) (fun r1 _ r2 => r1.append r2) fun A doc pm an cdv ct us mv ws l1 l2 l3 => match mv, ws, l2, l3 with
    | [], [u], _, _ => hk A doc pm an cdv ct us u l1
  exact ⟨f, fd, ps, v, ok, hm, F.kp, rv, b0, b1⟩
end DD

namespace DD
open PySem PySem.Spec L2
open PyProof.Rows hiding St
/-! ### list comprehensions of one clause; nothing is raised in them -/
abbrev Ct.no (C : Ct) : Ct := { C with Wd := fun _ _ _ => False }
abbrev DTs (X : Cx) (C : Ct) (ifs : List Expr) (t : WT) : Prop := PTs X ifs (RdT X.K C t)
/-- p holds what was made so far -/
def LcOf (it : DIt) (bind : D → Env) (tt : WT) (we : WE) (p : Addr) (Q : DK) (h1 : DH) : Prop := ∃ W : Nat → Nat → DH → Prop, (∃ m, W 0 m (dup h1 p (.lst []))) ∧ ∀ i m h, W i m h → match it i h with
  | none => False
  | some none => Q (.ref p) h
  | some (some d) => ∃ N : DH → Prop, (∀ h', N h' → ∃ m', m' < m ∧ W (i + 1) m' h') ∧ tt (bind d) h (fun b h3 => if b = true then we (bind d) h3 (fun y h4 => ∃ acc, h4 p = some (.lst acc) ∧ acc.length < sizeLine ∧ N (dup h4 p (.lst (acc ++ [y])))) (fun _ _ => False) else N h3) (fun _ _ => False)
@[reducible] def wYes : WT := fun _ h Q _ => Q true h
@[reducible] def wLc (wi : WI) (i : Nat) (tt : WT) (we : WE) : WE := fun env h Q E => wi env h (fun it h1 => ∀ p, h1 p = none → LcOf it (fun d => (env.set i none).set i (some d)) tt we p Q h1) E
section
variable {X : Cx} {C : Ct} {pos p : Pos} {elt iter c : Expr} {ifs : List Expr} {scope : Scope} {y : Str} {i : Nat} {wi : WI} {tt : WT} {we : WE}
theorem takes_no {X : Cx} {K : PySem.W.Frag} : Takes X (lift K C.no) := fun u s' ⟨_, _, _, _, _, _, _, _, _, _, _, _, _, _, _, _, w⟩ => by
  obtain ⟨_, _, _, _, _, _, _, z⟩ := w
  exact z.elim
theorem dts_nil : DTs X C [] wYes := ⟨fun pins s σ H Q I ⟨env, h, Qd, Ed, tk, re, rp, hw, hq, hx⟩ => pts_nil.run pins s σ H Q I (hq true h H hw (.refl H) rp)⟩
theorem dts_one (h : DT X C c tt) : DTs X C [c] tt := pts_one h
theorem tLc_of {K : PySem.W.Frag} {σ : L2.St} {H : Hp} {Q : VK} : RdE K C (wLc wi i tt we) σ H Q → tLc (RdI K C wi) (gName i) (RdT K C.no tt) (RdE K C.no we) [i] σ H Q := by
  rintro ⟨env, h, Qd, Ed, tk, re, rp, hw, hq, hx⟩
  refine ⟨env, h, _, Ed, tk, re, rp, hw, fun it h1 J H1 lc t1 rp1 rit Da hD => ?_, hx⟩
  obtain ⟨W, ⟨m0, w0⟩, turn⟩ := lc Da (rp1.free hD)
  refine ⟨fun i m H' => TK H1 H' ∧ ∃ h, Rep K h H' ∧ W i m h, ⟨m0, .new hD, _, rp1.new hD (.newL hD .nil), w0⟩, ?_⟩
  rintro j m H' ⟨t0, h, rp, w⟩
  have hr := rit j h H' t0 rp
  have ht := turn j m h w
  cases e : it j h with
  | none =>
    rw [e] at ht
    exact ht.elim
  | some o =>
    rw [e] at ht hr
    cases o with
    | none => exact .inl ⟨hr, hq _ h _ H' ht (t1.trans t0) (.ref Da) rp⟩
    | some d =>
      obtain ⟨N, hN, q⟩ := ht
      refine .inr ⟨hr.1, fun H2 => TK H1 H2 ∧ ∃ h, Rep K h H2 ∧ N h, ?_, fun x H2 y => ?_⟩
      · rintro H2 ⟨t2, h2, rp2, n⟩
        obtain ⟨m', hm, w'⟩ := hN h2 n
        exact ⟨m', hm, t2, h2, rp2, w'⟩
      · obtain ⟨ta, rv, rpa⟩ := hr.2 x H2 y
        have t3 := (t1.trans t0).trans ta
        have rE := ((re.mono t3).del (x := none) i).set rv i
        refine ⟨?_, _, h, _, fun _ _ => False, tk.trans t3, rE, rpa, q, fun k h3 H3 qk t4 rp3 => ?_, fun _ _ z => z.elim⟩
        · show ((σ.set i none).set i (some x)).set i none = σ.set i none
          rw [List.set_set, List.set_set]
        · cases k with
          | false =>
            rw [if_neg Bool.false_ne_true] at qk ⊢
            exact ⟨(t0.trans ta).trans t4, h3, rp3, qk⟩
          | true =>
            rw [if_pos rfl] at qk ⊢
            refine ⟨_, h3, _, fun _ _ => False, (tk.trans t3).trans t4, rE.mono t4, rp3, qk, fun z h4 vz H4 q4 t5 rz rp4 => ?_, fun _ _ z => z.elim⟩
            obtain ⟨acc, ea, hl, n⟩ := q4
            obtain ⟨vs, q1, r⟩ := rp4 _ _ ea
            have tm : TK H4 (upd H4 Da (.lst (vs ++ [vz]))) := .mut q1 (notT _) (notF _)
            exact ⟨vs, q1, by rw [← r.length]; exact hl, (((t0.trans ta).trans t4).trans t5).trans tm, _, rp4.mut q1 (notT _) (notF _) (show RO K _ Da (.lst (acc ++ [z])) from ⟨_, upd_same, (r.append (.cons rz .nil)).mono tm⟩), n⟩
theorem de_lc (hc : X.calm = true) (hN : X.N.Nodup) (hi : DIr X C (.Name y p) iter wi) (ok : BlkOk X.N X.env.scope scope [(y, i)]) (hy : X.N[i]? = some y)
    (hg : ∀ (s : Shared) (H : Hp) (A : Addr) (cl : List (Str × Addr)) (fp : List Addr), PG (X.blk s H scope (compEnvC scope cl A X.env) fp) (.Name y p) (gName i))
    (ht : ∀ (s : Shared) (H : Hp) (A : Addr) (cl : List (Str × Addr)) (fp : List Addr), DTs (X.blk s H scope (compEnvC scope cl A X.env) fp) C.no ifs tt)
    (he : ∀ (s : Shared) (H : Hp) (A : Addr) (cl : List (Str × Addr)) (fp : List Addr), DE (X.blk s H scope (compEnvC scope cl A X.env) fp) C.no elt we) (hs : ∀ x, foldedSetIterable iter X.env x = pure x := by intro _; rfl) :
    DE X C (.ListComp elt [⟨.Name y p, iter, ifs, 0⟩] scope pos) (wLc wi i tt we) :=
  pe_imp (pe_lc (own := [(y, i)]) hc hN hi ok hg ht he hs) fun _ _ _ => tLc_of
/-- x = [..] on one line -/
theorem ds_setLc {j : Nat} {x : Str} {px spos : Pos} (hc : X.calm = true) (hN : X.N.Nodup) (hx : X.N[j]? = some x) (hxl : X.env.scope.names.lookup x = some .local)
    (hsw : swapsWith (.ListComp elt [⟨.Name y p, iter, ifs, 0⟩] scope pos) (some (.Name x px)) spos.line X.env = pure true) (hi : DIr X C (.Name y p) iter wi) (ok : BlkOk X.N X.env.scope scope [(y, i)]) (hy : X.N[i]? = some y)
    (hg : ∀ (s : Shared) (H : Hp) (A : Addr) (cl : List (Str × Addr)) (fp : List Addr), PG (X.blk s H scope (compEnvC scope cl A X.env) fp) (.Name y p) (gName i))
    (ht : ∀ (s : Shared) (H : Hp) (A : Addr) (cl : List (Str × Addr)) (fp : List Addr), DTs (X.blk s H scope (compEnvC scope cl A X.env) fp) C.no ifs tt)
    (he : ∀ (s : Shared) (H : Hp) (A : Addr) (cl : List (Str × Addr)) (fp : List Addr), DE (X.blk s H scope (compEnvC scope cl A X.env) fp) C.no elt we) (hs : ∀ x, foldedSetIterable iter X.env x = pure x := by intro _; rfl) :
    DS X C (.Assign [.Name x px] (.ListComp elt [⟨.Name y p, iter, ifs, 0⟩] scope pos) spos) (wSet j (wLc wi i tt we)) :=
  ps_imp (ps_setLc (own := [(y, i)]) hc hN hx hxl hsw hi ok hg ht he hs) fun F σ H ⟨F', env, h, tk, re, rp, hw, b1, b2, b3, b4, b5⟩ => by
    refine tLc_of ⟨env, h, _, _, tk, re, rp, hw, fun d h1 v H1 q t1 r1 rp1 => ?_, fun x h1 q => b5 x env h1 q⟩
    exact b1 _ h1 _ H1 q t1 ((re.mono t1).set r1 j) rp1
end
/-- over n items that stay, each kept -/
theorem lc_n {it : DIt} {bind : D → Env} {tt : WT} {we : WE} {p : Addr} {Q : DK} {h1 : DH} (n : Nat) (P : Nat → DH → Prop) (h0 : P 0 (dup h1 p (.lst [])))
    (hs : ∀ i h, i < n → P i h → ∃ d, it i h = some (some d) ∧ tt (bind d) h (fun b h3 => if b = true then we (bind d) h3 (fun y h4 => ∃ acc, h4 p = some (.lst acc) ∧ acc.length < sizeLine ∧ P (i + 1) (dup h4 p (.lst (acc ++ [y])))) (fun _ _ => False) else P (i + 1) h3) (fun _ _ => False))
    (hd : ∀ h, P n h → it n h = some none ∧ Q (.ref p) h) : LcOf it bind tt we p Q h1 := by
  refine ⟨fun i m h => m = n - i ∧ i ≤ n ∧ P i h, ⟨n, by simp, Nat.zero_le _, h0⟩, ?_⟩
  rintro i m h ⟨rfl, hi, q⟩
  by_cases hlt : i < n
  · obtain ⟨d, e, z⟩ := hs i h hlt q
    rw [e]
    exact ⟨P (i + 1), fun h' w => ⟨n - (i + 1), by omega, rfl, hlt, w⟩, z⟩
  · have e : i = n := by omega
    subst e
    obtain ⟨e, z⟩ := hd h q
    rw [e]
    exact z
end DD

namespace DD
open PySem PySem.Spec L2
open PyProof.Rows hiding St
/-! ### a def that is called where an exception is held -/
structure FnE (P : Program) (w : World) (K : PySem.W.Frag) (mg : Str → Option Value) (base : Heap) (k : Nat) (f : Addr) (fd : FuncData) (ps : List Str) (a : Addr) (oe : Obj) (sp : Sp) : Prop where
  len : ∀ vs H Q E, sp vs H Q E → vs.length = ps.length
  run : ∀ (A : Around) (outer : List PySem.Env) (s : Shared) (H : Hp) (args : Args) (us : List Value) (vs : List V) (Q : VK) (E : XK), L2H.RoomH k A → L2H.PinOk outer H s (a, oe) → Env0 P w K mg base A outer s H → BindsTo s fd args (ps.zip us) → Vals vs us → sp vs H Q E →
    codeAny (model P w) A (.call (.ref f) args) (CR (L2.CX P w) outer P w H s Q E) s
section
variable {P : Program} {w : World} {K : PySem.W.Frag} {mg : Str → Option Value} {base : Heap}
abbrev cxE (P : Program) (w : World) (K : PySem.W.Frag) (mg : Str → Option Value) (base : Heap) (N : List Str) (qual : Str) (scope : Scope) (f : Addr) (cdv : Value) (A : Around) (outer : List PySem.Env) (s : Shared) (H : Hp) (E : XK) (a : Addr) (oe : Obj) : Cx :=
  L2H.cxH (L2.CX P w) P w K mg base N qual scope f cdv A outer s H E (a, oe)
/-- THE RULE for such a def -/
theorem fne_of {x qual : Str} {st : Stmt} {f : Addr} {fd : FuncData} {N ps : List Str} {k : Nat} {sp : Sp} {a : Addr} {oe : Obj} {dvs : List V} {kws : List (Str × V)} (F : FunD K x qual (defArgs st) (defBody st) (defScope st) dvs kws f fd) (Sc : FnScope N ps (defScope st)) (len : ∀ vs H Q E, sp vs H Q E → vs.length = ps.length)
    (der : ∀ (cdv : Value) (A : Around) (outer : List PySem.Env) (s : Shared) (H : Hp) (vs : List V) (Q : VK) (E : XK), L2H.RoomH k (A.deeper (envOfC qual (defScope st) s.heap.objs.size f cdv)) → sp vs H Q E →
      ∃ t, PSs (cxE P w K mg base N qual (defScope st) f cdv A outer s H E a oe) (defBody st) t ∧ t { nx := fun _ H' => Q .non H', rt := Q } (L2.start N vs) H) : FnE P w K mg base (k + 1) f fd ps a oe sp := by
  obtain ⟨oc, od, dV, kV, doc, pm, an, cdv, ct, osl, efd, lk, hcd, _, _⟩ := F.ex
  subst efd
  refine ⟨len, fun A outer s H args us vs Q E room pinned env0 binds vals wish => ?_⟩
  have inK : K.In s.heap := env0.mod.kin.keeps fun b o e => (env0.bs b o e).1
  have noLim : s.heap.NoLimit := env0.mod.nolimit.keeps fun b o e => (env0.bs b o e).1
  have kinds : ∀ y ∈ ps.zip us, (defScope st).names.lookup y.1 = some .local ∨ ((defScope st).names.lookup y.1 = some .cell ∧ ((cellsFrom (s.heap.objs.size + 1) (defScope st).names []).lookup y.1).isSome = true) := by
    intro y hy
    rcases Sc.par y.1 (List.of_mem_zip hy).1 with q | q
    · exact .inl q
    · exact .inr ⟨q, PySem.W.cellsFrom_some _ _ _ (.inl q)⟩
  have lenV := len _ _ _ _ wish
  refine codeAny_call_function room.depth (inK _ _ lk) rfl Sc.co Sc.gen rfl (PySem.W.codeRec_of inK hcd) (binds _ _ _ _ ?_)
  refine wpAny_newFunctionEnv_cells Sc.kind kinds fun env he s1 inside => ?_
  subst he
  refine ⟨noLim.keeps inside.toInCall.keep, codeAny_func ?_⟩
  obtain ⟨t, ht, hq⟩ := der cdv A outer s H vs Q E (room.deeper _) wish
  have I := L2H.inv_startH (CX := L2.CX P w) (K := K) (mg := mg) (base := base) (E := E) Sc pinned env0 lenV vals inside
  have ran := ht.run [] s1 (L2.start N vs) H _ I hq
  refine wpAny_mono ran (fun o s' hs => ?_) fun e s' hs => hs
  match o, hs with
  | .ret u, ⟨v, σ', H', J, rv, q⟩ => exact ⟨v, H', J.os, J.bare, J.base, J.hok, rv, q⟩
  | .next, ⟨σ', H', J, q⟩ => exact ⟨V.non, H', J.os, J.bare, J.base, J.hok, rfl, q⟩
  | .brk, ⟨_, _, _, q⟩ => exact q.elim
  | .cont, ⟨_, _, _, q⟩ => exact q.elim
end
section
variable {X : Cx} {C : Ct} {k j : Nat} {f a : Addr} {oe : Obj} {fd : FuncData} {ps : List Str} {G : GM} {sp : Sp} {x : Str} {p pos : Pos} {e : Expr} {es : List Expr} {wa : WA} {t : TA} {U : L2.St → XK}
theorem pe_callE (F : FnE X.prog X.w X.K X.mg X.base k f fd ps a oe sp) (hr : L2H.RoomH k X.A) (hp : (a, oe) ∈ X.pn) (hg : Gl X x) (hm : X.mg x = some (.ref f)) (hk : PySem.W.keepIn X.K (.ref f) = true) (hb : L2.Binds X.K fd ps []) (hx : ∀ σ, PassesAt (L2.CX X.prog X.w) X σ (U σ))
    (ha : PA X (e :: es) t) (hdb : (x == ("__debug__" : Str)) = false) (he : starEach (e :: es) X.env = (false, eval e X.env) :: starEach es X.env) (hpl : (backTo pos (starEach es X.env)).any (·.1) = false) :
    PE X (.Call (.Name x p) (e :: es) [] pos) (tCallS sp U t) := by
  refine ⟨fun pins s σ H Q I h => wpAny_Call_Name_kw (ld_glob I hg hm ?_ hdb)⟩
  have go1 := ha.run pos pins s σ H _ I h
  refine PySem.W.callWith_K (h₀ := X.base) I.ok.mod.kin hk (thn go1 fun us s1 ⟨vs, H1, I1, r, q⟩ => ⟨I1.kIn, ?_⟩) he hpl
  have hl : us.length = ps.length := by rw [← r.length]; exact F.len _ _ _ _ q
  have b := hb s1 us I1.kIn (by rw [List.append_nil]; exact hl)
  rw [List.append_nil] at b
  have P1 := I1.pin (a, oe) (List.mem_append_left _ hp)
  have pinned : L2H.PinOk X.stack H1 s1 (a, oe) := ⟨P1.1, P1.2.1, fun hm => (List.mem_cons.mp (I1.stkSub a hm)).elim P1.2.2.1 P1.2.2.2.1, P1.2.2.2.2⟩
  have ran := F.run X.A X.stack s1 H1 ⟨us, []⟩ us vs Q (U σ) hr pinned I1.env0 b r q
  refine wpAny_call (codeAny_mono ran fun o s' hq => ?_)
  match o, hq with
  | .error e, hq => exact hx σ pins H1 s1 e s' I1 hq
  | .ok (.ret u), hq => exact I1.after hq
  | .ok .next, hq => exact hq.elim
  | .ok .brk, hq => exact hq.elim
  | .ok .cont, hq => exact hq.elim
/-- isinstance(e, c), e held in the context -/
theorem call_isH {D : Addr} (c : ExcC X.K D) (hz : Zc (.ref D) none oe) (hf : ∃ vs, oe.data = .fields vs) (hp : (a, oe) ∈ X.pn) : CallR X (.builtin "isinstance") (rIsE X.K D a) := by
  rintro pins s σ H xs us Q I r ⟨c', cv, b, rfl, hcv, e, q⟩
  cases r with
  | cons rx rr => cases rr with
    | cons rt rr =>
      cases rr
      cases rx
      have ec := hcv _ rt
      subst ec
      have hget := (I.pin (a, oe) (List.mem_append_left _ hp)).1
      obtain ⟨vs, hv⟩ := hf
      have J : PySem.W.InstAt s.heap a oe D none := by
        obtain ⟨oc, od, oda, osl⟩ := oe
        obtain ⟨h1, h2⟩ := hz
        dsimp only at h1 h2 hv
        subst h1 h2 hv
        exact ⟨hget, rfl, rfl, trivial⟩
      exact PySem.W.kia_one (PySem.W.handS_kitx_exc c.hg c.hk c.hs c.hd c.ha c.hn c.ht c.hm) I.kIn J e (fun z => nomatch z) fun tk => ⟨.bl b, H, I.kept (t' := tk) fun _ _ z => z, rfl, q⟩
end
/-! ### lists of truth values: count, index, extend -/
section
variable {X : Cx}
theorem dpAll_bls {K : PySem.W.Frag} {H : Hp} : ∀ bs : List Bool, DpAll K H (bs.map V.bl) (bs.map PyData.bool)
  | [] => .nil
  | b :: bs => .cons (.bl b) (dpAll_bls bs)
theorem plain_bls : ∀ bs : List Bool, PyData.plainAll (bs.map PyData.bool) = true
  | [] => rfl
  | b :: bs => by
    have ih := plain_bls bs
    simp only [List.map_cons, PyData.plainAll, PyData.plain]
    simpa using ih
theorem deep_bls : ∀ bs : List Bool, PyData.depthAll (bs.map PyData.bool) = 0
  | [] => rfl
  | b :: bs => by
    have ih := deep_bls bs
    simp only [List.map_cons, PyData.depthAll, PyData.depth]
    omega
theorem mt_countB (hu : X.A.units + 64 < cLine) : MtR X "list.count" (fun x xs H Q => ∃ (p : Addr) (bs : List Bool) (b : Bool), x = .ref p ∧ xs = [.bl b] ∧ SqL X.K H p (bs.map V.bl) ∧ Q (.int (bs.count b : Nat)) H) := by
  rintro pins s σ H x xs v us Q I rx rxs ⟨p, bs, b, rfl, rfl, hs, q⟩
  cases rx
  obtain ⟨u, rfl, ru⟩ := rxs.one
  cases ru
  obtain ⟨its, rv, hl, hlen⟩ := I.list hs
  obtain ⟨as, h4⟩ := Dp.readsAll I _ _ its (dpAll_bls bs) rv
  obtain ⟨cs, h5⟩ := Dp.reads I (.bool b) (.bl b) (.bool b) (.bl b) rfl
  refine PySem.SeqAt.count_list_data hl.isList h4 h5 (plain_bls bs) rfl (by rw [deep_bls]; omega) ?_
  have e : (bs.map PyData.bool).countP (fun y => PyData.eqv y (.bool b)) = bs.count b := by
    rw [List.countP_map]
    show bs.countP _ = bs.countP _
    refine List.countP_congr fun c _ => ?_
    cases b <;> cases c <;> simp [PyData.eqv]
  rw [e]
  exact ⟨.int (bs.count b : Nat), H, I.tok _, ⟨s.toks, rfl⟩, q⟩
end
end DD

namespace DD
open PySem PySem.Spec L2
open PyProof.Rows hiding St
/-! ### which error it is -/
def isa (n m : XN) : Bool := decide (n = m) || (decide (m = .DeskError) && !decide (n = .Stop))
/-- what an error class says when it is asked -/
structure ExcQ (K : PySem.W.Frag) (n : XN) : Prop where
  c : ExcC K (xad K n)
  v : PySem.W.kitOne K (.ref (xad K n)) (.type "ValueError") = some true
structure ExcI (K : PySem.W.Frag) (n m : XN) : Prop where
  kit : PySem.W.kitOne K (.ref (xad K n)) (.ref (xad K m)) = some (isa n m)
structure ExcM (K : PySem.W.Frag) (n m : XN) : Prop where
  exm : PySem.W.exmOne K (.ref (xad K n)) (.ref (xad K m)) = some (isa n m)
def excQB (n : XN) (K : PySem.W.Frag) : Bool :=
  decide (PySem.W.findIn K (.ref (xad K n)) "__getattribute__" = some (some (.builtin "BaseException.__getattribute__"))) && (decide (PySem.W.findIn K (.ref (xad K n)) "__getattr__" = some none) && (decide (PySem.W.subIn K (.ref (xad K n)) (.type "BaseException") = some true) && (PySem.W.hasDictIn K (xad K n) &&
  (decide (PySem.W.findIn K (.ref (xad K n)) "__class__" = some (some (.builtin "object.__class__"))) && (decide (PySem.W.specialIn K (.builtin "object.__class__") "__get__" = some (some (.builtin "getset_descriptor.__get__"))) && (decide (PySem.W.takesIn K (.builtin "object.__class__") = some true) &&
  (decide (PySem.W.mroIn K (xad K n) (.type "object") = some true) && decide (PySem.W.kitOne K (.ref (xad K n)) (.type "ValueError") = some true))))))))
theorem excQ_of {K : PySem.W.Frag} {n : XN} (h : excQB n K = true) : ExcQ K n := by
  obtain ⟨h1, h⟩ := He.ba h
  obtain ⟨h2, h⟩ := He.ba h
  obtain ⟨h3, h⟩ := He.ba h
  obtain ⟨h4, h⟩ := He.ba h
  obtain ⟨h5, h⟩ := He.ba h
  obtain ⟨h6, h⟩ := He.ba h
  obtain ⟨h7, h⟩ := He.ba h
  obtain ⟨h8, h9⟩ := He.ba h
  exact ⟨⟨of_decide_eq_true h1, of_decide_eq_true h2, of_decide_eq_true h3, h4, of_decide_eq_true h5, of_decide_eq_true h6, of_decide_eq_true h7, of_decide_eq_true h8⟩, of_decide_eq_true h9⟩
def excIB (n : XN) : List XN → PySem.W.Frag → Bool
  | [], _ => true
  | m :: ms, K => decide (PySem.W.kitOne K (.ref (xad K n)) (.ref (xad K m)) = some (isa n m)) && excIB n ms K
theorem excI_of {K : PySem.W.Frag} {n : XN} : ∀ {ms : List XN}, excIB n ms K = true → ∀ m ∈ ms, ExcI K n m
  | [], _ => fun m hm => nomatch hm
  | m :: ms, h => by
    obtain ⟨h1, h2⟩ := He.ba h
    intro x hx
    rcases List.mem_cons.mp hx with rfl | hx
    · exact ⟨of_decide_eq_true h1⟩
    · exact excI_of h2 x hx
def excMB (n m : XN) (K : PySem.W.Frag) : Bool := decide (PySem.W.exmOne K (.ref (xad K n)) (.ref (xad K m)) = some (isa n m))
theorem excM_of {K : PySem.W.Frag} {n m : XN} (h : excMB n m K = true) : ExcM K n m := ⟨of_decide_eq_true h⟩
/-! ### isinstance of the error that is held at a -/
/-- what is known of the held object -/
structure Held (X : Cx) (a : Addr) (n : XN) : Prop where
  ex : ∃ oe, (a, oe) ∈ X.pn ∧ Zc (.ref (xad X.K n)) none oe ∧ ∃ vs, oe.data = .fields vs
@[reducible] def wIsX (a : Addr) (b : Bool) (we : WE) : WE := fun env h Q E => we env h (fun d h1 => d = .ref a ∧ Q (.bl b) h1) E
section
variable {X : Cx} {C : Ct} {a : Addr} {n : XN} {e : Expr} {we : WE} {p q pos : Pos} {y : Str}
theorem rd_isX {K : PySem.W.Frag} {cv : Value} {c : V} {b : Bool} {A : Addr} (hc : ∀ u, RelV c u → u = cv) (hk : PySem.W.kitOne K (.ref A) cv = some b) {σ : L2.St} {H : Hp} {Q : VK} {w2 : TA} (h2 : ∀ σ H (Q : List V → Hp → Prop), Q [c] H → w2 σ H Q) :
    RdE K C (wIsX a b we) σ H Q → tCB (rIsE K A a) (tCons (RdE K C we) w2) σ H Q := fun ⟨env, h, Qd, Ed, tk, re, rp, hw, hq, hx⟩ =>
  ⟨env, h, _, Ed, tk, re, rp, hw, fun d h1 v H1 w1 t1 rv rp1 => h2 _ _ _ (by
    obtain ⟨rfl, w1⟩ := w1
    cases rv
    exact ⟨c, cv, b, rfl, hc, hk, hq _ h1 _ H1 w1 t1 (.bl _) rp1⟩), hx⟩
theorem de_isX {m : XN} (k : ExcQ X.K n) (i : ExcI X.K n m) (hd : Held X a n) (hg : Gl X "isinstance") (hm : X.mg "isinstance" = none) (hg2 : Gl X y) (hm2 : X.mg y = some (.ref (xad X.K m))) (ha : DE X C e we)
    (hs : starEach [e, .Name y q] X.env = (false, eval e X.env) :: starEach [.Name y q] X.env := by rfl) (hdb : (y == ("__debug__" : Str)) = false := by decide) :
    DE X C (.Call (.Name "isinstance" p) [e, .Name y q] [] pos) (wIsX a (isa n m) we) := by
  obtain ⟨oe, hp, hz, hf⟩ := hd.ex
  refine pe_imp (pe_callB (call_isH k.c hz hf hp) hg hm (by decide +kernel) (pa_cons ha (pa_cons (pe_glob (v := .ref (xad X.K m)) hg2 hm2 rfl hdb) pa_nil) hs) (he := hs) (hpl := by rfl)) fun σ H Q => rd_isX (c := .ref (xad X.K m)) (cv := .ref (xad X.K m)) (fun u r => r) i.kit fun σ H Q q => q
theorem de_isXV (k : ExcQ X.K n) (hd : Held X a n) (hg : Gl X "isinstance") (hm : X.mg "isinstance" = none) (hg2 : Gl X "ValueError") (hm2 : X.mg "ValueError" = none) (ha : DE X C e we)
    (hs : starEach [e, .Name "ValueError" q] X.env = (false, eval e X.env) :: starEach [.Name "ValueError" q] X.env := by rfl) :
    DE X C (.Call (.Name "isinstance" p) [e, .Name "ValueError" q] [] pos) (wIsX a true we) := by
  obtain ⟨oe, hp, hz, hf⟩ := hd.ex
  refine pe_imp (pe_callB (call_isH k.c hz hf hp) hg hm (by decide +kernel) (pa_cons ha (pa_cons (pe_bltn (v := .ty "ValueError") hg2 hm2 (by decide +kernel) rfl (by decide) (by decide)) pa_nil) hs) (he := hs) (hpl := by rfl)) fun σ H Q => rd_isX (c := .ty "ValueError") (cv := .type "ValueError") (fun u r => r) k.v fun σ H Q q => q
end
theorem rh_units {k : Nat} {A : Around} (r : L2H.RoomH k A) : A.units + 64 < cLine := by
  have := r.un
  omega
/-! ### defs that are handed the held error -/
structure CalE (P : Program) (w : World) (K : PySem.W.Frag) (mg : Str → Option Value) (base : Heap) (k : Nat) (x : Str) (n : XN) (G : Addr → GM) : Prop where
  ex : ∃ f fd ps, (∀ a oe, Zc (.ref (xad K n)) none oe → (∃ vs, oe.data = .fields vs) → FnE P w K mg base k f fd ps a oe (spD K (G a))) ∧ mg x = some (.ref f) ∧ PySem.W.keepIn K (.ref f) = true ∧ L2.Binds K fd ps []
section
variable {X : Cx} {C : Ct} {k j : Nat} {a : Addr} {n : XN} {G : Addr → GM} {x : Str} {p pos : Pos} {e : Expr} {es : List Expr} {wa : WA}
theorem L2H_room {A : Around} (hr : Room j A) (hk : k ≤ j) (v : Value) : L2H.RoomH k (A.mark (some v)) := ⟨(hr.mono hk).dp, (hr.mono hk).un⟩
theorem de_cE (c : CalE X.prog X.w X.K X.mg X.base k x n G) (hd : Held X a n) (hr : L2H.RoomH j X.A) (hk : k ≤ j) (hg : Gl X x) (tk : Takes X (lift X.K C)) (ha : DA X C (e :: es) wa) (hdb : (x == ("__debug__" : Str)) = false := by decide)
    (he : starEach (e :: es) X.env = (false, eval e X.env) :: starEach es X.env := by rfl) (hpl : (backTo pos (starEach es X.env)).any (·.1) = false := by rfl) : DE X C (.Call (.Name x p) (e :: es) [] pos) (wCall (G a) wa) := by
  obtain ⟨f, fd, ps, F, hm, kp, hb⟩ := c.ex
  obtain ⟨oe, hp, hz, hf⟩ := hd.ex
  exact pe_imp (pe_callE (F a oe hz hf) (hr.mono hk) hp hg hm kp hb (fun σ => passAt tk σ) ha hdb he hpl) fun _ _ _ => rd_call
end
theorem cale_of {P : Program} {w : World} {K : PySem.W.Frag} {mg : Str → Option Value} {base : Heap} {k : Nat} {x qual : Str} {n : XN} {G : Addr → GM} {st : Stmt} {f : Addr} {fd : FuncData} {N ps : List Str} {b : Addr → WS}
    (F : FunD K x qual (defArgs st) (defBody st) (defScope st) [] [] f fd) (hm : mg x = some (.ref f)) (Sc : FnScope N ps (defScope st)) (len : ∀ a ds h Q E, G a ds h Q E → ds.length = ps.length)
    (hb : ∀ (kV doc pm : Value) (an : Option Addr) (cdv ct : Value) (us : List Value), us.length = ps.length → bindArgs (PySem.W.fnOf x qual (defArgs st) (defBody st) (defScope st) .none kV doc pm an cdv ct) ⟨us, []⟩ = pure (ps.zip us))
    (der : ∀ (a : Addr) (oe : Obj) (cdv : Value) (A : Around) (outer : List PySem.Env) (s : Shared) (H : Hp) (E : XK), L2H.RoomH k (A.deeper (envOfC qual (defScope st) s.heap.objs.size f cdv)) → Held (cxE P w K mg base N qual (defScope st) f cdv A outer s H E a oe) a n →
      DB (cxE P w K mg base N qual (defScope st) f cdv A outer s H E a oe) ⟨H, fun _ _ _ => False⟩ (defBody st) (b a))
    (vc : ∀ a ds h Q E, G a ds h Q E → b a (dends Q fun _ _ => False) (dstart N.length ds) h) : CalE P w K mg base (k + 1) x n G := by
  refine ⟨f, fd, ps, fun a oe hz hf => fne_of F Sc (fun vs H Q E ⟨ds, h, Qd, Ed, r, _, g, _⟩ => by rw [← r.length]; exact len _ _ _ _ _ g) fun cdv A outer s H vs Q E hr ⟨ds, h, Qd, Ed, r, rp, g, hq, hx⟩ => ?_, hm, F.kp, F.bindsN hb⟩
  refine ⟨_, der a oe cdv A outer s H E hr ⟨oe, List.mem_singleton.mpr rfl, hz, hf⟩, ?_⟩
  refine ⟨dends Qd fun _ _ => False, dstart N.length ds, h, .refl H, .start r, rp, vc a ds h Qd Ed g, ?_, ?_, fun _ _ _ _ z => z.elim, fun _ _ _ _ z => z.elim, ?_⟩
  · exact fun env h1 σ' H' ⟨h2, s2, q⟩ t re rp1 => hq .non h2 .non H' q t .non (rp1.sub s2)
  · exact fun d h1 v H' ⟨h2, s2, q⟩ t rv rp1 => hq d h2 v H' q t rv (rp1.sub s2)
  · exact fun x env h1 ⟨h2, s2, q⟩ => q.elim
/-! ### try .. except M as y: in slot i -/
/-- what is wished behind a suite: its name is gone -/
@[reducible] def goneE (i : Nat) (F : DEnds) : DEnds := { nx := fun e2 h2 => F.nx (e2.set i none) h2, rt := F.rt, bk := fun e2 h2 => F.bk (e2.set i none) h2, ct := fun e2 h2 => F.ct (e2.set i none) h2, xc := fun _ _ _ => False }
/-- ns: the errors that are looked at -/
@[reducible] def wTryAs (i : Nat) (m : XN) (ns : List XN) (b : WS) (s : Addr → XN → WS) : WS := fun F env h =>
  b { F with xc := fun x e1 h1 => x.cls ∈ ns ∧ if isa x.cls m = true then x.fs = none ∧ ∀ a, h1 a = none → s a x.cls (goneE i F) (e1.set i (some (.ref a))) h1 else F.xc x e1 h1 } env h
/-- what the body's exceptions are wished to be -/
def ctW (Hb : Hp) (K : PySem.W.Frag) (W : WX) : Ct := ⟨Hb, fun x env h => ∀ c dd σ H, TK Hb H → RepE K H env σ → Rep K h H → RX K H x c dd → W c dd σ H⟩
theorem lift_ctW {Hb : Hp} {K : PySem.W.Frag} {W : WX} (c : Value) (dd : Option Addr) (σ : L2.St) (H : Hp) (l : lift K (ctW Hb K W) c dd σ H) : W c dd σ H := by
  obtain ⟨x, env, h, t, re, rp, rx, q⟩ := l
  exact q c dd σ H t re rp rx
section
variable {X : Cx} {C : Ct} {i : Nat} {m : XN} {ns : List XN} {x y : Str} {body suite : List Stmt} {b₀ : Stmt} {np pos pos' : Pos} {b : WS} {s : Addr → XN → WS}
theorem ds_tryAs (hs : X.stack = X.env :: X.outer) (hf : X.env.frame = some X.env.locals) (hN : X.N.Nodup) (hi : X.N[i]? = some y) (hln : X.env.kindOf y = some .local) (hc : Names X x (.ref (xad X.K m))) (tk : Takes X (lift X.K C)) (hM : ∀ n ∈ ns, ExcM X.K n m)
    (hb : ∀ (W : WX) (Hb : Hp) (pn : List (Addr × Obj)) (xe : Value → Shared → Prop), Takes (X.tr pn xe) (lift X.K (ctW Hb X.K W)) → PassesOwn (model X.prog X.w) X.A X.env xe → DB (X.tr pn xe) (ctW Hb X.K W) body b)
    (hsu : ∀ (a : Addr) (n : XN) (pn : List (Addr × Obj)) (oe : Obj), n ∈ ns → Held (X.suite a ((a, oe) :: pn)) a n → DB (X.suite a ((a, oe) :: pn)) C.no (b₀ :: suite) (s a n)) :
    DS X C (.Try body [.ExceptHandler (some (.Name x np)) (some y) (b₀ :: suite) pos'] [] [] pos) (wTryAs i m ns b s) := by
  refine ps_imp (ps_try_as (i := i) hs hf hN hi hln hc tk (tb := fun W D σ H => RdS X.K (ctW H X.K W) b D σ H) (ts := fun a cls d D σ H => ∃ n : XN, n ∈ ns ∧ cls = .ref (xad X.K n) ∧ d = none ∧ RdS X.K C.no (s a n) D σ H) (fun W pn xe t p => ⟨fun pins s' σ H D I q => (hb W H pn xe (t.imp lift_ctW) p).run pins s' σ H D I q⟩) fun a oe cls d pn hz hf => ?_) fun D σ H ⟨F, env, h, t, re, rp, hw, b1, b2, b3, b4, b5⟩ => ?_
  · refine ⟨fun pins s' σ H D I ⟨n, hn, e1, e2, q⟩ => ?_⟩
    subst e1 e2
    exact (hsu a n pn oe hn ⟨oe, List.mem_cons_self, hz, hf⟩).run pins s' σ H D I q
  · refine ⟨_, env, h, .refl H, re, rp, hw, b1, b2, b3, b4, fun z e1 h1 q c' dd σ' H' t1 re1 rp1 rx => ?_⟩
    obtain ⟨hz, q⟩ := q
    obtain ⟨rc, rx⟩ := rx
    subst rc
    refine ⟨isa z.cls m, (hM _ hz).exm, fun eb a ha => ?_, fun eb => ?_⟩
    · rw [if_pos eb] at q
      obtain ⟨ef, q⟩ := q
      rw [ef] at rx
      refine ⟨z.cls, hz, rfl, rx, goneE i F, _, h1, t.trans t1, re1.set (.ref a) i, rp1, q a (rp1.free ha), ?_, ?_, ?_, ?_, fun _ _ _ w => w⟩
      · exact fun e2 h2 σ2 H2 q2 t2 r2 p2 => b1 _ h2 _ H2 q2 (t1.trans t2) (r2.del i) p2
      · exact fun d h2 v H2 q2 t2 r2 p2 => b2 d h2 v H2 q2 (t1.trans t2) r2 p2
      · exact fun e2 h2 σ2 H2 q2 t2 r2 p2 => b3 _ h2 _ H2 q2 (t1.trans t2) (r2.del i) p2
      · exact fun e2 h2 σ2 H2 q2 t2 r2 p2 => b4 _ h2 _ H2 q2 (t1.trans t2) (r2.del i) p2
    · rw [eb, if_neg Bool.false_ne_true] at q
      exact ⟨z, e1, h1, t.trans t1, re1, rp1, ⟨rfl, rx⟩, b5 _ _ _ q⟩
end
end DD

namespace DD
open PySem PySem.Spec L2
open PyProof.Rows hiding St
/-! ### more methods of lists -/
def omExtend : OM := fun x ds h Q => match x, ds with
  | .ref a, [.ref b] => (match h a, h b with
    | some (.lst xs), some (.lst ys) => xs.length + ys.length ≤ sizeLine ∧ Q .non (dup h a (.lst (xs ++ ys)))
    | _, _ => False)
  | _, _ => False
def omCountB : OM := fun x ds h Q => match x, ds with
  | .ref a, [.bl b] => ∃ bs : List Bool, h a = some (.lst (bs.map .bl)) ∧ Q (.int (bs.count b : Nat)) h
  | _, _ => False
/-- the first place of an equal one -/
def omIndex : OM := fun x ds h Q => match x, ds with
  | .ref a, [y] => ∃ (xs : List D) (j : Nat) (z : D), h a = some (.lst xs) ∧ (flatD y = true ∧ xs.all flatD = true) ∧ xs[j]? = some z ∧ eqF z y = true ∧ (∀ m z', m < j → xs[m]? = some z' → eqF z' y = false) ∧ Q (.int (j : Nat)) h
  | _, _ => False
section
variable {X : Cx}
theorem dm_extend : DM X "list.extend" omExtend := ⟨rExtend, mt_extend, fun x ds h Qd vx vs H Q ho rx rs rp k => by
  unfold omExtend at ho
  split at ho
  · rename_i a b
    cases rx
    cases rs with
    | cons r t =>
      cases t
      cases r
      split at ho
      · rename_i xs ys e1 e2
        obtain ⟨us, q1, r1⟩ := rp _ _ e1
        obtain ⟨ws, q2, r2⟩ := rp _ _ e2
        refine ⟨a, b, us, ws, rfl, rfl, q1, q2, by rw [← r1.length, ← r2.length]; exact ho.1, ?_⟩
        have t := TK.mut (u := .lst (us ++ ws)) q1 (notT us) (notF us)
        exact k _ _ _ _ ho.2 t .non (rp.mut q1 (notT us) (notF us) ⟨_, upd_same, (r1.append r2).mono t⟩)
      · exact ho.elim
  · exact ho.elim⟩
theorem rvs_bls {K : PySem.W.Frag} {H : Hp} : ∀ {bs : List Bool} {vs : List V}, RVs K H (bs.map .bl) vs → vs = bs.map V.bl
  | [], _, r => by cases r; rfl
  | b :: bs, _, r => by
    cases r with
    | cons r t =>
      cases r
      rw [rvs_bls t]
      rfl
theorem dm_countB (hu : X.A.units + 64 < cLine) : DM X "list.count" omCountB := ⟨_, mt_countB hu, fun x ds h Qd vx vs H Q ho rx rs rp k => by
  unfold omCountB at ho
  split at ho
  · rename_i a b
    cases rx
    cases rs with
    | cons r t =>
      cases t
      cases r
      obtain ⟨bs, e, q⟩ := ho
      obtain ⟨us, q1, r1⟩ := rp _ _ e
      rw [rvs_bls r1] at q1
      exact ⟨a, bs, b, rfl, rfl, .of q1, k _ _ _ _ q (.refl H) (.int _) rp⟩
  · exact ho.elim⟩
theorem dm_index : DM X "list.index" omIndex := ⟨_, mt_index, fun x ds h Qd vx vs H Q ho rx rs rp k => by
  unfold omIndex at ho
  split at ho
  · rename_i a y
    cases rx
    cases rs with
    | cons r t =>
      cases t
      obtain ⟨xs, j, z, e, ⟨fy, fx⟩, e2, e3, e4, q⟩ := ho
      obtain ⟨us, q1, r1⟩ := rp _ _ e
      obtain ⟨vz, e5, rz⟩ := r1.get e2
      have fa : ∀ d ∈ xs, flatD d = true := List.all_eq_true.mp fx
      refine ⟨a, us, _, j, vz, rfl, rfl, .of q1, flat_of r fy, flats_of r1 fx, e5, ?_, fun m z' hm hz' => ?_, k _ _ _ _ q (.refl H) (.int _) rp⟩
      · rw [eqF_of rz r (fa z (List.mem_of_getElem? e2)) fy]
        exact e3
      · have hl : m < xs.length := by
          rw [r1.length]
          exact (List.getElem?_eq_some_iff.mp hz').1
        have ex : xs[m]? = some xs[m] := List.getElem?_eq_getElem hl
        obtain ⟨v2, e6, r6⟩ := r1.get ex
        rw [hz'] at e6
        cases e6
        rw [eqF_of r6 r (fa _ (List.getElem_mem hl)) fy]
        exact e4 m _ hm ex
  · exact ho.elim⟩
end
end DD

namespace DD
open PySem PySem.Spec L2
open PyProof.Rows hiding St
/-! ### dicts: display, look-up -/
def keyD : D → Option DKey
  | .int i => some (.inl i)
  | .str x => some (.inr x)
  | _ => none
def lookK {κ : Type} [DecidableEq κ] : List (κ × D) → κ → Option D
  | [], _ => none
  | p :: r, k => if p.1 = k then some p.2 else lookK r k
def oGet : O2 := fun x y h Q => match x with
  | .ref a => (match h a with
    | some (.dic kvs) => ∃ k d, keyD y = some k ∧ lookK kvs k = some d ∧ Q d h
    | _ => False)
  | _ => False
theorem oGet_dic {h : DH} {a : Addr} {kvs : List (DKey × D)} {y d : D} {k : DKey} {Q : DK} (e : h a = some (.dic kvs)) (hk : keyD y = some k) (hl : lookK kvs k = some d) (q : Q d h) : oGet (.ref a) y h Q := by
  show (match h a with | some (.dic kvs) => _ | _ => False)
  rw [e]
  exact ⟨k, d, hk, hl, q⟩
theorem DKey.inj {a b : DKey} (e : a.k = b.k) : a = b := by
  cases a <;> cases b
  · injection e with e
    rw [e]
  · cases e
  · cases e
  · injection e with e
    injection e with e
    have e2 := congrArg Array.toList e
    simp only [List.toList_toArray] at e2
    rw [e2]
theorem key_V {K : PySem.W.Frag} {H : Hp} {y : D} {v : V} {k : DKey} (e : keyD y = some k) (r : RV K H y v) : v = kV k.k := by
  cases y <;> simp [keyD] at e <;> subst e <;> cases r <;> rfl
theorem look_V {K : PySem.W.Frag} {H : Hp} {k : DKey} {d : D} : ∀ {kvs : List (DKey × D)} {ws : List (Key × V)}, RKW DKey.k K H kvs ws → lookK kvs k = some d → ∃ v, valV ws k.k = some v ∧ RV K H d v
  | p :: r, q :: s, .cons h t, e => by
    unfold lookK at e
    by_cases c : p.1 = k
    · rw [if_pos c] at e
      cases e
      exact ⟨q.2, valV_pos (by rw [← h.1, c]), h.2⟩
    · rw [if_neg c] at e
      obtain ⟨v, h1, h2⟩ := look_V t e
      refine ⟨v, ?_, h2⟩
      rw [valV_neg, h1]
      intro z
      exact c (DKey.inj (h.1.trans z))
section
variable {X : Cx} {C : Ct} {pos : Pos} {a b : Expr} {wa wb : WE}
theorem de_get (hu : X.A.units + 64 < cLine) (ha : DE X C a wa) (hb : DE X C b wb) (hs : NoSl b := by exact fun _ _ => rfl) : DE X C (.Subscript a b pos) (wBin oGet wa wb) :=
  pe_imp (pe_dget (by omega) ha hb hs) fun σ H Q ⟨env, h, Qd, Ed, tk, re, rp, hw, hq, hx⟩ => ⟨env, h, _, Ed, tk, re, rp, hw, fun x h1 vx H1 w1 t1 rx rp1 => ⟨env, h1, _, Ed, tk.trans t1, re.mono t1, rp1, w1, fun y h2 vy H2 w2 t2 ry rp2 => by
    cases x with
    | ref p =>
      cases rx
      have w2 : (match h2 p with | some (.dic kvs) => ∃ k d, keyD y = some k ∧ lookK kvs k = some d ∧ Qd d h2 | _ => False) := w2
      split at w2
      · rename_i kvs e
        obtain ⟨k, d, e1, e2, q⟩ := w2
        obtain ⟨ws, q1, r1⟩ := rp2 _ _ e
        obtain ⟨v, e3, rv⟩ := look_V r1 e2
        refine ⟨p, v, rfl, ?_, hq d h2 v H2 q (t1.trans t2) rv rp2⟩
        rw [key_V e1 ry, ← e3]
        exact .k q1
      · exact w2.elim
    | _ => exact w2.elim, hx⟩, hx⟩
end
/-- k: v, .. of a display -/
@[reducible] def wPairs : List (WE × WE) → Env → DH → (List (D × D) → DH → Prop) → DXK → Prop
  | [], _, h, Q, _ => Q [] h
  | (wk, wv) :: r, env, h, Q, E => wk env h (fun k h1 => wv env h1 (fun v h2 => wPairs r env h2 (fun ps h3 => Q ((k, v) :: ps) h3) E) E) E
/-- the pairs by their keys, no key twice -/
def keysD : List (D × D) → Option (List (DKey × D))
  | [] => some []
  | p :: r => (match keyD p.1, keysD r with
    | some k, some t => some ((k, p.2) :: t)
    | _, _ => none)
@[reducible] def wDct (ps : List (WE × WE)) : WE := fun env h Q E => ∀ p, h p = none → wPairs ps env (dup h p (.dic [])) (fun kv h2 => ∃ kvs, keysD kv = some kvs ∧ (kvs.map (·.1)).Nodup ∧ kvs.length ≤ 15 ∧ h2 p = some (.dic []) ∧ Q (.ref p) (dup h2 p (.dic kvs))) E
theorem merge_nd : ∀ (more acc : List (Key × V)), ((acc ++ more).map (·.1)).Nodup → mergeK acc more = acc ++ more
  | [], acc, _ => by simp [mergeK]
  | q :: more, acc, nd => by
    have e : acc ++ q :: more = (acc ++ [q]) ++ more := by simp
    have hq : (acc.any fun kv => decide (kv.1 = q.1)) = false := by
      rw [List.any_eq_false]
      intro x hx
      simp only [decide_eq_true_eq]
      intro z
      rw [List.map_append, List.nodup_append] at nd
      exact nd.2.2 x.1 (List.mem_map_of_mem hx) q.1 (by simp) z
    have pe : putK acc q.1 q.2 = acc ++ [q] := by
      unfold putK
      rw [hq, if_neg Bool.false_ne_true]
    show mergeK (putK acc q.1 q.2) more = _
    rw [pe, merge_nd more _ (by rw [← e]; exact nd), e]
def RVP (K : PySem.W.Frag) (H : Hp) : List (D × D) → List (V × V) → Prop := Paired fun p q => RV K H p.1 q.1 ∧ RV K H p.2 q.2
theorem RVP.mono {K : PySem.W.Frag} {H H' : Hp} (t : TK H H') {xs : List (D × D)} {ys : List (V × V)} (r : RVP K H xs ys) : RVP K H' xs ys := Paired.mapP r fun _ _ q => ⟨q.1.mono t, q.2.mono t⟩
theorem keys_V {K : PySem.W.Frag} {H : Hp} : ∀ {ps : List (D × D)} {vs : List (V × V)} {kvs : List (DKey × D)}, RVP K H ps vs → keysD ps = some kvs → ∃ ws : List (Key × V), vs = ws.map (fun kv => (kV kv.1, kv.2)) ∧ RKW DKey.k K H kvs ws
  | [], [], _, .nil, e => by
    cases e
    exact ⟨[], rfl, .nil⟩
  | p :: r, q :: s, _, .cons h t, e => by
    unfold keysD at e
    split at e
    · rename_i k u e1 e2
      cases e
      obtain ⟨ws, ev, rw_⟩ := keys_V t e2
      refine ⟨(k.k, q.2) :: ws, ?_, .cons ⟨rfl, h.2⟩ rw_⟩
      rw [ev, List.map_cons, ← key_V e1 h.1]
    · cases e
theorem rkw_keys {K : PySem.W.Frag} {H : Hp} : ∀ {kvs : List (DKey × D)} {ws : List (Key × V)}, RKW DKey.k K H kvs ws → ws.map (·.1) = kvs.map (fun p => p.1.k)
  | [], [], .nil => rfl
  | p :: r, q :: s, .cons h t => by
    rw [List.map_cons, List.map_cons, rkw_keys t, h.1]
theorem nodup_k : ∀ {ks : List DKey}, ks.Nodup → (ks.map DKey.k).Nodup
  | [], _ => List.nodup_nil
  | k :: r, h => by
    rw [List.nodup_cons] at h
    rw [List.map_cons, List.nodup_cons]
    refine ⟨fun z => ?_, nodup_k h.2⟩
    obtain ⟨x, hx, e⟩ := List.mem_map.mp z
    exact h.1 (DKey.inj e ▸ hx)
section
variable {X : Cx} {C : Ct} {pos : Pos}
/-- the pairs' derivations -/
structure DPs (X : Cx) (C : Ct) (pos : Pos) (keys : List (Option Expr)) (vals : List Expr) (ps : List (WE × WE)) : Prop where
  pp : PPs X pos keys vals (ps.map fun q => (RdE X.K C q.1, RdE X.K C q.2))
theorem dps_nil : DPs X C pos [] [] [] := ⟨pps_nil⟩
theorem dps_cons {k v : Expr} {ks : List (Option Expr)} {vs : List Expr} {wk wv : WE} {ps : List (WE × WE)} (hk : DE X C k wk) (hv : DE X C v wv) (hr : DPs X C pos ks vs ps) : DPs X C pos (some k :: ks) (v :: vs) ((wk, wv) :: ps) := ⟨pps_cons hk hv hr.pp⟩
theorem rd_pairs {K : PySem.W.Frag} {σ : L2.St} {env : Env} {Ed : DXK} : ∀ {ps : List (WE × WE)} {h : DH} {H : Hp} {Qd : List (D × D) → DH → Prop} {Q : List (V × V) → Hp → Prop}, TK C.Hb H → RepE K H env σ → Rep K h H → wPairs ps env h Qd Ed →
    (∀ kv h' vs H', Qd kv h' → TK H H' → RVP K H' kv vs → Rep K h' H' → Q vs H') → (∀ x h', Ed x h' → C.Wd x env h') → tPairs (ps.map fun q => (RdE K C q.1, RdE K C q.2)) σ H Q
  | [], h, H, Qd, Q, tk, re, rp, hw, hq, hx => hq [] h [] H hw (.refl H) .nil rp
  | (wk, wv) :: r, h, H, Qd, Q, tk, re, rp, hw, hq, hx => ⟨env, h, _, Ed, tk, re, rp, hw, fun k h1 vk H1 w1 t1 rk rp1 => ⟨env, h1, _, Ed, tk.trans t1, re.mono t1, rp1, w1, fun v h2 vv H2 w2 t2 rv rp2 =>
      rd_pairs ((tk.trans t1).trans t2) ((re.mono t1).mono t2) rp2 w2 (fun kv h' vs H' q t rr rp' => hq _ h' _ H' q ((t1.trans t2).trans t) (.cons ⟨(rk.mono t2).mono t, rv.mono t⟩ rr) rp') hx, hx⟩, hx⟩
theorem de_dct {keys : List (Option Expr)} {vals : List Expr} {ps : List (WE × WE)} (h : DPs X C pos keys vals ps) (hall : keys.all (·.isSome) = true) (hl : keys.length = vals.length) (h0 : keys ≠ []) (h15 : keys.length ≤ 15) : DE X C (.Dict keys vals pos) (wDct ps) :=
  pe_imp (pe_disp h.pp hall hl h0 h15) fun σ H Q ⟨env, h, Qd, Ed, tk, re, rp, hw, hq, hx⟩ => fun p hp => by
    have t0 : TK H (upd H p (.dK [])) := .new hp
    refine rd_pairs (tk.trans t0) (re.mono t0) (rp.new (u := .dic []) hp ⟨[], upd_same, .nil⟩) (hw p (rp.free hp)) (fun kv h2 vs H2 q t rr rp2 => ?_) hx
    obtain ⟨kvs, e1, nd, l, ep, q⟩ := q
    obtain ⟨ws, ev, rk⟩ := keys_V rr e1
    obtain ⟨ws0, e0, r0⟩ := rp2 _ _ ep
    cases r0
    have lw : ws.length = kvs.length := by
      have := congrArg List.length (rkw_keys rk)
      simpa using this
    have ndw : (ws.map (·.1)).Nodup := by
      rw [rkw_keys rk]
      have := nodup_k nd
      rw [List.map_map] at this
      exact this
    have em : mergeK [] ws = ws := merge_nd ws [] ndw
    refine ⟨e0, ws, ev, by omega, ?_⟩
    rw [em]
    have tm : TK H2 (upd H2 p (.dK ws)) := .mut e0 (fun _ z => nomatch z) (fun _ _ z => nomatch z)
    exact hq _ _ _ _ q ((t0.trans t).trans tm) (.ref p) (rp2.mut e0 (fun _ z => nomatch z) (fun _ _ z => nomatch z) (show RO X.K _ p (.dic kvs) from ⟨ws, upd_same, RKW.mono tm rk⟩))
end
end DD

namespace DD
open PySem PySem.Spec L2
open PyProof.Rows hiding St
/-! ### functions as values -/
theorem gv_fn {K : PySem.W.Frag} {mg : Str → Option Value} {x : String} (hm : mg (Str.ofString x) = some (.ref (He.ga K (Str.ofString x)))) : GV K mg (Str.ofString x) (.fn x) := ⟨_, .ref _, hm, rfl, fun _ => .fn x⟩
/-- a def that may be called by its value -/
structure CalF (P : Program) (w : World) (K : PySem.W.Frag) (mg : Str → Option Value) (base : Heap) (j : Nat) (q : String × GM) : Prop where
  ex : ∃ k, k ≤ j ∧ CalD P w K mg base k (Str.ofString q.1) q.2
  g : mg (Str.ofString q.1) = some (.ref (He.ga K (Str.ofString q.1)))
structure CalFK (P : Program) (w : World) (K : PySem.W.Frag) (mg : Str → Option Value) (base : Heap) (j n : Nat) (y : Str) (q : String × GM) : Prop where
  ex : ∃ k dv, k ≤ j ∧ CalK P w K mg base k (Str.ofString q.1) n y dv q.2
  g : mg (Str.ofString q.1) = some (.ref (He.ga K (Str.ofString q.1)))
theorem lookup_mem {x : String} {G : GM} : ∀ {tab : List (String × GM)}, tab.lookup x = some G → (x, G) ∈ tab
  | (y, G') :: r, h => by
    unfold List.lookup at h
    split at h
    · rename_i e
      cases h
      have : x = y := by simpa using e
      rw [this]
      exact List.mem_cons_self
    · exact List.mem_cons_of_mem _ (lookup_mem h)
@[reducible] def wCallT (tab : List (String × GM)) (wf : WE) (wa : WA) : WE := fun env h Q E => wf env h (fun d h1 => ∃ x G, d = .fn x ∧ tab.lookup x = some G ∧ wa env h1 (fun ds h2 => G ds h2 Q E) E) E
@[reducible] def wCallTK (n : Nat) (tab : List (String × GM)) (wf : WE) (wa wk : WA) : WE := fun env h Q E => wf env h (fun d h1 => ∃ x G, d = .fn x ∧ tab.lookup x = some G ∧ wa env h1 (fun ds h2 => wk env h2 (fun es h3 => ds.length = n ∧ es.length = 1 ∧ G (ds ++ es) h3 Q E) E) E) E
section
variable {X : Cx} {C : Ct} {j n : Nat} {y : Str} {tab : List (String × GM)} {pos : Pos} {ef e : Expr} {es : List Expr} {wf : WE} {wa wk : WA} {kws : List Keyword}
theorem de_cv (hf : DE X C ef wf) (ht : ∀ q ∈ tab, CalF X.prog X.w X.K X.mg X.base j q) (hr : Room j X.A) (tk : Takes X (lift X.K C)) (ha : DA X C (e :: es) wa)
    (hev : eval (.Call ef (e :: es) [] pos) X.env = (do callWith pos (← eval ef X.env) [] (backTo pos (starEach (e :: es) X.env)) (backToKw pos (keywordEach [] X.env))) := by rfl)
    (he : starEach (e :: es) X.env = (false, eval e X.env) :: starEach es X.env := by rfl) (hpl : (backTo pos (starEach es X.env)).any (·.1) = false := by rfl) : DE X C (.Call ef (e :: es) [] pos) (wCallT tab wf wa) := by
  refine ⟨fun pins s σ H Q I ⟨env, h, Qd, Ed, tb, re, rp, hw, hq, hx⟩ => ?_⟩
  rw [hev]
  have go0 := hf.run pins s σ H (fun v H1 => ∃ x G h1, v = .ref (He.ga X.K (Str.ofString x)) ∧ tab.lookup x = some G ∧ TK H H1 ∧ Rep X.K h1 H1 ∧ wa env h1 (fun ds h2 => G ds h2 Qd Ed) Ed) I
    ⟨env, h, _, Ed, tb, re, rp, hw, fun d h1 v H1 ⟨x, G, e1, e2, w1⟩ t1 rv rp1 => by
      subst e1
      cases rv
      exact ⟨x, G, h1, rfl, e2, t1, rp1, w1⟩, hx⟩
  refine wpAny_bind (thn go0 fun u s0 ⟨v, H0, I0, r0, x, G, h1, ev, el, t1, rp1, w1⟩ => ?_)
  subst ev
  obtain rfl : u = Value.ref _ := r0
  obtain ⟨⟨k, hk, c⟩, gx⟩ := ht _ (lookup_mem el)
  obtain ⟨f, fd, ps, F, hm, kp, hb⟩ := c.ex
  have ef : f = He.ga X.K (Str.ofString x) := by
    have z := hm.symm.trans gx
    injection z with z
    injection z
  subst ef
  have go1 := ha.run pos pins s0 σ H0 (fun vs H1 => spD X.K G vs H1 Q (L2.WE (lift X.K C) σ)) I0 ⟨env, h1, _, Ed, tb.trans t1, re.mono t1, rp1, w1, fun ds h2 vs H2 w2 t2 rs rp2 =>
    ⟨ds, h2, Qd, Ed, rs, rp2, w2, fun d h' v H' q t r p => hq d h' v H' q ((t1.trans t2).trans t) r p, fun z h' c dd H' q t rx p => ⟨z, env, h', ((tb.trans t1).trans t2).trans t, ((re.mono t1).mono t2).mono t, p, rx, hx z h' q⟩⟩, hx⟩
  refine PySem.W.callWith_K (h₀ := X.base) I0.ok.mod.kin kp (thn go1 fun us s1 ⟨vs, H1, I1, r, q⟩ => ⟨I1.kIn, ?_⟩) he hpl
  exact run_fnS F (hr.mono hk) hb (passAt tk σ) I1 r q
theorem de_cvk (hf : DE X C ef wf) (ht : ∀ q ∈ tab, CalFK X.prog X.w X.K X.mg X.base j n y q) (hr : Room j X.A) (tk : Takes X (lift X.K C)) (ha : DA X C (e :: es) wa) (hkw : DKw X C kws wk)
    (hev : eval (.Call ef (e :: es) kws pos) X.env = (do callWith pos (← eval ef X.env) [] (backTo pos (starEach (e :: es) X.env)) (backToKw pos (keywordEach kws X.env))) := by rfl)
    (hall : (backToKw pos (keywordEach kws X.env)).all (·.1.isSome) = true := by rfl) (hks : (backToKw pos (keywordEach kws X.env)).filterMap (·.1) = [y] := by rfl)
    (he : starEach (e :: es) X.env = (false, eval e X.env) :: starEach es X.env := by rfl)
    (hpl : ((backTo pos (starEach (e :: es) X.env)).any (·.1) || (backToKw pos (keywordEach kws X.env)).any (·.1.isNone)) = false := by rfl) : DE X C (.Call ef (e :: es) kws pos) (wCallTK n tab wf wa wk) := by
  refine ⟨fun pins s σ H Q I ⟨env, h, Qd, Ed, tb, re, rp, hw, hq, hx⟩ => ?_⟩
  rw [hev]
  have go0 := hf.run pins s σ H (fun v H1 => ∃ x G h1, v = .ref (He.ga X.K (Str.ofString x)) ∧ tab.lookup x = some G ∧ TK H H1 ∧ Rep X.K h1 H1 ∧ wa env h1 (fun ds h2 => wk env h2 (fun es h3 => ds.length = n ∧ es.length = 1 ∧ G (ds ++ es) h3 Qd Ed) Ed) Ed) I
    ⟨env, h, _, Ed, tb, re, rp, hw, fun d h1 v H1 ⟨x, G, e1, e2, w1⟩ t1 rv rp1 => by
      subst e1
      cases rv
      exact ⟨x, G, h1, rfl, e2, t1, rp1, w1⟩, hx⟩
  refine wpAny_bind (thn go0 fun u s0 ⟨v, H0, I0, r0, x, G, h1, ev, el, t1, rp1, w1⟩ => ?_)
  subst ev
  obtain rfl : u = Value.ref _ := r0
  obtain ⟨⟨k, dv, hk, c⟩, gx⟩ := ht _ (lookup_mem el)
  obtain ⟨f, fd, ps, v, F, hm, kp, rv, _, mv, hb⟩ := c.ex
  have ef : f = He.ga X.K (Str.ofString x) := by
    have z := hm.symm.trans gx
    injection z with z
    injection z
  subst ef
  have go1 := ha.run pos pins s0 σ H0 (fun vs H1 => ∃ ds h2, RVs X.K H1 ds vs ∧ TK H0 H1 ∧ Rep X.K h2 H1 ∧ wk env h2 (fun es h3 => ds.length = n ∧ es.length = 1 ∧ G (ds ++ es) h3 Qd Ed) Ed) I0
    ⟨env, h1, _, Ed, tb.trans t1, re.mono t1, rp1, w1, fun ds h2 vs H2 w2 t2 rs rp2 => ⟨ds, h2, rs, t2, rp2, w2⟩, hx⟩
  refine PySem.W.callWith_KW (h₀ := X.base) I0.ok.mod.kin kp hall (thn go1 fun us s1 ⟨vs, H1, I1, r, ds, h2, rs, t2, rp2, w2⟩ => ?_) hpl he
  have go2 := hkw.run pos pins s1 σ H1 (fun zs H2 => vs.length = n ∧ zs.length = 1 ∧ spD X.K G (vs ++ zs) H2 Q (L2.WE (lift X.K C) σ)) I1 ⟨env, h2, _, Ed, (tb.trans t1).trans t2, (re.mono t1).mono t2, rp2, w2, fun es h3 zs H3 ⟨l1, l2, w3⟩ t3 rz rp3 =>
    ⟨by rw [← rs.length]; exact l1, by rw [← rz.length]; exact l2, ds ++ es, h3, Qd, Ed, (rs.mono t3).append rz, rp3, w3, fun d h' v H' q t r p => hq d h' v H' q (((t1.trans t2).trans t3).trans t) r p, fun z h' c dd H' q t rx p => ⟨z, env, h', (((tb.trans t1).trans t2).trans t3).trans t, (((re.mono t1).mono t2).mono t3).mono t, p, rx, hx z h' q⟩⟩, hx⟩
  refine thn go2 fun ws s2 ⟨zs, H2, I2, rz, l1, l2, q2⟩ => ⟨I2.kIn, ?_⟩
  rw [hks]
  exact run_kw F (hr.mono hk) hb (passAt tk σ) I2 r rz l1 l2 q2
end
end DD

namespace DD
open PySem PySem.Spec L2
open PyProof.Rows hiding St
/-! ### text.index(sign), the sign being there -/
theorem occ_full (s sub : Str) (hi : Nat) : ∀ (l : List Nat) (st : Array Nat × Nat), st.fst.size = 1 → (forIn l st (PySem.StrLaws.occBody s sub hi 1)).run.fst = st.fst
  | [], _, _ => rfl
  | a :: l, st, h => by
    rw [List.forIn_cons]
    unfold PySem.StrLaws.occBody
    rw [if_neg (by rw [h]; omega)]
    exact occ_full s sub hi l _ h
theorem occ_first (x : List Nat) (c k : Nat) (hk : x[k]? = some c) : ∀ (m lo free : Nat), free ≤ lo → lo ≤ k → k < lo + m → (∀ j, lo ≤ j → j < k → x[j]? ≠ some c) →
    (forIn (List.range' lo m) ((#[] : Array Nat), free) (PySem.StrLaws.occBody ⟨x.toArray⟩ ⟨#[c]⟩ (⟨x.toArray⟩ : Str).length 1)).run.fst = #[k]
  | 0, lo, free, _, _, _, _ => by omega
  | m + 1, lo, free, h0, h1, h2, h3 => by
    rw [List.range'_succ, List.forIn_cons]
    unfold PySem.StrLaws.occBody
    have hs := PySem.StrLaws.subAt_one ⟨x.toArray⟩ c lo
    by_cases e : lo = k
    · subst e
      have hs := hs.mpr hk
      rw [if_pos ⟨⟨⟨by simp, h0⟩, hs.1⟩, hs.2⟩]
      exact occ_full _ _ _ _ _ (by simp)
    · have hn := h3 lo (Nat.le_refl _) (by omega)
      rw [if_neg fun z => hn (hs.mp ⟨z.1.2, z.2⟩)]
      exact occ_first x c k hk m (lo + 1) free (by omega) (by omega) (by omega) fun j hj hk' => h3 j (by omega) hk'
theorem occ1 (x : List Nat) (c k : Nat) (hk : x[k]? = some c) (h : ∀ j, j < k → x[j]? ≠ some c) : Builtin.Str.occurrences ⟨x.toArray⟩ ⟨#[c]⟩ 0 (⟨x.toArray⟩ : Str).length 1 = [k] := by
  rw [PySem.StrLaws.occ_eq, occ_first x c k hk _ 0 0 (Nat.le_refl _) (Nat.zero_le _) (by
    have := (List.getElem?_eq_some_iff.mp hk).1
    rw [str_len]
    omega) fun j _ hj => h j hj]
def omSindex : OM := fun x ds h Q => match x, ds with
  | .str s, [.str [c]] => ∃ k : Nat, s[k]? = some c ∧ (∀ j, j < k → s[j]? ≠ some c) ∧ Q (.int k) h
  | _, _ => False
theorem dm_sindex {X : Cx} : DM X "str.index" omSindex := ⟨_, mt_sindex, fun x ds h Qd vx vs H Q ho rx rs rp k => by
  unfold omSindex at ho
  split at ho
  · rename_i s c
    cases rx with
    | str _ hs => cases rs with
      | cons r t =>
        cases t
        cases r with
        | str _ hc =>
          obtain ⟨i, hi, hj, q⟩ := ho
          exact ⟨_, _, i, [], rfl, rfl, occ1 s c i hi hj, k _ _ _ _ q (.refl H) (.int _) rp⟩
  · exact ho.elim⟩
end DD

namespace DD
open PySem PySem.Spec L2
open PyProof.Rows hiding St
/-! ### x, *y = s -/
section
variable {prog : Program} {w : World} {A : Around} {E : Value → Shared → Prop} {s : Shared}
theorem star_tail {l it : Addr} {x : Value} {items : List Value} {rest : List Value} {Q : List Value → Shared → Prop} (e : items = x :: rest) (hz : rest.length ≤ sizeLine)
    (h : Q [x, .ref s.heap.objs.size] { s with heap := s.heap.push { cls := .type "list", data := .seq rest.toArray } }) :
    wpAny (model prog w) A (newList (rest.take (rest.length - 0)) >>= fun d => pure ([x] ++ [d] ++ rest.drop (rest.length - 0))) Q E s := by
  rw [Nat.sub_zero, List.take_length, List.drop_length]
  exact wpAny_bind (wpAny_newList (wpAny_pure h) hz)
theorem star_takeL {l : Addr} {items : Array Value} {x : Value} {rest : List Value} {Q : List Value → Shared → Prop} (hl : s.heap.IsList l items) (hh : A.handled = none) (e : items.toList = x :: rest) (hz : items.size ≤ 16384)
    (h : ∀ (h' : Heap) (tk : Nat), (∀ b o, s.heap.get? b = some o → h'.get? b = some o) → Q [x, .ref h'.objs.size] { s with heap := h'.push { cls := .type "list", data := .seq rest.toArray }, toks := tk }) :
    wpAny (model prog w) A (unpackItems (.ref l) 2 (some 1)) Q E s := by
  have hlen : items.size = rest.length + 1 := by rw [← Array.length_toList, e]; rfl
  have hlt : l ≠ s.heap.objs.size := by obtain ⟨o, ho, _⟩ := hl; exact Nat.ne_of_lt (Heap.lt_size ho)
  have hll : l < s.heap.objs.size := by obtain ⟨o, ho, _⟩ := hl; exact Heap.lt_size ho
  unfold unpackItems
  refine wpAny_bind ?_
  unfold notIterableAtAll
  refine wpAny_bind (wpAny_specialOf hl.typeIs slot_list_iter.lookup (wpAny_pure ?_))
  simp only [Bool.false_eq_true, if_false]
  refine wpAny_bind (wpAny_holding (wpAny_pyIter_list hl ?_))
  refine wpAny_bind (wpAny_holding (PySem.W.kun_draw hlt 1 0 _ _ ⟨_, Heap.get?_push_size _ rfl, rfl, rfl⟩ (hl.push _) (by omega) fun h₁ hit hs => ?_))
  have hl₁ : h₁.IsList l items := (hl.push _).extBut hs.extBut hlt
  rw [Nat.zero_add] at hit
  have hit' := hit
  obtain ⟨oi, hoi, _⟩ := hit'
  have hl₁' := hl₁
  obtain ⟨ol, hol, _⟩ := hl₁'
  have e1 : (items.toList.drop 0).take 1 = [x] := by rw [e]; rfl
  have e2 : items.toList.drop 1 = rest := by rw [e]; rfl
  rw [e1]
  rw [if_neg (show ¬ (([x] : List Value).length < 1) by simp)]
  refine wpAny_bind (wpAny_holding (PySem.W.kun_collect (s := { s with heap := h₁ }) (T := "list_iterator") (.inr (.inr (.inl rfl))) (Walks.list (A := A.in1) hh s.heap.objs.size l hlt items) (fun j u st => st.1.typeIs) (k := 1) (by omega) ⟨hit, hl₁⟩ (Heap.lt_size hoi) (Heap.lt_size hol) (fun h₂ tk hk => ?_) (by rw [sizeLine_eq]; omega)))
  rw [e2]
  have keep : ∀ b o, s.heap.get? b = some o → h₂.get? b = some o := fun b o eb => hk b o (Nat.ne_of_lt (Heap.lt_size eb)) (hs.extBut b o (Nat.ne_of_lt (Heap.lt_size eb)) (Heap.get?_push_of_some _ eb))
  show wpAny _ _ (if rest.length < 2 - 1 - 1 then _ else _) _ _ _
  rw [if_neg (by omega)]
  exact star_tail (l := l) (it := l) (s := { s with heap := h₂, toks := tk }) rfl (by rw [sizeLine_eq]; omega) (h h₂ tk keep)
theorem star_takeT {l : Addr} {items : Array Value} {x : Value} {rest : List Value} {Q : List Value → Shared → Prop} (hl : IsTup s.heap l items) (hh : A.handled = none) (e : items.toList = x :: rest) (hz : items.size ≤ 16384)
    (h : ∀ (h' : Heap) (tk : Nat), (∀ b o, s.heap.get? b = some o → h'.get? b = some o) → Q [x, .ref h'.objs.size] { s with heap := h'.push { cls := .type "list", data := .seq rest.toArray }, toks := tk }) :
    wpAny (model prog w) A (unpackItems (.ref l) 2 (some 1)) Q E s := by
  have hlen : items.size = rest.length + 1 := by rw [← Array.length_toList, e]; rfl
  have hlt : l ≠ s.heap.objs.size := by obtain ⟨o, ho, _⟩ := hl; exact Nat.ne_of_lt (Heap.lt_size ho)
  have hll : l < s.heap.objs.size := by obtain ⟨o, ho, _⟩ := hl; exact Heap.lt_size ho
  unfold unpackItems
  refine wpAny_bind ?_
  unfold notIterableAtAll
  refine wpAny_bind (wpAny_specialOf hl.typeIs slot_tuple_iter.lookup (wpAny_pure ?_))
  simp only [Bool.false_eq_true, if_false]
  refine wpAny_bind (wpAny_holding (iter_tuple hl ?_))
  refine wpAny_bind (wpAny_holding (draw_tuple hlt 1 0 _ _ ⟨_, Heap.get?_push_size _ rfl, rfl, rfl⟩ (hl.push _) (by omega) fun h₁ hit hs => ?_))
  have hl₁ : IsTup h₁ l items := (hl.push _).extBut hs.extBut hlt
  rw [Nat.zero_add] at hit
  have hit' := hit
  obtain ⟨oi, hoi, _⟩ := hit'
  have hl₁' := hl₁
  obtain ⟨ol, hol, _⟩ := hl₁'
  have e1 : (items.toList.drop 0).take 1 = [x] := by rw [e]; rfl
  have e2 : items.toList.drop 1 = rest := by rw [e]; rfl
  rw [e1]
  rw [if_neg (show ¬ (([x] : List Value).length < 1) by simp)]
  refine wpAny_bind (wpAny_holding (PySem.W.kun_collect (s := { s with heap := h₁ }) (T := "tuple_iterator") (.inr (.inr (.inr rfl))) (Walks.tuple (A := A.in1) hh s.heap.objs.size l hlt items) (fun j u st => st.1.typeIs) (k := 1) (by omega) ⟨hit, hl₁⟩ (Heap.lt_size hoi) (Heap.lt_size hol) (fun h₂ tk hk => ?_) (by rw [sizeLine_eq]; omega)))
  rw [e2]
  have keep : ∀ b o, s.heap.get? b = some o → h₂.get? b = some o := fun b o eb => hk b o (Nat.ne_of_lt (Heap.lt_size eb)) (hs.extBut b o (Nat.ne_of_lt (Heap.lt_size eb)) (Heap.get?_push_of_some _ eb))
  show wpAny _ _ (if rest.length < 2 - 1 - 1 then _ else _) _ _ _
  rw [if_neg (by omega)]
  exact star_tail (l := l) (it := l) (s := { s with heap := h₂, toks := tk }) rfl (by rw [sizeLine_eq]; omega) (h h₂ tk keep)
end
def gStar (K : PySem.W.Frag) (i j : Nat) : TG := fun v σ H Q => ∃ (a : Addr) (x : V) (xs : List V), v = .ref a ∧ (SqT K H a (x :: xs) ∨ SqL K H a (x :: xs)) ∧ xs.length ≤ 16000 ∧ ∀ p, H p = none → Q ((σ.set i (some x)).set j (some (.ref p))) (upd H p (.lst xs))
theorem pg_star {X : Cx} {i j : Nat} {x y : Str} {px py ps pos : Pos} {k : Nat} (hc : X.calm = true) (hN : X.N.Nodup) (hi : X.N[i]? = some x) (hj : X.N[j]? = some y) (hx : Loc X.env.scope x) (hy : Loc X.env.scope y)
    (fx : X.fn x = true ∨ X.env.scope.names.lookup x = some .local := by first | exact .inl rfl | exact .inr rfl | assumption) (fy : X.fn y = true ∨ X.env.scope.names.lookup y = some .local := by first | exact .inl rfl | exact .inr rfl | assumption) :
    PG X (.Tuple [.Name x px, .Starred (.Name y py) ps] k pos) (gStar X.K i j) := by
  refine ⟨fun pins s σ H v u Q I r hw => ?_⟩
  obtain ⟨a, z, zs, rfl, hq, hz, hw⟩ := hw
  cases r
  have fin : ∀ (zv : Value) (rest : List Value) (h' : Heap) (tk : Nat), RelV z zv → Vals zs rest → (∀ b o, s.heap.get? b = some o → h'.get? b = some o) →
      wpAny (model X.prog X.w) X.A (assignInOrder [assign (.Name x px) X.env, assign (.Name y py) X.env] [zv, .ref h'.objs.size]) (fun _ s1 => ∃ σ' H', Inv X pins σ' H' s1 ∧ Q σ' H') X.xe { s with heap := h'.push { cls := .type "list", data := .seq rest.toArray }, toks := tk } := by
    intro zv rest h' tk rz rr keep
    have I1 : Inv X pins σ H { s with heap := h', toks := tk } := I.kept keep
    have hf : H h'.objs.size = none := I1.hok.fresh (Nat.le_refl _)
    have I2 : Inv X pins σ (upd H h'.objs.size (.lst zs)) { s with heap := h'.push { cls := .type "list", data := .seq rest.toArray }, toks := tk } :=
      I1.laid (t' := tk) (fun b u e => Heap.get?_push_of_some _ e) (Nat.le_refl _) ⟨Nat.le_trans hz (by decide), rest, 0, rr, Heap.get?_push_size _ rfl⟩
    refine assignInOrder_cons ?_
    refine wpAny_assign_Name (store_ok I2 hN hi hx rz (fun s2 I3 => ?_) fx)
    refine assignInOrder_cons ?_
    refine wpAny_assign_Name (store_ok (v := .ref h'.objs.size) I3 hN hj hy rfl (fun s3 I4 => ?_) fy)
    exact assignInOrder_nil ⟨_, _, I4, hw _ hf⟩
  have start : assign (.Tuple [.Name x px, .Starred (.Name y py) ps] k pos) X.env (.ref a) = (do standAt pos; unpack (.ref a) (assignEach [.Name x px, .Starred (.Name y py) ps] X.env)) := rfl
  rw [start]
  refine wpAny_bind (wpAny_standAt ?_)
  unfold unpack
  rcases hq with hq | hq
  · obtain ⟨its, rv, ht, hsz⟩ := I.tuple hq
    cases rv with
    | cons r1 rr =>
      exact wpAny_bind (wpAny_holding (star_takeT ht (I.ok.hd hc) rfl (by
        have := rr.length
        simp only [List.size_toArray, List.length_cons]
        omega) fun h' tk keep => fin _ _ h' tk r1 rr keep))
  · obtain ⟨its, rv, p, hsz⟩ := I.list hq
    cases rv with
    | cons r1 rr =>
      exact wpAny_bind (wpAny_holding (star_takeL p.isList (I.ok.hd hc) rfl (by
        have := rr.length
        simp only [List.size_toArray, List.length_cons]
        omega) fun h' tk keep => fin _ _ h' tk r1 rr keep))
/-- x, *y = a tuple or a list -/
@[reducible] def wgStar (i j : Nat) : WG := fun d env h Q _ => ∃ x xs, xs.length ≤ 16000 ∧ (d = .tup (x :: xs) ∨ (∃ a, d = .ref a ∧ h a = some (.lst (x :: xs)))) ∧ ∀ p, h p = none → Q ((env.set i (some x)).set j (some (.ref p))) (dup h p (.lst xs))
theorem dg_star {X : Cx} {C : Ct} {i j : Nat} {x y : Str} {px py ps pos : Pos} {k : Nat} (hc : X.calm = true) (hN : X.N.Nodup) (hi : X.N[i]? = some x) (hj : X.N[j]? = some y) (hx : Loc X.env.scope x) (hy : Loc X.env.scope y)
    (fx : X.fn x = true ∨ X.env.scope.names.lookup x = some .local := by first | exact .inl rfl | exact .inr rfl | assumption) (fy : X.fn y = true ∨ X.env.scope.names.lookup y = some .local := by first | exact .inl rfl | exact .inr rfl | assumption) :
    DGt X C (.Tuple [.Name x px, .Starred (.Name y py) ps] k pos) (wgStar i j) :=
  pg_imp (pg_star hc hN hi hj hx hy fx fy) fun v σ H Q ⟨d, env, h, Qd, Ed, tk, re, rp, rv, hw, hq, hx⟩ => by
    obtain ⟨x, xs, hl, hd, hw⟩ := hw
    have go : ∀ (a : Addr) (vx : V) (vs : List V), v = .ref a → RV X.K H x vx → RVs X.K H xs vs → (SqT X.K H a (vx :: vs) ∨ SqL X.K H a (vx :: vs)) → gStar X.K i j v σ H Q := by
      intro a vx vs e r1 rr hs
      refine ⟨a, vx, vs, e, hs, by rw [← rr.length]; exact hl, fun p hp => ?_⟩
      exact hq _ _ _ _ (hw p (rp.free hp)) (.new hp) ((((re.mono (.new hp)).set (r1.mono (.new hp)) i)).set (.ref p) j) (rp.new hp (.newL hp rr))
    rcases hd with rfl | ⟨a, rfl, ha⟩
    · cases rv with
      | tup sx rx => cases rx with
        | cons r1 rr => exact go _ _ _ rfl r1 rr (.inl sx)
    · cases rv
      obtain ⟨vs, q1, rr⟩ := rp _ _ ha
      cases rr with
      | cons r1 rr => exact go _ _ _ rfl r1 rr (.inr (.of q1))
end DD

namespace DD
open PySem PySem.Spec L2
open PyProof.Rows hiding St
/-! ### try with several clauses, each with a name or without -/
/-- a clause: the class, the slot of its name, its suite's reading -/
abbrev Cl := Value × Option Nat × (Addr → Value → Option Addr → TS)
def goneV (i : Nat) (D : Ends) : Ends := { nx := fun σ' H' => D.nx (σ'.set i none) H', rt := D.rt, bk := fun σ' H' => D.bk (σ'.set i none) H', ct := fun σ' H' => D.ct (σ'.set i none) H' }
def clGo (o : Option Nat) (ts : Addr → Value → Option Addr → TS) (D : Ends) (a : Addr) (cls : Value) (d : Option Addr) (σ : L2.St) (H : Hp) : Prop := match o with
  | none => ts a cls d D σ H
  | some i => ts a cls d (goneV i D) (σ.set i (some (.ref a))) H
def wCls (K : PySem.W.Frag) (Wout : WX) (D : Ends) : List Cl → WX
  | [] => Wout
  | (c, o, ts) :: r => fun cls d σ H => ∃ b, PySem.W.exmOne K cls c = some b ∧ (b = true → ∀ a, H a = none → clGo o ts D a cls d σ H) ∧ (b = false → wCls K Wout D r cls d σ H)
inductive ClsOk (X : Cx) : List ExceptHandler → List Cl → Prop
  | nil : ClsOk X [] []
  | bare {x : Str} {c : Value} {ts : Addr → Value → Option Addr → TS} {b₀ : Stmt} {suite : List Stmt} {np pos' : Pos} {hds : List ExceptHandler} {l : List Cl} (hc : Names X x c)
      (hsu : ∀ (a : Addr) (oe : Obj) (cls : Value) (d : Option Addr) (pn : List (Addr × Obj)), Zc cls d oe → (∃ vs, oe.data = .fields vs) → PSs (X.suite a ((a, oe) :: pn)) (b₀ :: suite) (ts a cls d)) (r : ClsOk X hds l) :
      ClsOk X (.ExceptHandler (some (.Name x np)) none (b₀ :: suite) pos' :: hds) ((c, none, ts) :: l)
  | named {x n : Str} {i : Nat} {c : Value} {ts : Addr → Value → Option Addr → TS} {b₀ : Stmt} {suite : List Stmt} {np pos' : Pos} {hds : List ExceptHandler} {l : List Cl} (hi : X.N[i]? = some n) (hln : X.env.kindOf n = some .local) (hc : Names X x c)
      (hsu : ∀ (a : Addr) (oe : Obj) (cls : Value) (d : Option Addr) (pn : List (Addr × Obj)), Zc cls d oe → (∃ vs, oe.data = .fields vs) → PSs (X.suite a ((a, oe) :: pn)) (b₀ :: suite) (ts a cls d)) (r : ClsOk X hds l) :
      ClsOk X (.ExceptHandler (some (.Name x np)) (some n) (b₀ :: suite) pos' :: hds) ((c, some i, ts) :: l)
section
variable {X : Cx} {body : List Stmt} {h₀ : ExceptHandler} {hds : List ExceptHandler} {l : List Cl} {pos : Pos} {tb : WX → TS} {Wout : WX}
theorem ps_try_cls (hs : X.stack = X.env :: X.outer) (hf : X.env.frame = some X.env.locals) (hN : X.N.Nodup) (tk : Takes X Wout)
    (hb : ∀ (W : WX) (pn : List (Addr × Obj)) (xe : Value → Shared → Prop), Takes (X.tr pn xe) W → PassesOwn (model X.prog X.w) X.A X.env xe → PSs (X.tr pn xe) body (tb W))
    (hh : ClsOk X (h₀ :: hds) l) : PS X (.Try body (h₀ :: hds) [] [] pos) (fun D σ H => tb (wCls X.K Wout D l) D σ H) := by
  refine ⟨fun pins s σ H D I h => ?_⟩
  have ok := I.ok
  have hfr : X.A.frames = some (X.env :: X.outer) := by rw [ok.frames, hs]
  refine wpAny_Try_except ?_
  refine wpAny_mono ((hb (wCls X.K Wout D l) (X.pn ++ pins) (fun e s₁ => wpAny (model X.prog X.w) X.A (noteFrame e X.env) (fun _ s₂ => wpAny (model X.prog X.w) X.A (setFlight e none) (fun _ s₃ =>
    wpAny (model X.prog X.w) X.A (handleBy e X.env (h₀ :: hds)) (SP X pins D) X.xe s₃) X.xe s₂) X.xe s₁) (fun u s' xx => ?_) PassesOwn.looking).run [] s σ H D (I.toTry _) h) (fun f s1 hsp => ?_) (fun e s1 he => he)
  · obtain ⟨a, B, sI, pins', σ', H', cls, d, rfl, J', nb, up, sky, na, os, ag, w⟩ := xx
    have J : Inv X pins σ' H' sI := J'.ofTry ok
    have sky' : Sky B (X.env :: X.outer) a (Zc cls d) X.env.locals s'.heap := by rw [← hs]; exact sky
    show wpAny (model X.prog X.w) X.A (noteFrame (.ref a) X.env) _ _ _
    refine Sky.land Zc.steady hfr hf sky' fun h3 fl3 up3 => ?_
    have J3 : Inv X pins σ' H' { s' with heap := h3 } := J.landed nb fl3.1 (up.trans up3) os ag
    obtain ⟨oe3, vs3, he3, hz3, hd3⟩ := fl3.there
    have nfr : a ∉ frs (X.env :: X.outer) := fun hm => by
      obtain ⟨_, o', e', hnf⟩ := fl3.2.2.1.mem hm
      rw [he3] at e'; cases e'
      exact hnf _ hd3
    have nL : a ≠ X.env.locals := fun z => nfr (List.mem_filterMap.mpr ⟨X.env, List.mem_cons_self, by rw [hf, z]⟩)
    have nF : a ∉ X.fs := fun hm => by
      obtain ⟨e, he, q⟩ := List.mem_filterMap.mp hm
      exact nfr (List.mem_filterMap.mpr ⟨e, List.mem_cons_of_mem _ he, q⟩)
    have S3 := J3.suite he3 hd3 na nL nF
    have test : ∀ {x : Str} {c : Value} {np : Pos} {Q : Value → Shared → Prop} {E : Value → Shared → Prop}, Names X x c → Q c { s' with heap := h3 } → wpAny (model X.prog X.w) (X.A.mark (some (.ref a))) (eval (.Name x np) X.env) Q E { s' with heap := h3 } := fun {x c np Q E} hc q => by
      obtain ⟨hg, hdbg, hm | ⟨hm, hv, hnn⟩⟩ := hc
      · exact ld_glob (X := X.suite a ((a, oe3) :: (X.pn ++ pins))) S3 hg hm q hdbg
      · exact ld_blt (X := X.suite a ((a, oe3) :: (X.pn ++ pins))) S3 hg hm hv q hnn hdbg
    have LT : PySem.W.Looks (model X.prog X.w) h3 (typeOf (.ref a)) cls := fun A Q E s k q => wpAny_typeOf_ref (k _ _ he3) (by rw [hz3.1]; exact q)
    have go : ∀ {hds' : List ExceptHandler} {l' : List Cl}, ClsOk X hds' l' → wCls X.K Wout D l' cls d σ' H' →
        wpAny (model X.prog X.w) X.A (handleBy (.ref a) X.env hds') (SP X pins D) X.xe { s' with heap := h3 } := by
      intro hds' l' hk
      induction hk with
      | nil =>
        intro w
        refine wpAny_handleBy_nil ?_
        obtain ⟨k1, k2, k3, oe, vs, T, oT, ts', he, hz, hd, h1, hr⟩ := id fl3
        unfold PySem.passOn
        refine wpAny_bind (wpAny_field he hd h1 ?_)
        rw [if_neg (show ¬ ((Value.ref T == Value.none) = true) from by simp)]
        have fin : wpAny (model X.prog X.w) X.A (setFlight (.ref a) X.env.frame) (fun _ s4 => wpAny (model X.prog X.w) X.A (throw (.ref a) : Sem Flow) (SP X pins D) X.xe s4) X.xe { s' with heap := h3 } := by
          rw [hf]
          refine HandSPX.setFlight_upZ fl3 fun h4 hh4 up4 => wpAny_throw (tk _ _ ?_)
          exact ⟨a, B, sI, pins, σ', H', cls, d, rfl, J, nb, (up.trans up3).trans up4, .inr (.inr (by rw [hs]; exact hh4)), na, os, ag, w⟩
        first
          | exact wpAny_bind (wpAny_pure (wpAny_bind fin))
          | exact wpAny_bind fin
      | @bare x c ts b₀ suite np pos' hds2 l2 hc hsu r ih =>
        intro w
        obtain ⟨b, hb1, hyes, hno⟩ := w
        have LM := PySem.W.exm_one (M := model X.prog X.w) (J3.kIn) LT hb1
        refine wpAny_handleBy_cons (codeAny_handlers_test ?_) (by intro q; cases q)
        refine test hc (LM.here ?_)
        cases b with
        | true =>
          refine codeAny_handlers_suite ?_
          refine HandSPX.lands_againZ fl3 fun h4 fl4 up4 => ?_
          have J4 : Inv X pins σ' H' { s' with heap := h4 } := J.landed nb fl4.1 ((up.trans up3).trans up4) os ag
          obtain ⟨oe4, vs4, he4, hz4, hd4⟩ := fl4.there
          have S4 := J4.suite he4 hd4 na nL nF
          refine wpAny_mono ((hsu a oe4 cls d (X.pn ++ pins) hz4 ⟨_, hd4⟩).run [] _ _ H' _ S4 (hyes rfl a na)) (fun f s6 hsp => ?_) (fun _ _ z => False.elim z)
          cases f with
          | next => obtain ⟨σ6, H6, S6, q6⟩ := hsp; exact ⟨_, _, S6.unsuite ok, q6⟩
          | brk => obtain ⟨σ6, H6, S6, q6⟩ := hsp; exact ⟨_, _, S6.unsuite ok, q6⟩
          | cont => obtain ⟨σ6, H6, S6, q6⟩ := hsp; exact ⟨_, _, S6.unsuite ok, q6⟩
          | ret u => obtain ⟨v6, σ6, H6, S6, r6, q6⟩ := hsp; exact ⟨_, _, _, S6.unsuite ok, r6, q6⟩
        | false =>
          show wpAny _ X.A (handleBy (.ref a) X.env hds2) _ _ _
          exact ih (hno rfl)
      | @named x n i c ts b₀ suite np pos' hds2 l2 hi hln hc hsu r ih =>
        intro w
        obtain ⟨b, hb1, hyes, hno⟩ := w
        have LM := PySem.W.exm_one (M := model X.prog X.w) (J3.kIn) LT hb1
        have hloc : Loc X.env.scope n := .inl hln
        refine wpAny_handleBy_cons (codeAny_handlers_test ?_) (by intro q; cases q)
        refine test hc (LM.here ?_)
        cases b with
        | true =>
          refine codeAny_handlers_suite_as ?_
          refine HandSPX.lands_againZ fl3 fun h4 fl4 up4 => ?_
          have J4 : Inv X pins σ' H' { s' with heap := h4 } := J.landed nb fl4.1 ((up.trans up3).trans up4) os ag
          obtain ⟨oe4, vs4, he4, hz4, hd4⟩ := fl4.there
          have S4 := J4.suite he4 hd4 na nL nF
          refine store_ok (X := X.suite a ((a, oe4) :: (X.pn ++ pins))) (v := .ref a) S4 hN hi hloc rfl (fun s5 S5 => ?_) (.inr hln)
          refine wpAny_mono ((hsu a oe4 cls d (X.pn ++ pins) hz4 ⟨_, hd4⟩).run [] s5 _ H' _ S5 (hyes rfl a na)) (fun f s6 hsp => ?_) (fun _ _ z => False.elim z)
          have end_ : ∀ {σ6 : L2.St} {H6 : Hp} {Q : Shared → Prop}, Inv (X.suite a ((a, oe4) :: (X.pn ++ pins))) [] σ6 H6 s6 → (∀ s7, Inv X pins (σ6.set i none) H6 s7 → Q s7) →
              wpAny (model X.prog X.w) X.A (do bindName X.env n .none; unbindBehindTheSuite X.env n pos') (fun _ s7 => Q s7) X.xe s6 := fun {σ6 H6 Q} S6 hq => gone_ok (S6.unsuite ok) hN hi hln hq
          cases f with
          | next => obtain ⟨σ6, H6, S6, q6⟩ := hsp; exact end_ S6 fun s7 J7 => ⟨_, _, J7, q6⟩
          | brk => obtain ⟨σ6, H6, S6, q6⟩ := hsp; exact end_ S6 fun s7 J7 => ⟨_, _, J7, q6⟩
          | cont => obtain ⟨σ6, H6, S6, q6⟩ := hsp; exact end_ S6 fun s7 J7 => ⟨_, _, J7, q6⟩
          | ret u => obtain ⟨v6, σ6, H6, S6, r6, q6⟩ := hsp; exact end_ S6 fun s7 J7 => ⟨_, _, _, J7, r6, q6⟩
        | false =>
          show wpAny _ X.A (handleBy (.ref a) X.env hds2) _ _ _
          exact ih (hno rfl)
    exact go hh w
  · cases f with
    | next => obtain ⟨σ', H', J', q⟩ := hsp; exact wpAny_execs_nil ⟨σ', H', J'.ofTry ok, q⟩
    | brk => obtain ⟨σ', H', J', q⟩ := hsp; exact ⟨σ', H', J'.ofTry ok, q⟩
    | cont => obtain ⟨σ', H', J', q⟩ := hsp; exact ⟨σ', H', J'.ofTry ok, q⟩
    | ret u => obtain ⟨v, σ', H', J', r, q⟩ := hsp; exact ⟨v, σ', H', J'.ofTry ok, r, q⟩
end
end DD

namespace DD
open PySem PySem.Spec L2
open PyProof.Rows hiding St
/-! ### try with clauses -/
/-- a clause: the class, the slot of its name, the errors that come here, the suite by the error's place, its fields, its class -/
abbrev DCl1 := XN × Option Nat × List XN × (Addr → Option (List (Str × D)) → XN → WS)
def goneO (o : Option Nat) (F : DEnds) : DEnds := match o with
  | none => { F with xc := fun _ _ _ => False }
  | some i => goneE i F
def setO (o : Option Nat) (a : Addr) (env : Env) : Env := match o with
  | none => env
  | some i => env.set i (some (.ref a))
def xcOf (F : DEnds) : List DCl1 → DX → Env → DH → Prop
  | [] => F.xc
  | (m, o, ns, s) :: r => fun x e1 h1 => if isa x.cls m = true then x.cls ∈ ns ∧ ∀ a, h1 a = none → s a x.fs x.cls (goneO o F) (setO o a e1) h1 else xcOf F r x e1 h1
@[reducible] def wTryC (ns : List XN) (cs : List DCl1) (b : WS) : WS := fun F env h => b { F with xc := fun x e1 h1 => x.cls ∈ ns ∧ xcOf F cs x e1 h1 } env h
/-- what is known of an error's dict -/
def FsOk (K : PySem.W.Frag) (H : Hp) (fs : Option (List (Str × D))) (dd : Option Addr) : Prop := match fs with
  | none => dd = none
  | some fs => ∃ p ws, dd = some p ∧ H p = some (.xd ws) ∧ RKV K H fs ws
/-- what is known of the held error -/
structure HeldD (X : Cx) (a : Addr) (n : XN) (Hb : Hp) (fs : Option (List (Str × D))) : Prop where
  ex : ∃ oe pn dd, (∃ X0 : Cx, X = X0.suite a ((a, oe) :: pn)) ∧ Zc (.ref (xad X.K n)) dd oe ∧ (∃ vs, oe.data = .fields vs) ∧ FsOk X.K Hb fs dd
theorem HeldD.held {X : Cx} {a : Addr} {n : XN} {Hb : Hp} (h : HeldD X a n Hb none) : Held X a n := by
  obtain ⟨oe, pn, dd, ⟨X0, rfl⟩, hz, hf, e⟩ := h.ex
  have e : dd = none := e
  subst e
  exact ⟨oe, List.mem_cons_self, hz, hf⟩
/-- the context of a suite -/
abbrev ctN (Hb : Hp) : Ct := ⟨Hb, fun _ _ _ => False⟩
section
variable {X : Cx} {C : Ct}
/-- the reading of a clause's suite -/
def tsOf (K : PySem.W.Frag) (ns : List XN) (s : Addr → Option (List (Str × D)) → XN → WS) : Addr → Value → Option Addr → TS := fun a cls d En σ H => ∃ (n : XN) (fs : Option (List (Str × D))), n ∈ ns ∧ cls = .ref (xad K n) ∧ FsOk K H fs d ∧ RdS K (ctN H) (s a fs n) En σ H
def clOf (K : PySem.W.Frag) : List DCl1 → List Cl
  | [] => []
  | (m, o, ns, s) :: r => (.ref (xad K m), o, tsOf K ns s) :: clOf K r
inductive DClsOk (X : Cx) : List ExceptHandler → List DCl1 → Prop
  | nil : DClsOk X [] []
  | bare {x : Str} {m : XN} {ns : List XN} {s : Addr → Option (List (Str × D)) → XN → WS} {b₀ : Stmt} {suite : List Stmt} {np pos' : Pos} {hds : List ExceptHandler} {l : List DCl1} (hc : Names X x (.ref (xad X.K m)))
      (hsu : ∀ (a : Addr) (fs : Option (List (Str × D))) (n : XN) (Hb : Hp) (pn : List (Addr × Obj)) (oe : Obj), n ∈ ns → HeldD (X.suite a ((a, oe) :: pn)) a n Hb fs → DB (X.suite a ((a, oe) :: pn)) (ctN Hb) (b₀ :: suite) (s a fs n)) (r : DClsOk X hds l) :
      DClsOk X (.ExceptHandler (some (.Name x np)) none (b₀ :: suite) pos' :: hds) ((m, none, ns, s) :: l)
  | named {x y : Str} {i : Nat} {m : XN} {ns : List XN} {s : Addr → Option (List (Str × D)) → XN → WS} {b₀ : Stmt} {suite : List Stmt} {np pos' : Pos} {hds : List ExceptHandler} {l : List DCl1} (hi : X.N[i]? = some y) (hln : X.env.kindOf y = some .local) (hc : Names X x (.ref (xad X.K m)))
      (hsu : ∀ (a : Addr) (fs : Option (List (Str × D))) (n : XN) (Hb : Hp) (pn : List (Addr × Obj)) (oe : Obj), n ∈ ns → HeldD (X.suite a ((a, oe) :: pn)) a n Hb fs → DB (X.suite a ((a, oe) :: pn)) (ctN Hb) (b₀ :: suite) (s a fs n)) (r : DClsOk X hds l) :
      DClsOk X (.ExceptHandler (some (.Name x np)) (some y) (b₀ :: suite) pos' :: hds) ((m, some i, ns, s) :: l)
theorem tsOf_ok {ns : List XN} {s : Addr → Option (List (Str × D)) → XN → WS} {b₀ : Stmt} {suite : List Stmt}
    (hsu : ∀ (a : Addr) (fs : Option (List (Str × D))) (n : XN) (Hb : Hp) (pn : List (Addr × Obj)) (oe : Obj), n ∈ ns → HeldD (X.suite a ((a, oe) :: pn)) a n Hb fs → DB (X.suite a ((a, oe) :: pn)) (ctN Hb) (b₀ :: suite) (s a fs n))
    (a : Addr) (oe : Obj) (cls : Value) (d : Option Addr) (pn : List (Addr × Obj)) (hz : Zc cls d oe) (hf : ∃ vs, oe.data = .fields vs) : PSs (X.suite a ((a, oe) :: pn)) (b₀ :: suite) (tsOf X.K ns s a cls d) := by
  refine ⟨fun pins s' σ H D I ⟨n, fs, hn, e1, e2, q⟩ => ?_⟩
  subst e1
  exact (hsu a fs n H pn oe hn ⟨oe, pn, d, ⟨X, rfl⟩, hz, hf, e2⟩).run pins s' σ H D I q
theorem clsOk_of {hds : List ExceptHandler} {l : List DCl1} (h : DClsOk X hds l) : ClsOk X hds (clOf X.K l) := by
  induction h with
  | nil => exact .nil
  | bare hc hsu r ih => exact .bare hc (tsOf_ok hsu) ih
  | named hi hln hc hsu r ih => exact .named hi hln hc (tsOf_ok hsu) ih
theorem ds_tryC {ns : List XN} {cs : List DCl1} {body : List Stmt} {h₀ : ExceptHandler} {hds : List ExceptHandler} {pos : Pos} {b : WS} (hs : X.stack = X.env :: X.outer) (hf : X.env.frame = some X.env.locals) (hN : X.N.Nodup) (tk : Takes X (lift X.K C))
    (hM : ∀ n ∈ ns, ∀ q ∈ cs, ExcM X.K n q.1)
    (hb : ∀ (W : WX) (Hb : Hp) (pn : List (Addr × Obj)) (xe : Value → Shared → Prop), Takes (X.tr pn xe) (lift X.K (ctW Hb X.K W)) → PassesOwn (model X.prog X.w) X.A X.env xe → DB (X.tr pn xe) (ctW Hb X.K W) body b)
    (hh : DClsOk X (h₀ :: hds) cs) : DS X C (.Try body (h₀ :: hds) [] [] pos) (wTryC ns cs b) := by
  refine ps_imp (ps_try_cls (l := clOf X.K cs) hs hf hN tk (tb := fun W D σ H => RdS X.K (ctW H X.K W) b D σ H) (fun W pn xe t p => ⟨fun pins s' σ H D I q => (hb W H pn xe (t.imp lift_ctW) p).run pins s' σ H D I q⟩) (clsOk_of hh)) fun D σ H ⟨F, env, h, t, re, rp, hw, b1, b2, b3, b4, b5⟩ => ?_
  refine ⟨_, env, h, .refl H, re, rp, hw, b1, b2, b3, b4, fun z e1 h1 ⟨hz, q⟩ c' dd σ' H' t1 re1 rp1 rx => ?_⟩
  obtain ⟨rc, rx⟩ := rx
  subst rc
  have key : ∀ cs' : List DCl1, (∀ n ∈ ns, ∀ q ∈ cs', ExcM X.K n q.1) → xcOf F cs' z e1 h1 → wCls X.K (lift X.K C) D (clOf X.K cs') (.ref (xad X.K z.cls)) dd σ' H' := by
   intro cs'
   induction cs' with
   | nil => exact fun _ q => ⟨z, e1, h1, t.trans t1, re1, rp1, ⟨rfl, rx⟩, b5 _ _ _ q⟩
   | cons k r ih =>
    intro hM q
    obtain ⟨m, o, ns', s⟩ := k
    refine ⟨isa z.cls m, (hM _ hz _ (List.mem_cons_self ..)).exm, fun eb a ha => ?_, fun eb => ?_⟩
    · unfold xcOf at q
      rw [if_pos eb] at q
      obtain ⟨hn, q⟩ := q
      have q := q a (rp1.free ha)
      have fo : FsOk X.K H' z.fs dd := by
        unfold FsOk
        cases ef : z.fs with
        | none =>
          rw [ef] at rx
          exact rx
        | some fs =>
          rw [ef] at rx
          obtain ⟨p, ws, y1, y2, y3⟩ := rx
          exact ⟨p, ws, y1, y2, y3⟩
      cases o with
      | none =>
        refine ⟨z.cls, z.fs, hn, rfl, fo, { F with xc := fun _ _ _ => False }, e1, h1, .refl _, re1, rp1, q, ?_, ?_, ?_, ?_, fun _ _ _ w => w⟩
        · exact fun e2 h2 σ2 H2 q2 t2 r2 p2 => b1 _ h2 _ H2 q2 (t1.trans t2) r2 p2
        · exact fun d h2 v H2 q2 t2 r2 p2 => b2 d h2 v H2 q2 (t1.trans t2) r2 p2
        · exact fun e2 h2 σ2 H2 q2 t2 r2 p2 => b3 _ h2 _ H2 q2 (t1.trans t2) r2 p2
        · exact fun e2 h2 σ2 H2 q2 t2 r2 p2 => b4 _ h2 _ H2 q2 (t1.trans t2) r2 p2
      | some i =>
        refine ⟨z.cls, z.fs, hn, rfl, fo, goneE i F, _, h1, .refl _, re1.set (.ref a) i, rp1, q, ?_, ?_, ?_, ?_, fun _ _ _ w => w⟩
        · exact fun e2 h2 σ2 H2 q2 t2 r2 p2 => b1 _ h2 _ H2 q2 (t1.trans t2) (r2.del i) p2
        · exact fun d h2 v H2 q2 t2 r2 p2 => b2 d h2 v H2 q2 (t1.trans t2) r2 p2
        · exact fun e2 h2 σ2 H2 q2 t2 r2 p2 => b3 _ h2 _ H2 q2 (t1.trans t2) (r2.del i) p2
        · exact fun e2 h2 σ2 H2 q2 t2 r2 p2 => b4 _ h2 _ H2 q2 (t1.trans t2) (r2.del i) p2
    · unfold xcOf at q
      rw [eb, if_neg Bool.false_ne_true] at q
      exact ih (fun n hn q hq => hM n hn q (List.mem_cons_of_mem _ hq)) q
  exact key cs hM q
/-! ### e.f of the held error -/
@[reducible] def wXf (a : Addr) (fs : Option (List (Str × D))) (f : Str) (we : WE) : WE := fun env h Q E => we env h (fun d h1 => d = .ref a ∧ ∃ l v, fs = some l ∧ l.lookup f = some v ∧ Q v h1) E
theorem lookup_RKV {K : PySem.W.Frag} {H : Hp} {f : Str} {d : D} : ∀ {fs : List (Str × D)} {ws : List (Str × V)}, RKV K H fs ws → fs.lookup f = some d → ∃ v, ws.lookup f = some v ∧ RV K H d v
  | [], _, _, e => by cases e
  | (k, d') :: fs, _, r, e => by
    cases r with
    | @cons _ q _ qs r1 r2 =>
      obtain ⟨k2, v2⟩ := q
      obtain ⟨e1, r1⟩ := r1
      have e1 : k = k2 := e1
      subst e1
      rw [List.lookup_cons] at e ⊢
      cases hb : f == k with
      | true =>
        rw [hb] at e
        cases e
        exact ⟨v2, rfl, r1⟩
      | false =>
        rw [hb] at e
        exact lookup_RKV r2 e
theorem de_xf {a : Addr} {Hb : Hp} {fs : Option (List (Str × D))} {n : XN} {f : Str} {e : Expr} {we : WE} {pos : Pos} (c : ExcF X.K X.mg n f) (q : XfC X.K (xad X.K n)) (hd : HeldD X a n Hb fs) (he : DE X (ctN Hb) e we) (hb : attributeBase e f X.env (eval e X.env) = eval e X.env := by rfl) : DE X (ctN Hb) (.Attribute e f pos) (wXf a fs f we) := by
  obtain ⟨oe, pn, dd, ⟨X0, hX⟩, hz, hf, fo⟩ := hd.ex
  subst hX
  exact pe_imp (pe_xf (X := X0) q c.no hz hf he hb) fun σ H Q ⟨env, h, Qd, Ed, tk, re, rp, hw, hq, hx⟩ => ⟨env, h, _, Ed, tk, re, rp, hw, fun d h1 v H1 w1 t1 rv rp1 => by
    obtain ⟨rfl, l, u, e1, e2, w1⟩ := w1
    cases rv
    subst e1
    obtain ⟨p, ws, e3, e4, rk⟩ := fo
    have tt := tk.trans t1
    obtain ⟨v2, l2, r2⟩ := lookup_RKV rk e2
    exact ⟨rfl, rfl, p, ws, v2, e3, tt.xd _ _ e4, l2, hq _ h1 _ H1 w1 t1 (r2.mono tt) rp1⟩, hx⟩
/-- a suite for errors without a dict -/
@[reducible] def wNoD (fs : Option (List (Str × D))) (s : WS) : WS := fun F env h => fs = none ∧ s F env h
theorem db_noD {fs : Option (List (Str × D))} {b : List Stmt} {s : WS} (h : fs = none → DB X C b s) : DB X C b (wNoD fs s) := by
  refine ⟨fun pins s' σ H D I ⟨F, env, g, tk, re, rp, ⟨e, hw⟩, r⟩ => ?_⟩
  exact (h e).run pins s' σ H D I ⟨F, env, g, tk, re, rp, hw, r⟩
theorem takes_n {X : Cx} {K : PySem.W.Frag} {Hb : Hp} : Takes X (lift K (ctN Hb)) := takes_no (C := ctN Hb)
end
def xfXB (n : XN) (K : PySem.W.Frag) : Bool := xfB K (xad K n)
theorem xfX_of {n : XN} {K : PySem.W.Frag} (h : xfXB n K = true) : XfC K (xad K n) := xfB_ok h
end DD

namespace DD
open PySem PySem.Spec L2
open PyProof.Rows hiding St
/-! ### texts joined, split -/
abbrev mkS (x : List Nat) : Str := ⟨x.toArray⟩
theorem tl_mkS (x : List Nat) : TL.tl (mkS x) = x := rfl
theorem rvs_strs {K : PySem.W.Frag} {H : Hp} : ∀ {ys : List (List Nat)} {vs : List V}, RVs K H (ys.map D.str) vs → vs = (ys.map mkS).map V.str ∧ ∀ y ∈ ys, Ok y
  | [], _, r => by cases r; exact ⟨rfl, fun _ h => nomatch h⟩
  | y :: ys, _, r => by
    cases r with
    | cons r1 r2 =>
      cases r1 with
      | str _ h1 =>
        obtain ⟨e, h2⟩ := rvs_strs r2
        subst e
        exact ⟨rfl, fun z hz => (List.mem_cons.mp hz).elim (fun e => e ▸ h1) (h2 z)⟩
theorem mk_rvs {K : PySem.W.Frag} {H : Hp} : ∀ {ys : List (List Nat)}, (∀ y ∈ ys, Ok y) → RVs K H (ys.map D.str) ((ys.map mkS).map V.str)
  | [], _ => .nil
  | y :: ys, h => .cons (.str y (h y (List.mem_cons_self ..))) (mk_rvs fun z hz => h z (List.mem_cons_of_mem _ hz))
theorem joinL_mem {s : List Nat} : ∀ {ys : List (List Nat)} {c : Nat}, c ∈ TL.joinL s ys → c ∈ s ∨ ∃ y ∈ ys, c ∈ y
  | [], c, h => by cases h
  | [y], c, h => .inr ⟨y, List.mem_singleton.mpr rfl, h⟩
  | y :: z :: r, c, h => by
    have h : c ∈ y ++ (s ++ TL.joinL s (z :: r)) := by
      simpa [TL.joinL, List.append_assoc] using h
    rcases List.mem_append.mp h with h | h
    · exact .inr ⟨y, List.mem_cons_self .., h⟩
    · rcases List.mem_append.mp h with h | h
      · exact .inl h
      · rcases joinL_mem h with h | ⟨w, hw, h⟩
        · exact .inl h
        · exact .inr ⟨w, List.mem_cons_of_mem _ hw, h⟩
theorem joinMk (s : List Nat) (ys : List (List Nat)) : Txt.join (mkS s) (ys.map mkS) = mkS (TL.joinL s ys) := by
  refine TL.ext_tl ?_
  rw [TL.join_eq, TL.tl_join, List.map_map]
  show TL.joinL s (ys.map (TL.tl ∘ mkS)) = TL.joinL s ys
  rw [show (TL.tl ∘ mkS) = id from rfl, List.map_id]
def omJoin : OM := fun x ds h Q => match x, ds with
  | .str s, [.ref a] => ∃ ys : List (List Nat), h a = some (.lst (ys.map D.str)) ∧ (ys.map List.length).sum + ys.length * s.length ≤ 16777216 ∧ Q (.str (TL.joinL s ys)) h
  | .str s, [.tup xs] => ∃ ys : List (List Nat), xs = ys.map D.str ∧ (ys.map List.length).sum + ys.length * s.length ≤ 16777216 ∧ Q (.str (TL.joinL s ys)) h
  | _, _ => False
theorem lens_mk (ys : List (List Nat)) : ((ys.map mkS).map (·.length)) = ys.map List.length := by
  rw [List.map_map]
  exact List.map_congr_left fun y _ => str_len y
theorem dm_join {X : Cx} : DM X "str.join" omJoin := ⟨_, mt_join, fun x ds h Qd vx vs H Q ho rx rs rp k => by
  have go : ∀ (s : List Nat) (ys : List (List Nat)) (a : Addr), Ok s → (∀ y ∈ ys, Ok y) → (SqL X.K H a ((ys.map mkS).map V.str) ∨ SqT X.K H a ((ys.map mkS).map V.str)) → (ys.map List.length).sum + ys.length * s.length ≤ 16777216 → Qd (.str (TL.joinL s ys)) h → vx = .str (mkS s) → vs = [.ref a] →
      ∃ a p, ∃ ys : List Str, vx = .str a ∧ vs = [.ref p] ∧ (SqL X.K H p (ys.map V.str) ∨ SqT X.K H p (ys.map V.str)) ∧ (ys.map (·.length)).sum + ys.length * a.length ≤ 16777216 ∧ Q (.str (Txt.join a ys)) H := by
    intro s ys a hs hy hq hz q e1 e2
    refine ⟨_, a, ys.map mkS, e1, e2, hq, by rw [lens_mk, List.length_map, str_len]; exact hz, ?_⟩
    rw [joinMk]
    exact k _ _ _ _ q (.refl H) (.str _ fun c hc => (joinL_mem hc).elim (hs c) fun ⟨y, hy', hc⟩ => hy y hy' c hc) rp
  unfold omJoin at ho
  split at ho
  · cases rx with
    | str _ hs => cases rs with
      | cons r t =>
        cases t; cases r
        obtain ⟨ys, e, hz, q⟩ := ho
        obtain ⟨ws, q1, rr⟩ := rp _ _ e
        obtain ⟨e2, hy⟩ := rvs_strs rr
        subst e2
        exact go _ ys _ hs hy (.inl (.of q1)) hz q rfl rfl
  · cases rx with
    | str _ hs => cases rs with
      | cons r t =>
        cases t
        obtain ⟨ys, e, hz, q⟩ := ho
        subst e
        cases r with
        | tup sx rr =>
          obtain ⟨e2, hy⟩ := rvs_strs rr
          subst e2
          exact go _ ys _ hs hy (.inr sx) hz q rfl rfl
  · exact ho.elim⟩
theorem spl_mem {S : List Nat} : ∀ {l acc : List Nat} {k : Nat} {y : List Nat} {c : Nat}, y ∈ TL.spl S k acc l → c ∈ y → c ∈ acc ∨ c ∈ l
  | [], acc, k, y, c, hy, hc => by
    rw [TL.spl_nil, List.mem_singleton] at hy
    subst hy
    exact .inl hc
  | a :: l, acc, k, y, c, hy, hc => by
    cases k with
    | succ k =>
      have hy : y ∈ TL.spl S k acc l := by simpa [TL.spl] using hy
      exact (spl_mem hy hc).elim .inl fun h => .inr (List.mem_cons_of_mem _ h)
    | zero =>
      cases hp : TL.pre S (a :: l) with
      | true =>
        rw [TL.spl_hit hp] at hy
        rcases List.mem_cons.mp hy with rfl | hy
        · exact .inl hc
        · exact (spl_mem hy hc).elim (fun h => nomatch h) fun h => .inr (List.mem_cons_of_mem _ h)
      | false =>
        rw [TL.spl_miss hp] at hy
        rcases spl_mem hy hc with h | h
        · rcases List.mem_append.mp h with h | h
          · exact .inl h
          · rw [List.mem_singleton] at h
            subst h
            exact .inr (List.mem_cons_self ..)
        · exact .inr (List.mem_cons_of_mem _ h)
/-- text.split(sign) -/
def omSplit : OM := fun x ds h Q => match x, ds with
  | .str s, [.str [c]] => (c < 256 ∧ s.length + 2 ≤ sizeLine) ∧ ∀ p, h p = none → Q (.ref p) (dup h p (.lst ((TL.spl [c] 0 [] s).map D.str)))
  | _, _ => False
theorem dm_split {X : Cx} : DM X "str.split" omSplit := ⟨_, mt_split, fun x ds h Qd vx vs H Q ho rx rs rp k => by
  unfold omSplit at ho
  split at ho
  · rename_i s c
    cases rx with
    | str _ hs => cases rs with
      | cons r t =>
        cases t
        cases r with
        | str _ hc =>
          obtain ⟨⟨h256, hl⟩, q⟩ := ho
          refine ⟨mkS s, mkS [c], rfl, rfl, rfl, by rw [str_len]; exact hl, fun p hp => ?_⟩
          have hk : ¬ Builtin.Str.strKind (mkS s) < Builtin.Str.strKind (mkS [c]) := TL.kind_ok (by
            show ([c].toArray).all (· < 256) = true
            simpa using h256)
          have e := TL.split_spl (mkS s) (mkS [c]) (by show ([c] : List Nat) ≠ []; simp) hk
          have e2 : Txt.split (mkS s) (mkS [c]) = (TL.spl [c] 0 [] s).map mkS := by
            refine TL.map_tl_inj ?_
            rw [e, List.map_map]
            show TL.spl [c] 0 [] s = (TL.spl [c] 0 [] s).map (TL.tl ∘ mkS)
            rw [show (TL.tl ∘ mkS) = id from rfl, List.map_id]
          rw [e2]
          exact k _ _ _ _ (q p (rp.free hp)) (.new hp) (.ref p) (rp.new hp (.newL hp (mk_rvs fun y hy c' hc' => (spl_mem hy hc').elim (fun z => nomatch z) fun z => hs c' z)))
  · exact ho.elim⟩
end DD

namespace Desk
open PySem PySem.Spec L2 DD
open PyProof.Rows hiding St

/-! ### how many bits an int has -/
abbrev sz (x : Int) : Nat := Builtin.Int.intBits x
theorem sz_lt {x : Int} : x.natAbs < 2 ^ sz x := by
  unfold sz Builtin.Int.intBits
  split
  · rename_i h
    have h : x = 0 := by simpa using h
    subst h
    decide
  · rename_i h
    have h : x ≠ 0 := by simpa using h
    exact (Nat.log2_lt (by omega)).mp (Nat.lt_succ_self _)
theorem sz_le {x : Int} {k : Nat} (h : x.natAbs < 2 ^ k) : sz x ≤ k := PyProof.Rows.intBits_le h
theorem sz_mul (a b : Int) : sz (a * b) ≤ sz a + sz b := by
  refine sz_le ?_
  rw [Int.natAbs_mul, Nat.pow_add]
  exact Nat.mul_lt_mul'' sz_lt sz_lt
theorem sz_pow (a : Int) : ∀ n : Nat, sz (a ^ n) ≤ sz a * n + 1
  | 0 => by
    have e : sz 1 = 1 := by decide
    rw [Int.pow_zero, e]
    omega
  | n + 1 => by
    have h := sz_pow a n
    rw [Int.pow_succ]
    have h2 := sz_mul (a ^ n) a
    rw [Nat.mul_succ]
    omega
theorem sz_ten (n : Nat) : sz (10 ^ n) ≤ 4 * n + 1 := by
  have h := sz_pow 10 n
  have e : sz 10 = 4 := by decide
  rw [e] at h
  exact h
theorem sz_abs {a b : Int} (h : a.natAbs ≤ b.natAbs) : sz a ≤ sz b := sz_le (Nat.lt_of_le_of_lt h sz_lt)
theorem sz_add (a b : Int) : sz (a + b) ≤ max (sz a) (sz b) + 1 := by
  refine sz_le ?_
  have h1 := sz_lt (x := a)
  have h2 := sz_lt (x := b)
  have h3 : 2 ^ sz a ≤ 2 ^ max (sz a) (sz b) := Nat.pow_le_pow_right (by decide) (Nat.le_max_left _ _)
  have h4 : 2 ^ sz b ≤ 2 ^ max (sz a) (sz b) := Nat.pow_le_pow_right (by decide) (Nat.le_max_right _ _)
  rw [Nat.pow_succ]
  have h5 : (a + b).natAbs ≤ a.natAbs + b.natAbs := Int.natAbs_add_le _ _
  omega
theorem sz_neg (a : Int) : sz (-a) = sz a := Nat.le_antisymm (sz_abs (by simp)) (sz_abs (by simp))
theorem sz_sub (a b : Int) : sz (a - b) ≤ max (sz a) (sz b) + 1 := by
  have h := sz_add a (-b)
  rw [sz_neg] at h
  exact h
theorem sz_div (a b : Int) : sz (a / b) ≤ sz a := sz_abs (Int.natAbs_ediv_le_natAbs a b)
theorem sz_mod (a : Int) {b : Int} (h : 0 < b) : sz (a % b) ≤ sz b := by
  have e2 := Int.emod_nonneg a (show b ≠ 0 by omega)
  have e3 := Int.emod_lt_of_pos a h
  exact sz_abs (by omega)
theorem pdiv_of {i j : Int} (h : 0 < j) (hj : sz j ≤ 9000) : PDiv i j := by
  refine ⟨h, ?_⟩
  have h1 : sz j = j.natAbs.log2 + 1 := by
    unfold sz Builtin.Int.intBits
    rw [if_neg (by simp; omega)]
  omega
theorem ten_pos (n : Nat) : (0 : Int) < 10 ^ n := Int.pow_pos (by decide)
theorem sz_big : sz BIG ≤ 994 := by
  unfold BIG
  decide +kernel
theorem sz_lt_big {x : Int} (h : x.natAbs < BIG.natAbs) : sz x ≤ 994 := Nat.le_trans (sz_abs (Nat.le_of_lt h)) sz_big
theorem big_pos : 0 < BIG := by
  unfold BIG
  decide +kernel

theorem szm {a b : Int} {k l : Nat} (h1 : sz a ≤ k) (h2 : sz b ≤ l) : sz (a * b) ≤ k + l := Nat.le_trans (sz_mul a b) (Nat.add_le_add h1 h2)
theorem sza {a b : Int} {k l : Nat} (h1 : sz a ≤ k) (h2 : sz b ≤ l) : sz (a + b) ≤ max k l + 1 := Nat.le_trans (sz_add a b) (by omega)
theorem szs {a b : Int} {k l : Nat} (h1 : sz a ≤ k) (h2 : sz b ≤ l) : sz (a - b) ≤ max k l + 1 := Nat.le_trans (sz_sub a b) (by omega)
theorem szt {n : Int} {k : Nat} (h : n ≤ k) : sz (10 ^ n.toNat) ≤ 4 * k + 1 := Nat.le_trans (sz_ten _) (by omega)
theorem pmul_of {a b : Int} {k l : Nat} (h1 : sz a ≤ k) (h2 : sz b ≤ l) (h : k + l ≤ 134217728) : PMul a b := Nat.le_trans (Nat.add_le_add h1 h2) h
theorem ite_y {c A B : Prop} [Decidable c] (h : c) (a : A) : if c then A else B := by rw [if_pos h]; exact a
theorem ite_n {c A B : Prop} [Decidable c] (h : ¬ c) (b : B) : if c then A else B := by rw [if_neg h]; exact b
theorem slen {n : Nat} (h : n ≤ 100000) : n ≤ sizeLine := Nat.le_trans h (by decide)
theorem wv {i : Nat} {env : DD.Env} {h : DH} {Q : DK} {E : DXK} {d : D} (e : env[i]? = some (some d)) (q : Q d h) : wVar i env h Q E := by
  unfold wVar
  rw [e]
  exact q
theorem sln {n : Nat} (h : Nat.ble n 100000 = true) : n ≤ sizeLine := slen (Nat.le_of_ble_eq_true h)
theorem wcv {env : DD.Env} {h : DH} {Q : DK} {E : DXK} {d : D} (q : Q d h) : wC d env h Q E := q
theorem ixt {xs : List D} {i : Int} {d : D} {h : DH} {Q : DK} (e : atI xs i = some d) (q : Q d h) : oIx (.tup xs) (.int i) h Q := by
  show (match atI xs i with | some d => Q d h | none => False)
  rw [e]
  exact q
/-- a test that fails, whatever is wanted -/
theorem ifF {wc : WT} {s t : WS} {F : DEnds} {env : DD.Env} {h : DH} (c : ∀ Q : Bool → DH → Prop, Q false h → wc env h Q (fun x h1 => F.xc x env h1)) (n : t F env h) : wIf wc s t F env h :=
  c _ (by rw [if_neg Bool.false_ne_true]; exact n)
theorem ifT {wc : WT} {s t : WS} {F : DEnds} {env : DD.Env} {h : DH} (c : ∀ Q : Bool → DH → Prop, Q true h → wc env h Q (fun x h1 => F.xc x env h1)) (n : s F env h) : wIf wc s t F env h :=
  c _ (by rw [if_pos rfl]; exact n)
theorem orF {t u : WT} {env : DD.Env} {h : DH} {Q : Bool → DH → Prop} {E : DXK} (c : ∀ Q : Bool → DH → Prop, Q false h → t env h Q E) (n : u env h Q E) : wOr t u env h Q E :=
  c _ (by rw [if_neg Bool.false_ne_true]; exact n)
theorem nxt {F : DEnds} {env : DD.Env} {h : DH} (q : F.nx env h) : wNext F env h := q
theorem sq {s t : WS} {F : DEnds} {env : DD.Env} {h : DH} (q : s { F with nx := t F } env h) : wSeq s t F env h := q
theorem ifN {wc : WT} {s : WS} {F : DEnds} {env : DD.Env} {h : DH} (c : ∀ Q : Bool → DH → Prop, Q false h → wc env h Q (fun x h1 => F.xc x env h1)) (n : F.nx env h) : wIf wc s wNext F env h := ifF c n
theorem ifS {wc : WT} {s t : WS} {F : DEnds} {env : DD.Env} {h : DH} (c : ∀ Q : Bool → DH → Prop, Q false h → wc env h Q (fun x h1 => F.xc x env h1)) (n : t F env h) : wSeq (wIf wc s wNext) t F env h := ifF c n
theorem nqT {p : Prop} [Decidable p] {Q : Bool → DH → Prop} {h : DH} (n : p) (q : Q false h) : Q (!decide p) h := by rw [decide_eq_true n]; exact q
theorem qF {p : Prop} [Decidable p] {Q : Bool → DH → Prop} {h : DH} (n : ¬ p) (q : Q false h) : Q (decide p) h := by rw [decide_eq_false n]; exact q
theorem andB {t u : WT} {env : DD.Env} {h : DH} {Q : Bool → DH → Prop} {E : DXK} (b : Bool) (c : ∀ Q' : Bool → DH → Prop, Q' b h → t env h Q' E) (q : if b = true then u env h Q E else Q false h) : wAnd t u env h Q E := c _ q
theorem orB {t u : WT} {env : DD.Env} {h : DH} {Q : Bool → DH → Prop} {E : DXK} (b : Bool) (c : ∀ Q' : Bool → DH → Prop, Q' b h → t env h Q' E) (q : if b = true then Q true h else u env h Q E) : wOr t u env h Q E := c _ q
theorem ifSB {wc : WT} {s t : WS} {F : DEnds} {env : DD.Env} {h : DH} (b : Bool) (c : ∀ Q : Bool → DH → Prop, Q b h → wc env h Q (fun x h1 => F.xc x env h1)) (n : if b = true then s { F with nx := t F } env h else t F env h) : wSeq (wIf wc s wNext) t F env h := c _ n
theorem ifB {wc : WT} {s t : WS} {F : DEnds} {env : DD.Env} {h : DH} (b : Bool) (c : ∀ Q : Bool → DH → Prop, Q b h → wc env h Q (fun x h1 => F.xc x env h1)) (n : if b = true then s F env h else t F env h) : wIf wc s t F env h := c _ n
theorem ixl {p : Addr} {xs : List D} {i : Int} {d : D} {h : DH} {Q : DK} (e : h p = some (.lst xs)) (ea : atI xs i = some d) (q : Q d h) : oIx (.ref p) (.int i) h Q := by
  show (match h p with | some (.lst xs) => (match atI xs i with | some d => Q d h | none => False) | _ => False)
  rw [e]
  show (match atI xs i with | some d => Q d h | none => False)
  rw [ea]
  exact q


/-! ### numbers as the program has them: figures, scale -/
abbrev Nm := Int × Int
abbrev numD (n : Nm) : D := .tup [.int n.1, .int n.2]
def isW (d : D) (lo hi : Int) : Bool := match d with
  | .int i => decide (lo ≤ i) && decide (i ≤ hi)
  | _ => false
def isNum (d : D) : Bool := match d with
  | .tup [a, b] => isW a (1 - BIG) (BIG - 1) && isW b 0 60
  | _ => false
/-- the value's type is known -/
def tyk (h : DH) (d : D) : Bool := (tyD h d).isSome
def tyn (h : DH) (d : D) : Bool := match d with
  | .tup xs => xs.all (tyk h)
  | _ => tyk h d
/-- a number within bounds -/
def Good (a : Nm) : Prop := (-BIG < a.1 ∧ a.1 < BIG) ∧ 0 ≤ a.2 ∧ a.2 ≤ 60
theorem Good.sz {a : Nm} (h : Good a) : sz a.1 ≤ 994 := sz_lt_big (by have := h.1; have := big_pos; omega)
theorem Good.num {a : Nm} (h : Good a) : isNum (numD a) = true := by
  obtain ⟨⟨h1, h2⟩, h3, h4⟩ := h
  show ((decide (1 - BIG ≤ a.1) && decide (a.1 ≤ BIG - 1)) && (decide (0 ≤ a.2) && decide (a.2 ≤ 60))) = true
  rw [decide_eq_true (show 1 - BIG ≤ a.1 by omega), decide_eq_true (show a.1 ≤ BIG - 1 by omega), decide_eq_true h3, decide_eq_true h4]
  rfl
theorem Good.ty {a : Nm} (h : DH) : tyn h (numD a) = true := rfl
/-- a whole part, toward nought -/
def cutO (t b : Int) : Int := if 0 ≤ t then t / b else 0 - (0 - t) / b
theorem sz_cutO (t b : Int) : sz (cutO t b) ≤ sz t + 1 := by
  unfold cutO
  split
  · have := sz_div t b
    omega
  · have h1 := sz_div (0 - t) b
    have h2 := sz_sub 0 ((0 - t) / b)
    have h3 : sz (0 - t) = sz t := by rw [Int.zero_sub, sz_neg]
    have h4 : sz 0 = 0 := by decide
    omega
/-- the figures of a worth told at another scale -/
def atS (f s o : Int) : Int := if s ≤ o then f * 10 ^ (o - s).toNat else cutO f (10 ^ (s - o).toNat)
/-- what a reckoning gives: a number, or a refusal -/
abbrev Ans := Except XN Nm
def ansD (r : Ans) (h : DH) (Q : DK) (E : DXK) : Prop := match r with
  | .ok n => Q (numD n) h
  | .error x => E ⟨x, none⟩ h
def fit (f s : Int) : Ans := if BIG ≤ (f.natAbs : Int) ∨ 60 < s then .error .TooLong else .ok (f, s)
def sumO (a b : Nm) (m : Int) : Ans := fit (atS a.1 a.2 (max a.2 b.2) + m * atS b.1 b.2 (max a.2 b.2)) (max a.2 b.2)
def ordO (a b : Nm) : Int := (if a.1 * 10 ^ b.2.toNat > b.1 * 10 ^ a.2.toNat then 1 else 0) - (if a.1 * 10 ^ b.2.toNat < b.1 * 10 ^ a.2.toNat then 1 else 0)
theorem ansD.outS {r : Ans} {h h1 : DH} {Q : DK} {E : DXK} {env : DD.Env} (z : ansD r h Q E) (s : Sub h h1) : ansD r h1 (dends Q E).rt (fun x h1 => (dends Q E).xc x env h1) := by
  cases r <;> exact ⟨h, s, z⟩
theorem ansD.out {r : Ans} {h : DH} {Q : DK} {E : DXK} {env : DD.Env} (z : ansD r h Q E) : ansD r h (dends Q E).rt (fun x h1 => (dends Q E).xc x env h1) := z.outS (.refl h)
theorem ansD.outE {r : Ans} {h h1 : DH} {Q Q' : DK} {E E' : DXK} (z : ansD r h Q E) (q : ∀ d, Q d h → Q' d h1) (e : ∀ x, E x h → E' x h1) : ansD r h1 Q' E' := by
  cases r with
  | ok n => exact q _ z
  | error x => exact e _ z
theorem sz_atS {f s o : Int} {k : Nat} (h0 : 0 ≤ s) (h1 : s ≤ 2000) (h2 : 0 ≤ o) (h3 : o ≤ 2000) (hk : sz f ≤ k) : sz (atS f s o) ≤ k + 8001 := by
  unfold atS
  split
  · have e1 := sz_mul f (10 ^ (o - s).toNat)
    have e2 := sz_ten (o - s).toNat
    omega
  · have := sz_cutO f (10 ^ (s - o).toNat)
    omega


def g_is_whole : GM := fun ds h Q _ => ∃ d lo hi, ds = [d, .int lo, .int hi] ∧ tyk h d = true ∧ Q (.bl (isW d lo hi)) h

def g_raise_to : GM := fun ds h Q _ => ∃ n m : Int, ds = [.int n, .int m] ∧ (0 ≤ m ∧ m ≤ 100000 ∧ sz n * (m.toNat + 1) ≤ 100000000) ∧ Q (.int (n ^ m.toNat)) h

def g_ten : GM := fun ds h Q _ => ∃ m : Int, ds = [.int m] ∧ (0 ≤ m ∧ m ≤ 100000) ∧ Q (.int (10 ^ m.toNat)) h

def g_cut_off : GM := fun ds h Q _ => ∃ t b : Int, ds = [.int t, .int b] ∧ (0 < b ∧ sz b ≤ 9000) ∧ Q (.int (cutO t b)) h

def g_fitted : GM := fun ds h Q E => ∃ f s : Int, ds = [.int f, .int s] ∧ ansD (fit f s) h Q E

/-- the type of a thing, and of what a tuple holds, is known -/
def Ty (h : DH) (d : D) : Prop := tyk h d = true ∧ tyn h d = true
theorem ty_num (h : DH) (n : Nm) : Ty h (numD n) := ⟨rfl, rfl⟩
theorem tyk_sub {h h1 : DH} (s : Sub h h1) {d : D} (t : tyk h d = true) : tyk h1 d = true := by
  cases d with
  | ref a =>
    simp only [tyk, tyD] at t ⊢
    cases e : h a with
    | none => rw [e] at t; cases t
    | some o => rw [s a o e]; rw [e] at t; exact t
  | _ => exact t
theorem ty_sub {h h1 : DH} (s : Sub h h1) {d : D} (t : Ty h d) : Ty h1 d := by
  refine ⟨tyk_sub s t.1, ?_⟩
  have t2 := t.2
  cases d with
  | tup xs =>
    simp only [tyn, List.all_eq_true] at t2 ⊢
    exact fun x hx => tyk_sub s (t2 x hx)
  | _ => exact tyk_sub s t2
/-- the first that is no number -/
def firstBad : List D → Option D
  | [] => none
  | d :: r => if isNum d = true then firstBad r else some d
theorem isNum_num {d : D} (e : isNum d = true) : ∃ m : Nm, d = numD m ∧ Good m := by
  unfold isNum at e
  split at e
  · rename_i a b
    rw [Bool.and_eq_true] at e
    obtain ⟨e1, e2⟩ := e
    cases a with
    | int i => cases b with
      | int j =>
        simp only [isW, Bool.and_eq_true, decide_eq_true_eq] at e1 e2
        exact ⟨(i, j), rfl, ⟨by show -BIG < i; omega, by show i < BIG; omega⟩, e2.1, e2.2⟩
      | _ => cases e2
    | _ => cases e1
  · cases e
def guardN (xs : List D) (h : DH) (E : DXK) (k : Prop) : Prop := match firstBad xs with
  | none => k
  | some d => E ⟨.NoNumber, some [("thing", d)]⟩ h
def guardS (s : D) (hi : Int) (x : XN) (h : DH) (E : DXK) (k : Prop) : Prop := if isW s 0 hi = true then k else E ⟨x, none⟩ h
theorem guardN_1 {m : Nm} {h : DH} {E : DXK} {k : Prop} (g : Good m) (q : k) : guardN [numD m] h E k := by
  unfold guardN firstBad
  rw [g.num, if_pos rfl]
  exact q
theorem guardN_2 {m n : Nm} {h : DH} {E : DXK} {k : Prop} (g : Good m) (g2 : Good n) (q : k) : guardN [numD m, numD n] h E k := by
  unfold guardN firstBad firstBad
  rw [g.num, if_pos rfl, g2.num, if_pos rfl]
  exact q
theorem guardN_e {xs : List D} {h : DH} {E : DXK} {k : Prop} (z : guardN xs h E k) : (firstBad xs = none ∧ k) ∨ ∃ d, firstBad xs = some d ∧ E ⟨.NoNumber, some [("thing", d)]⟩ h := by
  unfold guardN at z
  split at z
  · exact .inl ⟨by assumption, z⟩
  · exact .inr ⟨_, by assumption, z⟩
theorem fb_1 {a : D} (e : firstBad [a] = none) : ∃ m, a = numD m ∧ Good m := by
  unfold firstBad at e
  split at e
  · exact isNum_num (by assumption)
  · cases e
theorem fb_2 {a b : D} (e : firstBad [a, b] = none) : (∃ m, a = numD m ∧ Good m) ∧ ∃ m, b = numD m ∧ Good m := by
  unfold firstBad at e
  split at e
  · exact ⟨isNum_num (by assumption), fb_1 e⟩
  · cases e
theorem isW_int {d : D} {lo hi : Int} (e : isW d lo hi = true) : ∃ i, d = .int i ∧ lo ≤ i ∧ i ≤ hi := by
  unfold isW at e
  split at e
  · simp only [Bool.and_eq_true, decide_eq_true_eq] at e
    exact ⟨_, rfl, e.1, e.2⟩
  · cases e
theorem isW_yes {i lo hi : Int} (h1 : lo ≤ i) (h2 : i ≤ hi) : isW (.int i) lo hi = true := by
  simp [isW, h1, h2]
theorem guardS_ok {i hi : Int} {x : XN} {h : DH} {E : DXK} {k : Prop} (h1 : 0 ≤ i) (h2 : i ≤ hi) (q : k) : guardS (.int i) hi x h E k := by
  unfold guardS
  rw [if_pos (isW_yes h1 h2)]
  exact q
theorem numD_inj {m n : Nm} (e : numD m = numD n) : m = n := by
  injection e with e
  injection e with e1 e2
  injection e2 with e2 e3
  injection e1 with e1
  injection e2 with e2
  exact Prod.ext e1 e2
theorem fb2 {m n : Nm} (e : firstBad [numD m, numD n] = none) : Good m ∧ Good n := by
  obtain ⟨⟨m', e1, ga⟩, ⟨n', e2, gb⟩⟩ := fb_2 e
  rw [numD_inj e1, numD_inj e2]
  exact ⟨ga, gb⟩
theorem fb1 {m : Nm} (e : firstBad [numD m] = none) : Good m := by
  obtain ⟨m', e1, ga⟩ := fb_1 e
  rw [numD_inj e1]
  exact ga
theorem tyk_ref' {h : DH} {a : Addr} (ht : tyk h (.ref a) = true) : ∃ t, tyD h (.ref a) = some t ∧ (t = "list" ∨ t = "dict") := by
  simp only [tyk] at ht
  simp only [tyD] at ht ⊢
  split at ht <;> simp_all
def guardW (s : D) (lo hi : Int) (x : XN) (h : DH) (E : DXK) (k : Prop) : Prop := if isW s lo hi = true then k else E ⟨x, none⟩ h


def g_need_base : GM := fun ds h Q E => ∃ s, ds = [s] ∧ tyk h s = true ∧ guardW s 2 16 .NoBase h E (Q .non h)

def signS (t b : Int) : Int := if 0 < b then cutO t b else cutO (0 - t) (0 - b)
def prodO (a b : Nm) (s : Int) : Ans := fit (atS (a.1 * b.1) (a.2 + b.2) (min (a.2 + b.2) (max (max s a.2) b.2))) (min (a.2 + b.2) (max (max s a.2) b.2))
def quoO (a b : Nm) (s : Int) : Ans := if b.1 = 0 then .error .NoDivisor else fit (signS (a.1 * 10 ^ (s + b.2).toNat) (b.1 * 10 ^ a.2.toNat)) s
def restO (a b : Nm) (s : Int) : Ans := match quoO a b s with
  | .error x => .error x
  | .ok w => fit (atS a.1 a.2 (max (s + b.2) a.2) - atS (w.1 * b.1) (w.2 + b.2) (max (s + b.2) a.2)) (max (s + b.2) a.2)
def powW (b : Nm) : Int := (b.1.natAbs : Int) / 10 ^ b.2.toNat
def powO (a b : Nm) (s : Int) : Ans :=
  if 0 < (b.1.natAbs : Int) % 10 ^ b.2.toNat ∨ 99 < powW b then .error .NoExponent
  else if 0 ≤ b.1 then fit (atS (a.1 ^ (powW b).toNat) (powW b * a.2) (min (powW b * a.2) (max s a.2))) (min (powW b * a.2) (max s a.2))
  else if a.1 = 0 then .error .NoDivisor
  else fit (signS (10 ^ (s + powW b * a.2).toNat) (a.1 ^ (powW b).toNat)) s
/-- the greatest whole number whose square is no more -/
def isqN : Nat → Nat
  | 0 => 0
  | n + 1 => if (isqN n + 1) * (isqN n + 1) ≤ n + 1 then isqN n + 1 else isqN n
theorem isqN_ok : ∀ n, isqN n * isqN n ≤ n ∧ n < (isqN n + 1) * (isqN n + 1)
  | 0 => ⟨Nat.le_refl _, by decide⟩
  | n + 1 => by
    obtain ⟨h1, h2⟩ := isqN_ok n
    unfold isqN
    split
    · rename_i h
      refine ⟨h, ?_⟩
      have e : (isqN n + 1 + 1) * (isqN n + 1 + 1) = (isqN n + 1) * (isqN n + 1) + 2 * (isqN n + 1) + 1 := by
        rw [Nat.add_mul, Nat.mul_add]
        omega
      omega
    · exact ⟨by omega, by omega⟩
theorem isq_one {n r q : Nat} (h1 : r * r ≤ n) (h2 : n < (r + 1) * (r + 1)) (h3 : q * q ≤ n) (h4 : n < (q + 1) * (q + 1)) : r = q := by
  rcases Nat.lt_trichotomy r q with h | h | h
  · have := Nat.mul_le_mul (show r + 1 ≤ q from h) (show r + 1 ≤ q from h)
    omega
  · exact h
  · have := Nat.mul_le_mul (show q + 1 ≤ r from h) (show q + 1 ≤ r from h)
    omega
def isq (n : Int) : Int := (isqN n.toNat : Int)
theorem isq_is {n r : Int} (hr : 0 ≤ r) (h1 : r * r ≤ n) (h2 : n < (r + 1) * (r + 1)) : isq n = r := by
  have hn : 0 ≤ n := Int.le_trans (Int.mul_nonneg hr hr) h1
  obtain ⟨r, rfl⟩ := Int.eq_ofNat_of_zero_le hr
  obtain ⟨n, rfl⟩ := Int.eq_ofNat_of_zero_le hn
  obtain ⟨g1, g2⟩ := isqN_ok n
  have h1 : r * r ≤ n := by exact_mod_cast h1
  have h2 : n < (r + 1) * (r + 1) := by exact_mod_cast h2
  exact congrArg _ (isq_one g1 g2 h1 h2)
theorem isq_le {n : Int} (hn : 0 ≤ n) : 0 ≤ isq n ∧ isq n * isq n ≤ n ∧ n < (isq n + 1) * (isq n + 1) := by
  obtain ⟨n, rfl⟩ := Int.eq_ofNat_of_zero_le hn
  obtain ⟨g1, g2⟩ := isqN_ok n
  refine ⟨Int.natCast_nonneg _, ?_, ?_⟩
  · show ((isqN n : Nat) : Int) * ((isqN n : Nat) : Int) ≤ (n : Int)
    exact_mod_cast g1
  · show (n : Int) < (((isqN n : Nat) : Int) + 1) * (((isqN n : Nat) : Int) + 1)
    exact_mod_cast g2
def rootO (a : Nm) (s : Int) : Ans := if a.1 < 0 then .error .NoRoot else fit (isq (atS a.1 a.2 (2 * max s a.2))) (max s a.2)
def cutOp (a : Nm) (s : Int) : Ans := fit (atS a.1 a.2 s) s
def lenO (a : Nm) : Int := max (max 1 a.2) (if a.1 = 0 then 1 else ((toString (a.1.natAbs : Int)).length : Int))


/-! ### whole numbers written in a base -/
def figs : List Nat := S "0123456789ABCDEF"
def figc (n : Nat) : Nat := figs.getD n 48
def wtF (b : Nat) : Nat → Nat → List Nat
  | 0, n => [figc (n % b)]
  | f + 1, n => if n < b then [figc (n % b)] else wtF b f (n / b) ++ [figc (n % b)]
def wtx (b n : Nat) : List Nat := wtF b n.log2 n
theorem two_log2 {n f : Nat} (h : n < 2 ^ (f + 1)) : n.log2 ≤ f := by
  by_cases z : n = 0
  · subst z
    exact Nat.zero_le _
  · exact Nat.le_of_lt_succ ((Nat.log2_lt z).mpr h)
theorem lt_log2 (n : Nat) : n < 2 ^ (n.log2 + 1) := by
  by_cases z : n = 0
  · subst z
    decide
  · exact (Nat.log2_lt z).mp (Nat.lt_succ_self _)
theorem div_log2 {b n f : Nat} (hb : 2 ≤ b) (hn : b ≤ n) (h : n.log2 ≤ f + 1) : (n / b).log2 ≤ f := by
  refine two_log2 ?_
  have h1 := lt_log2 n
  have h2 : 2 ^ (n.log2 + 1) ≤ 2 ^ (f + 1 + 1) := Nat.pow_le_pow_right (by decide) (by omega)
  rw [Nat.div_lt_iff_lt_mul (by omega)]
  have h3 : 2 ^ (f + 1) * 2 ≤ 2 ^ (f + 1) * b := Nat.mul_le_mul_left _ hb
  rw [Nat.pow_succ] at h2
  omega
theorem small_log2 {b n : Nat} (hb : 2 ≤ b) (hn : n.log2 ≤ 0) : n < b := by
  have h1 := lt_log2 n
  have e : n.log2 = 0 := by omega
  rw [e] at h1
  omega
theorem wtF_fuel {b : Nat} (hb : 2 ≤ b) : ∀ f g n : Nat, n.log2 ≤ f → n.log2 ≤ g → wtF b f n = wtF b g n
  | 0, 0, _, _, _ => rfl
  | 0, g + 1, n, h, _ => by
    show [figc (n % b)] = if n < b then [figc (n % b)] else wtF b g (n / b) ++ [figc (n % b)]
    rw [if_pos (small_log2 hb h)]
  | f + 1, 0, n, _, h => by
    show (if n < b then [figc (n % b)] else wtF b f (n / b) ++ [figc (n % b)]) = [figc (n % b)]
    rw [if_pos (small_log2 hb h)]
  | f + 1, g + 1, n, h1, h2 => by
    show (if n < b then [figc (n % b)] else wtF b f (n / b) ++ [figc (n % b)]) = if n < b then [figc (n % b)] else wtF b g (n / b) ++ [figc (n % b)]
    by_cases c : n < b
    · rw [if_pos c, if_pos c]
    · rw [if_neg c, if_neg c, wtF_fuel hb f g (n / b) (div_log2 hb (by omega) h1) (div_log2 hb (by omega) h2)]
theorem wtx_lt {b n : Nat} (h : n < b) : wtx b n = [figc n] := by
  unfold wtx
  cases n.log2 with
  | zero =>
    show [figc (n % b)] = _
    rw [Nat.mod_eq_of_lt h]
  | succ f =>
    show (if n < b then [figc (n % b)] else wtF b f (n / b) ++ [figc (n % b)]) = _
    rw [if_pos h, Nat.mod_eq_of_lt h]
theorem wtx_ge {b n : Nat} (hb : 2 ≤ b) (h : b ≤ n) : wtx b n = wtx b (n / b) ++ [figc (n % b)] := by
  unfold wtx
  cases e : n.log2 with
  | zero =>
    have := small_log2 hb (Nat.le_of_eq e)
    omega
  | succ f =>
    show (if n < b then [figc (n % b)] else wtF b f (n / b) ++ [figc (n % b)]) = _
    rw [if_neg (by omega), wtF_fuel hb f (n / b).log2 (n / b) (div_log2 hb h (by omega)) (Nat.le_refl _)]
theorem wtF_len (b : Nat) : ∀ f n, (wtF b f n).length ≤ f + 1
  | 0, _ => Nat.le_refl _
  | f + 1, n => by
    unfold wtF
    split
    · simp
    · have := wtF_len b f (n / b)
      rw [List.length_append, List.length_singleton]
      omega
theorem wtx_len (b n : Nat) : (wtx b n).length ≤ n.log2 + 1 := wtF_len b _ n
theorem wtx_ne {b n : Nat} (hb : 2 ≤ b) : wtx b n ≠ [] := by
  by_cases h : n < b
  · rw [wtx_lt h]
    simp
  · rw [wtx_ge hb (by omega)]
    simp
theorem log2_sz {n k : Nat} (h : sz (n : Int) ≤ k) : n.log2 ≤ k := by
  have h1 := sz_lt (x := (n : Int))
  rw [Int.natAbs_natCast] at h1
  exact two_log2 (Nat.lt_of_lt_of_le h1 (Nat.pow_le_pow_right (by decide) (by omega)))
theorem wtx_sz {b n k : Nat} (h : sz (n : Int) ≤ k) : (wtx b n).length ≤ k + 1 := Nat.le_trans (wtx_len b n) (Nat.succ_le_succ (log2_sz h))
/-- a figure, by its worth -/
theorem fig_at {n : Nat} (h : n < 16) : atI figs (n : Int) = some (figc n) := by
  have h : n ∈ List.range 16 := List.mem_range.mpr h
  revert n
  decide
theorem fig_ok {n : Nat} (h : n < 16) : figc n < 1114112 := by
  have h : n ∈ List.range 16 := List.mem_range.mpr h
  revert n
  decide
/-! ### how many figures stand behind the point -/
def mbF (b t : Nat) : Nat → Nat → Nat
  | 0, m => m
  | f + 1, m => if b ^ m < t then mbF b t f (m + 1) else m
def mbh (b t : Nat) : Nat := mbF b t 200 0
theorem mbF_is {b t : Nat} : ∀ f m : Nat, t ≤ b ^ (m + f) → (∀ k < m, b ^ k < t) → t ≤ b ^ mbF b t f m ∧ (∀ k < mbF b t f m, b ^ k < t) ∧ mbF b t f m ≤ m + f
  | 0, m, h, g => ⟨h, g, Nat.le_refl _⟩
  | f + 1, m, h, g => by
    unfold mbF
    split
    · rename_i c
      obtain ⟨h1, h2, h3⟩ := mbF_is f (m + 1) (by rw [show m + 1 + f = m + (f + 1) by omega]; exact h) (fun k hk => by
        rcases Nat.lt_succ_iff_lt_or_eq.mp hk with hk | rfl
        · exact g k hk
        · exact c)
      exact ⟨h1, h2, by omega⟩
    · exact ⟨by omega, g, by omega⟩
theorem mbh_is {b t : Nat} (hb : 2 ≤ b) (ht : t ≤ 2 ^ 200) : t ≤ b ^ mbh b t ∧ (∀ k < mbh b t, b ^ k < t) ∧ mbh b t ≤ 200 := by
  obtain ⟨h1, h2, h3⟩ := mbF_is (b := b) (t := t) 200 0 (Nat.le_trans ht (by rw [Nat.zero_add]; exact Nat.pow_le_pow_left hb 200)) (fun k hk => absurd hk (Nat.not_lt_zero k))
  exact ⟨h1, h2, by unfold mbh; omega⟩
theorem ten60 {s : Nat} (h : s ≤ 60) : 10 ^ s ≤ 2 ^ 200 := Nat.le_trans (Nat.pow_le_pow_right (by decide) h) (by decide)
theorem mbh_one {b t m : Nat} (hb : 2 ≤ b) (ht : t ≤ 2 ^ 200) (h1 : t ≤ b ^ m) (h2 : ∀ k < m, b ^ k < t) : mbh b t = m := by
  obtain ⟨g1, g2, _⟩ := mbh_is hb ht
  rcases Nat.lt_trichotomy (mbh b t) m with h | h | h
  · have := h2 _ h
    omega
  · exact h
  · have := g2 _ h
    omega
/-! ### a number written in a base -/
def behT (b : Nat) (p s : Nat) : List Nat := List.replicate (mbh b (10 ^ s) - (wtx b (p * b ^ mbh b (10 ^ s) / 10 ^ s)).length) 48 ++ wtx b (p * b ^ mbh b (10 ^ s) / 10 ^ s)
def ntx (b : Nat) (a : Nm) : List Nat :=
  ((if a.1 < 0 then S "-" else S "") ++ wtx b (a.1.natAbs / 10 ^ a.2.toNat)) ++ (if a.2 = 0 then [] else S "." ++ behT b (a.1.natAbs % 10 ^ a.2.toNat) a.2.toNat)
theorem flat_one' (n c : Nat) : (List.replicate n [c]).flatten = List.replicate n c := by
  induction n with
  | zero => rfl
  | succ n ih => rw [List.replicate_succ, List.flatten_cons, ih]; rfl
theorem S_nil : S "" = [] := by decide
theorem S_mi : S "-" = [45] := by decide
theorem S_dot : S "." = [46] := by decide
theorem S_0 : S "0" = [48] := by decide
theorem S_bs : S "\\" = [92] := by decide


/-! ### values compared, looked into -/
theorem eq_str {x y : List Nat} {h : DH} {Q : DK} (q : Q (.bl (decide (x = y))) h) : oEq (.str x) (.str y) h Q := by
  refine ⟨⟨Nat.zero_le 64, Nat.zero_le 64⟩, ?_⟩
  have e : eqP (.str x) (.str y) = decide (x = y) := by simp [eqP]
  rw [e]
  exact q
theorem eq_int {x y : Int} {h : DH} {Q : DK} (q : Q (.bl (decide (x = y))) h) : oEq (.int x) (.int y) h Q := by
  refine ⟨⟨Nat.zero_le 64, Nat.zero_le 64⟩, ?_⟩
  have e : eqP (.int x) (.int y) = decide (x = y) := by simp [eqP]
  rw [e]
  exact q
theorem ne_str {x y : List Nat} {h : DH} {Q : DK} (e : x = y) (q : Q (.bl false) h) : oNe (.str x) (.str y) h Q := by
  subst e
  refine ⟨⟨Nat.zero_le 64, Nat.zero_le 64⟩, ?_⟩
  have e : (!eqP (.str x) (.str x)) = false := by simp [eqP]
  show Q (.bl (!eqP (.str x) (.str x))) h
  rw [e]
  exact q
theorem ne_bl {x y : Bool} {h : DH} {Q : DK} (e : x = y) (q : Q (.bl false) h) : oNe (.bl x) (.bl y) h Q := by
  subst e
  refine ⟨⟨Nat.zero_le 64, Nat.zero_le 64⟩, ?_⟩
  have e : (!eqP (.bl x) (.bl x)) = false := by simp [eqP]
  show Q (.bl (!eqP (.bl x) (.bl x))) h
  rw [e]
  exact q
theorem in_sign {x z : List Nat} {c : Nat} {h : DH} {Q : DK} (e : x = [c]) (q : Q (.bl (decide (c ∈ z))) h) : oIn (.str x) (.str z) h Q := by
  subst e
  exact q
theorem ni_sign {x z : List Nat} {c : Nat} {h : DH} {Q : DK} (e : x = [c]) (q : Q (.bl (!decide (c ∈ z))) h) : oNi (.str x) (.str z) h Q := by
  subst e
  exact q
theorem ne_str' {x y : List Nat} {h : DH} {Q : DK} (q : Q (.bl (!decide (x = y))) h) : oNe (.str x) (.str y) h Q := by
  refine ⟨⟨Nat.zero_le 64, Nat.zero_le 64⟩, ?_⟩
  have e : (!eqP (.str x) (.str y)) = !decide (x = y) := by simp [eqP]
  show Q (.bl (!eqP (.str x) (.str y))) h
  rw [e]
  exact q
theorem ne_int' {x y : Int} {h : DH} {Q : DK} (q : Q (.bl (!decide (x = y))) h) : oNe (.int x) (.int y) h Q := by
  refine ⟨⟨Nat.zero_le 64, Nat.zero_le 64⟩, ?_⟩
  have e : (!eqP (.int x) (.int y)) = !decide (x = y) := by simp [eqP]
  show Q (.bl (!eqP (.int x) (.int y))) h
  rw [e]
  exact q
theorem cut_take {α : Type} (xs : List α) (k : Nat) : cutL xs none (some (k : Int)) = xs.take k := by
  unfold cutL
  rw [HT.sIx_none, HT.sIx_nat, List.drop_zero, Nat.sub_zero, ← List.take_eq_take_min]
theorem cut_drop {α : Type} (xs : List α) (k : Nat) : cutL xs (some (k : Int)) none = xs.drop k := by
  unfold cutL
  rw [HT.sIx_none, HT.sIx_nat, List.take_of_length_le (by rw [List.length_drop]; omega)]
  rcases Nat.le_total k xs.length with h | h
  · rw [Nat.min_eq_left h]
  · rw [Nat.min_eq_right h, List.drop_length, List.drop_eq_nil_of_le h]
theorem cut_mid {α : Type} (xs : List α) (j k : Nat) : cutL xs (some (j : Int)) (some (k : Int)) = (xs.drop j).take (k - j) := by
  unfold cutL
  rw [HT.sIx_nat, HT.sIx_nat]
  rcases Nat.le_total j xs.length with h | h
  · rw [Nat.min_eq_left h]
    rcases Nat.le_total k xs.length with h2 | h2
    · rw [Nat.min_eq_left h2]
    · rw [Nat.min_eq_right h2, List.take_of_length_le (by rw [List.length_drop]; omega), List.take_of_length_le (by rw [List.length_drop]; omega)]
  · rw [Nat.min_eq_right h, List.drop_length, List.drop_eq_nil_of_le h, List.take_nil, List.take_nil]
theorem cut_last {α : Type} (xs : List α) : cutL xs none (some (-1)) = xs.dropLast := by
  unfold cutL
  rw [HT.sIx_none, List.drop_zero, Nat.sub_zero, List.dropLast_eq_take]
  show xs.take (if (-1 : Int) < 0 then ((-1 : Int) + (xs.length : Int)).toNat else min (-1 : Int).toNat xs.length) = _
  rw [if_pos (by decide)]
  congr 1
  omega
theorem cut_end {α : Type} (xs : List α) : cutL xs (some (-1)) none = xs.drop (xs.length - 1) := by
  unfold cutL
  rw [HT.sIx_none]
  show (xs.drop (if (-1 : Int) < 0 then ((-1 : Int) + (xs.length : Int)).toNat else min (-1 : Int).toNat xs.length)).take (xs.length - (if (-1 : Int) < 0 then ((-1 : Int) + (xs.length : Int)).toNat else min (-1 : Int).toNat xs.length)) = _
  rw [if_pos (by decide), List.take_of_length_le (by
    rw [List.length_drop]
    omega)]
  congr 1
  omega
theorem ne_int {x y : Int} {h : DH} {Q : DK} (e : x = y) (q : Q (.bl false) h) : oNe (.int x) (.int y) h Q := ne_int' (by rw [decide_eq_true e]; exact q)
theorem orI {t u : WT} {env : DD.Env} {h : DH} {Q : Bool → DH → Prop} {E : DXK} (q : t env h (fun k h1 => if k = true then Q true h1 else u env h1 Q E) E) : wOr t u env h Q E := q
theorem andI {t u : WT} {env : DD.Env} {h : DH} {Q : Bool → DH → Prop} {E : DXK} (q : t env h (fun k h1 => if k = true then u env h1 Q E else Q false h1) E) : wAnd t u env h Q E := q
theorem ifI {wc : WT} {s t : WS} {F : DEnds} {env : DD.Env} {h : DH} (q : wc env h (fun k h1 => if k = true then s F env h1 else t F env h1) (fun x h1 => F.xc x env h1)) : wIf wc s t F env h := q
theorem ifQ {wc : WT} {s t : WS} {F : DEnds} {env : DD.Env} {h : DH} (q : wc env h (fun k h1 => if k = true then s { F with nx := t F } env h1 else t F env h1) (fun x h1 => F.xc x env h1)) : wSeq (wIf wc s wNext) t F env h := q
theorem tI {w : WE} {env : DD.Env} {h : DH} {Q : Bool → DH → Prop} {E : DXK} (q : w env h (fun d h1 => match d with | .bl k => Q k h1 | _ => False) E) : wTest w env h Q E := q
theorem retI {w : WE} {F : DEnds} {env : DD.Env} {h : DH} (q : w env h F.rt (fun x h1 => F.xc x env h1)) : wRet w F env h := q
theorem eqv {i : Nat} {x k : Int} {env : DD.Env} {h : DH} {Q : Bool → DH → Prop} {E : DXK} (hi : env[i]? = some (some (.int x))) (q : Q (decide (x = k)) h) : wTest (wBin oEq (wVar i) (wC (.int k))) env h Q E := by
  unfold wTest wBin
  exact wv hi (eq_int q)
theorem ltv {i : Nat} {x k : Int} {env : DD.Env} {h : DH} {Q : Bool → DH → Prop} {E : DXK} (hi : env[i]? = some (some (.int x))) (q : Q (decide (x < k)) h) : wTest (wBin oLt (wVar i) (wC (.int k))) env h Q E := by
  unfold wTest wBin
  exact wv hi ⟨trivial, q⟩
theorem is_bl {a b : Bool} {h : DH} {Q : DK} (q : Q (.bl (decide (a = b))) h) : oIs (.bl a) (.bl b) h Q := q
theorem nis_bl {a b : Bool} {h : DH} {Q : DK} (q : Q (.bl (!decide (a = b))) h) : oNis (.bl a) (.bl b) h Q := q


/-! ### what the laws reckon with: cut toward nought, told at a scale -/
def tcut (t b : Int) : Int := if decide (0 ≤ t) = decide (0 < b) then (t.natAbs : Int) / (b.natAbs : Int) else 0 - (t.natAbs : Int) / (b.natAbs : Int)
def tellS (f p o : Int) : Nm := (tcut (f * 10 ^ o.toNat) (10 ^ p.toNat), o)
/-- toward nought, the divisor above nought -/
theorem tcut_pos {t b : Int} (hb : 0 < b) : tcut t b = cutO t b := by
  unfold tcut cutO
  rw [decide_eq_true hb]
  by_cases h : 0 ≤ t
  · rw [if_pos (decide_eq_true h), if_pos h, Int.natAbs_of_nonneg h, Int.natAbs_of_nonneg (by omega)]
  · rw [if_neg (by simpa using h), if_neg h]
    have e1 : (t.natAbs : Int) = 0 - t := by omega
    have e2 : (b.natAbs : Int) = b := by omega
    rw [e1, e2]
theorem cutO_mul (t b : Int) (hb : 0 < b) : cutO (t * b) b = t := by
  unfold cutO
  split
  · exact Int.mul_ediv_cancel _ (by omega)
  · rw [show 0 - t * b = (0 - t) * b by rw [Int.sub_mul, Int.zero_mul], Int.mul_ediv_cancel _ (by omega)]
    omega
/-- a common factor goes out -/
theorem cutO_fac (t b c : Int) (hb : 0 < b) (hc : 0 < c) : cutO (t * c) (b * c) = cutO t b := by
  have e : 0 ≤ t * c ↔ 0 ≤ t := ⟨fun h => by
    by_cases z : 0 ≤ t
    · exact z
    · have : t * c < 0 := Int.mul_neg_of_neg_of_pos (by omega) hc
      omega, fun h => Int.mul_nonneg h (by omega)⟩
  unfold cutO
  by_cases h : 0 ≤ t
  · rw [if_pos (e.mpr h), if_pos h, Int.mul_ediv_mul_of_pos_left _ _ hc]
  · rw [if_neg (fun z => h (e.mp z)), if_neg h, show 0 - t * c = (0 - t) * c by rw [Int.sub_mul, Int.zero_mul], Int.mul_ediv_mul_of_pos_left _ _ hc]
theorem p10 (a b : Nat) : (10 : Int) ^ (a + b) = 10 ^ a * 10 ^ b := Int.pow_add _ _ _
/-- told at another scale is what the program's own telling gives -/
theorem tellS_atS {f p o : Int} (hp : 0 ≤ p) (ho : 0 ≤ o) : tellS f p o = (atS f p o, o) := by
  unfold tellS atS
  rw [tcut_pos (ten_pos _)]
  congr 1
  split
  · rename_i h
    have e : o.toNat = (o - p).toNat + p.toNat := by omega
    rw [e, p10, ← Int.mul_assoc, cutO_mul _ _ (ten_pos _)]
  · rename_i h
    have e : p.toNat = (p - o).toNat + o.toNat := by omega
    rw [e, p10, cutO_fac _ _ _ (ten_pos _) (ten_pos _)]
/-- a number drawn by a law: figures, scale -/
def NumB (a : Nm) : Prop := (-(10 ^ 17) < a.1 ∧ a.1 < 10 ^ 17) ∧ 0 ≤ a.2 ∧ a.2 ≤ 9
theorem sz_17 {f : Int} (h : -(10 ^ 17) < f ∧ f < 10 ^ 17) : sz f ≤ 57 := sz_le (by omega)
/-- the figures that have no more than so many bits are no more than .. -/
theorem abs_of_sz {x : Int} {k : Nat} (h : sz x ≤ k) : -(2 ^ k) < x ∧ x < 2 ^ k := by
  have h1 := sz_lt (x := x)
  have h2 : 2 ^ sz x ≤ 2 ^ k := Nat.pow_le_pow_right (by decide) h
  have h3 : x.natAbs < 2 ^ k := by omega
  have h4 : ((x.natAbs : Nat) : Int) < ((2 ^ k : Nat) : Int) := by exact_mod_cast h3
  rw [Int.natCast_pow] at h4
  have e : ((2 : Nat) : Int) = 2 := rfl
  rw [e] at h4
  omega
theorem BIG_990 : (2 : Int) ^ 990 ≤ BIG := by
  unfold BIG
  decide +kernel
theorem fit_ok {f s : Int} (h1 : sz f ≤ 990) (h2 : s ≤ 60) : fit f s = .ok (f, s) := by
  unfold fit
  rw [if_neg]
  rintro (h | h)
  · have := abs_of_sz h1
    have := BIG_990
    omega
  · omega
theorem good_ok {f s : Int} (h1 : sz f ≤ 990) (h2 : 0 ≤ s) (h3 : s ≤ 60) : Good (f, s) := by
  have := abs_of_sz h1
  have := BIG_990
  exact ⟨⟨by show -BIG < f; omega, by show f < BIG; omega⟩, h2, h3⟩
theorem NumB.good {a : Nm} (h : NumB a) : Good a := good_ok (Nat.le_trans (sz_17 h.1) (by decide)) h.2.1 (by have := h.2.2; omega)
theorem NumB.sz {a : Nm} (h : NumB a) : sz a.1 ≤ 57 := sz_17 h.1
/-- the signs of a reckoning -/
inductive Sg where
  | add | sub | mul | div | rem | pow
def Sg.t : Sg → List Nat
  | .add => S "+" | .sub => S "-" | .mul => S "*" | .div => S "/" | .rem => S "#" | .pow => S "^"
/-- what a law says that two numbers give: a number, or a word of why not -/
def reckS (g : Sg) (a b : Nm) (s : Int) : D := match g with
  | .add => numD (tellS (a.1 * 10 ^ b.2.toNat + b.1 * 10 ^ a.2.toNat) (a.2 + b.2) (max a.2 b.2))
  | .sub => numD (tellS (a.1 * 10 ^ b.2.toNat - b.1 * 10 ^ a.2.toNat) (a.2 + b.2) (max a.2 b.2))
  | .mul => numD (tellS (a.1 * b.1) (a.2 + b.2) (min (a.2 + b.2) (max (max s a.2) b.2)))
  | .div => if b.1 = 0 then .str (S "divisor") else numD (tcut (a.1 * 10 ^ (b.2 + s).toNat) (b.1 * 10 ^ a.2.toNat), s)
  | .rem => if b.1 = 0 then .str (S "divisor") else if 10 ^ 299 ≤ ((tcut (a.1 * 10 ^ (b.2 + s).toNat) (b.1 * 10 ^ a.2.toNat)).natAbs : Int) then .str (S "long") else numD (tellS (a.1 * 10 ^ (s + b.2).toNat - tcut (a.1 * 10 ^ (b.2 + s).toNat) (b.1 * 10 ^ a.2.toNat) * b.1 * 10 ^ a.2.toNat) (a.2 + s + b.2) (max (s + b.2) a.2))
  | .pow => if tcut b.1 (10 ^ b.2.toNat) * 10 ^ b.2.toNat ≠ b.1 ∨ 99 < ((tcut b.1 (10 ^ b.2.toNat)).natAbs : Int) then .str (S "exponent") else
    if 0 ≤ tcut b.1 (10 ^ b.2.toNat) then numD (tellS (a.1 ^ (tcut b.1 (10 ^ b.2.toNat)).natAbs) (a.2 * tcut b.1 (10 ^ b.2.toNat)) (min (a.2 * tcut b.1 (10 ^ b.2.toNat)) (max s a.2)))
    else if a.1 = 0 then .str (S "divisor") else numD (tcut (10 ^ (s - tcut b.1 (10 ^ b.2.toNat) * a.2).toNat) (a.1 ^ (tcut b.1 (10 ^ b.2.toNat)).natAbs), s)
def reckOk (g : Sg) (a b : Nm) : Prop := match g with
  | .add => True | .sub => True | .mul => True | .div => True | .rem => True | .pow => sz a.1 * ((tcut b.1 (10 ^ b.2.toNat)).natAbs + 1) ≤ 8000 ∧ a.2 * ((tcut b.1 (10 ^ b.2.toNat)).natAbs : Int) ≤ 540 ∧ ((tcut b.1 (10 ^ b.2.toNat)).natAbs : Int) ≤ 99


theorem ansD_ok {r : Ans} {n : Nm} {h : DH} {Q : DK} {E : DXK} (e : r = .ok n) (q : Q (numD n) h) : ansD r h Q E := by rw [e]; exact q
theorem oNe_num {x y : Nm} {h : DH} {Q : DK} (e : x = y) (q : Q (.bl false) h) : oNe (numD x) (numD y) h Q := by
  subst e
  refine ⟨⟨by show (1 : Nat) ≤ 64; decide, by show (1 : Nat) ≤ 64; decide⟩, ?_⟩
  have e : (!eqP (.tup [.int x.1, .int x.2]) (.tup [.int x.1, .int x.2])) = false := by simp [eqP, eqPs]
  show Q (.bl (!eqP (.tup [.int x.1, .int x.2]) (.tup [.int x.1, .int x.2]))) h
  rw [e]
  exact q
theorem oNe_int {x y : Int} {h : DH} {Q : DK} (e : x = y) (q : Q (.bl false) h) : oNe (.int x) (.int y) h Q := by
  subst e
  refine ⟨⟨Nat.zero_le 64, Nat.zero_le 64⟩, ?_⟩
  have e : (!eqP (.int x) (.int x)) = false := by simp [eqP]
  show Q (.bl (!eqP (.int x) (.int x))) h
  rw [e]
  exact q
theorem atS_le {f s o : Int} (h : s ≤ o) : atS f s o = f * 10 ^ (o - s).toNat := if_pos h
theorem atS_self (f s : Int) : atS f s s = f := by rw [atS_le (Int.le_refl _), Int.sub_self]; simp
theorem sz_atS_le {f s o : Int} {k j : Nat} (h : s ≤ o) (hk : sz f ≤ k) (hj : o - s ≤ j) : sz (atS f s o) ≤ k + (4 * j + 1) := by
  rw [atS_le h]
  exact szm hk (szt hj)
theorem sumO_ok {a b : Nm} {m : Int} (ha : sz a.1 ≤ 700) (hb : sz b.1 ≤ 700) (a2 : 0 ≤ a.2 ∧ a.2 ≤ 60) (b2 : 0 ≤ b.2 ∧ b.2 ≤ 60) (hm : sz m ≤ 10) :
    sumO a b m = .ok (atS a.1 a.2 (max a.2 b.2) + m * atS b.1 b.2 (max a.2 b.2), max a.2 b.2) := by
  have e1 := sz_atS_le (f := a.1) (s := a.2) (o := max a.2 b.2) (j := 60) (by omega) ha (by omega)
  have e2 := sz_atS_le (f := b.1) (s := b.2) (o := max a.2 b.2) (j := 60) (by omega) hb (by omega)
  exact fit_ok (Nat.le_trans (sza e1 (szm hm e2)) (by omega)) (by omega)
/-- the telling at the greater scale -/
theorem tell_max {a b : Nm} (m : Int) (a0 : 0 ≤ a.2) (b0 : 0 ≤ b.2) : tellS (a.1 * 10 ^ b.2.toNat + m * (b.1 * 10 ^ a.2.toNat)) (a.2 + b.2) (max a.2 b.2) = (atS a.1 a.2 (max a.2 b.2) + m * atS b.1 b.2 (max a.2 b.2), max a.2 b.2) := by
  unfold tellS
  rw [tcut_pos (ten_pos _), atS_le (by omega), atS_le (by omega)]
  have e1 : (max a.2 b.2).toNat = (max a.2 b.2 - a.2).toNat + a.2.toNat := by omega
  have e2 : (max a.2 b.2).toNat = (max a.2 b.2 - b.2).toNat + b.2.toNat := by omega
  have e3 : (a.2 + b.2).toNat = a.2.toNat + b.2.toNat := by omega
  have e : (a.1 * 10 ^ b.2.toNat + m * (b.1 * 10 ^ a.2.toNat)) * 10 ^ (max a.2 b.2).toNat = (a.1 * 10 ^ (max a.2 b.2 - a.2).toNat + m * (b.1 * 10 ^ (max a.2 b.2 - b.2).toNat)) * 10 ^ (a.2 + b.2).toNat := by
    rw [Int.add_mul, Int.add_mul, e3, p10]
    congr 1
    · conv => lhs; rw [e1, p10]
      ac_rfl
    · conv => lhs; rw [e2, p10]
      ac_rfl
  rw [e, cutO_mul _ _ (ten_pos _)]
theorem ordO_zero {a b : Nm} (e : a.1 * 10 ^ b.2.toNat = b.1 * 10 ^ a.2.toNat) : ordO a b = 0 := by
  unfold ordO
  rw [e, if_neg (Int.lt_irrefl _)]
  rfl
abbrev sumV (a b : Nm) (m : Int) : Nm := (atS a.1 a.2 (max a.2 b.2) + m * atS b.1 b.2 (max a.2 b.2), max a.2 b.2)
theorem sz_sumV {a b : Nm} {m : Int} {k : Nat} (ha : sz a.1 ≤ k) (hb : sz b.1 ≤ k) (a2 : 0 ≤ a.2 ∧ a.2 ≤ 60) (b2 : 0 ≤ b.2 ∧ b.2 ≤ 60) (hm : sz m ≤ 1) : sz (sumV a b m).1 ≤ k + 243 := by
  have u1 := sz_atS_le (f := a.1) (s := a.2) (o := max a.2 b.2) (j := 60) (by omega) ha (by omega)
  have u2 := sz_atS_le (f := b.1) (s := b.2) (o := max a.2 b.2) (j := 60) (by omega) hb (by omega)
  exact Nat.le_trans (sza u1 (szm hm u2)) (by omega)
/-- put on and taken away again -/
theorem sum_back' {a b : Nm} {m n : Int} (e : n = -m) (ha : sz a.1 ≤ 400) (hb : sz b.1 ≤ 400) (a2 : 0 ≤ a.2 ∧ a.2 ≤ 60) (b2 : 0 ≤ b.2 ∧ b.2 ≤ 60) (hm : sz m ≤ 1) : sumO (sumV a b m) b n = .ok (atS a.1 a.2 (max a.2 b.2), max a.2 b.2) := by
  subst e
  have z := sz_sumV (m := m) ha hb a2 b2 hm
  have m1 : max (max a.2 b.2) b.2 = max a.2 b.2 := by omega
  rw [sumO_ok (Nat.le_trans z (by decide)) (Nat.le_trans hb (by decide)) ⟨by show 0 ≤ max a.2 b.2; omega, by show max a.2 b.2 ≤ 60; omega⟩ b2 (by rw [sz_neg]; omega)]
  show Except.ok (atS (sumV a b m).1 (max a.2 b.2) (max (max a.2 b.2) b.2) + -m * atS b.1 b.2 (max (max a.2 b.2) b.2), max (max a.2 b.2) b.2) = _
  rw [m1, atS_self]
  show Except.ok (atS a.1 a.2 (max a.2 b.2) + m * atS b.1 b.2 (max a.2 b.2) + -m * atS b.1 b.2 (max a.2 b.2), max a.2 b.2) = _
  rw [Int.add_assoc, ← Int.add_mul, show m + -m = 0 by omega, Int.zero_mul, Int.add_zero]
theorem sum_back {a b : Nm} {m n : Int} (e : n = -m) (ha : sz a.1 ≤ 100) (hb : sz b.1 ≤ 100) (a2 : 0 ≤ a.2 ∧ a.2 ≤ 60) (b2 : 0 ≤ b.2 ∧ b.2 ≤ 60) (hm : sz m ≤ 1) : sumO (sumV a b m) b n = .ok (atS a.1 a.2 (max a.2 b.2), max a.2 b.2) :=
  sum_back' e (Nat.le_trans ha (by decide)) (Nat.le_trans hb (by decide)) a2 b2 hm
theorem ord_up {a : Nm} {o : Int} (a0 : 0 ≤ a.2) (h : a.2 ≤ o) : ordO (atS a.1 a.2 o, o) a = 0 := by
  refine ordO_zero ?_
  show atS a.1 a.2 o * 10 ^ a.2.toNat = a.1 * 10 ^ o.toNat
  have e : o.toNat = (o - a.2).toNat + a.2.toNat := by omega
  rw [atS_le h, e, p10, Int.mul_assoc]
theorem py_ints' (h : DH) (n : Nat) : ∀ ns : List Int, pyWs (pyN h n) (ns.map D.int) = some (ns.map PD.int)
  | [] => rfl
  | m :: ns => by
    rw [List.map_cons, pyWs, py_ints' h n ns]
    rfl
theorem dep_ints' : ∀ ns : List Int, PD.depths (ns.map PD.int) = 0
  | [] => rfl
  | n :: ns => by
    rw [List.map_cons]
    show max 0 (PD.depths (ns.map PD.int)) = 0
    rw [dep_ints' ns]
    rfl
theorem eqPs_ints : ∀ ns : List Int, eqPs (ns.map PD.int) (ns.map PD.int) = true
  | [] => by simp [eqPs]
  | n :: ns => by
    rw [List.map_cons, eqPs, eqPs_ints ns]
    simp [eqP]
theorem py_lst {h : DH} {a : Addr} {ns : List Int} (e : h a = some (.lst (ns.map D.int))) : py h (.ref a) = some (.lst (ns.map PD.int)) := by
  show pyN h 4 a = _
  unfold pyN
  rw [e]
  show (match pyWs (pyN h 3) (ns.map D.int) with | some ds => some (PD.lst ds) | none => none) = _
  rw [py_ints']
theorem oEq_ints {h : DH} {a b : Addr} {Q : DK} (ns : List Int) (ha : h a = some (.lst (ns.map D.int))) (hb : h b = some (.lst (ns.map D.int))) (q : Q (.bl true) h) : oEq (.ref a) (.ref b) h Q := by
  show (match py h (.ref a), py h (.ref b) with | some d, some e => _ | _, _ => False)
  rw [py_lst ha, py_lst hb]
  have d : (PD.lst (ns.map PD.int)).depth ≤ 64 := by
    show PD.depths _ + 1 ≤ 64
    rw [dep_ints']
    decide
  refine ⟨⟨d, d⟩, ?_⟩
  have e : eqP (.lst (ns.map PD.int)) (.lst (ns.map PD.int)) = true := by rw [eqP]; exact eqPs_ints ns
  rw [e]
  exact q


/-- the law's number of an error -/
def rank : XN → Option Nat
  | .NoNumber => some 0 | .NoScale => some 1 | .NoBase => some 2 | .NoWidth => some 3 | .NoText => some 4 | .NoProgram => some 5 | .NoTree => some 6 | .NoDivisor => some 7
  | .NoExponent => some 8 | .NoRoot => some 9 | .TooLong => some 10 | .TooMany => some 11 | .Nothing => some 12 | _ => none
abbrev refD (k : Nat) : D := .tup [.str (S "refused"), .int k]
theorem tyL {h : DH} {p : Addr} {xs : List D} (e : h p = some (.lst xs)) : tyq "list" (.ref p) h := by
  show (match h p with | some (.lst _) => _ | some (.dic _) => _ | some (.dit _) => _ | _ => False)
  rw [e]
theorem extL {h : DH} {a b : Addr} {xs ys : List D} {Q : DK} (e1 : h a = some (.lst xs)) (e2 : h b = some (.lst ys)) (l : xs.length + ys.length ≤ sizeLine) (q : Q .non (dup h a (.lst (xs ++ ys)))) : omExtend (.ref a) [.ref b] h Q := by
  show (match h a, h b with | some (.lst xs), some (.lst ys) => _ | _, _ => False)
  rw [e1, e2]
  exact ⟨l, q⟩
theorem appL {h : DH} {a : Addr} {xs : List D} {y : D} {Q : DK} (e1 : h a = some (.lst xs)) (l : xs.length < sizeLine) (q : Q .non (dup h a (.lst (xs ++ [y])))) : omAppend (.ref a) [y] h Q := by
  show (match h a with | some (.lst xs) => _ | _ => False)
  rw [e1]
  exact ⟨l, q⟩
theorem noBefore {bs : List Bool} {k : Nat} (e : (bs.take k).all (fun b => !b) = true) : ∀ m z, m < k → (bs.map D.bl)[m]? = some z → eqF z (.bl true) = false := by
  intro m z hm hz
  rw [List.getElem?_map] at hz
  cases q : bs[m]? with
  | none => rw [q] at hz; cases hz
  | some b =>
    rw [q] at hz
    cases hz
    have hb : b ∈ bs.take k := by
      refine List.mem_of_getElem? (i := m) ?_
      rw [List.getElem?_take_of_lt hm]
      exact q
    have := List.all_eq_true.mp e b hb
    cases b with
    | false => rfl
    | true => cases this
/-- which of the thirteen it is -/
def isas (n : XN) : List Bool := [isa n .NoNumber, isa n .NoScale, isa n .NoBase, isa n .NoWidth, isa n .NoText, isa n .NoProgram, isa n .NoTree, isa n .NoDivisor, isa n .NoExponent, isa n .NoRoot, isa n .TooLong, isa n .TooMany, isa n .Nothing]
theorem isas_ok {n : XN} {k : Nat} (hk : rank n = some k) : (isas n).count true = 1 ∧ ((isas n).take k).all (fun b => !b) = true ∧ (isas n)[k]? = some true := by
  cases n <;> first | (cases hk; done) | (cases hk; decide)
def askD (r : Ans) : D := match r with
  | .ok n => numD n
  | .error x => match rank x with
    | some k => refD k
    | none => .non


/-! ### list comprehensions whose elements change nothing -/
theorem lc_map {it : DIt} {bind : D → DD.Env} {we : WE} {p : Addr} {Q : DK} {h1 : DH} (xs : List D) (f : D → D) (hn : xs.length ≤ 100000) (hx : ∀ i acc, it i (dup h1 p (.lst acc)) = some xs[i]?)
    (he : ∀ d ∈ xs, ∀ acc, ∀ Q' : DK, Q' (f d) (dup h1 p (.lst acc)) → we (bind d) (dup h1 p (.lst acc)) Q' (fun _ _ => False)) (q : Q (.ref p) (dup h1 p (.lst (xs.map f)))) : LcOf it bind wYes we p Q h1 := by
  refine lc_n xs.length (fun i h => h = dup h1 p (.lst ((xs.take i).map f))) rfl ?_ ?_
  · rintro i h hi rfl
    have e : xs[i]? = some xs[i] := List.getElem?_eq_getElem hi
    refine ⟨xs[i], by rw [hx, e], ?_⟩
    refine ite_y rfl (he _ (List.getElem_mem hi) _ _ ⟨_, dup_same, ?_, ?_⟩)
    · rw [List.length_map, List.length_take]
      exact Nat.lt_of_le_of_lt (Nat.min_le_left _ _) (Nat.lt_of_lt_of_le hi (Nat.le_trans hn (by decide)))
    · rw [dup_dup, List.take_succ, e, List.map_append]
      rfl
  · rintro h rfl
    rw [List.take_length]
    exact ⟨by rw [hx, List.getElem?_eq_none (Nat.le_refl _)], q⟩
/-- over a tuple, a text -/
theorem lc_x {bind : D → DD.Env} {we : WE} {p : Addr} {Q : DK} {h1 : DH} (xs : List D) (f : D → D) (hn : xs.length ≤ 100000)
    (he : ∀ d ∈ xs, ∀ acc, ∀ Q' : DK, Q' (f d) (dup h1 p (.lst acc)) → we (bind d) (dup h1 p (.lst acc)) Q' (fun _ _ => False)) (q : Q (.ref p) (dup h1 p (.lst (xs.map f)))) : LcOf (itX xs) bind wYes we p Q h1 :=
  lc_map xs f hn (fun _ _ => rfl) he q
/-- over a list -/
theorem lc_l {bind : D → DD.Env} {we : WE} {p a : Addr} {Q : DK} {h1 : DH} (xs : List D) (f : D → D) (hn : xs.length ≤ 100000) (ha : h1 a = some (.lst xs)) (hp : h1 p = none)
    (he : ∀ d ∈ xs, ∀ acc, ∀ Q' : DK, Q' (f d) (dup h1 p (.lst acc)) → we (bind d) (dup h1 p (.lst acc)) Q' (fun _ _ => False)) (q : Q (.ref p) (dup h1 p (.lst (xs.map f)))) : LcOf (itL a) bind wYes we p Q h1 :=
  lc_map xs f hn (fun i acc => by
    unfold itL
    rw [dup_ne (dne ha hp), ha]) he q
theorem bls_map {α : Type} (f : α → Bool) : ∀ xs : List α, bls (xs.map fun d => D.bl (f d)) = some (xs.map f)
  | [] => rfl
  | x :: xs => by
    rw [List.map_cons, List.map_cons]
    show (match bls (xs.map fun d => D.bl (f d)) with | some bs => some (f x :: bs) | none => none) = _
    rw [bls_map f xs]
theorem all_l {α : Type} {p : Addr} {xs : List α} {f : α → Bool} {h : DH} {Q : DK} (e : h p = some (.lst (xs.map fun d => D.bl (f d)))) (q : Q (.bl (xs.all f)) h) : oAll [.ref p] h Q := by
  show (match h p with | some (.lst xs) => (match bls xs with | some bs => Q (.bl (bs.all fun b => b)) h | none => False) | _ => False)
  rw [e]
  show (match bls (xs.map fun d => D.bl (f d)) with | some bs => Q (.bl (bs.all fun b => b)) h | none => False)
  rw [bls_map]
  show Q (.bl ((xs.map f).all fun b => b)) h
  rw [List.all_map]
  exact q
theorem any_l {α : Type} {p : Addr} {xs : List α} {f : α → Bool} {h : DH} {Q : DK} (e : h p = some (.lst (xs.map fun d => D.bl (f d)))) (q : Q (.bl (xs.any f)) h) : oAny [.ref p] h Q := by
  show (match h p with | some (.lst xs) => (match bls xs with | some bs => Q (.bl (bs.any fun b => b)) h | none => False) | _ => False)
  rw [e]
  show (match bls (xs.map fun d => D.bl (f d)) with | some bs => Q (.bl (bs.any fun b => b)) h | none => False)
  rw [bls_map]
  show Q (.bl ((xs.map f).any fun b => b)) h
  rw [List.any_map]
  exact q
theorem lenL {h : DH} {p : Addr} {xs : List D} {Q : DK} (e : h p = some (.lst xs)) (q : Q (.int xs.length) h) : oLen [.ref p] h Q := by
  show (match h p with | some (.lst xs) => Q (.int xs.length) h | some (.dic kvs) => Q (.int kvs.length) h | _ => False)
  rw [e]
  exact q
theorem addL {h : DH} {a b : Addr} {xs ys : List D} {Q : DK} (ea : h a = some (.lst xs)) (eb : h b = some (.lst ys)) (l : xs.length + ys.length ≤ sizeLine) (q : ∀ p, h p = none → Q (.ref p) (dup h p (.lst (xs ++ ys)))) : oAdd (.ref a) (.ref b) h Q := by
  show (match h a, h b with | some (.lst xs), some (.lst ys) => xs.length + ys.length ≤ sizeLine ∧ ∀ p, h p = none → Q (.ref p) (dup h p (.lst (xs ++ ys))) | _, _ => False)
  rw [ea, eb]
  exact ⟨l, q⟩
theorem slL {h : DH} {a : Addr} {xs : List D} {lo hi : Option Int} {Q : DK} (ea : h a = some (.lst xs)) (q : ∀ p, h p = none → Q (.ref p) (dup h p (.lst (cutL xs lo hi)))) : oSl (.ref a) lo hi h Q := by
  show (match h a with | some (.lst xs) => ∀ p, h p = none → Q (.ref p) (dup h p (.lst (cutL xs lo hi))) | _ => False)
  rw [ea]
  exact q
theorem seqL {h : DH} {a : Addr} {xs : List D} {Q : DIt → DH → Prop} (ea : h a = some (.lst xs)) (q : Q (itL a) h) : (match h a with | some (.lst _) => Q (itL a) h | _ => False) := by
  rw [ea]
  exact q
theorem mem_sum {y : List Nat} : ∀ {ys : List (List Nat)}, y ∈ ys → y.length ≤ (ys.map List.length).sum
  | z :: ys, h => by
    rw [List.map_cons, List.sum_cons]
    rcases List.mem_cons.mp h with rfl | h
    · omega
    · have := mem_sum h
      omega
theorem lc_strs {bind : D → DD.Env} {we : WE} {p a : Addr} {Q : DK} {h1 : DH} (ys : List (List Nat)) (f : List Nat → D) (hn : ys.length ≤ 100000) (ha : h1 a = some (.lst (ys.map D.str))) (hp : h1 p = none)
    (he : ∀ y ∈ ys, ∀ acc, ∀ Q' : DK, Q' (f y) (dup h1 p (.lst acc)) → we (bind (.str y)) (dup h1 p (.lst acc)) Q' (fun _ _ => False)) (q : Q (.ref p) (dup h1 p (.lst (ys.map f)))) : LcOf (itL a) bind wYes we p Q h1 := by
  refine lc_l (ys.map D.str) (fun d => match d with | .str y => f y | _ => .non) (by rw [List.length_map]; exact hn) ha hp ?_ ?_
  · intro d hd acc Q' q
    obtain ⟨y, hy, rfl⟩ := List.mem_map.mp hd
    exact he y hy acc Q' q
  · rw [List.map_map]
    exact q
/-- over the signs of a text -/
theorem lc_signs {bind : D → DD.Env} {we : WE} {p : Addr} {Q : DK} {h1 : DH} (s : List Nat) (f : Nat → D) (hn : s.length ≤ 100000)
    (he : ∀ c ∈ s, ∀ acc, ∀ Q' : DK, Q' (f c) (dup h1 p (.lst acc)) → we (bind (.str [c])) (dup h1 p (.lst acc)) Q' (fun _ _ => False)) (q : Q (.ref p) (dup h1 p (.lst (s.map f)))) : LcOf (itX (s.map fun c => .str [c])) bind wYes we p Q h1 := by
  refine lc_x (s.map fun c => D.str [c]) (fun d => match d with | .str [c] => f c | _ => .non) (by rw [List.length_map]; exact hn) ?_ ?_
  · intro d hd acc Q' q
    obtain ⟨c, hc, rfl⟩ := List.mem_map.mp hd
    exact he c hc acc Q' q
  · rw [List.map_map]
    exact q
theorem joinL_nil : ∀ ys : List (List Nat), TL.joinL [] ys = ys.flatten
  | [] => rfl
  | [y] => by simp [TL.joinL]
  | y :: z :: r => by
    show y ++ ([] ++ TL.joinL [] (z :: r)) = _
    rw [joinL_nil (z :: r)]
    simp
theorem atI_last {α : Type} (xs : List α) (x : α) : atI (xs ++ [x]) (-1) = some x := by
  unfold atI ixN
  rw [if_neg (by decide), List.length_append, List.length_singleton, if_pos (by omega)]
  show (xs ++ [x])[((-1 : Int) + ((xs.length + 1 : Nat) : Int)).toNat]? = some x
  rw [show ((-1 : Int) + ((xs.length + 1 : Nat) : Int)).toNat = xs.length by omega, List.getElem?_append_right (Nat.le_refl _), Nat.sub_self]
  rfl
theorem seqv {i : Nat} {env : DD.Env} {h : DH} {a : Addr} {xs : List D} {Q : DIt → DH → Prop} {E : DXK} (hi : env[i]? = some (some (.ref a))) (ha : h a = some (.lst xs)) (q : Q (itL a) h) : wiSeq (wVar i) env h Q E := wv hi (seqL ha q)
theorem seqs {i : Nat} {env : DD.Env} {h : DH} {s : List Nat} {Q : DIt → DH → Prop} {E : DXK} (hi : env[i]? = some (some (.str s))) (q : Q (itX (s.map fun c => .str [c])) h) : wiSeq (wVar i) env h Q E := wv hi q
/-- all of a comprehension, whatever it is over -/
theorem allC {wi : WI} {j : Nat} {we : WE} {env : DD.Env} {h : DH} {Q : Bool → DH → Prop} {E : DXK} (q : wi env h (fun it h1 => ∀ p, h1 p = none → LcOf it (fun d => (env.set j none).set j (some d)) wYes we p (fun d h2 => oAll [d] h2 fun z h3 => match z with | .bl k => Q k h3 | _ => False) h1) E) :
    wTest (wCB oAll (wCons (wLc wi j wYes we) wNil)) env h Q E := q
theorem nallC {wi : WI} {j : Nat} {we : WE} {env : DD.Env} {h : DH} {Q : Bool → DH → Prop} {E : DXK} (q : wi env h (fun it h1 => ∀ p, h1 p = none → LcOf it (fun d => (env.set j none).set j (some d)) wYes we p (fun d h2 => oAll [d] h2 fun z h3 => match z with | .bl k => Q (!k) h3 | _ => False) h1) E) :
    DD.wNot (wTest (wCB oAll (wCons (wLc wi j wYes we) wNil))) env h Q E := q
theorem nT {wt : WT} {env : DD.Env} {h : DH} {Q : Bool → DH → Prop} {E : DXK} (b : Bool) (c : ∀ Q' : Bool → DH → Prop, Q' b h → wt env h Q' E) (q : Q (!b) h) : DD.wNot wt env h Q E := c _ q
/-- over xs[:-1] -/
theorem seqC {i : Nat} {env : DD.Env} {h : DH} {a : Addr} {xs : List D} {Q : DIt → DH → Prop} {E : DXK} (hi : env[i]? = some (some (.ref a))) (ha : h a = some (.lst xs)) (q : ∀ p, h p = none → Q (itL p) (dup h p (.lst xs.dropLast))) :
    wiSeq (wSl (wVar i) wNo (wPart (wNeg (wC (.int 1))))) env h Q E := by
  unfold wiSeq wSl
  refine wv hi ?_
  refine slL (lo := none) (hi := some (-1)) ha fun p hp => ?_
  rw [cut_last]
  exact seqL dup_same (q p hp)
theorem lcI {wi : WI} {j : Nat} {tt : WT} {we : WE} {env : DD.Env} {h : DH} {Q : List D → DH → Prop} {E : DXK} (q : wi env h (fun it h1 => ∀ p, h1 p = none → LcOf it (fun d => (env.set j none).set j (some d)) tt we p (fun d h2 => Q [d] h2) h1) E) :
    wCons (wLc wi j tt we) wNil env h Q E := q
theorem binI {o : O2} {wa wb : WE} {env : DD.Env} {h : DH} {Q : DK} {E : DXK} (q : wa env h (fun x h1 => wb env h1 (fun y h2 => o x y h2 Q) E) E) : wBin o wa wb env h Q E := q
theorem lenI {i : Nat} {env : DD.Env} {h : DH} {p : Addr} {xs : List D} {Q : DK} {E : DXK} (hi : env[i]? = some (some (.ref p))) (e : h p = some (.lst xs)) (q : Q (.int xs.length) h) : wCB oLen (wCons (wVar i) wNil) env h Q E := by
  unfold wCB wCons
  exact wv hi (lenL e q)
theorem lenSI {i : Nat} {env : DD.Env} {h : DH} {s : List Nat} {Q : DK} {E : DXK} (hi : env[i]? = some (some (.str s))) (l : s.length ≤ sizeLine) (q : Q (.int s.length) h) : wCB oLen (wCons (wVar i) wNil) env h Q E := by
  unfold wCB wCons
  exact wv hi ⟨l, q⟩
theorem conI {we : WE} {w : WA} {env : DD.Env} {h : DH} {Q : List D → DH → Prop} {E : DXK} (q : we env h (fun d h1 => w env h1 (fun ds h2 => Q (d :: ds) h2) E) E) : wCons we w env h Q E := q
theorem allV {wi : WI} {j : Nat} {we : WE} {env : DD.Env} {h : DH} {Q : DK} {E : DXK} (q : wi env h (fun it h1 => ∀ p, h1 p = none → LcOf it (fun d => (env.set j none).set j (some d)) wYes we p (fun d h2 => oAll [d] h2 Q) h1) E) :
    wCB oAll (wCons (wLc wi j wYes we) wNil) env h Q E := q
theorem anyV {wi : WI} {j : Nat} {we : WE} {env : DD.Env} {h : DH} {Q : DK} {E : DXK} (q : wi env h (fun it h1 => ∀ p, h1 p = none → LcOf it (fun d => (env.set j none).set j (some d)) wYes we p (fun d h2 => oAny [d] h2 Q) h1) E) :
    wCB oAny (wCons (wLc wi j wYes we) wNil) env h Q E := q
theorem atI_zero {α : Type} (x : α) (xs : List α) : atI (x :: xs) 0 = some x := by
  unfold atI ixN
  rw [if_pos (by decide), if_pos (by rw [List.length_cons]; omega)]
  rfl


/-! ### numbers read -/
def fv (c : Nat) : Nat := if c ≤ 57 then c - 48 else c - 55
def wth (b : Nat) (x : List Nat) : Nat := x.foldl (fun a c => a * b + fv c) 0
theorem fv_is {c : Nat} (h : c ∈ figs) : figs[fv c]? = some c ∧ (∀ j, j < fv c → figs[j]? ≠ some c) ∧ fv c < 16 := by
  have key : ∀ c ∈ figs, figs[fv c]? = some c ∧ (∀ j ∈ List.range 16, j < fv c → figs[j]? ≠ some c) ∧ fv c < 16 := by decide
  obtain ⟨h1, h2, h3⟩ := key c h
  exact ⟨h1, fun j hj => h2 j (List.mem_range.mpr (by omega)) hj, h3⟩
theorem wth_snoc (b : Nat) (x : List Nat) (c : Nat) : wth b (x ++ [c]) = wth b x * b + fv c := by
  unfold wth
  rw [List.foldl_append]
  rfl
theorem foldl_lt {b : Nat} (hb : b ≤ 16) : ∀ (x : List Nat) (a k : Nat), (∀ c ∈ x, c ∈ figs) → a < 16 ^ k → x.foldl (fun a c => a * b + fv c) a < 16 ^ (k + x.length)
  | [], a, k, _, h => h
  | c :: x, a, k, hx, h => by
    rw [List.foldl_cons, List.length_cons, show k + (x.length + 1) = (k + 1) + x.length by omega]
    refine foldl_lt hb x _ (k + 1) (fun d hd => hx d (List.mem_cons_of_mem _ hd)) ?_
    have h1 := (fv_is (hx c (List.mem_cons_self ..))).2.2
    have h2 : a * b ≤ a * 16 := Nat.mul_le_mul_left _ hb
    rw [Nat.pow_succ]
    omega
theorem wth_lt {b : Nat} (hb : b ≤ 16) {x : List Nat} (hx : ∀ c ∈ x, c ∈ figs) : wth b x < 16 ^ x.length := by
  have := foldl_lt hb x 0 0 hx (by decide)
  rw [Nat.zero_add] at this
  exact this
theorem sz_wth {b : Nat} (hb : b ≤ 16) {x : List Nat} (hx : ∀ c ∈ x, c ∈ figs) : sz (wth b x : Int) ≤ 4 * x.length := by
  refine sz_le ?_
  rw [Int.natAbs_natCast, Nat.pow_mul]
  exact wth_lt hb hx
def numO (b : Nat) (w y : List Nat) : Ans := if 60 < y.length then .error .TooLong else fit ((wth b w : Int) * 10 ^ y.length + cutO ((wth b y : Int) * 10 ^ y.length) ((b : Int) ^ y.length)) y.length
def areF (b : Nat) (x : List Nat) : Bool := decide (x ≠ []) && x.all fun c => decide (c ∈ figs.take b)
theorem areF_figs {b : Nat} {x : List Nat} (h : areF b x = true) : ∀ c ∈ x, c ∈ figs := by
  unfold areF at h
  rw [Bool.and_eq_true, List.all_eq_true] at h
  exact fun c hc => List.mem_of_mem_take (of_decide_eq_true (h.2 c hc))
def bareT (x : List Nat) : List Nat := if x.take 1 = S "-" then x.drop 1 else x
def negA (x : List Nat) (r : Ans) : Ans := match r with
  | .ok n => .ok (if x.take 1 = S "-" then (0 - n.1, n.2) else n)
  | .error e => .error e
def rdP (b : Nat) (ps : List (List Nat)) : Ans := match ps with
  | [w] => if areF b w = true then numO b w [] else .error .NoText
  | [w, y] => if areF b w = true ∧ areF b y = true ∧ y.length ≤ 60 then numO b w y else .error .NoText
  | _ => .error .NoText
def rdn (b : Nat) (x : List Nat) : Ans := negA x (rdP b (TL.spl [46] 0 [] (bareT x)))


def g_worth_of : GM := fun ds h Q _ => ∃ (x : List Nat) (b : Nat), ds = [.str x, .int b] ∧ (b ≤ 16 ∧ x.length ≤ 20000 ∧ ∀ c ∈ x, c ∈ figs) ∧ Q (.int (wth b x)) h

def g_number_of : GM := fun ds h Q E => ∃ (w y : List Nat) (b : Nat), ds = [.str w, .str y, .int b] ∧ (2 ≤ b ∧ b ≤ 16 ∧ w.length ≤ 20000 ∧ y.length ≤ 20000 ∧ (∀ c ∈ w, c ∈ figs) ∧ ∀ c ∈ y, c ∈ figs) ∧ ansD (numO b w y) h Q E

def g_are_figures : GM := fun ds h Q _ => ∃ (x : List Nat) (b : Nat), ds = [.str x, .int b] ∧ (x.length ≤ 20000) ∧ Q (.bl (areF b x)) h

/-! ### values as data, more known of the heap -/
mutual
theorem pyW_mono {f g : Addr → Option PD} (hfg : ∀ a d, f a = some d → g a = some d) : ∀ (x : D) (d : PD), pyW f x = some d → pyW g x = some d
  | .non, _, e => by simpa [pyW] using e
  | .bl _, _, e => by simpa [pyW] using e
  | .int _, _, e => by simpa [pyW] using e
  | .str _, _, e => by simpa [pyW] using e
  | .ref a, d, e => by
    simp only [pyW] at e ⊢
    exact hfg a d e
  | .ty _, _, e => by simp [pyW] at e
  | .fn _, _, e => by simp [pyW] at e
  | .tup xs, d, e => by
    simp only [pyW] at e ⊢
    split at e
    · rename_i ds e2
      rw [pyWs_mono hfg xs ds e2]
      exact e
    · cases e
  | .fls xs, d, e => by
    simp only [pyW] at e ⊢
    split at e
    · rename_i ds e2
      rw [pyWs_mono hfg xs ds e2]
      exact e
    · cases e
theorem pyWs_mono {f g : Addr → Option PD} (hfg : ∀ a d, f a = some d → g a = some d) : ∀ (xs : List D) (ds : List PD), pyWs f xs = some ds → pyWs g xs = some ds
  | [], _, e => by simpa [pyWs] using e
  | x :: xs, ds, e => by
    simp only [pyWs] at e ⊢
    split at e
    · rename_i d es e1 e2
      rw [pyW_mono hfg x d e1, pyWs_mono hfg xs es e2]
      exact e
    · cases e
end
theorem pyN_sub {h h' : DH} (s : Sub h h') : ∀ (n : Nat) (a : Addr) (d : PD), pyN h n a = some d → pyN h' n a = some d
  | 0, _, _, e => by simp [pyN] at e
  | n + 1, a, d, e => by
    simp only [pyN] at e ⊢
    split at e
    · rename_i xs q
      rw [s _ _ q]
      split at e
      · rename_i ds e2
        dsimp only
        rw [pyWs_mono (pyN_sub s n) xs ds e2]
        exact e
      · cases e
    · cases e
theorem py_sub {h h' : DH} (s : Sub h h') {x : D} {d : PD} (e : py h x = some d) : py h' x = some d := pyW_mono (pyN_sub s 4) x d e
theorem oEq_py {h : DH} {x y : D} {d e : PD} {Q : DK} (ex : py h x = some d) (ey : py h y = some e) (dx : d.depth ≤ 64) (dy : e.depth ≤ 64) (q : Q (.bl (eqP d e)) h) : oEq x y h Q := by
  show (match py h x, py h y with | some d, some e => (d.depth ≤ 64 ∧ e.depth ≤ 64) ∧ Q (.bl (eqP d e)) h | _, _ => False)
  rw [ex, ey]
  exact ⟨⟨dx, dy⟩, q⟩
theorem oNe_py {h : DH} {x y : D} {d e : PD} {Q : DK} (ex : py h x = some d) (ey : py h y = some e) (dx : d.depth ≤ 64) (dy : e.depth ≤ 64) (q : Q (.bl (!eqP d e)) h) : oNe x y h Q := by
  show (match py h x, py h y with | some d, some e => (d.depth ≤ 64 ∧ e.depth ≤ 64) ∧ Q (.bl (!eqP d e)) h | _, _ => False)
  rw [ex, ey]
  exact ⟨⟨dx, dy⟩, q⟩
/-- a list's data -/
theorem py_list {h : DH} {a : Addr} {xs : List D} {ds : List PD} (e : h a = some (.lst xs)) (p : pyWs (pyN h 3) xs = some ds) : py h (.ref a) = some (.lst ds) := by
  show pyN h 4 a = _
  unfold pyN
  rw [e]
  dsimp only
  rw [p]
theorem py_nil {h : DH} {a : Addr} (e : h a = some (.lst [])) : py h (.ref a) = some (.lst []) := py_list e rfl
theorem pyWs_strs (f : Addr → Option PD) : ∀ ys : List (List Nat), pyWs f (ys.map D.str) = some (ys.map PD.str)
  | [] => rfl
  | y :: ys => by
    rw [List.map_cons, pyWs, pyWs_strs f ys]
    rfl
theorem dep_strs : ∀ ys : List (List Nat), PD.depths (ys.map PD.str) = 0
  | [] => rfl
  | y :: ys => by
    rw [List.map_cons]
    show max 0 (PD.depths (ys.map PD.str)) = 0
    rw [dep_strs ys]
    rfl
theorem eqPs_strs : ∀ xs ys : List (List Nat), eqPs (xs.map PD.str) (ys.map PD.str) = decide (xs = ys)
  | [], [] => by simp [eqPs]
  | [], _ :: _ => by simp [eqPs]
  | _ :: _, [] => by simp [eqPs]
  | x :: xs, y :: ys => by
    rw [List.map_cons, List.map_cons, eqPs, eqPs_strs xs ys]
    simp only [eqP]
    by_cases h1 : x = y <;> by_cases h2 : xs = ys <;> simp [h1, h2]
theorem py_strs {h : DH} {a : Addr} {ys : List (List Nat)} (e : h a = some (.lst (ys.map D.str))) : py h (.ref a) = some (.lst (ys.map PD.str)) := py_list e (pyWs_strs _ ys)
theorem dep_lstrs (ys : List (List Nat)) : (PD.lst (ys.map PD.str)).depth ≤ 64 := by
  show PD.depths _ + 1 ≤ 64
  rw [dep_strs]
  decide
/-- lists of texts compared -/
theorem eq_strs {h : DH} {a b : Addr} {xs ys : List (List Nat)} {Q : DK} (ea : h a = some (.lst (xs.map D.str))) (eb : h b = some (.lst (ys.map D.str))) (q : Q (.bl (decide (xs = ys))) h) : oEq (.ref a) (.ref b) h Q :=
  oEq_py (py_strs ea) (py_strs eb) (dep_lstrs _) (dep_lstrs _) (by
    rw [show eqP (.lst (xs.map PD.str)) (.lst (ys.map PD.str)) = eqPs (xs.map PD.str) (ys.map PD.str) by rw [eqP], eqPs_strs]
    exact q)
theorem ne_strs {h : DH} {a b : Addr} {xs ys : List (List Nat)} {Q : DK} (ea : h a = some (.lst (xs.map D.str))) (eb : h b = some (.lst (ys.map D.str))) (q : Q (.bl (!decide (xs = ys))) h) : oNe (.ref a) (.ref b) h Q :=
  oNe_py (py_strs ea) (py_strs eb) (dep_lstrs _) (dep_lstrs _) (by
    rw [show eqP (.lst (xs.map PD.str)) (.lst (ys.map PD.str)) = eqPs (xs.map PD.str) (ys.map PD.str) by rw [eqP], eqPs_strs]
    exact q)
theorem isiv {n : TN} {i : Nat} {env : DD.Env} {h : DH} {d : D} {t : String} {Q : DK} {E : DXK} (hi : env[i]? = some (some d)) (ht : tyD h d = some t) (q : Q (.bl (isTy t n)) h) : wIsi n (wVar i) env h Q E := by
  refine wv hi ?_
  show (match tyD h d with | some t => Q (.bl (isTy t n)) h | none => False)
  rw [ht]
  exact q
theorem tyD_lst {h : DH} {a : Addr} {xs : List D} (e : h a = some (.lst xs)) : tyD h (.ref a) = some "list" := by
  simp only [tyD]
  rw [e]
theorem isiT {n : TN} {i : Nat} {env : DD.Env} {h : DH} {d : D} {t : String} {Q : Bool → DH → Prop} {E : DXK} (hi : env[i]? = some (some d)) (ht : tyD h d = some t) (q : Q (isTy t n) h) : wTest (wIsi n (wVar i)) env h Q E := isiv hi ht q
theorem isiN {n : TN} {i : Nat} {env : DD.Env} {h : DH} {d : D} {t : String} {Q : Bool → DH → Prop} {E : DXK} (hi : env[i]? = some (some d)) (ht : tyD h d = some t) (q : Q (!isTy t n) h) : DD.wNot (wTest (wIsi n (wVar i))) env h Q E := by
  simp only [DD.wNot, wTest]
  exact isiv hi ht q


/-! ### texts split -/
theorem spl_len {S : List Nat} : ∀ (l acc : List Nat) (k : Nat), (TL.spl S k acc l).length ≤ l.length + 1
  | [], acc, k => by rw [TL.spl_nil]; simp
  | a :: l, acc, k => by
    cases k with
    | succ k =>
      have := spl_len (S := S) l acc k
      rw [show TL.spl S (k + 1) acc (a :: l) = TL.spl S k acc l by simp [TL.spl], List.length_cons]
      omega
    | zero =>
      cases hp : TL.pre S (a :: l) with
      | true =>
        have := spl_len (S := S) l [] (S.length - 1)
        rw [TL.spl_hit hp, List.length_cons, List.length_cons]
        omega
      | false =>
        have := spl_len (S := S) l (acc ++ [a]) 0
        rw [TL.spl_miss hp, List.length_cons]
        omega
theorem spl_el {S : List Nat} : ∀ (l acc : List Nat) (k : Nat), ∀ y ∈ TL.spl S k acc l, y.length ≤ acc.length + l.length
  | [], acc, k, y, hy => by
    rw [TL.spl_nil, List.mem_singleton] at hy
    subst hy
    simp
  | a :: l, acc, k, y, hy => by
    cases k with
    | succ k =>
      have hy : y ∈ TL.spl S k acc l := by simpa [TL.spl] using hy
      have := spl_el l acc k y hy
      rw [List.length_cons]
      omega
    | zero =>
      cases hp : TL.pre S (a :: l) with
      | true =>
        rw [TL.spl_hit hp] at hy
        rcases List.mem_cons.mp hy with rfl | hy
        · omega
        · have := spl_el l [] (S.length - 1) y hy
          rw [List.length_nil] at this
          rw [List.length_cons]
          omega
      | false =>
        rw [TL.spl_miss hp] at hy
        have := spl_el l (acc ++ [a]) 0 y hy
        rw [List.length_append, List.length_singleton] at this
        rw [List.length_cons]
        omega
theorem spl_ne {S : List Nat} : ∀ (l acc : List Nat) (k : Nat), TL.spl S k acc l ≠ []
  | [], acc, k => by rw [TL.spl_nil]; simp
  | a :: l, acc, k => by
    cases k with
    | succ k =>
      rw [show TL.spl S (k + 1) acc (a :: l) = TL.spl S k acc l by simp [TL.spl]]
      exact spl_ne l acc k
    | zero =>
      cases hp : TL.pre S (a :: l) with
      | true =>
        rw [TL.spl_hit hp]
        simp
      | false =>
        rw [TL.spl_miss hp]
        exact spl_ne l _ 0
/-- put together again it is the text -/
theorem spl_back (c : Nat) : ∀ (l acc : List Nat), TL.joinL [c] (TL.spl [c] 0 acc l) = acc ++ l
  | [], acc => by
    rw [TL.spl_nil, List.append_nil]
    rfl
  | a :: l, acc => by
    cases hp : TL.pre [c] (a :: l) with
    | true =>
      have e : a = c := by simpa [TL.pre] using hp
      subst e
      have ih := spl_back a l []
      rw [TL.spl_hit hp]
      show TL.joinL [a] (acc :: TL.spl [a] 0 [] l) = _
      have hn := spl_ne (S := [a]) l [] 0
      generalize TL.spl [a] 0 [] l = r at *
      cases r with
      | nil => exact absurd rfl hn
      | cons y r =>
        show acc ++ ([a] ++ TL.joinL [a] (y :: r)) = _
        rw [ih]
        rfl
    | false =>
      rw [TL.spl_miss hp, spl_back c l, List.append_assoc]
      rfl


def g_read_number : GM := fun ds h Q E => ∃ t b : D, ds = [t, b] ∧ (tyk h t = true ∧ tyk h b = true) ∧ guardW b 2 16 .NoBase h E (match t with
  | .str x => x.length ≤ 15000 ∧ ∀ n : Nat, b = .int n → ansD (rdn n x) h Q E
  | _ => E ⟨.NoText, none⟩ h)
theorem read_ok {x : List Nat} {n : Nat} {h : DH} {Q : DK} {E : DXK} (hx : x.length ≤ 15000) (h0 : 2 ≤ n) (h1 : n ≤ 16) (z : ansD (rdn n x) h Q E) : g_read_number [.str x, .int n] h Q E :=
  ⟨_, _, rfl, ⟨rfl, rfl⟩, by
    unfold guardW
    rw [if_pos (isW_yes (by omega) (by omega))]
    refine ⟨hx, fun m e => ?_⟩
    have e : (n : Int) = m := D.int.inj e
    have e : n = m := by omega
    subst e
    exact z⟩

/-! ### the script, and the list of what was drawn -/
def Scr (ns : List Int) : Prop := ns.length ≤ 63 ∧ ∀ z ∈ ns, sz z ≤ 1048576
abbrev scrD (ns : List Int) : D := .fls (ns.map D.int)
theorem atI_nat {α : Type} {xs : List α} {k : Int} (h0 : 0 ≤ k) (h1 : k < xs.length) : ∃ x ∈ xs, atI xs k = some x := by
  have hk : k.toNat < xs.length := by omega
  refine ⟨xs[k.toNat], List.getElem_mem _, ?_⟩
  unfold atI ixN
  rw [if_pos h0, if_pos h1]
  exact List.getElem?_eq_getElem hk
/-- a whole number of the script -/
theorem Scr.at {ns : List Int} (s : Scr ns) {k : Int} (h0 : 0 ≤ k) (h1 : k < ns.length) : ∃ z, atI (ns.map D.int) k = some (.int z) ∧ sz z ≤ 1048576 := by
  obtain ⟨x, hx, e⟩ := atI_nat (xs := ns.map D.int) h0 (by rw [List.length_map]; exact h1)
  obtain ⟨z, hz, rfl⟩ := List.mem_map.mp hx
  exact ⟨z, e, s.2 z hz⟩
theorem py_ints (h : DH) : ∀ ns : List Int, pyWs (pyN h 4) (ns.map D.int) = some (ns.map PD.int)
  | [] => rfl
  | n :: ns => by
    rw [List.map_cons, pyWs, py_ints h ns]
    rfl
theorem dep_ints : ∀ ns : List Int, PD.depths (ns.map PD.int) = 0
  | [] => rfl
  | n :: ns => by
    rw [List.map_cons]
    show max 0 (PD.depths (ns.map PD.int)) = 0
    rw [dep_ints ns]
    rfl
/-- the heap knows what it did, and at most so many were drawn -/
def Tw (h0 : DH) (a : Addr) (n : Nat) (h : DH) : Prop := ∃ ts : List D, ts.length ≤ n ∧ Sub (dup h0 a (.lst ts)) h
theorem Tw.at {h0 h : DH} {a : Addr} {n : Nat} (t : Tw h0 a n h) : ∃ ts, h a = some (.lst ts) ∧ ts.length ≤ n := by
  obtain ⟨ts, hl, s⟩ := t
  exact ⟨ts, s a _ dup_same, hl⟩
theorem Tw.sub {h0 h h1 : DH} {a : Addr} {n : Nat} (t : Tw h0 a n h) (s : Sub h h1) : Tw h0 a n h1 := by
  obtain ⟨ts, hl, s0⟩ := t
  exact ⟨ts, hl, s0.trans s⟩
theorem Tw.le {h0 h : DH} {a : Addr} {n m : Nat} (t : Tw h0 a n h) (l : n ≤ m) : Tw h0 a m h := by
  obtain ⟨ts, hl, s0⟩ := t
  exact ⟨ts, by omega, s0⟩
theorem Tw.new {h0 h : DH} {a p : Addr} {n : Nat} {o : DO} (t : Tw h0 a n h) (e : h p = none) : Tw h0 a n (dup h p o) := t.sub (.new e)
theorem Tw.ne {h0 h : DH} {a p : Addr} {n : Nat} (t : Tw h0 a n h) (e : h p = none) : p ≠ a := by
  obtain ⟨ts, q, _⟩ := t.at
  intro z
  subst z
  rw [e] at q
  cases q
theorem Tw.get {h0 h : DH} {a p : Addr} {n : Nat} {o : DO} (t : Tw h0 a n h) (e : h0 p = some o) (ne : p ≠ a) : h p = some o := by
  obtain ⟨ts, hl, s⟩ := t
  exact s p o (by rw [dup_ne ne]; exact e)
theorem Tw.put {h0 h : DH} {a : Addr} {n : Nat} {ts : List D} (t : Tw h0 a n h) (l : ts.length ≤ n + 1) : Tw h0 a (n + 1) (dup h a (.lst ts)) := by
  obtain ⟨ts0, hl, s⟩ := t
  refine ⟨ts, l, fun b o e => ?_⟩
  by_cases z : b = a
  · subst z
    rw [dup_same] at e ⊢
    exact e
  · rw [dup_ne z] at e ⊢
    exact s b o (by rw [dup_ne z]; exact e)
theorem Tw.base {h0 h1 h : DH} {a : Addr} {n : Nat} (t : Tw h1 a n h) (s : Sub h0 h1) : Tw h0 a n h := by
  obtain ⟨ts, hl, s1⟩ := t
  refine ⟨ts, hl, Sub.trans (fun b o e => ?_) s1⟩
  by_cases z : b = a
  · subst z
    rw [dup_same] at e ⊢
    exact e
  · rw [dup_ne z] at e ⊢
    exact s b o e
/-- p is known, too -/
theorem Tw.with {h0 h : DH} {a p : Addr} {n : Nat} {o : DO} (t : Tw h0 a n h) (e : h p = some o) (ne : p ≠ a) : Sub h0 (dup h0 p o) ∧ Tw (dup h0 p o) a n h ∨ (∃ o', h0 p = some o' ∧ o' = o) := by
  by_cases z : h0 p = none
  · left
    obtain ⟨ts, hl, s⟩ := t
    refine ⟨.new z, ts, hl, fun b u q => ?_⟩
    by_cases y : b = a
    · subst y
      exact s b u (by rw [dup_same] at q ⊢; exact q)
    · rw [dup_ne y] at q
      by_cases x : b = p
      · subst x
        rw [dup_same] at q
        cases q
        exact e
      · rw [dup_ne x] at q
        exact s b u (by rw [dup_ne y]; exact q)
  · right
    obtain ⟨u, q⟩ := Option.ne_none_iff_exists'.mp z
    refine ⟨u, q, ?_⟩
    have := t.get q ne
    rw [e] at this
    cases this
    rfl
/-- what may be picked from -/
def Items (h : DH) (d : D) (xs : List D) : Prop := match d with
  | .ref p => h p = some (.lst xs)
  | .tup ys => ys = xs
  | .str s => s.length ≤ sizeLine ∧ xs = s.map fun c => .str [c]
  | _ => False
theorem Tw.chg {h0 h : DH} {a q : Addr} {n : Nat} {o o' : DO} (t : Tw (dup h0 q o) a n h) (ne : q ≠ a) : Tw (dup h0 q o') a n (dup h q o') := by
  obtain ⟨ts, hl, s⟩ := t
  refine ⟨ts, hl, fun b u e => ?_⟩
  by_cases z : b = q
  · subst z
    rw [dup_ne ne, dup_same] at e
    rw [dup_same]
    exact e
  · rw [dup_ne z]
    refine s b u ?_
    by_cases y : b = a
    · subst y
      rw [dup_same] at e ⊢
      exact e
    · rw [dup_ne y, dup_ne z] at e
      rw [dup_ne y, dup_ne z]
      exact e
/-- a new thing beside, known from now on -/
theorem Tw.put2 {h0 h : DH} {a q : Addr} {n : Nat} {o : DO} (t : Tw h0 a n h) (e : h q = none) : h0 q = none ∧ Tw (dup h0 q o) a n (dup h q o) := by
  have ne := t.ne e
  have z : h0 q = none := by
    cases k : h0 q with
    | none => rfl
    | some u =>
      have := t.get k ne
      rw [e] at this
      cases this
  refine ⟨z, ?_⟩
  obtain ⟨ts, hl, s⟩ := t
  refine ⟨ts, hl, fun b u k => ?_⟩
  by_cases y : b = a
  · subst y
    rw [dup_same] at k
    rw [dup_ne (Ne.symm ne)]
    exact s b u (by rw [dup_same]; exact k)
  · rw [dup_ne y] at k
    by_cases x : b = q
    · subst x
      rw [dup_same] at k ⊢
      exact k
    · rw [dup_ne x] at k ⊢
      exact s b u (by rw [dup_ne y]; exact k)
theorem Tw.out {h0 h : DH} {a q : Addr} {n : Nat} {o : DO} (t : Tw (dup h0 q o) a n h) (e : h0 q = none) : Tw h0 a n h := t.base (.new e)


def g_Lcell_at : GM := fun ds h Q _ => ∃ (ns : List Int) (k : Int), ds = [scrD ns, .int k] ∧ (Scr ns ∧ 0 ≤ k ∧ k ≤ 1000000000) ∧ ∀ i : Int, sz i ≤ 1048640 → Q (.int i) h

def g_Lmixed : GM := fun ds h Q _ => ∃ (ns : List Int) (k b : Int), ds = [scrD ns, .int k, .int b] ∧ (Scr ns ∧ 0 ≤ k ∧ k ≤ 1000000000 ∧ 0 < b) ∧ ∀ i : Int, 0 ≤ i ∧ i < b → Q (.int i) h

def g_Ldraw : GM := fun ds h Q _ => ∃ (ns : List Int) (a : Addr) (b : Int) (h0 : DH) (n : Nat), ds = [scrD ns, .ref a, .int b] ∧ (Scr ns ∧ 0 < b) ∧ (Tw h0 a n h ∧ n ≤ 1000000) ∧ ∀ (i : Int) h', 0 ≤ i ∧ i < b → Tw h0 a (n + 1) h' → Q (.int i) h'

def g_Lpick : GM := fun ds h Q _ => ∃ (ns : List Int) (a : Addr) (s : D) (xs : List D) (h0 : DH) (n : Nat), ds = [scrD ns, .ref a, s] ∧ (Scr ns ∧ xs ≠ [] ∧ Items h s xs ∧ s ≠ .ref a) ∧ (Tw h0 a n h ∧ n ≤ 1000000) ∧ ∀ d h', d ∈ xs → Tw h0 a (n + 1) h' → Q d h'

def g_Lten : GM := fun ds h Q _ => ∃ n : Int, ds = [.int n] ∧ (-100000 ≤ n ∧ n ≤ 600) ∧ Q (.int (10 ^ n.toNat)) h
theorem flat_one (n c : Nat) : (List.replicate n [c]).flatten = List.replicate n c := by
  induction n with
  | zero => rfl
  | succ n ih => rw [List.replicate_succ, List.flatten_cons, ih]; rfl
theorem dig_zeros (n a : Nat) : (List.replicate n 48).foldl (fun acc c => acc * 10 + (c - 48)) a = a * 10 ^ n := by
  induction n generalizing a with
  | zero => simp
  | succ n ih => rw [List.replicate_succ, List.foldl_cons, ih, Nat.pow_succ]; simp [Nat.mul_assoc, Nat.mul_comm]
theorem ten_text {n : Nat} (h : n ≤ 600) : PySem.intText? ⟨(S "1" ++ (List.replicate n (S "0")).flatten).toArray⟩ = some (10 ^ n) := by
  have e1 : S "1" = [49] := by decide
  have e0 : S "0" = [48] := by decide
  rw [e1, e0, flat_one]
  have hl : ([49] ++ List.replicate n 48).length = n + 1 := by simp
  refine (PySem.intText_digits (x := (⟨([49] ++ List.replicate n 48).toArray⟩ : PySem.Str)) ?_ ?_ ?_).trans ?_
  · intro c hc
    have hc : c ∈ [49] ++ List.replicate n 48 := hc
    rw [List.mem_append, List.mem_singleton, List.mem_replicate] at hc
    omega
  · show [49] ++ List.replicate n 48 ≠ []
    simp
  · show ([49] ++ List.replicate n 48).toArray.size ≤ 4300
    rw [List.size_toArray, hl]
    omega
  · congr 1
    show (((49 :: List.replicate n 48).foldl (fun acc c => acc * 10 + (c - 48)) 0 : Nat) : Int) = _
    rw [List.foldl_cons, dig_zeros]
    simp

/-! ### figure by figure -/
def dl (b : Nat) : Nat → Nat → List Nat
  | 0, _ => []
  | m + 1, n => dl b m (n / b) ++ [figc (n % b)]
theorem dl_len (b : Nat) : ∀ m n, (dl b m n).length = m
  | 0, _ => rfl
  | m + 1, n => by
    unfold dl
    rw [List.length_append, dl_len b m, List.length_singleton]
theorem dl_zero (b : Nat) : ∀ m, dl b m 0 = List.replicate m 48
  | 0 => rfl
  | m + 1 => by
    unfold dl
    rw [Nat.zero_div, dl_zero b m, Nat.zero_mod, List.replicate_succ']
    rfl
theorem pad_dl {b : Nat} (hb : 2 ≤ b) : ∀ m n, n < b ^ (m + 1) → List.replicate (m + 1 - (wtx b n).length) 48 ++ wtx b n = dl b (m + 1) n
  | 0, n, h => by
    rw [Nat.zero_add, Nat.pow_one] at h
    rw [wtx_lt h]
    show List.replicate 0 48 ++ [figc n] = [] ++ [figc (n % b)]
    rw [Nat.mod_eq_of_lt h]
    rfl
  | m + 1, n, h => by
    by_cases c : n < b
    · rw [wtx_lt c]
      unfold dl
      rw [Nat.div_eq_of_lt c, dl_zero, Nat.mod_eq_of_lt c]
      rfl
    · rw [wtx_ge hb (by omega)]
      have hd : n / b < b ^ (m + 1) := by
        rw [Nat.div_lt_iff_lt_mul (by omega)]
        exact h
      have ih := pad_dl hb m (n / b) hd
      unfold dl
      rw [← ih, List.length_append, List.length_singleton, show m + 1 + 1 - ((wtx b (n / b)).length + 1) = m + 1 - (wtx b (n / b)).length by omega, List.append_assoc]
/-- the front figure -/
theorem dl_front (b : Nat) : ∀ m n, dl b (m + 1) n = figc (n / b ^ m % b) :: dl b m n
  | 0, n => by
    show [] ++ [figc (n % b)] = [figc (n / b ^ 0 % b)]
    rw [Nat.pow_zero, Nat.div_one]
    rfl
  | m + 1, n => by
    have e : dl b (m + 1 + 1) n = dl b (m + 1) (n / b) ++ [figc (n % b)] := rfl
    rw [e, dl_front b m (n / b), Nat.div_div_eq_div_mul, ← Nat.pow_succ']
    rfl
theorem dl_mod {b : Nat} (hb : 2 ≤ b) (q : Nat) : ∀ m n, dl b m (q * b ^ m + n) = dl b m n
  | 0, _ => rfl
  | m + 1, n => by
    unfold dl
    have e : q * b ^ (m + 1) + n = n + b * (q * b ^ m) := by rw [Nat.pow_succ]; rw [Nat.add_comm, ← Nat.mul_assoc, Nat.mul_comm b]
    rw [e, Nat.add_mul_div_left _ _ (by omega), Nat.add_mul_mod_self_left, Nat.add_comm (n / b), dl_mod hb q m]
def dgs (b T : Nat) : Nat → Nat → List Nat
  | 0, _ => []
  | m + 1, p => figc (p * b / T) :: dgs b T m (p * b % T)
theorem dgs_len (b T : Nat) : ∀ m p, (dgs b T m p).length = m
  | 0, _ => rfl
  | m + 1, p => by
    unfold dgs
    rw [List.length_cons, dgs_len]
theorem dgs_dl {b T : Nat} (hb : 2 ≤ b) (hT : 0 < T) : ∀ m p, p < T → dl b m (p * b ^ m / T) = dgs b T m p
  | 0, _, _ => rfl
  | m + 1, p, hp => by
    have hbm : 0 < b ^ m := Nat.pow_pos (by omega)
    have e0 : p * b ^ (m + 1) = p * b * b ^ m := by rw [Nat.pow_succ, Nat.mul_assoc, Nat.mul_comm (b ^ m) b]
    have e1 : p * b ^ (m + 1) / T / b ^ m = p * b / T := by
      rw [Nat.div_div_eq_div_mul, Nat.mul_comm T, ← Nat.div_div_eq_div_mul, e0, Nat.mul_div_cancel _ hbm]
    have e2 : p * b ^ (m + 1) / T = p * b / T * b ^ m + p * b % T * b ^ m / T := by
      have h := Nat.div_add_mod (p * b) T
      have : p * b ^ (m + 1) = T * (p * b / T * b ^ m) + p * b % T * b ^ m := by
        rw [e0]
        conv => lhs; rw [← h]
        rw [Nat.add_mul, Nat.mul_assoc]
      rw [this, Nat.mul_add_div hT]
    have e3 : p * b / T < b := by
      rw [Nat.div_lt_iff_lt_mul hT, Nat.mul_comm b]
      exact Nat.mul_lt_mul_of_pos_right hp (by omega)
    rw [dl_front, e1, Nat.mod_eq_of_lt e3, e2, dl_mod hb]
    unfold dgs
    rw [dgs_dl hb hT m _ (Nat.mod_lt _ hT)]
theorem mbh_pos {b s : Nat} (hb : 2 ≤ b) (hs : s ≤ 60) (h0 : 0 < s) : 0 < mbh b (10 ^ s) := by
  rcases Nat.eq_zero_or_pos (mbh b (10 ^ s)) with e | e
  · have h := (mbh_is hb (ten60 hs)).1
    rw [e, Nat.pow_zero] at h
    have : 10 ^ 1 ≤ 10 ^ s := Nat.pow_le_pow_right (by decide) h0
    omega
  · exact e
/-- what is behind the point, figure by figure -/
theorem behT_dgs {b p s : Nat} (hb : 2 ≤ b) (hs : s ≤ 60) (h0 : 0 < s) (hp : p < 10 ^ s) : behT b p s = dgs b (10 ^ s) (mbh b (10 ^ s)) p := by
  have hm := mbh_pos hb hs h0
  have hT : 0 < 10 ^ s := Nat.pow_pos (by decide)
  obtain ⟨m, e⟩ : ∃ m, mbh b (10 ^ s) = m + 1 := ⟨mbh b (10 ^ s) - 1, by omega⟩
  unfold behT
  rw [e, pad_dl hb, dgs_dl hb hT _ _ hp]
  rw [Nat.div_lt_iff_lt_mul hT, Nat.mul_comm]
  exact Nat.mul_lt_mul_of_pos_left hp (Nat.pow_pos (by omega))
/-- digits put on one by one from the left -/
theorem dgs_snoc (b T : Nat) : ∀ m p, ∃ q, (∀ k, dgs b T (m + k) p = dgs b T m p ++ dgs b T k q) ∧ (p < T → q < T)
  | 0, p => ⟨p, fun k => by rw [Nat.zero_add]; rfl, fun h => h⟩
  | m + 1, p => by
    obtain ⟨q, h, h2⟩ := dgs_snoc b T m (p * b % T)
    refine ⟨q, fun k => ?_, fun hp => h2 (Nat.mod_lt _ (by omega))⟩
    rw [show m + 1 + k = (m + k) + 1 by omega]
    show figc _ :: dgs b T (m + k) _ = figc _ :: dgs b T m _ ++ _
    rw [h k]
    rfl
theorem behT_len {b p s : Nat} (hb : 2 ≤ b) (hs : s ≤ 60) (h0 : 0 < s) (hp : p < 10 ^ s) : (behT b p s).length = mbh b (10 ^ s) := by
  rw [behT_dgs hb hs h0 hp, dgs_len]


theorem figc_rng (n : Nat) : (48 ≤ figc n ∧ figc n ≤ 57) ∨ (65 ≤ figc n ∧ figc n ≤ 70) := by
  by_cases h : n < 16
  · have h : n ∈ List.range 16 := List.mem_range.mpr h
    revert n
    decide
  · have e : figc n = 48 := by
      unfold figc
      have hl : figs.length = 16 := by decide
      rw [List.getD_eq_getElem?_getD, List.getElem?_eq_none (by omega)]
      rfl
    omega
theorem wtF_fig (b : Nat) : ∀ f n, ∀ c ∈ wtF b f n, (48 ≤ c ∧ c ≤ 57) ∨ (65 ≤ c ∧ c ≤ 70)
  | 0, n, c, hc => by
    have hc : c ∈ [figc (n % b)] := hc
    rw [List.mem_singleton] at hc
    subst hc
    exact figc_rng _
  | f + 1, n, c, hc => by
    unfold wtF at hc
    split at hc
    · rw [List.mem_singleton] at hc
      subst hc
      exact figc_rng _
    · rcases List.mem_append.mp hc with hc | hc
      · exact wtF_fig b f _ c hc
      · rw [List.mem_singleton] at hc
        subst hc
        exact figc_rng _
theorem wtx_fig {b n c : Nat} (hc : c ∈ wtx b n) : (48 ≤ c ∧ c ≤ 57) ∨ (65 ≤ c ∧ c ≤ 70) := wtF_fig b _ n c hc
theorem behT_fig {b p s c : Nat} (hc : c ∈ behT b p s) : (48 ≤ c ∧ c ≤ 57) ∨ (65 ≤ c ∧ c ≤ 70) := by
  unfold behT at hc
  rcases List.mem_append.mp hc with hc | hc
  · have := List.eq_of_mem_replicate hc
    omega
  · exact wtx_fig hc
/-- the sign and the whole part -/
abbrev frontT (b : Nat) (a : Nm) : List Nat := (if a.1 < 0 then S "-" else S "") ++ wtx b (a.1.natAbs / 10 ^ a.2.toNat)
theorem ntx_int {b : Nat} {a : Nm} (h : a.2 = 0) : ntx b a = frontT b a := by
  unfold ntx
  rw [if_pos h, List.append_nil]
theorem ntx_fin {b : Nat} {a : Nm} (h : a.2 ≠ 0) : ntx b a = frontT b a ++ (46 :: behT b (a.1.natAbs % 10 ^ a.2.toNat) a.2.toNat) := by
  unfold ntx
  rw [if_neg h, S_dot]
  rfl
theorem front_ne {b : Nat} (hb : 2 ≤ b) (a : Nm) : frontT b a ≠ [] := by
  intro z
  exact wtx_ne hb (List.append_eq_nil_iff.mp z).2
theorem front_no46 {b : Nat} {a : Nm} {c : Nat} (hc : c ∈ frontT b a) : c ≠ 46 := by
  rcases List.mem_append.mp hc with hc | hc
  · split at hc
    · rw [S_mi, List.mem_singleton] at hc
      omega
    · rw [S_nil] at hc
      cases hc
  · have := wtx_fig hc
    omega
theorem take1_front {b : Nat} (hb : 2 ≤ b) (a : Nm) (t : List Nat) : decide ((frontT b a ++ t).take 1 = S "-") = decide (a.1 < 0) := by
  unfold frontT
  by_cases h : a.1 < 0
  · rw [if_pos h, S_mi, decide_eq_true h]
    rfl
  · rw [if_neg h, S_nil, S_mi, decide_eq_false h]
    have hn := wtx_ne (n := a.1.natAbs / 10 ^ a.2.toNat) hb
    have hf := fun c => wtx_fig (b := b) (n := a.1.natAbs / 10 ^ a.2.toNat) (c := c)
    cases e : wtx b (a.1.natAbs / 10 ^ a.2.toNat) with
    | nil => exact absurd e hn
    | cons x r =>
      rw [e] at hf
      have := hf x (List.mem_cons_self ..)
      refine decide_eq_false ?_
      show ¬ ([x] = [45])
      intro z
      rw [List.cons.injEq] at z
      omega
theorem take1_ntx {b : Nat} (hb : 2 ≤ b) (a : Nm) : decide (cutL (ntx b a) none (some 1) = S "-") = decide (a.1 < 0) := by
  rw [show (1 : Int) = ((1 : Nat) : Int) from rfl, cut_take]
  exact take1_front hb a _
theorem dot_ntx (b : Nat) (a : Nm) (h : 0 ≤ a.2) : decide (46 ∈ ntx b a) = decide (0 < a.2) := by
  by_cases z : a.2 = 0
  · rw [ntx_int z, decide_eq_false (fun m => front_no46 m rfl), decide_eq_false (by omega)]
  · rw [ntx_fin z, decide_eq_true (List.mem_append_right _ (List.mem_cons_self ..)), decide_eq_true (by omega)]
theorem len_ntx {b : Nat} (hb : 2 ≤ b) {a : Nm} {k : Nat} (h0 : 0 ≤ a.2) (h1 : a.2 ≤ 60) (hz : sz a.1 ≤ k) : (ntx b a).length ≤ k + 203 := by
  have hz2 : sz ((a.1.natAbs : Nat) : Int) ≤ k := Nat.le_trans (sz_abs (by omega)) hz
  have lf : (frontT b a).length ≤ k + 2 := by
    have lw := wtx_sz (b := b) (n := a.1.natAbs / 10 ^ a.2.toNat) (k := k) (Nat.le_trans (sz_abs (b := (a.1.natAbs : Int)) (by
      rw [Int.natAbs_natCast, Int.natAbs_natCast]
      exact Nat.div_le_self _ _)) hz2)
    rw [List.length_append]
    split
    · rw [S_mi, List.length_singleton]
      omega
    · rw [S_nil, List.length_nil]
      omega
  by_cases z : a.2 = 0
  · rw [ntx_int z]
    omega
  · have hm := (mbh_is hb (ten60 (s := a.2.toNat) (by omega))).2.2
    rw [ntx_fin z, List.length_append, List.length_cons, behT_len hb (by omega) (by omega) (Nat.mod_lt _ (Nat.pow_pos (by decide)))]
    omega
theorem ok_ntx {b : Nat} {a : Nm} {c : Nat} (hc : c ∈ ntx b a) : c < 1114112 := by
  by_cases z : a.2 = 0
  · rw [ntx_int z] at hc
    rcases List.mem_append.mp hc with hc | hc
    · split at hc
      · rw [S_mi, List.mem_singleton] at hc
        omega
      · rw [S_nil] at hc
        cases hc
    · have := wtx_fig hc
      omega
  · rw [ntx_fin z] at hc
    rcases List.mem_append.mp hc with hc | hc
    · rcases List.mem_append.mp hc with hc | hc
      · split at hc
        · rw [S_mi, List.mem_singleton] at hc
          omega
        · rw [S_nil] at hc
          cases hc
      · have := wtx_fig hc
        omega
    · rcases List.mem_cons.mp hc with hc | hc
      · omega
      · have := behT_fig hc
        omega
/-- strong induction over the figures -/
theorem wtx_ind {b : Nat} (hb : 2 ≤ b) {P : Nat → List Nat → Prop} (h1 : ∀ n, n < b → P n [figc n]) (h2 : ∀ n, b ≤ n → P (n / b) (wtx b (n / b)) → P n (wtx b (n / b) ++ [figc (n % b)])) : ∀ n, P n (wtx b n) := by
  intro n
  induction n using Nat.strongRecOn with
  | ind n ih =>
    by_cases c : n < b
    · rw [wtx_lt c]
      exact h1 n c
    · rw [wtx_ge hb (by omega)]
      exact h2 n (by omega) (ih _ (Nat.div_lt_self (by omega) (by omega)))
theorem find46 {b : Nat} {a : Nm} (h : a.2 ≠ 0) : (ntx b a)[(frontT b a).length]? = some 46 ∧ (∀ j, j < (frontT b a).length → (ntx b a)[j]? ≠ some 46) ∧ (ntx b a).drop ((frontT b a).length + 1) = behT b (a.1.natAbs % 10 ^ a.2.toNat) a.2.toNat := by
  rw [ntx_fin h]
  refine ⟨?_, fun j hj => ?_, ?_⟩
  · rw [List.getElem?_append_right (Nat.le_refl _), Nat.sub_self]
    rfl
  · rw [List.getElem?_append_left hj]
    intro e
    exact front_no46 (List.mem_of_getElem? e) rfl
  · rw [← List.drop_drop, List.drop_left]
    rfl


/-! ### written, then read -/
theorem fv_fig {k : Nat} (h : k < 16) : fv (figc k) = k := by
  have h : k ∈ List.range 16 := List.mem_range.mpr h
  revert k
  decide
theorem figc_mem {k b : Nat} (h : k < b) (hb : b ≤ 16) : figc k ∈ figs.take b := by
  have key : ∀ b ∈ List.range 17, ∀ k ∈ List.range b, figc k ∈ figs.take b := by decide
  exact key b (List.mem_range.mpr (by omega)) k (List.mem_range.mpr h)
theorem wth_wtx {b : Nat} (hb : 2 ≤ b) (h16 : b ≤ 16) (n : Nat) : wth b (wtx b n) = n ∧ ∀ c ∈ wtx b n, c ∈ figs.take b := by
  refine wtx_ind hb (P := fun n l => wth b l = n ∧ ∀ c ∈ l, c ∈ figs.take b) (fun n h => ?_) (fun n h ih => ?_) n
  · refine ⟨?_, fun c hc => ?_⟩
    · show 0 * b + fv (figc n) = n
      rw [fv_fig (by omega)]
      omega
    · rw [List.mem_singleton] at hc
      subst hc
      exact figc_mem h h16
  · have hm : n % b < b := Nat.mod_lt _ (by omega)
    refine ⟨?_, fun c hc => ?_⟩
    · rw [wth_snoc, ih.1, fv_fig (by omega), Nat.mul_comm]
      exact Nat.div_add_mod n b
    · rcases List.mem_append.mp hc with hc | hc
      · exact ih.2 c hc
      · rw [List.mem_singleton] at hc
        subst hc
        exact figc_mem hm h16
theorem fold_zeros (b : Nat) : ∀ k a, (List.replicate k 48).foldl (fun a c => a * b + fv c) a = a * b ^ k
  | 0, a => by simp
  | k + 1, a => by
    rw [List.replicate_succ, List.foldl_cons, fold_zeros b k, Nat.pow_succ']
    show (a * b + fv 48) * b ^ k = _
    rw [show fv 48 = 0 from rfl, Nat.add_zero, Nat.mul_assoc]
theorem wth_pad (b k : Nat) (x : List Nat) : wth b (List.replicate k 48 ++ x) = wth b x := by
  unfold wth
  rw [List.foldl_append, fold_zeros, Nat.zero_mul]
abbrev bkM (b : Nat) (a : Nm) : Nat := if a.2 = 0 then 0 else mbh b (10 ^ a.2.toNat)
abbrev bkQ (b : Nat) (a : Nm) : Nat := a.1.natAbs % 10 ^ a.2.toNat * b ^ bkM b a / 10 ^ a.2.toNat
/-- the figures that come back -/
def bkV (b : Nat) (a : Nm) : Nat := a.1.natAbs / 10 ^ a.2.toNat * 10 ^ bkM b a + bkQ b a * 10 ^ bkM b a / b ^ bkM b a
theorem bare_ntx {b : Nat} (hb : 2 ≤ b) (a : Nm) : bareT (ntx b a) = wtx b (a.1.natAbs / 10 ^ a.2.toNat) ++ (if a.2 = 0 then [] else 46 :: behT b (a.1.natAbs % 10 ^ a.2.toNat) a.2.toNat) ∧ ((ntx b a).take 1 = S "-" ↔ a.1 < 0) := by
  have e := take1_front hb a (if a.2 = 0 then [] else 46 :: behT b (a.1.natAbs % 10 ^ a.2.toNat) a.2.toNat)
  have e0 : ntx b a = frontT b a ++ (if a.2 = 0 then [] else 46 :: behT b (a.1.natAbs % 10 ^ a.2.toNat) a.2.toNat) := by
    by_cases z : a.2 = 0
    · rw [ntx_int z, if_pos z, List.append_nil]
    · rw [ntx_fin z, if_neg z]
  rw [← e0] at e
  have e2 : (ntx b a).take 1 = S "-" ↔ a.1 < 0 := by
    constructor
    · intro h
      rw [decide_eq_true h] at e
      exact of_decide_eq_true e.symm
    · intro h
      rw [decide_eq_true h] at e
      exact of_decide_eq_true e
  refine ⟨?_, e2⟩
  unfold bareT
  by_cases h : a.1 < 0
  · rw [if_pos (e2.mpr h), e0]
    unfold frontT
    rw [if_pos h, S_mi, List.append_assoc]
    rfl
  · rw [if_neg (fun z => h (e2.mp z)), e0]
    unfold frontT
    rw [if_neg h, S_nil]
    rfl
theorem no46_wtx {b n : Nat} : 46 ∉ wtx b n := fun h => by
  have := wtx_fig h
  omega
theorem no46_behT {b p s : Nat} : 46 ∉ behT b p s := fun h => by
  have := behT_fig h
  omega
theorem areF_of {b : Nat} {x : List Nat} (h1 : x ≠ []) (h2 : ∀ c ∈ x, c ∈ figs.take b) : areF b x = true := by
  unfold areF
  rw [decide_eq_true h1, Bool.true_and, List.all_eq_true]
  exact fun c hc => decide_eq_true (h2 c hc)
theorem rdn_ntx {b : Nat} (hb : 2 ≤ b) (h16 : b ≤ 16) {a : Nm} (h0 : 0 ≤ a.2) (h1 : a.2 ≤ 60) (hz : sz a.1 ≤ 200) (hm : bkM b a ≤ 60) :
    rdn b (ntx b a) = .ok (if a.1 < 0 then 0 - (bkV b a : Int) else (bkV b a : Int), (bkM b a : Int)) := by
  obtain ⟨e1, e2⟩ := bare_ntx hb a
  have hT : 0 < 10 ^ a.2.toNat := Nat.pow_pos (by decide)
  have hP := Nat.mod_lt a.1.natAbs hT
  obtain ⟨w1, w2⟩ := wth_wtx hb h16 (a.1.natAbs / 10 ^ a.2.toNat)
  have wF := areF_of (b := b) (wtx_ne hb) w2
  have hq : bkQ b a < b ^ bkM b a := by
    show _ * _ / _ < _
    rw [Nat.div_lt_iff_lt_mul hT, Nat.mul_comm (b ^ _)]
    exact Nat.mul_lt_mul_of_pos_right hP (Nat.pow_pos (by omega))
  have hX : bkQ b a * 10 ^ bkM b a / b ^ bkM b a < 10 ^ bkM b a := by
    rw [Nat.div_lt_iff_lt_mul (Nat.pow_pos (by omega)), Nat.mul_comm (10 ^ _)]
    exact Nat.mul_lt_mul_of_pos_right hq (Nat.pow_pos (by decide))
  have cp : ∀ n : Nat, ((10 ^ n : Nat) : Int) = 10 ^ n := fun n => by rw [Int.natCast_pow]; rfl
  have zW : sz ((a.1.natAbs / 10 ^ a.2.toNat : Nat) : Int) ≤ 200 := Nat.le_trans (sz_abs (b := a.1) (by rw [Int.natAbs_natCast]; exact Nat.div_le_self _ _)) hz
  have zT := sz_ten (bkM b a)
  have zV : sz ((bkV b a : Nat) : Int) ≤ 990 := by
    unfold bkV
    rw [Int.natCast_add, Int.natCast_mul, cp]
    refine Nat.le_trans (sza (szm zW zT) (Nat.le_trans (sz_abs (b := 10 ^ bkM b a) ?_) zT)) (by omega)
    rw [← cp, Int.natAbs_natCast, Int.natAbs_natCast]
    omega
  have nV : ∀ y : List Nat, y.length = bkM b a → wth b y = bkQ b a → numO b (wtx b (a.1.natAbs / 10 ^ a.2.toNat)) y = .ok ((bkV b a : Int), (bkM b a : Int)) := by
    intro y hy hv
    unfold numO
    rw [if_neg (by omega), hy, hv, w1]
    have ec : cutO ((bkQ b a : Int) * 10 ^ bkM b a) ((b : Int) ^ bkM b a) = ((bkQ b a * 10 ^ bkM b a / b ^ bkM b a : Nat) : Int) := by
      unfold cutO
      rw [if_pos (Int.mul_nonneg (Int.natCast_nonneg _) (by rw [← cp]; exact Int.natCast_nonneg _)), ← cp, ← Int.natCast_pow, ← Int.natCast_mul, ← Int.natCast_ediv]
    rw [ec, ← cp, ← Int.natCast_mul, ← Int.natCast_add]
    exact fit_ok zV (by omega)
  have sg : ∀ r, negA (ntx b a) (.ok r) = .ok (if a.1 < 0 then (0 - r.1, r.2) else r) := fun r => by
    show (Except.ok (if (ntx b a).take 1 = S "-" then (0 - r.1, r.2) else r) : Ans) = _
    by_cases h : a.1 < 0
    · rw [if_pos (e2.mpr h), if_pos h]
    · rw [if_neg (fun z => h (e2.mp z)), if_neg h]
  unfold rdn
  rw [e1]
  by_cases z : a.2 = 0
  · have hM : bkM b a = 0 := if_pos z
    rw [if_pos z, List.append_nil, TL.spl_last1 no46_wtx]
    show negA _ (rdP b [[] ++ wtx b _]) = _
    rw [List.nil_append]
    unfold rdP
    dsimp only
    rw [if_pos wF, nV [] (by rw [hM]; rfl) (by
      show 0 = _
      have hP : a.1.natAbs % 10 ^ a.2.toNat = 0 := by
        rw [z] at hP ⊢
        have : (10 : Nat) ^ (0 : Int).toNat = 1 := rfl
        omega
      show 0 = _ * _ / _
      rw [hP, Nat.zero_mul, Nat.zero_div]), sg]
    by_cases h : a.1 < 0
    · rw [if_pos h, if_pos h]
    · rw [if_neg h, if_neg h]
  · have hM : bkM b a = mbh b (10 ^ a.2.toNat) := if_neg z
    have hl := behT_len (p := a.1.natAbs % 10 ^ a.2.toNat) hb (s := a.2.toNat) (by omega) (by omega) hP
    have hv : wth b (behT b (a.1.natAbs % 10 ^ a.2.toNat) a.2.toNat) = bkQ b a := by
      unfold behT
      rw [wth_pad, (wth_wtx hb h16 _).1]
      show _ = _ * b ^ bkM b a / _
      rw [hM]
    have bF : areF b (behT b (a.1.natAbs % 10 ^ a.2.toNat) a.2.toNat) = true := by
      refine areF_of (fun y => ?_) fun c hc => ?_
      · have hp := mbh_pos hb (s := a.2.toNat) (by omega) (by omega)
        rw [y] at hl
        rw [← hl] at hp
        exact absurd hp (by decide)
      · unfold behT at hc
        rcases List.mem_append.mp hc with hc | hc
        · have := List.eq_of_mem_replicate hc
          subst this
          exact figc_mem (k := 0) (by omega) h16
        · exact (wth_wtx hb h16 _).2 c hc
    rw [if_neg z, show (46 :: behT b (a.1.natAbs % 10 ^ a.2.toNat) a.2.toNat) = [46] ++ behT b (a.1.natAbs % 10 ^ a.2.toNat) a.2.toNat from rfl, TL.spl_part1 no46_wtx, TL.spl_last1 no46_behT]
    show negA _ (rdP b [[] ++ wtx b _, [] ++ behT b _ _]) = _
    rw [List.nil_append, List.nil_append]
    unfold rdP
    dsimp only
    rw [if_pos ⟨wF, bF, by omega⟩, nV _ (by rw [hl, hM]) hv, sg]
    by_cases h : a.1 < 0
    · rw [if_pos h, if_pos h]
    · rw [if_neg h, if_neg h]
/-- in base ten all comes back -/
theorem bk_ten {a : Nm} (h0 : 0 ≤ a.2) (h1 : a.2 ≤ 60) : bkM 10 a = a.2.toNat ∧ bkV 10 a = a.1.natAbs := by
  have hM : bkM 10 a = a.2.toNat := by
    unfold bkM
    split
    · rename_i z
      rw [z]
      rfl
    · exact mbh_one (by decide) (ten60 (by omega)) (Nat.le_refl _) fun k hk => Nat.pow_lt_pow_right (by decide) hk
  have hT : 0 < 10 ^ a.2.toNat := Nat.pow_pos (by decide)
  refine ⟨hM, ?_⟩
  unfold bkV bkQ
  rw [hM, Nat.mul_div_cancel _ hT, Nat.mul_div_cancel _ hT, Nat.mul_comm]
  exact Nat.div_add_mod _ _
theorem bk_int {b : Nat} {a : Nm} (z : a.2 = 0) : bkM b a = 0 ∧ bkV b a = a.1.natAbs := by
  have hM : bkM b a = 0 := if_pos z
  refine ⟨hM, ?_⟩
  unfold bkV bkQ
  rw [hM, z]
  have : (10 : Nat) ^ (0 : Int).toNat = 1 := rfl
  rw [this]
  simp [Nat.mod_one]
/-- the bounds of what comes back -/
theorem bk_low {b : Nat} (hb : 2 ≤ b) (a : Nm) : bkV b a * 10 ^ a.2.toNat ≤ a.1.natAbs * 10 ^ bkM b a := by
  have hT : 0 < 10 ^ a.2.toNat := Nat.pow_pos (by decide)
  have hB : 0 < b ^ bkM b a := Nat.pow_pos (by omega)
  generalize hS : 10 ^ a.2.toNat = S at *
  have key : bkQ b a * 10 ^ bkM b a / b ^ bkM b a * S ≤ a.1.natAbs % S * 10 ^ bkM b a := by
    have q1 : bkQ b a * S ≤ a.1.natAbs % S * b ^ bkM b a := by
      unfold bkQ
      rw [hS]
      exact Nat.div_mul_le_self _ _
    have q2 := Nat.div_mul_le_self (bkQ b a * 10 ^ bkM b a) (b ^ bkM b a)
    generalize bkQ b a * 10 ^ bkM b a / b ^ bkM b a = X at *
    refine Nat.le_of_mul_le_mul_right ?_ hB
    calc X * S * b ^ bkM b a = X * b ^ bkM b a * S := by ac_rfl
      _ ≤ bkQ b a * 10 ^ bkM b a * S := Nat.mul_le_mul_right _ q2
      _ = bkQ b a * S * 10 ^ bkM b a := by ac_rfl
      _ ≤ a.1.natAbs % S * b ^ bkM b a * 10 ^ bkM b a := Nat.mul_le_mul_right _ q1
      _ = a.1.natAbs % S * 10 ^ bkM b a * b ^ bkM b a := by ac_rfl
  unfold bkV
  rw [hS, Nat.add_mul]
  have e := Nat.div_add_mod a.1.natAbs S
  calc a.1.natAbs / S * 10 ^ bkM b a * S + bkQ b a * 10 ^ bkM b a / b ^ bkM b a * S ≤ a.1.natAbs / S * 10 ^ bkM b a * S + a.1.natAbs % S * 10 ^ bkM b a := Nat.add_le_add_left key _
    _ = (S * (a.1.natAbs / S) + a.1.natAbs % S) * 10 ^ bkM b a := by rw [Nat.add_mul]; congr 1; ac_rfl
    _ = a.1.natAbs * 10 ^ bkM b a := by rw [e]
theorem bk_high {b : Nat} (hb : 2 ≤ b) {a : Nm} (h1 : a.2 ≤ 60) (C : Nat) (hC : 0 < C) : a.1.natAbs * (10 ^ bkM b a * C) < (bkV b a + 1) * C * 10 ^ a.2.toNat + 10 ^ bkM b a * C := by
  have hT : 0 < 10 ^ a.2.toNat := Nat.pow_pos (by decide)
  have hB : 0 < b ^ bkM b a := Nat.pow_pos (by omega)
  have hA : 0 < 10 ^ bkM b a := Nat.pow_pos (by decide)
  have h3 : 10 ^ a.2.toNat ≤ b ^ bkM b a := by
    unfold bkM
    split
    · rename_i z
      rw [z]
      exact Nat.le_refl _
    · exact (mbh_is hb (ten60 (by omega))).1
  generalize hS : 10 ^ a.2.toNat = S at *
  have q1 : a.1.natAbs % S * b ^ bkM b a < (bkQ b a + 1) * S := by
    unfold bkQ
    rw [hS, Nat.mul_comm (_ + 1)]
    exact Nat.lt_mul_div_succ _ hT
  have q2 : bkQ b a * 10 ^ bkM b a < (bkQ b a * 10 ^ bkM b a / b ^ bkM b a + 1) * b ^ bkM b a := by
    rw [Nat.mul_comm (_ + 1)]
    exact Nat.lt_mul_div_succ _ hB
  have e := Nat.div_add_mod a.1.natAbs S
  unfold bkV
  rw [hS]
  generalize bkQ b a * 10 ^ bkM b a / b ^ bkM b a = X at *
  generalize bkQ b a = q at *
  generalize 10 ^ bkM b a = A at *
  generalize b ^ bkM b a = B at *
  generalize a.1.natAbs / S = W at *
  generalize a.1.natAbs % S = P at *
  rw [← e]
  have key : P * (A * C) < (X + 1) * C * S + A * C := by
    refine Nat.lt_of_mul_lt_mul_right (a := B) ?_
    have m1 : P * B * (A * C) ≤ ((q + 1) * S - 1) * (A * C) := Nat.mul_le_mul_right _ (by omega)
    have m2 : (q * A + 1) * (C * S) ≤ (X + 1) * B * (C * S) := Nat.mul_le_mul_right _ q2
    have m3 : A * C * S ≤ A * C * B := Nat.mul_le_mul_left _ h3
    have hAC : 0 < A * C := Nat.mul_pos hA hC
    have hCS : 0 < C * S := Nat.mul_pos hC hT
    have hs1 : 1 ≤ (q + 1) * S := Nat.mul_pos (by omega) hT
    have m4 : ((q + 1) * S - 1) * (A * C) + A * C = (q + 1) * S * (A * C) := by
      rw [← Nat.succ_mul]
      congr 1
      omega
    have e1 : P * (A * C) * B = P * B * (A * C) := by ac_rfl
    have e2 : ((X + 1) * C * S + A * C) * B = (X + 1) * B * (C * S) + A * C * B := by rw [Nat.add_mul]; congr 1; ac_rfl
    have e3 : (q + 1) * S * (A * C) = q * A * (C * S) + A * C * S := by
      rw [Nat.add_mul, Nat.add_mul, Nat.one_mul]
      congr 1
      · ac_rfl
      · ac_rfl
    have e4 : (q * A + 1) * (C * S) = q * A * (C * S) + C * S := by rw [Nat.add_mul, Nat.one_mul]
    rw [e1, e2]
    omega
  have e5 : (S * W + P) * (A * C) = W * A * C * S + P * (A * C) := by rw [Nat.add_mul]; congr 1; ac_rfl
  have e6 : (W * A + X + 1) * C * S = W * A * C * S + (X + 1) * C * S := by rw [Nat.add_assoc, Nat.add_mul, Nat.add_mul]
  rw [e5, e6]
  omega


mutual
theorem eqP_refl : ∀ x : PD, eqP x x = true
  | .non => by simp [eqP]
  | .bl _ => by simp [eqP]
  | .int _ => by simp [eqP]
  | .str _ => by simp [eqP]
  | .lst xs => by rw [eqP]; exact eqPs_refl xs
  | .tup xs => by rw [eqP]; exact eqPs_refl xs
theorem eqPs_refl : ∀ xs : List PD, eqPs xs xs = true
  | [] => by simp [eqPs]
  | x :: xs => by rw [eqPs, eqP_refl x, eqPs_refl xs]; rfl
end
/-- the same data: alike -/
theorem ne_same {h : DH} {x y : D} {d : PD} {Q : DK} (ex : py h x = some d) (ey : py h y = some d) (dx : d.depth ≤ 64) (q : Q (.bl false) h) : oNe x y h Q := oNe_py ex ey dx dx (by rw [eqP_refl]; exact q)
theorem eq_same {h : DH} {x y : D} {d : PD} {Q : DK} (ex : py h x = some d) (ey : py h y = some d) (dx : d.depth ≤ 64) (q : Q (.bl true) h) : oEq x y h Q := oEq_py ex ey dx dx (by rw [eqP_refl]; exact q)
theorem py_tup2 {h : DH} {x y : D} {d e : PD} (ex : py h x = some d) (ey : py h y = some e) : py h (.tup [x, y]) = some (.tup [d, e]) := by
  show (match pyWs (pyN h 4) [x, y] with | some ds => some (PD.tup ds) | none => none) = _
  have : pyWs (pyN h 4) [x, y] = some [d, e] := by
    rw [pyWs, pyWs, pyWs]
    rw [show pyW (pyN h 4) x = some d from ex, show pyW (pyN h 4) y = some e from ey]
  rw [this]
theorem py_flat {f : Addr → Option PD} : ∀ {xs : List D}, xs.all flatD = true → ∃ ds, pyWs f xs = some ds ∧ PD.depths ds = 0
  | [], _ => ⟨[], rfl, rfl⟩
  | x :: xs, h => by
    rw [List.all_cons, Bool.and_eq_true] at h
    obtain ⟨ds, e, d⟩ := py_flat (f := f) h.2
    have key : ∃ p, pyW f x = some p ∧ p.depth = 0 := by
      cases x with
      | non => exact ⟨_, rfl, rfl⟩
      | bl b => exact ⟨_, rfl, rfl⟩
      | int b => exact ⟨_, rfl, rfl⟩
      | str b => exact ⟨_, rfl, rfl⟩
      | _ => cases h.1
    obtain ⟨p, e1, d1⟩ := key
    refine ⟨p :: ds, by rw [pyWs, e1, e], ?_⟩
    show max p.depth (PD.depths ds) = 0
    rw [d1, d]
    rfl
theorem py_lflat {h : DH} {a : Addr} {xs : List D} (e : h a = some (.lst xs)) (f : xs.all flatD = true) : ∃ d, py h (.ref a) = some d ∧ d.depth ≤ 1 := by
  obtain ⟨ds, e1, d⟩ := py_flat (f := pyN h 3) f
  refine ⟨.lst ds, py_list e e1, ?_⟩
  show PD.depths ds + 1 ≤ 1
  omega
theorem py_tflat {h : DH} {xs : List D} (f : xs.all flatD = true) : ∃ d, py h (.tup xs) = some d ∧ d.depth ≤ 1 := by
  obtain ⟨ds, e1, d⟩ := py_flat (f := pyN h 4) f
  refine ⟨.tup ds, ?_, ?_⟩
  · show (match pyWs (pyN h 4) xs with | some ds => some (PD.tup ds) | none => none) = _
    rw [e1]
  · show PD.depths ds + 1 ≤ 1
    omega
/-- over a list, nothing changed but the loop's name -/
theorem for_same {j : Nat} {b : WS} {F : DEnds} {h : DH} {a : Addr} {xs : List D} (ev : Option D → DD.Env) (hset : ∀ y d, (ev y).set j (some d) = ev (some d)) (hl : h a = some (.lst xs))
    (hb : ∀ d ∈ xs, ∀ nx : DD.Env → DH → Prop, nx (ev (some d)) h → b { F with nx := nx, ct := nx, bk := F.nx } (ev (some d)) h) (hd : ∀ y, F.nx (ev y) h) (y : Option D) : ForOf (itL a) (wgName j) b F (ev y) h := by
  refine for_l (xs := xs) (fun _ env h' => (∃ y, env = ev y) ∧ h' = h) ⟨⟨y, rfl⟩, rfl⟩ (fun _ _ _ w => w.2 ▸ hl) ?_ ?_
  · rintro i d env h' e ⟨⟨y, rfl⟩, rfl⟩
    show b _ ((ev y).set j (some d)) h'
    rw [hset]
    exact hb d (List.mem_of_getElem? e) _ ⟨⟨_, rfl⟩, rfl⟩
  · rintro env h' ⟨⟨y, rfl⟩, rfl⟩
    exact hd y
theorem py_repl {f : Addr → Option PD} {x : D} {d : PD} (e : pyW f x = some d) : ∀ k, pyWs f (List.replicate k x) = some (List.replicate k d)
  | 0 => rfl
  | k + 1 => by
    rw [List.replicate_succ, List.replicate_succ, pyWs, e, py_repl e k]
theorem dep_repl (d : PD) : ∀ k, PD.depths (List.replicate k d) ≤ d.depth
  | 0 => Nat.zero_le _
  | k + 1 => by
    rw [List.replicate_succ]
    show max d.depth (PD.depths (List.replicate k d)) ≤ d.depth
    have := dep_repl d k
    omega
/-- so many times the same -/
theorem ne_repl {h : DH} {a b : Addr} {x : D} {d : PD} {k : Nat} {Q : DK} (ea : h a = some (.lst (List.replicate k x))) (eb : h b = some (.lst (List.replicate k x))) (px : pyW (pyN h 3) x = some d) (dx : d.depth ≤ 60) (q : Q (.bl false) h) : oNe (.ref a) (.ref b) h Q := by
  have dd : (PD.lst (List.replicate k d)).depth ≤ 64 := by
    have := dep_repl d k
    show PD.depths _ + 1 ≤ 64
    omega
  exact ne_same (py_list ea (py_repl px k)) (py_list eb (py_repl px k)) dd q
theorem flat_repl {α : Type} (k : Nat) (x : α) : (List.replicate k [x]).flatten = List.replicate k x := by
  induction k with
  | zero => rfl
  | succ k ih => rw [List.replicate_succ, List.flatten_cons, ih]; rfl
theorem mulL {h : DH} {a : Addr} {xs : List D} {n : Int} {Q : DK} (ea : h a = some (.lst xs)) (hn : -100000 ≤ n ∧ n ≤ 100000 ∧ xs.length ≤ 100) (q : ∀ p, h p = none → Q (.ref p) (dup h p (.lst (List.replicate n.toNat xs).flatten))) : oMul (.ref a) (.int n) h Q := by
  show (match h a with | some (.lst xs) => _ | _ => False)
  rw [ea]
  exact ⟨hn, q⟩
/-- over range(n) -/
theorem lc_r {bind : D → DD.Env} {we : WE} {p : Addr} {Q : DK} {h1 : DH} (n : Nat) (f : Nat → D) (hn : n ≤ 100000)
    (he : ∀ k, k < n → ∀ acc, ∀ Q' : DK, Q' (f k) (dup h1 p (.lst acc)) → we (bind (.int (0 + (k : Int)))) (dup h1 p (.lst acc)) Q' (fun _ _ => False)) (q : Q (.ref p) (dup h1 p (.lst ((List.range n).map f)))) : LcOf (itR 0 n) bind wYes we p Q h1 := by
  refine lc_map ((List.range n).map fun (k : Nat) => D.int (0 + (k : Int))) (fun d => match d with | .int i => f i.toNat | _ => .non) (by rw [List.length_map, List.length_range]; exact hn) ?_ ?_ ?_
  · intro i acc
    unfold itR
    rw [List.getElem?_map]
    by_cases c : i < n
    · rw [if_pos c, List.getElem?_range c]
      rfl
    · rw [if_neg c, List.getElem?_eq_none (by rw [List.length_range]; omega)]
      rfl
  · intro d hd acc Q' q
    obtain ⟨k, hk, rfl⟩ := List.mem_map.mp hd
    refine he k (List.mem_range.mp hk) acc Q' ?_
    have e : (0 + (k : Int)).toNat = k := by omega
    dsimp only at q
    rw [e] at q
    exact q
  · rw [List.map_map]
    have e : ((fun d => match d with | D.int i => f i.toNat | _ => .non) ∘ fun (k : Nat) => D.int (0 + (k : Int))) = f := by
      funext k
      show f (0 + (k : Int)).toNat = f k
      rw [show (0 + (k : Int)).toNat = k by omega]
    rw [e]
    exact q
theorem map_const {α : Type} (d : α) (n : Nat) : ((List.range n).map fun _ => d) = List.replicate n d := by
  rw [List.map_const', List.length_range]
theorem for_grow {j : Nat} {b : WS} {F : DEnds} {g : DH} {a : Addr} {xs : List D} (ev : Option D → DD.Env) (hset : ∀ y d, (ev y).set j (some d) = ev (some d)) (hl : g a = some (.lst xs))
    (hb : ∀ d ∈ xs, ∀ h', Sub g h' → ∀ nx : DD.Env → DH → Prop, (∀ h2, Sub g h2 → nx (ev (some d)) h2) → b { F with nx := nx, ct := nx, bk := F.nx } (ev (some d)) h') (hd : ∀ y h', Sub g h' → F.nx (ev y) h') (y : Option D) : ForOf (itL a) (wgName j) b F (ev y) g := by
  refine for_l (xs := xs) (fun _ env h' => (∃ y, env = ev y) ∧ Sub g h') ⟨⟨y, rfl⟩, .refl _⟩ (fun _ _ _ w => w.2 _ _ hl) ?_ ?_
  · rintro i d env h' e ⟨⟨y, rfl⟩, s⟩
    show b _ ((ev y).set j (some d)) h'
    rw [hset]
    exact hb d (List.mem_of_getElem? e) h' s _ fun h2 s2 => ⟨⟨_, rfl⟩, s2⟩
  · rintro env h' ⟨⟨y, rfl⟩, s⟩
    exact hd y h' s


theorem xc_hit {F : DEnds} {m : XN} {o : Option Nat} {ns : List XN} {s : Addr → Option (List (Str × D)) → XN → WS} {r : List DCl1} {env : DD.Env} {h : DH} {x : DX} (hm : isa x.cls m = true) (hn : x.cls ∈ ns) (q : ∀ a, h a = none → s a x.fs x.cls (goneO o F) (setO o a env) h) : xcOf F ((m, o, ns, s) :: r) x env h := by
  unfold xcOf
  rw [if_pos hm]
  exact ⟨hn, q⟩
theorem xc_none {F : DEnds} {m n : XN} {o : Option Nat} {ns : List XN} {s : Addr → Option (List (Str × D)) → XN → WS} {r : List DCl1} {env : DD.Env} {h : DH} (hm : isa n m = true) (hn : n ∈ ns) (q : ∀ a, h a = none → s a none n (goneO o F) (setO o a env) h) : xcOf F ((m, o, ns, s) :: r) ⟨n, none⟩ env h := xc_hit (x := ⟨n, none⟩) hm hn q
theorem xc_miss {F : DEnds} {m : XN} {o : Option Nat} {ns : List XN} {s : Addr → Option (List (Str × D)) → XN → WS} {r : List DCl1} {env : DD.Env} {h : DH} {x : DX} (hm : isa x.cls m = false) (q : xcOf F r x env h) : xcOf F ((m, o, ns, s) :: r) x env h := by
  unfold xcOf
  rw [if_neg (by rw [hm]; exact Bool.false_ne_true)]
  exact q


/-! ### texts that are numbers -/
def isG (b : Nat) (x : List Nat) : Bool := match TL.spl [46] 0 [] (bareT x) with
  | [w] => areF b w
  | [w, y] => areF b w && areF b y && decide (y.length ≤ 60)
  | _ => false
/-- the number of a good text, without its sign -/
def rdV (b : Nat) (w y : List Nat) : Nm := ((wth b w * 10 ^ y.length + wth b y * 10 ^ y.length / b ^ y.length : Nat), (y.length : Int))
theorem numO_rdV {b : Nat} (hb : 2 ≤ b) (h16 : b ≤ 16) {w y : List Nat} (hw : ∀ c ∈ w, c ∈ figs) (hy : ∀ c ∈ y, c ∈ figs) (lw : w.length ≤ 100) (ly : y.length ≤ 60) : numO b w y = .ok (rdV b w y) := by
  have cp : ∀ n : Nat, ((10 ^ n : Nat) : Int) = 10 ^ n := fun n => by rw [Int.natCast_pow]; rfl
  have e1 : (wth b w : Int) * 10 ^ y.length + cutO ((wth b y : Int) * 10 ^ y.length) ((b : Int) ^ y.length) = ((wth b w * 10 ^ y.length + wth b y * 10 ^ y.length / b ^ y.length : Nat) : Int) := by
    unfold cutO
    rw [← cp, if_pos (Int.mul_nonneg (Int.natCast_nonneg _) (Int.natCast_nonneg _)), ← Int.natCast_mul, ← Int.natCast_mul, ← Int.natCast_pow, ← Int.natCast_ediv, ← Int.natCast_add]
  have zw := sz_wth h16 hw
  have zy := sz_wth h16 hy
  have zt := sz_ten y.length
  unfold numO
  rw [if_neg (by omega), e1]
  refine fit_ok ?_ (by omega)
  rw [← e1]
  refine Nat.le_trans (sza (szm zw zt) (Nat.le_trans (sz_cutO _ _) (Nat.succ_le_succ (szm zy zt)))) (by omega)
theorem rdn_bad {b : Nat} {x : List Nat} (h : isG b x = false) : rdn b x = .error .NoText := by
  unfold isG at h
  unfold rdn rdP
  split at h
  · rw [if_neg (by rw [h]; exact Bool.false_ne_true)]
    rfl
  · rw [if_neg]
    · rfl
    · rintro ⟨h1, h2, h3⟩
      rw [h1, h2, decide_eq_true h3] at h
      cases h
  · rfl
/-- the parts of a good text -/
theorem isG_parts {b : Nat} {x : List Nat} (h : isG b x = true) : ∃ w y, (areF b w = true ∧ areF b y = true ∧ y.length ≤ 60 ∧ bareT x = w ++ ([46] ++ y) ∨ areF b w = true ∧ y = [] ∧ bareT x = w) ∧ rdP b (TL.spl [46] 0 [] (bareT x)) = numO b w y := by
  have jn := spl_back 46 (bareT x) []
  unfold isG at h
  generalize TL.spl [46] 0 [] (bareT x) = P at *
  rw [List.nil_append] at jn
  split at h
  · refine ⟨_, [], .inr ⟨h, rfl, jn.symm⟩, ?_⟩
    unfold rdP
    dsimp only
    rw [if_pos h]
  · rename_i w y
    rw [Bool.and_eq_true, Bool.and_eq_true] at h
    refine ⟨w, y, .inl ⟨h.1.1, h.1.2, of_decide_eq_true h.2, jn.symm⟩, ?_⟩
    unfold rdP
    dsimp only
    rw [if_pos ⟨h.1.1, h.1.2, of_decide_eq_true h.2⟩]
  · cases h
theorem areF_no46 {b : Nat} {x : List Nat} (h : areF b x = true) : 46 ∉ x := fun c => absurd (areF_figs h 46 c) (by decide)
theorem isG_one {b : Nat} {w x : List Nat} (hb : bareT x = w) (h : areF b w = true) : isG b x = true := by
  unfold isG
  rw [hb, TL.spl_last1 (areF_no46 h)]
  exact h
theorem isG_two {b : Nat} {w y x : List Nat} (hb : bareT x = w ++ ([46] ++ y)) (h : areF b w = true) (h2 : areF b y = true) (l : y.length ≤ 60) : isG b x = true := by
  unfold isG
  rw [hb, TL.spl_part1 (areF_no46 h), TL.spl_last1 (areF_no46 h2)]
  show (areF b w && areF b y && decide (y.length ≤ 60)) = true
  rw [h, h2, decide_eq_true l]
  rfl
/-- what is read of a good text -/
theorem rdn_good {b : Nat} (hb : 2 ≤ b) (h16 : b ≤ 16) {x : List Nat} (h : isG b x = true) (hl : x.length ≤ 100) : ∃ w y, (areF b w = true ∧ areF b y = true ∧ y.length ≤ 60 ∧ bareT x = w ++ ([46] ++ y) ∨ areF b w = true ∧ y = [] ∧ bareT x = w) ∧ rdn b x = negA x (.ok (rdV b w y)) := by
  obtain ⟨w, y, hp, e⟩ := isG_parts h
  refine ⟨w, y, hp, ?_⟩
  unfold rdn
  have lb : (bareT x).length ≤ 100 := by
    unfold bareT
    split
    · rw [List.length_drop]
      omega
    · omega
  rw [e]
  congr 1
  rcases hp with ⟨h1, h2, h3, h4⟩ | ⟨h1, rfl, h4⟩
  · have := congrArg List.length h4
    rw [List.length_append] at this
    exact numO_rdV hb h16 (areF_figs h1) (areF_figs h2) (by omega) h3
  · exact numO_rdV hb h16 (areF_figs h1) (fun c hc => nomatch hc) (by rw [← h4]; exact lb) (by decide)
/-! a comprehension with a test, the heap may grow -/
theorem lc_f {α : Type} {it : DIt} {bind : D → DD.Env} {tt : WT} {we : WE} {p : Addr} {Q : DK} {h1 : DH} (xs : List α) (em : α → D) (keep : α → Bool) (hn : xs.length ≤ 100000) (hp : h1 p = none) (hx : ∀ i h, Sub h1 h → it i h = some (xs.map em)[i]?)
    (ht : ∀ x ∈ xs, ∀ h, Sub h1 h → ∀ Q' : Bool → DH → Prop, (∀ h', Sub h h' → Q' (keep x) h') → tt (bind (em x)) h Q' (fun _ _ => False))
    (he : ∀ x ∈ xs, ∀ h, ∀ Q' : DK, Q' (em x) h → we (bind (em x)) h Q' (fun _ _ => False))
    (q : ∀ h', Sub h1 h' → h' p = some (.lst ((xs.filter keep).map em)) → Q (.ref p) h') : LcOf it bind tt we p Q h1 := by
  have put : ∀ {h o}, Sub h1 h → Sub h1 (dup h p o) := fun {h o} s b u e => by
    by_cases z : b = p
    · subst z
      rw [hp] at e
      cases e
    · rw [dup_ne z]
      exact s b u e
  refine lc_n xs.length (fun i h => Sub h1 h ∧ h p = some (.lst (((xs.take i).filter keep).map em))) ⟨put (.refl _), dup_same⟩ ?_ ?_
  · rintro i h hi ⟨s, e⟩
    have ei : xs[i]? = some xs[i] := List.getElem?_eq_getElem hi
    have hm := List.getElem_mem hi
    refine ⟨em xs[i], by rw [hx i h s, List.getElem?_map, ei]; rfl, ht _ hm h s _ fun h' s' => ?_⟩
    have e' := s' _ _ e
    refine ite2 (fun k => ?_) (fun k => ?_)
    · refine he _ hm _ _ ⟨_, e', ?_, put (s.trans s'), ?_⟩
      · rw [List.length_map]
        refine Nat.lt_of_le_of_lt (List.length_filter_le _ _) ?_
        rw [List.length_take]
        exact Nat.lt_of_le_of_lt (Nat.min_le_left _ _) (Nat.lt_of_lt_of_le hi (Nat.le_trans hn (by decide)))
      · rw [dup_same, List.take_succ, ei, List.filter_append, List.map_append, show (some xs[i]).toList.filter keep = [xs[i]] by simp [Option.toList, List.filter, k]]
        rfl
    · refine ⟨s.trans s', ?_⟩
      rw [e', List.take_succ, ei, List.filter_append, List.map_append, show (some xs[i]).toList.filter keep = [] by simp [Option.toList, List.filter, k], List.map_nil, List.append_nil]
  · rintro h ⟨s, e⟩
    rw [List.take_length] at e
    exact ⟨by rw [hx _ h s, List.getElem?_eq_none (by rw [List.length_map]; exact Nat.le_refl _)], q h s e⟩
theorem atI_one {α : Type} (x y : α) (xs : List α) : atI (x :: y :: xs) 1 = some y := by
  unfold atI ixN
  rw [if_pos (by decide), if_pos (by rw [List.length_cons, List.length_cons]; omega)]
  rfl


def g_Lread : GM := fun ds h Q _ => ∃ (x w y : List Nat) (b : Nat), ds = [.str x, .int b] ∧ (2 ≤ b ∧ b ≤ 16 ∧ (∀ c ∈ w, c ∈ figs) ∧ (∀ c ∈ y, c ∈ figs) ∧ w.length ≤ 100 ∧ y.length ≤ 60 ∧ (x = w ++ ([46] ++ y) ∨ x = w ∧ y = [])) ∧ Q (numD (rdV b w y)) h

def g_Lwhich (n : XN) (a : Addr) : GM := fun ds h Q _ => ∃ k, ds = [.ref a] ∧ rank n = some k ∧ Q (refD k) h

def g_Lask : GM := fun ds h Q _ => ∃ (x : List Nat) (b : Nat), ds = [.str x, .int b] ∧ (x.length ≤ 15000 ∧ 2 ≤ b ∧ b ≤ 16 ∧ ∀ e, rdn b x = .error e → e = .NoText ∨ e = .TooLong) ∧ ∀ h', Sub h h' → Q (askD (rdn b x)) h'

def g_Lis_good : GM := fun ds h Q _ => ∃ (x : List Nat) (b : Nat), ds = [.str x, .int b] ∧ (2 ≤ b ∧ b ≤ 16 ∧ x.length ≤ 1000) ∧ ∀ h', Sub h h' → Q (.bl (isG b x)) h'
def goodP (b : Nat) (P : List (List Nat)) : Bool := match P with
  | [w] => areF b w
  | [w, y] => areF b w && areF b y && decide (y.length ≤ 60)
  | _ => false
theorem inD_nil : ∀ {P : List (List Nat)}, inD (.str []) (P.map D.str) = decide ([] ∈ P)
  | [] => by simp [inD]
  | y :: P => by
    have ih := inD_nil (P := P)
    unfold inD at ih ⊢
    rw [List.map_cons, List.any_cons, ih]
    cases y <;> simp [eqF]
theorem flat_strs (P : List (List Nat)) : (P.map D.str).all flatD = true := by
  rw [List.all_map, List.all_eq_true]
  exact fun _ _ => rfl
theorem areF_nil {b : Nat} {y : List Nat} (h : y ≠ []) : areF b y = decide (y.filter (fun c => !decide (c ∈ figs.take b)) = []) := by
  unfold areF
  rw [decide_eq_true h, Bool.true_and, Bool.eq_iff_iff, List.all_eq_true, decide_eq_true_iff, List.filter_eq_nil_iff]
  simp
theorem good_nil {b : Nat} : ∀ {P : List (List Nat)}, [] ∈ P → goodP b P = false
  | [], h => rfl
  | [w], h => by
    have h : [] = w := List.mem_singleton.mp h
    subst h
    rfl
  | [w, y], h => by
    show (areF b w && areF b y && decide (y.length ≤ 60)) = false
    rcases List.mem_cons.mp h with h | h
    · subst h
      rfl
    · have h : [] = y := List.mem_singleton.mp h
      subst h
      rw [show areF b [] = false from rfl, Bool.and_false]
      rfl
  | _ :: _ :: _ :: _, h => rfl
theorem good_all {b : Nat} {P : List (List Nat)} (h : P ≠ []) (h2 : ¬ 2 < P.length) (h3 : [] ∉ P) (h4 : ∀ w y, P = [w, y] → y.length ≤ 60) : goodP b P = decide (P.filter (fun y => !decide (y.filter (fun c => !decide (c ∈ figs.take b)) = [])) = []) := by
  have e : goodP b P = P.all (areF b) := by
    match P, h, h2, h4 with
    | [w], _, _, _ =>
      show areF b w = [w].all (areF b)
      simp
    | [w, y], _, _, h4 =>
      show (areF b w && areF b y && decide (y.length ≤ 60)) = [w, y].all (areF b)
      rw [decide_eq_true (h4 w y rfl)]
      simp
    | _ :: _ :: _ :: _, _, h2, _ => exact absurd (by simp) h2
  rw [e, Bool.eq_iff_iff, List.all_eq_true, decide_eq_true_iff, List.filter_eq_nil_iff]
  refine ⟨fun q y hy => ?_, fun q y hy => ?_⟩
  · have := q y hy
    rw [areF_nil (fun z => h3 (z ▸ hy))] at this
    rw [this]
    simp
  · have := q y hy
    rw [areF_nil (fun z => h3 (z ▸ hy))]
    simpa using this

theorem abs_cutO {t b : Int} (hb : 0 < b) : ((cutO t b).natAbs : Int) = (t.natAbs : Int) / b := by
  unfold cutO
  split
  · rename_i h
    rw [Int.natAbs_of_nonneg (Int.ediv_nonneg h (by omega)), Int.natAbs_of_nonneg h]
  · rename_i h
    have e1 : 0 ≤ (0 - t) / b := Int.ediv_nonneg (by omega) (by omega)
    have e2 : (t.natAbs : Int) = 0 - t := by omega
    rw [e2]
    omega
theorem cutO_sign {t b : Int} (hb : 0 < b) : 0 ≤ cutO t b * t := by
  unfold cutO
  split
  · rename_i h
    exact Int.mul_nonneg (Int.ediv_nonneg h (by omega)) h
  · rename_i h
    have e1 : 0 ≤ (0 - t) / b := Int.ediv_nonneg (by omega) (by omega)
    have e2 : (0 - (0 - t) / b) * t = (0 - t) / b * (0 - t) := by rw [Int.zero_sub, Int.zero_sub, Int.neg_mul, Int.mul_neg]
    rw [e2]
    exact Int.mul_nonneg e1 (by omega)
theorem atS_down {f p o : Int} (h : o ≤ p) : atS f p o = cutO f (10 ^ (p - o).toNat) := by
  unfold atS
  split
  · have e : p = o := by omega
    subst e
    rw [Int.sub_self]
    show f * 10 ^ 0 = cutO f (10 ^ 0)
    have := cutO_mul f (10 ^ 0) (by decide)
    rw [Int.pow_zero, Int.mul_one] at this
    rw [Int.pow_zero, Int.mul_one, this]
  · rfl
/-- cut toward nought, by less than one unit -/
theorem atS_unit {f p o : Int} (h0 : 0 ≤ o) (h : o ≤ p) : 0 ≤ (f.natAbs : Int) * 10 ^ o.toNat - ((atS f p o).natAbs : Int) * 10 ^ p.toNat ∧ (f.natAbs : Int) * 10 ^ o.toNat - ((atS f p o).natAbs : Int) * 10 ^ p.toNat < 10 ^ p.toNat := by
  rw [atS_down h, abs_cutO (ten_pos _)]
  have e : p.toNat = (p - o).toNat + o.toNat := by omega
  have d1 := Int.emod_nonneg (f.natAbs : Int) (Int.ne_of_gt (ten_pos (p - o).toNat))
  have d2 := Int.emod_lt_of_pos (f.natAbs : Int) (ten_pos (p - o).toNat)
  have d3 := Int.emod_add_mul_ediv (f.natAbs : Int) (10 ^ (p - o).toNat)
  have e4 : (f.natAbs : Int) * 10 ^ o.toNat - (f.natAbs : Int) / 10 ^ (p - o).toNat * 10 ^ p.toNat = (f.natAbs : Int) % 10 ^ (p - o).toNat * 10 ^ o.toNat := by
    conv => lhs; lhs; rw [← d3]
    rw [e, p10, Int.add_mul]
    have : 10 ^ (p - o).toNat * ((f.natAbs : Int) / 10 ^ (p - o).toNat) * 10 ^ o.toNat = (f.natAbs : Int) / 10 ^ (p - o).toNat * (10 ^ (p - o).toNat * 10 ^ o.toNat) := by ac_rfl
    omega
  rw [e4]
  refine ⟨Int.mul_nonneg d1 (Int.le_of_lt (ten_pos _)), ?_⟩
  rw [e, p10]
  exact Int.mul_lt_mul_of_pos_right d2 (ten_pos _)
theorem atS_sign {f p o : Int} (h : o ≤ p) : 0 ≤ atS f p o * f := by
  rw [atS_down h]
  exact cutO_sign (ten_pos _)
abbrev prodV (a b : Nm) (s : Int) : Nm := (atS (a.1 * b.1) (a.2 + b.2) (min (a.2 + b.2) (max (max s a.2) b.2)), min (a.2 + b.2) (max (max s a.2) b.2))
theorem sz_cutO_le {t b : Int} {k : Nat} (h : sz t ≤ k) : sz (cutO t b) ≤ k + 1 := Nat.le_trans (sz_cutO t b) (by omega)
theorem sz_prodV {a b : Nm} {s : Int} {k : Nat} (ha : sz a.1 ≤ k) (hb : sz b.1 ≤ k) : sz (prodV a b s).1 ≤ k + k + 1 := by
  show sz (atS _ _ _) ≤ _
  rw [atS_down (by omega)]
  exact sz_cutO_le (szm ha hb)
theorem prodO_ok {a b : Nm} {s : Int} (ha : sz a.1 ≤ 490) (hb : sz b.1 ≤ 490) (a2 : 0 ≤ a.2 ∧ a.2 ≤ 60) (b2 : 0 ≤ b.2 ∧ b.2 ≤ 60) (s2 : s ≤ 60) : prodO a b s = .ok (prodV a b s) :=
  fit_ok (Nat.le_trans (sz_prodV (s := s) ha hb) (by decide)) (by omega)
theorem prodV_comm (a b : Nm) (s : Int) : prodV a b s = prodV b a s := by
  have e : min (a.2 + b.2) (max (max s a.2) b.2) = min (b.2 + a.2) (max (max s b.2) a.2) := by omega
  show (atS _ _ _, _) = (atS _ _ _, _)
  rw [e, Int.mul_comm, Int.add_comm]
theorem prodV_one (a : Nm) (s : Int) (h : 0 ≤ a.2) : prodV a (1, 0) s = a := by
  have e : min (a.2 + 0) (max (max s a.2) 0) = a.2 := by omega
  show (atS (a.1 * 1) (a.2 + 0) (min (a.2 + 0) (max (max s a.2) 0)), min (a.2 + 0) (max (max s a.2) 0)) = a
  rw [e, Int.mul_one, Int.add_zero, atS_self]
theorem ordO_self (a : Nm) : ordO a a = 0 := ordO_zero rfl
theorem dec_no {p : Prop} [Decidable p] (h : ¬ p) : ¬ (decide p = true) := fun z => h (of_decide_eq_true z)
theorem ndec_no {p : Prop} [Decidable p] (h : p) : ¬ ((!decide p) = true) := by rw [decide_eq_true h]; exact Bool.false_ne_true


theorem oNe_ref {k : Nat} {h : DH} {Q : DK} (q : Q (.bl false) h) : oNe (refD k) (refD k) h Q := by
  refine ⟨⟨by show (1 : Nat) ≤ 64; decide, by show (1 : Nat) ≤ 64; decide⟩, ?_⟩
  have e : (!eqP (.tup [.str (S "refused"), .int (k : Int)]) (.tup [.str (S "refused"), .int (k : Int)])) = false := by simp [eqP, eqPs]
  show Q (.bl (!eqP (.tup [.str (S "refused"), .int (k : Int)]) (.tup [.str (S "refused"), .int (k : Int)]))) h
  rw [e]
  exact q
theorem oEq_ref {k : Nat} {h : DH} {Q : DK} (q : Q (.bl true) h) : oEq (refD k) (refD k) h Q := by
  refine ⟨⟨by show (1 : Nat) ≤ 64; decide, by show (1 : Nat) ≤ 64; decide⟩, ?_⟩
  have e : eqP (.tup [.str (S "refused"), .int (k : Int)]) (.tup [.str (S "refused"), .int (k : Int)]) = true := by simp [eqP, eqPs]
  show Q (.bl (eqP (.tup [.str (S "refused"), .int (k : Int)]) (.tup [.str (S "refused"), .int (k : Int)]))) h
  rw [e]
  exact q
theorem oEq_num {x y : Nm} {h : DH} {Q : DK} (e : x = y) (q : Q (.bl true) h) : oEq (numD x) (numD y) h Q := by
  subst e
  refine ⟨⟨by show (1 : Nat) ≤ 64; decide, by show (1 : Nat) ≤ 64; decide⟩, ?_⟩
  have e : eqP (.tup [.int x.1, .int x.2]) (.tup [.int x.1, .int x.2]) = true := by simp [eqP, eqPs]
  show Q (.bl (eqP (.tup [.int x.1, .int x.2]) (.tup [.int x.1, .int x.2]))) h
  rw [e]
  exact q
theorem signS_tcut {t b : Int} (hb : b ≠ 0) : tcut t b = signS t b := by
  unfold signS
  by_cases h : 0 < b
  · rw [if_pos h, tcut_pos h]
  · rw [if_neg h]
    unfold tcut cutO
    have eb : (b.natAbs : Int) = 0 - b := by omega
    rw [decide_eq_false h, eb]
    by_cases ht : 0 ≤ t
    · rw [decide_eq_true ht, if_neg (by decide), Int.natAbs_of_nonneg ht]
      by_cases h0 : t = 0
      · subst h0
        simp
      · rw [if_neg (by omega), show 0 - (0 - t) = t by omega]
    · rw [decide_eq_false ht, if_pos rfl, if_pos (by omega), show (t.natAbs : Int) = 0 - t by omega]
theorem abs_signS {t b : Int} (hb : b ≠ 0) : ((signS t b).natAbs : Int) = (t.natAbs : Int) / (b.natAbs : Int) := by
  unfold signS
  by_cases h : 0 < b
  · rw [if_pos h, abs_cutO h, show (b.natAbs : Int) = b by omega]
  · rw [if_neg h, abs_cutO (by omega), show ((0 - t).natAbs : Int) = t.natAbs by omega, show (b.natAbs : Int) = 0 - b by omega]
theorem signS_sign {t b : Int} (hb : b ≠ 0) : 0 ≤ signS t b * t * b := by
  unfold signS
  by_cases h : 0 < b
  · rw [if_pos h]
    exact Int.mul_nonneg (cutO_sign h) (by omega)
  · rw [if_neg h]
    have e := cutO_sign (t := 0 - t) (b := 0 - b) (by omega)
    have e2 : cutO (0 - t) (0 - b) * t * b = cutO (0 - t) (0 - b) * (0 - t) * (0 - b) := by
      rw [Int.zero_sub, Int.zero_sub, Int.mul_neg, Int.mul_neg, Int.neg_mul, Int.neg_neg]
    rw [e2]
    exact Int.mul_nonneg e (by omega)
abbrev quoV (a b : Nm) (s : Int) : Nm := (signS (a.1 * 10 ^ (s + b.2).toNat) (b.1 * 10 ^ a.2.toNat), s)
theorem mul_ten_ne' {b : Int} (n : Nat) (h : b ≠ 0) : b * 10 ^ n ≠ 0 := Int.mul_ne_zero h (Int.ne_of_gt (ten_pos n))
theorem sz_signS (t b : Int) : sz (signS t b) ≤ sz t + 1 := by
  unfold signS
  split
  · exact sz_cutO t b
  · have := sz_cutO (0 - t) (0 - b)
    rw [Int.zero_sub, sz_neg] at this
    rw [Int.zero_sub]
    exact this
theorem quoO_ok {a b : Nm} {s : Int} (hb : b.1 ≠ 0) (ha : sz a.1 ≤ 600) (b2 : 0 ≤ b.2 ∧ b.2 ≤ 60) (s2 : 0 ≤ s ∧ s ≤ 20) : quoO a b s = .ok (quoV a b s) := by
  unfold quoO
  rw [if_neg hb]
  refine fit_ok (Nat.le_trans (sz_signS _ _) ?_) (by omega)
  exact Nat.le_trans (Nat.succ_le_succ (szm ha (szt (k := 80) (by omega)))) (by decide)
theorem quo_sign {a b : Nm} {s : Int} (hb : b.1 ≠ 0) : ¬ (quoV a b s).1 * a.1 * b.1 < 0 := by
  have e := signS_sign (t := a.1 * 10 ^ (s + b.2).toNat) (b := b.1 * 10 ^ a.2.toNat) (mul_ten_ne' _ hb)
  have tp := Int.mul_pos (ten_pos (s + b.2).toNat) (ten_pos a.2.toNat)
  have e2 : signS (a.1 * 10 ^ (s + b.2).toNat) (b.1 * 10 ^ a.2.toNat) * (a.1 * 10 ^ (s + b.2).toNat) * (b.1 * 10 ^ a.2.toNat) = (quoV a b s).1 * a.1 * b.1 * (10 ^ (s + b.2).toNat * 10 ^ a.2.toNat) := by
    show _ = signS (a.1 * 10 ^ (s + b.2).toNat) (b.1 * 10 ^ a.2.toNat) * a.1 * b.1 * _
    ac_rfl
  rw [e2] at e
  intro z
  have := Int.mul_neg_of_neg_of_pos z tp
  omega
theorem quo_unit {a b : Nm} {s : Int} (hb : b.1 ≠ 0) : 0 ≤ (a.1.natAbs : Int) * 10 ^ (s + b.2).toNat - ((quoV a b s).1.natAbs : Int) * ((b.1.natAbs : Int) * 10 ^ a.2.toNat) ∧
    (a.1.natAbs : Int) * 10 ^ (s + b.2).toNat - ((quoV a b s).1.natAbs : Int) * ((b.1.natAbs : Int) * 10 ^ a.2.toNat) < (b.1.natAbs : Int) * 10 ^ a.2.toNat := by
  have e := abs_signS (t := a.1 * 10 ^ (s + b.2).toNat) (b := b.1 * 10 ^ a.2.toNat) (mul_ten_ne' _ hb)
  have ab : ∀ (x : Int) (n : Nat), ((x * 10 ^ n).natAbs : Int) = (x.natAbs : Int) * 10 ^ n := fun x n => by
    rw [Int.natAbs_mul, Int.natCast_mul, Int.natAbs_of_nonneg (Int.le_of_lt (ten_pos n))]
  rw [ab, ab] at e
  have hp : 0 < (b.1.natAbs : Int) * 10 ^ a.2.toNat := Int.mul_pos (by omega) (ten_pos _)
  show 0 ≤ _ - ((signS (a.1 * 10 ^ (s + b.2).toNat) (b.1 * 10 ^ a.2.toNat)).natAbs : Int) * _ ∧ _ - ((signS (a.1 * 10 ^ (s + b.2).toNat) (b.1 * 10 ^ a.2.toNat)).natAbs : Int) * _ < _
  rw [e]
  have d1 := Int.emod_nonneg ((a.1.natAbs : Int) * 10 ^ (s + b.2).toNat) (Int.ne_of_gt hp)
  have d2 := Int.emod_lt_of_pos ((a.1.natAbs : Int) * 10 ^ (s + b.2).toNat) hp
  have d3 := Int.emod_add_mul_ediv ((a.1.natAbs : Int) * 10 ^ (s + b.2).toNat) ((b.1.natAbs : Int) * 10 ^ a.2.toNat)
  have d4 := Int.mul_comm ((a.1.natAbs : Int) * 10 ^ (s + b.2).toNat / ((b.1.natAbs : Int) * 10 ^ a.2.toNat)) ((b.1.natAbs : Int) * 10 ^ a.2.toNat)
  omega


theorem cutO_neg {t b : Int} (h : t ≤ 0) : cutO t b = 0 - (0 - t) / b := by
  unfold cutO
  split
  · have : t = 0 := by omega
    subst this
    simp
  · rfl
/-- cut twice is cut once -/
theorem cutO_cutO {t b c : Int} (hb : 0 < b) (hc : 0 < c) : cutO (cutO t b) c = cutO t (b * c) := by
  by_cases h : 0 ≤ t
  · have e1 : cutO t b = t / b := if_pos h
    have e2 : 0 ≤ t / b := Int.ediv_nonneg h (by omega)
    have e3 : cutO t (b * c) = t / (b * c) := if_pos h
    rw [e1, e3]
    show (if 0 ≤ t / b then t / b / c else _) = _
    rw [if_pos e2, Int.ediv_ediv_of_nonneg (by omega)]
  · have e2 : 0 ≤ (0 - t) / b := Int.ediv_nonneg (by omega) (by omega)
    rw [cutO_neg (t := t) (by omega), cutO_neg (t := t) (by omega), cutO_neg (by omega)]
    have e4 : 0 - (0 - (0 - t) / b) = (0 - t) / b := by omega
    rw [e4, Int.ediv_ediv_of_nonneg (by omega)]
theorem atS_twice {f p s t : Int} (h0 : 0 ≤ t) (h : t ≤ s) : atS (atS f p s) s t = atS f p t := by
  rw [atS_down h]
  by_cases h1 : p ≤ s
  · rw [atS_le h1]
    by_cases h2 : p ≤ t
    · rw [atS_le h2]
      have e : (s - p).toNat = (t - p).toNat + (s - t).toNat := by omega
      rw [e, p10, ← Int.mul_assoc, cutO_mul _ _ (ten_pos _)]
    · rw [atS_down (by omega)]
      have e : (s - t).toNat = (p - t).toNat + (s - p).toNat := by omega
      rw [e, p10, cutO_fac _ _ _ (ten_pos _) (ten_pos _)]
  · rw [atS_down (f := f) (p := p) (o := s) (by omega), atS_down (f := f) (p := p) (o := t) (by omega), cutO_cutO (ten_pos _) (ten_pos _), ← p10]
    congr 2
    omega
theorem ord_sgn (a b : Nm) (w : Int) (e : w = a.1 * 10 ^ b.2.toNat - b.1 * 10 ^ a.2.toNat) : (if 0 < w then 1 else 0) - (if w < 0 then 1 else 0) = ordO a b := by
  unfold ordO
  subst e
  split <;> split <;> split <;> split <;> omega
theorem ord_swap (a b : Nm) : ordO b a = 0 - ordO a b := by
  unfold ordO
  show (if b.1 * 10 ^ a.2.toNat > a.1 * 10 ^ b.2.toNat then (1 : Int) else 0) - _ = 0 - ((if b.1 * 10 ^ a.2.toNat < a.1 * 10 ^ b.2.toNat then 1 else 0) - (if b.1 * 10 ^ a.2.toNat > a.1 * 10 ^ b.2.toNat then 1 else 0))
  omega
theorem mul_pos_iff {x c : Int} (hc : 0 < c) : (0 < x * c ↔ 0 < x) ∧ (x * c < 0 ↔ x < 0) := by
  rcases Int.lt_trichotomy x 0 with h | h | h
  · have : x * c < 0 := Int.mul_neg_of_neg_of_pos h hc
    omega
  · subst h
    simp
  · have : 0 < x * c := Int.mul_pos h hc
    omega
/-- what is left has the order's sign -/
theorem ord_minus {a b : Nm} (a0 : 0 ≤ a.2) (b0 : 0 ≤ b.2) : ordO (sumV a b (-1)) (0, 0) = ordO a b := by
  have e := tell_max (a := a) (b := b) (-1) a0 b0
  have k : (sumV a b (-1)).1 * 10 ^ (a.2 + b.2).toNat = (a.1 * 10 ^ b.2.toNat - b.1 * 10 ^ a.2.toNat) * 10 ^ (max a.2 b.2).toNat := by
    show (atS a.1 a.2 (max a.2 b.2) + -1 * atS b.1 b.2 (max a.2 b.2)) * _ = _
    rw [atS_le (by omega), atS_le (by omega)]
    have e1 : (max a.2 b.2).toNat = (max a.2 b.2 - a.2).toNat + a.2.toNat := by omega
    have e2 : (max a.2 b.2).toNat = (max a.2 b.2 - b.2).toNat + b.2.toNat := by omega
    have e3 : (a.2 + b.2).toNat = a.2.toNat + b.2.toNat := by omega
    rw [Int.add_mul, Int.sub_mul, e3, p10, Int.neg_one_mul, Int.neg_mul, ← Int.sub_eq_add_neg]
    congr 1
    · conv => rhs; rw [e1, p10]
      ac_rfl
    · conv => rhs; rw [e2, p10]
      ac_rfl
  have w1 := mul_pos_iff (x := (sumV a b (-1)).1) (ten_pos (a.2 + b.2).toNat)
  have w2 := mul_pos_iff (x := a.1 * 10 ^ b.2.toNat - b.1 * 10 ^ a.2.toNat) (ten_pos (max a.2 b.2).toNat)
  rw [k] at w1
  rw [← ord_sgn a b _ rfl]
  unfold ordO
  have z : (0 : Int) * 10 ^ (max a.2 b.2).toNat = 0 := Int.zero_mul _
  have z1 : ∀ x : Int, x * 10 ^ (0 : Int).toNat = x := fun x => by
    show x * 10 ^ 0 = x
    rw [Int.pow_zero, Int.mul_one]
  show (if (sumV a b (-1)).1 * 10 ^ (0 : Int).toNat > 0 * 10 ^ (max a.2 b.2).toNat then (1 : Int) else 0) - (if (sumV a b (-1)).1 * 10 ^ (0 : Int).toNat < 0 * 10 ^ (max a.2 b.2).toNat then 1 else 0) = _
  rw [z, z1]
  congr 1
  · congr 1
    exact propext (w1.1.symm.trans w2.1)
  · congr 1
    exact propext (w1.2.symm.trans w2.2)
/-- what is told is no further from nought -/
theorem ord_told {a : Nm} {s : Int} (a0 : 0 ≤ a.2) (s0 : 0 ≤ s) : ¬ ordO a (atS a.1 a.2 s, s) * (if 0 ≤ a.1 then 1 else -1) < 0 := by
  by_cases h : a.2 ≤ s
  · rw [ord_swap, ord_up a0 h]
    split <;> decide
  · have u := atS_unit (f := a.1) (p := a.2) (o := s) s0 (by omega)
    have tp := ten_pos s.toNat
    have tq := ten_pos a.2.toNat
    have n1 : atS a.1 a.2 s * 10 ^ a.2.toNat ≤ ((atS a.1 a.2 s).natAbs : Int) * 10 ^ a.2.toNat := Int.mul_le_mul_of_nonneg_right (by omega) (by omega)
    have n2 : -atS a.1 a.2 s * 10 ^ a.2.toNat ≤ ((atS a.1 a.2 s).natAbs : Int) * 10 ^ a.2.toNat := Int.mul_le_mul_of_nonneg_right (by omega) (by omega)
    rw [Int.neg_mul] at n2
    unfold ordO
    show ¬ ((if a.1 * 10 ^ s.toNat > atS a.1 a.2 s * 10 ^ a.2.toNat then (1 : Int) else 0) - (if a.1 * 10 ^ s.toNat < atS a.1 a.2 s * 10 ^ a.2.toNat then 1 else 0)) * _ < 0
    by_cases h0 : 0 ≤ a.1
    · rw [Int.natAbs_of_nonneg h0] at u
      rw [if_pos h0, if_neg (show ¬ a.1 * 10 ^ s.toNat < atS a.1 a.2 s * 10 ^ a.2.toNat by omega)]
      split <;> decide
    · have e : (a.1.natAbs : Int) = -a.1 := by omega
      rw [e, Int.neg_mul] at u
      rw [if_neg h0, if_neg (show ¬ a.1 * 10 ^ s.toNat > atS a.1 a.2 s * 10 ^ a.2.toNat by omega)]
      split <;> decide
def cutV (a : Nm) (s : Int) : Nm := (atS a.1 a.2 s, s)
theorem cutOp_ok {a : Nm} {s : Int} (h : sz a.1 ≤ 500) (a2 : 0 ≤ a.2 ∧ a.2 ≤ 60) (h0 : 0 ≤ s) (h1 : s ≤ 20) : cutOp a s = .ok (cutV a s) := by
  refine fit_ok ?_ (by omega)
  by_cases z : a.2 ≤ s
  · exact Nat.le_trans (sz_atS_le (j := 20) z h (by omega)) (by decide)
  · rw [atS_down (by omega)]
    exact Nat.le_trans (sz_cutO_le h) (by decide)
theorem sz_cutV {a : Nm} {s : Int} {k : Nat} (h : sz a.1 ≤ k) (h0 : 0 ≤ s) (h1 : s ≤ 20) (h2 : 0 ≤ a.2) : sz (cutV a s).1 ≤ k + 81 := by
  show sz (atS a.1 a.2 s) ≤ _
  by_cases z : a.2 ≤ s
  · exact Nat.le_trans (sz_atS_le (j := 20) z h (by omega)) (by omega)
  · rw [atS_down (by omega)]
    exact Nat.le_trans (sz_cutO_le h) (by omega)
theorem cut_twice {a : Nm} {s t : Int} (h0 : 0 ≤ t) (h : t ≤ s) : cutV (cutV a s) t = cutV a t := by
  show (atS (atS a.1 a.2 s) s t, t) = (atS a.1 a.2 t, t)
  rw [atS_twice h0 h]
/-- the length is what counting up by tens finds -/
theorem len_many {a : Nm} {m : Int} (h1 : 1 ≤ m) (lo : m = 1 ∨ (10 : Int) ^ (m.toNat - 1) ≤ (a.1.natAbs : Int)) (hi : (a.1.natAbs : Int) < 10 ^ m.toNat) : lenO a = max m a.2 := by
  have hi : a.1.natAbs < 10 ^ m.toNat := by exact_mod_cast hi
  unfold lenO
  by_cases z : a.1 = 0
  · rw [if_pos z]
    rcases lo with rfl | lo
    · omega
    · rw [z] at lo
      have := ten_pos (m.toNat - 1)
      simp at lo
      omega
  · rw [if_neg z]
    have e : (toString (a.1.natAbs : Int)) = a.1.natAbs.repr := rfl
    rw [e]
    have l1 := (Nat.length_repr_le_iff (n := a.1.natAbs) (k := m.toNat) (by omega)).mpr hi
    rcases lo with rfl | lo
    · have l1 : a.1.natAbs.repr.length ≤ 1 := l1
      omega
    · have lo : 10 ^ (m.toNat - 1) ≤ a.1.natAbs := by exact_mod_cast lo
      by_cases k : m = 1
      · subst k
        have l1 : a.1.natAbs.repr.length ≤ 1 := l1
        omega
      · have l2 : ¬ a.1.natAbs.repr.length ≤ m.toNat - 1 := fun q => by
          have := (Nat.length_repr_le_iff (n := a.1.natAbs) (k := m.toNat - 1) (by omega)).mp q
          omega
        omega
theorem many_le {m : Int} {x : Nat} {k : Nat} (h : (10 : Int) ^ m.toNat ≤ x) (hx : x < 10 ^ k) : m.toNat < k := by
  have h : 10 ^ m.toNat ≤ x := by exact_mod_cast h
  have := Nat.lt_of_le_of_lt h hx
  exact (Nat.pow_lt_pow_iff_right (by decide)).mp this
theorem sz_ord (a b : Nm) : sz (ordO a b) ≤ 1 := by
  unfold ordO
  refine sz_le ?_
  split <;> split <;> decide
theorem qT {p : Prop} [Decidable p] {Q : Bool → DH → Prop} {h : DH} (n : p) (q : Q true h) : Q (decide p) h := by rw [decide_eq_true n]; exact q


theorem atS_add {x y s o : Int} (h : s ≤ o) : atS (x + y) s o = atS x s o + atS y s o := by rw [atS_le h, atS_le h, atS_le h, Int.add_mul]
theorem atS_mul {m y s o : Int} (h : s ≤ o) : atS (m * y) s o = m * atS y s o := by rw [atS_le h, atS_le h, Int.mul_assoc]
theorem atS_up {f p s o : Int} (h1 : p ≤ s) (h2 : s ≤ o) : atS (atS f p s) s o = atS f p o := by
  rw [atS_le h1, atS_le h2, atS_le (by omega), Int.mul_assoc, ← p10]
  congr 2
  omega
theorem sumV_assoc (a b c : Nm) : sumV (sumV a b 1) c 1 = sumV a (sumV b c 1) 1 := by
  have m1 : max (max a.2 b.2) c.2 = max a.2 (max b.2 c.2) := by omega
  show (atS (atS a.1 a.2 (max a.2 b.2) + 1 * atS b.1 b.2 (max a.2 b.2)) (max a.2 b.2) (max (max a.2 b.2) c.2) + 1 * atS c.1 c.2 (max (max a.2 b.2) c.2), max (max a.2 b.2) c.2) =
    (atS a.1 a.2 (max a.2 (max b.2 c.2)) + 1 * atS (atS b.1 b.2 (max b.2 c.2) + 1 * atS c.1 c.2 (max b.2 c.2)) (max b.2 c.2) (max a.2 (max b.2 c.2)), max a.2 (max b.2 c.2))
  rw [atS_add (by omega), atS_add (by omega), atS_mul (by omega), atS_mul (by omega), atS_up (by omega) (by omega), atS_up (by omega) (by omega), atS_up (by omega) (by omega), atS_up (by omega) (by omega), m1]
  congr 1
  omega
theorem sumV_undo (a b : Nm) : (sumV (sumV a b (-1)) (sumV b a (-1)) 1).1 = 0 := by
  have m1 : max b.2 a.2 = max a.2 b.2 := by omega
  have m2 : max (max a.2 b.2) (max a.2 b.2) = max a.2 b.2 := by omega
  show atS (atS a.1 a.2 (max a.2 b.2) + -1 * atS b.1 b.2 (max a.2 b.2)) (max a.2 b.2) (max (max a.2 b.2) (max b.2 a.2)) + 1 * atS (atS b.1 b.2 (max b.2 a.2) + -1 * atS a.1 a.2 (max b.2 a.2)) (max b.2 a.2) (max (max a.2 b.2) (max b.2 a.2)) = 0
  rw [m1, m2, atS_self, atS_self]
  omega
theorem prodV_ex {a b : Nm} {s : Int} (h : a.2 + b.2 ≤ s) : prodV a b s = (a.1 * b.1, a.2 + b.2) := by
  have e : min (a.2 + b.2) (max (max s a.2) b.2) = a.2 + b.2 := by omega
  show (atS (a.1 * b.1) (a.2 + b.2) (min (a.2 + b.2) (max (max s a.2) b.2)), _) = _
  rw [e, atS_self]
/-- products over sums -/
theorem ord_dist {a b c : Nm} (a0 : 0 ≤ a.2) : sumV (a.1 * b.1, a.2 + b.2) (a.1 * c.1, a.2 + c.2) 1 = (a.1 * (sumV b c 1).1, a.2 + (sumV b c 1).2) := by
  have e : max (a.2 + b.2) (a.2 + c.2) = a.2 + max b.2 c.2 := by omega
  show (atS (a.1 * b.1) (a.2 + b.2) (max (a.2 + b.2) (a.2 + c.2)) + 1 * atS (a.1 * c.1) (a.2 + c.2) (max (a.2 + b.2) (a.2 + c.2)), max (a.2 + b.2) (a.2 + c.2)) = (a.1 * (atS b.1 b.2 (max b.2 c.2) + 1 * atS c.1 c.2 (max b.2 c.2)), a.2 + max b.2 c.2)
  rw [e, atS_le (by omega), atS_le (by omega), atS_le (by omega), atS_le (by omega)]
  congr 1
  rw [show a.2 + max b.2 c.2 - (a.2 + b.2) = max b.2 c.2 - b.2 by omega, show a.2 + max b.2 c.2 - (a.2 + c.2) = max b.2 c.2 - c.2 by omega, Int.mul_add, Int.one_mul, Int.one_mul, Int.mul_assoc, Int.mul_assoc]
theorem signS_mul {x y : Int} (h : y ≠ 0) : signS (x * y) y = x := by
  unfold signS
  split
  · rename_i k
    exact cutO_mul x y k
  · rw [show 0 - x * y = x * (0 - y) by rw [Int.mul_sub, Int.mul_zero]]
    exact cutO_mul x (0 - y) (by omega)
/-- a product divided by its second factor -/
theorem quo_prod {a b : Nm} {s : Int} (hb : b.1 ≠ 0) (a0 : 0 ≤ a.2) (b0 : 0 ≤ b.2) (h : a.2 ≤ s) (hs : s ≤ 60) (hz : sz (atS a.1 a.2 s) ≤ 990) : quoO (a.1 * b.1, a.2 + b.2) b s = .ok (atS a.1 a.2 s, s) := by
  unfold quoO
  rw [if_neg hb]
  show fit (signS (a.1 * b.1 * 10 ^ (s + b.2).toNat) (b.1 * 10 ^ (a.2 + b.2).toNat)) s = _
  have e : a.1 * b.1 * 10 ^ (s + b.2).toNat = atS a.1 a.2 s * (b.1 * 10 ^ (a.2 + b.2).toNat) := by
    rw [atS_le h, show (s + b.2).toNat = (s - a.2).toNat + (a.2 + b.2).toNat by omega, p10]
    ac_rfl
  rw [e, signS_mul (Int.mul_ne_zero hb (Int.ne_of_gt (ten_pos _)))]
  exact fit_ok hz hs
theorem powW_nat (n : Nat) : powW ((n : Int), 0) = n := by
  show ((n : Int).natAbs : Int) / 10 ^ (0 : Int).toNat = n
  rw [show (0 : Int).toNat = 0 from rfl, Int.pow_zero, Int.ediv_one]
  omega
theorem pow_ex {a : Nm} {n : Nat} {s : Int} (hn : n ≤ 99) (a0 : 0 ≤ a.2) (h : (n : Int) * a.2 ≤ s) (hs : s ≤ 60) (hz : sz (a.1 ^ n) ≤ 990) : powO a ((n : Int), 0) s = .ok (a.1 ^ n, n * a.2) := by
  unfold powO
  rw [powW_nat]
  have e0 : ((n : Int).natAbs : Int) % 10 ^ (0 : Int).toNat = 0 := by
    rw [show (0 : Int).toNat = 0 from rfl, Int.pow_zero, Int.emod_one]
  rw [if_neg (by show ¬ (0 < ((n : Int).natAbs : Int) % 10 ^ (0 : Int).toNat ∨ _); rw [e0]; omega), if_pos (by show (0 : Int) ≤ n; omega)]
  have e : min ((n : Int) * a.2) (max s a.2) = n * a.2 := by omega
  rw [e, atS_self, Int.toNat_natCast]
  exact fit_ok hz (by omega)
theorem isq_sq (x : Int) : isq (x * x) = (x.natAbs : Int) := by
  have e : x * x = (x.natAbs : Int) * (x.natAbs : Int) := by rw [← Int.natAbs_mul_self' x]
  rw [e]
  refine isq_is (by omega) (Int.le_refl _) ?_
  rw [Int.add_mul, Int.mul_add]
  omega
/-- the root of a square -/
theorem root_sq {f p s : Int} (h0 : 0 ≤ p) (h : 2 * p ≤ s) (hs : s ≤ 60) (hz : sz (atS (f.natAbs : Int) p s) ≤ 990) : rootO (f ^ 2, 2 * p) s = .ok (atS (f.natAbs : Int) p s, s) := by
  unfold rootO
  have e2 : f ^ 2 = f * f := by rw [Int.pow_succ, Int.pow_succ, Int.pow_zero, Int.one_mul]
  rw [if_neg (by show ¬ f ^ 2 < 0; rw [e2, ← Int.natAbs_mul_self' f]; exact Int.not_lt.mpr (Int.mul_nonneg (by omega) (by omega)))]
  show fit (isq (atS (f ^ 2) (2 * p) (2 * max s (2 * p)))) (max s (2 * p)) = _
  have e : max s (2 * p) = s := by omega
  rw [e]
  have e3 : atS (f ^ 2) (2 * p) (2 * s) = (f * 10 ^ (s - p).toNat) * (f * 10 ^ (s - p).toNat) := by
    rw [atS_le (by omega), e2, show (2 * s - 2 * p).toNat = (s - p).toNat + (s - p).toNat by omega, p10]
    ac_rfl
  rw [e3, isq_sq, Int.natAbs_mul]
  have e4 : (((f.natAbs * ((10 : Int) ^ (s - p).toNat).natAbs : Nat)) : Int) = atS (f.natAbs : Int) p s := by
    rw [atS_le (by omega), Int.natCast_mul, Int.natAbs_of_nonneg (Int.le_of_lt (ten_pos _))]
  rw [e4]
  exact fit_ok hz hs
theorem oNe_numI {x y : Nm} {h : DH} {Q : DK} (e : x = y) (q : Q (.bl false) h) : oNe (numD x) (numD y) h Q := oNe_num e q
/-- so many bits, so fine -/
structure Bd (k : Nat) (m : Int) (a : Nm) : Prop where
  z : sz a.1 ≤ k
  lo : 0 ≤ a.2
  hi : a.2 ≤ m
theorem Bd.good {k : Nat} {m : Int} {a : Nm} (b : Bd k m a) (hk : k ≤ 990) (hm : m ≤ 60) : Good a := good_ok (Nat.le_trans b.z hk) b.lo (Int.le_trans b.hi hm)
theorem Bd.prod {k l : Nat} {m n : Int} {a b : Nm} (ha : Bd k m a) (hb : Bd l n b) : Bd (k + l) (m + n) (a.1 * b.1, a.2 + b.2) := ⟨szm ha.z hb.z, Int.add_nonneg ha.lo hb.lo, Int.add_le_add ha.hi hb.hi⟩
theorem Bd.prodE {k l : Nat} {m n : Int} {a b : Nm} (ha : Bd k m a) (hb : Bd l n b) (hk : k + l ≤ 980) (hk1 : k ≤ 490) (hk2 : l ≤ 490) (hm : m + n ≤ 20) : prodO a b 20 = .ok (a.1 * b.1, a.2 + b.2) := by
  have h1 := ha.hi
  have h2 := hb.hi
  have h3 := ha.lo
  have h4 := hb.lo
  rw [prodO_ok (Nat.le_trans ha.z hk1) (Nat.le_trans hb.z hk2) ⟨h3, by omega⟩ ⟨h4, by omega⟩ (by decide), prodV_ex (by omega)]
theorem Bd.sum {k : Nat} {m : Nat} {a b : Nm} {c : Int} (ha : Bd k m a) (hb : Bd k m b) (hc : sz c ≤ 1) : Bd (k + 4 * m + 3) m (sumV a b c) := by
  have h1 := ha.hi
  have h2 := hb.hi
  have h3 := ha.lo
  have h4 := hb.lo
  have u1 := sz_atS_le (f := a.1) (s := a.2) (o := max a.2 b.2) (j := m) (by omega) ha.z (by omega)
  have u2 := sz_atS_le (f := b.1) (s := b.2) (o := max a.2 b.2) (j := m) (by omega) hb.z (by omega)
  exact ⟨Nat.le_trans (sza u1 (szm hc u2)) (by omega), by show 0 ≤ max a.2 b.2; omega, by show max a.2 b.2 ≤ m; omega⟩
theorem Bd.sumE {k : Nat} {m n : Int} {a b : Nm} {c : Int} (ha : Bd k m a) (hb : Bd k n b) (hk : k ≤ 700) (hm : m ≤ 60) (hn : n ≤ 60) (hc : sz c ≤ 10) : sumO a b c = .ok (sumV a b c) :=
  sumO_ok (Nat.le_trans ha.z hk) (Nat.le_trans hb.z hk) ⟨ha.lo, Int.le_trans ha.hi hm⟩ ⟨hb.lo, Int.le_trans hb.hi hn⟩ hc
theorem Bd.le {k l : Nat} {m n : Int} {a : Nm} (b : Bd k m a) (h1 : k ≤ l) (h2 : m ≤ n) : Bd l n a := ⟨Nat.le_trans b.z h1, b.lo, Int.le_trans b.hi h2⟩
theorem Bd.atS {k : Nat} {m : Int} {a : Nm} {o : Nat} (b : Bd k m a) (h : m ≤ o) : sz (Desk.atS a.1 a.2 o) ≤ k + (4 * o + 1) := by
  have h1 := b.hi
  have h2 := b.lo
  exact sz_atS_le (j := o) (by omega) b.z (by omega)
theorem ifE_neg {t : WT} {a b : Int} {env : DD.Env} {h : DH} {Q : DK} {E : DXK} (k : Bool) (c : ∀ Q' : Bool → DH → Prop, Q' k h → t env h Q' E) (q : Q (.int (if k = true then a else -b)) h) : wIfE t (wC (.int a)) (wNeg (wC (.int b))) env h Q E := by
  refine c _ ?_
  cases k with
  | true => exact q
  | false => exact q
theorem ord_short {a b : Nm} (a0 : 0 ≤ a.2) (b0 : 0 ≤ b.2) : ¬ 0 < ordO (prodV a b 0) (a.1 * b.1, a.2 + b.2) * (if decide (0 ≤ a.1 * b.1) = true then 1 else -1) := by
  have t := ord_told (a := (a.1 * b.1, a.2 + b.2)) (s := min (a.2 + b.2) (max (max 0 a.2) b.2)) (by show 0 ≤ a.2 + b.2; omega) (by omega)
  have e : ordO (prodV a b 0) (a.1 * b.1, a.2 + b.2) = 0 - ordO (a.1 * b.1, a.2 + b.2) (prodV a b 0) := ord_swap _ _
  rw [e]
  have t : ¬ ordO (a.1 * b.1, a.2 + b.2) (prodV a b 0) * (if 0 ≤ a.1 * b.1 then 1 else -1) < 0 := t
  by_cases h : 0 ≤ a.1 * b.1
  · rw [if_pos h] at t
    rw [if_pos (decide_eq_true h)]
    omega
  · rw [if_neg h] at t
    rw [if_neg (fun z => h (of_decide_eq_true z))]
    omega


/-! ### long lines -/
def fldF (w : Nat) : Nat → List Nat → List (List Nat)
  | 0, t => [t]
  | f + 1, t => if w < t.length then (t.take (w - 1) ++ [92]) :: fldF w f (t.drop (w - 1)) else [t]
def foldT (w : Nat) (t : List Nat) : List (List Nat) := fldF w t.length t
theorem fldF_fuel {w : Nat} (hw : 2 ≤ w) : ∀ f g t, t.length ≤ f → t.length ≤ g → fldF w f t = fldF w g t
  | 0, 0, _, _, _ => rfl
  | 0, g + 1, t, h, _ => by
    show [t] = if w < t.length then _ else [t]
    rw [if_neg (by omega)]
  | f + 1, 0, t, _, h => by
    show (if w < t.length then _ else [t]) = [t]
    rw [if_neg (by omega)]
  | f + 1, g + 1, t, h1, h2 => by
    show (if w < t.length then _ :: fldF w f _ else [t]) = if w < t.length then _ :: fldF w g _ else [t]
    by_cases c : w < t.length
    · rw [if_pos c, if_pos c, fldF_fuel hw f g _ (by rw [List.length_drop]; omega) (by rw [List.length_drop]; omega)]
    · rw [if_neg c, if_neg c]
theorem foldT_gt {w : Nat} {t : List Nat} (hw : 2 ≤ w) (h : w < t.length) : foldT w t = (t.take (w - 1) ++ [92]) :: foldT w (t.drop (w - 1)) := by
  unfold foldT
  obtain ⟨n, e⟩ : ∃ n, t.length = n + 1 := ⟨t.length - 1, by omega⟩
  rw [e]
  show (if w < t.length then _ :: fldF w n _ else [t]) = _
  rw [if_pos h, fldF_fuel hw n _ _ (by rw [List.length_drop]; omega) (Nat.le_refl _)]
theorem foldT_le {w : Nat} {t : List Nat} (h : t.length ≤ w) : foldT w t = [t] := by
  unfold foldT
  cases t.length with
  | zero => rfl
  | succ n =>
    show (if w < t.length then _ else [t]) = [t]
    rw [if_neg (by omega)]
theorem foldT_len {w : Nat} (hw : 2 ≤ w) : ∀ n t, t.length ≤ n → (foldT w t).length ≤ n + 1
  | 0, t, h => by
    rw [foldT_le (by omega)]
    exact Nat.le_refl _
  | n + 1, t, h => by
    by_cases c : w < t.length
    · rw [foldT_gt hw c, List.length_cons]
      have := foldT_len hw n (t.drop (w - 1)) (by rw [List.length_drop]; omega)
      omega
    · rw [foldT_le (by omega)]
      simp
def endB (x : List Nat) : Bool := decide (x.drop (x.length - 1) = [92])
/-- lines put together, or nothing -/
def unfT (ys : List (List Nat)) : Option (List Nat) :=
  if ys = [] then none else if ys.dropLast.all endB && !endB (ys.getLastD []) then some ((ys.dropLast.map List.dropLast).flatten ++ ys.getLastD []) else none
def strsOf : List D → Option (List (List Nat))
  | [] => some []
  | .str x :: r => (match strsOf r with
    | some ys => some (x :: ys)
    | none => none)
  | _ => none
theorem strsOf_map (ys : List (List Nat)) : strsOf (ys.map D.str) = some ys := by
  induction ys with
  | nil => rfl
  | cons y ys ih =>
    show (match strsOf (ys.map D.str) with | some zs => some (y :: zs) | none => none) = _
    rw [ih]
def isS : D → Bool
  | .str _ => true
  | _ => false
theorem strsOf_some : ∀ {xs : List D}, xs.all isS = true → ∃ ys : List (List Nat), xs = ys.map D.str
  | [], _ => ⟨[], rfl⟩
  | x :: xs, h => by
    rw [List.all_cons, Bool.and_eq_true] at h
    obtain ⟨ys, e⟩ := strsOf_some h.2
    cases x with
    | str y => exact ⟨y :: ys, by rw [e]; rfl⟩
    | _ => cases h.1
theorem strsOf_none : ∀ {xs : List D}, xs.all isS = false → strsOf xs = none
  | [], h => by cases h
  | x :: xs, h => by
    cases x with
    | str y =>
      have h : xs.all isS = false := by simpa [isS] using h
      show (match strsOf xs with | some ys => some (y :: ys) | none => none) = none
      rw [strsOf_none h]
    | _ => rfl
def unfD (xs : List D) : Option (List Nat) := match strsOf xs with
  | some ys => unfT ys
  | none => none


theorem endB_snoc (c : List Nat) : endB (c ++ [92]) = true := by
  unfold endB
  rw [List.length_append, List.length_singleton, Nat.add_sub_cancel, List.drop_left]
  rfl
theorem endB_no {x : List Nat} (h : 92 ∉ x) : endB x = false := by
  unfold endB
  refine decide_eq_false fun e => h ?_
  have : 92 ∈ x.drop (x.length - 1) := by rw [e]; exact List.mem_singleton.mpr rfl
  exact List.mem_of_mem_drop this
theorem fold_is {w : Nat} (hw : 2 ≤ w) : ∀ n t, t.length ≤ n → ∃ (cs : List (List Nat)) (l : List Nat), foldT w t = cs.map (· ++ [92]) ++ [l] ∧ cs.flatten ++ l = t
  | 0, t, h => ⟨[], t, by rw [foldT_le (by omega)]; rfl, rfl⟩
  | n + 1, t, h => by
    by_cases c : w < t.length
    · obtain ⟨cs, l, e1, e2⟩ := fold_is hw n (t.drop (w - 1)) (by rw [List.length_drop]; omega)
      refine ⟨t.take (w - 1) :: cs, l, by rw [foldT_gt hw c, e1]; rfl, ?_⟩
      rw [List.flatten_cons, List.append_assoc, e2, List.take_append_drop]
    · exact ⟨[], t, by rw [foldT_le (by omega)]; rfl, rfl⟩
theorem unfT_snoc (ini : List (List Nat)) (l : List Nat) : unfT (ini ++ [l]) = if ini.all endB && !endB l then some ((ini.map List.dropLast).flatten ++ l) else none := by
  unfold unfT
  rw [if_neg (by simp), List.dropLast_concat]
  simp
theorem all_ends (cs : List (List Nat)) : (cs.map (· ++ [92])).all endB = true := by
  rw [List.all_map, List.all_eq_true]
  exact fun c _ => endB_snoc c
theorem drop_ends (cs : List (List Nat)) : ((cs.map (· ++ [92])).map List.dropLast) = cs := by
  rw [List.map_map]
  conv => rhs; rw [← List.map_id cs]
  exact List.map_congr_left fun c _ => List.dropLast_concat
theorem unf_fold {w : Nat} {t : List Nat} (hw : 2 ≤ w) (h : 92 ∉ t) : unfT (foldT w t) = some t := by
  obtain ⟨cs, l, e1, e2⟩ := fold_is hw _ t (Nat.le_refl _)
  rw [e1, unfT_snoc, all_ends, endB_no (fun z => h (by rw [← e2]; exact List.mem_append_right _ z)), drop_ends, e2]
  rfl
/-- a line that lost its last sign -/
theorem unf_lost {w : Nat} {t : List Nat} {k : Nat} {x : List Nat} (hw : 2 ≤ w) (h : 92 ∉ t) (hk : k + 1 < (foldT w t).length) (hx : (foldT w t)[k]? = some x) : unfT ((foldT w t).take k ++ [x.dropLast] ++ (foldT w t).drop (k + 1)) = none := by
  obtain ⟨cs, l, e1, e2⟩ := fold_is hw _ t (Nat.le_refl _)
  rw [e1] at hk hx ⊢
  rw [List.length_append, List.length_map, List.length_singleton] at hk
  rw [List.getElem?_append_left (by rw [List.length_map]; omega), List.getElem?_map] at hx
  obtain ⟨c, hc, rfl⟩ := Option.map_eq_some_iff.mp hx
  rw [List.dropLast_concat, List.drop_append_of_le_length (by rw [List.length_map]; omega), ← List.append_assoc, unfT_snoc]
  have hm : c ∈ cs := List.mem_of_getElem? hc
  have hf : endB c = false := endB_no fun z => h (by rw [← e2]; exact List.mem_append_left _ (List.mem_flatten.mpr ⟨c, hm, z⟩))
  rw [if_neg]
  rw [List.all_append, List.all_append]
  simp [hf]
theorem unf_short {w : Nat} {t : List Nat} (hw : 2 ≤ w) (hk : 1 < (foldT w t).length) : unfT (foldT w t).dropLast = none := by
  obtain ⟨cs, l, e1, e2⟩ := fold_is hw _ t (Nat.le_refl _)
  rw [e1] at hk ⊢
  rw [List.dropLast_concat]
  rw [List.length_append, List.length_map, List.length_singleton] at hk
  have hn : cs ≠ [] := fun z => by rw [z] at hk; simp at hk
  rw [← List.dropLast_concat_getLast hn, List.map_append]
  show unfT (_ ++ [cs.getLast hn ++ [92]]) = none
  rw [unfT_snoc, endB_snoc, if_neg (by simp)]
theorem unf_one {t : List Nat} (h : 92 ∉ t) : unfT [t] = some t := by
  have := unfT_snoc [] t
  rw [endB_no h] at this
  exact this
theorem unf_bs (t : List Nat) : unfT [t ++ [92]] = none := by
  have := unfT_snoc [] (t ++ [92])
  rw [endB_snoc] at this
  exact this
theorem unf_two {t : List Nat} (h : 92 ∉ t) : unfT [[92], t] = some t := by
  have := unfT_snoc [[92]] t
  rw [endB_no h] at this
  exact this
theorem foldT_ml {w : Nat} (hw : 2 ≤ w) : ∀ n t, t.length ≤ n → ∀ y ∈ foldT w t, y.length ≤ n + 1
  | 0, t, h, y, hy => by
    rw [foldT_le (by omega), List.mem_singleton] at hy
    subst hy
    omega
  | n + 1, t, h, y, hy => by
    by_cases c : w < t.length
    · rw [foldT_gt hw c] at hy
      rcases List.mem_cons.mp hy with rfl | hy
      · rw [List.length_append, List.length_take, List.length_singleton]
        omega
      · have := foldT_ml hw n (t.drop (w - 1)) (by rw [List.length_drop]; omega) y hy
        omega
    · rw [foldT_le (by omega), List.mem_singleton] at hy
      subst hy
      omega
theorem sum_le {M : Nat} : ∀ {ys : List (List Nat)}, (∀ y ∈ ys, y.length ≤ M) → (ys.map List.length).sum ≤ ys.length * M
  | [], _ => by simp
  | y :: ys, h => by
    have h1 := h y (List.mem_cons_self ..)
    have h2 := sum_le (ys := ys) fun z hz => h z (List.mem_cons_of_mem _ hz)
    rw [List.map_cons, List.sum_cons, List.length_cons, Nat.succ_mul]
    omega


def w_is_whole : WS := (wRet (wAndV (wIsi .int (wVar 0)) (wAndV (wNotV (wIsi .bool (wVar 0))) (wChain oLe oLe (wVar 1) (wVar 0) (wVar 2)))))
def w_raise_to : WS := (wSeq (wSet 2 (wC (.int 1)))
  (wSeq (wFor (wiR1 (wCons (wVar 1) wNil)) (wgName 3) (wSet 2 (wBin oMul (wVar 2) (wVar 0))))
  (wRet (wVar 2))))
def w_ten : WS := (wRet (wCall g_raise_to (wCons (wC (.int 10)) (wCons (wVar 0) wNil))))
def w_cut_off : WS := (wRet (wIfE (wTest (wBin oGe (wVar 0) (wC (.int 0)))) (wBin oDiv (wVar 0) (wVar 1)) (wBin oSub (wC (.int 0)) (wBin oDiv (wBin oSub (wC (.int 0)) (wVar 0)) (wVar 1)))))
def w_fitted : WS := (wSeq (wIf (wOr (wTest (wBin oGe (wCB oAbs (wCons (wVar 0) wNil)) (wC (.int BIG)))) (wTest (wBin oGt (wVar 1) (wC (.int 60))))) (wRaise .TooLong) wNext)
  (wRet (wTup (wCons (wVar 0) (wCons (wVar 1) wNil)))))
def w_need_base : WS := (wIf (wNot (wTest (wCall g_is_whole (wCons (wVar 0) (wCons (wC (.int 2)) (wCons (wC (.int 16)) wNil)))))) (wRaise .NoBase) wNext)
def w_worth_of : WS := (wSeq (wSet 2 (wC (.int 0)))
  (wSeq (wFor (wiSeq (wVar 0)) (wgName 3) (wSet 2 (wBin oAdd (wBin oMul (wVar 2) (wVar 1)) (wM "str" omSindex (wC (.str (S "0123456789ABCDEF"))) (wCons (wVar 3) wNil)))))
  (wRet (wVar 2))))
def w_number_of : WS := (wSeq (wSet 3 (wCB oLen (wCons (wVar 1) wNil)))
  (wSeq (wIf (wTest (wBin oGt (wVar 3) (wC (.int 60)))) (wRaise .TooLong) wNext)
  (wSeq (wSet 4 (wCall g_cut_off (wCons (wBin oMul (wCall g_worth_of (wCons (wVar 1) (wCons (wVar 2) wNil))) (wCall g_ten (wCons (wVar 3) wNil))) (wCons (wCall g_raise_to (wCons (wVar 2) (wCons (wVar 3) wNil))) wNil))))
  (wRet (wCall g_fitted (wCons (wBin oAdd (wBin oMul (wCall g_worth_of (wCons (wVar 0) (wCons (wVar 2) wNil))) (wCall g_ten (wCons (wVar 3) wNil))) (wVar 4)) (wCons (wVar 3) wNil)))))))
def w_are_figures : WS := (wRet (wAndV (wBin oNe (wVar 0) (wC (.str (S "")))) (wCB oAll (wCons (wLc (wiSeq (wVar 0)) 2 wYes (wBin oIn (wVar 2) (wSl (wC (.str (S "0123456789ABCDEF"))) wNo (wPart (wVar 1))))) wNil))))
@[reducible] def t_read_number_10 : WS := (wSeq (wSet 3 (wCall g_number_of (wCons (wVar 4) (wCons (wIfE (wTest (wBin oNe (wVar 5) (wLst wNil))) (wBin oIx (wVar 5) (wC (.int 0))) (wC (.str (S "")))) (wCons (wVar 1) wNil)))))
  (wRet (wIfE (wTest (wBin oEq (wSl (wVar 0) wNo (wPart (wC (.int 1)))) (wC (.str (S "-"))))) (wTup (wCons (wBin oSub (wC (.int 0)) (wBin oIx (wVar 3) (wC (.int 0)))) (wCons (wBin oIx (wVar 3) (wC (.int 1))) wNil))) (wVar 3))))
@[reducible] def t_read_number_8 : WS := (wSeq (wIf (wAnd (wTest (wBin oNe (wVar 5) (wLst wNil))) (wTest (wBin oGt (wCB oLen (wCons (wBin oIx (wVar 5) (wC (.int 0))) wNil)) (wC (.int 60))))) (wRaise .NoText) wNext)
  t_read_number_10)
@[reducible] def t_read_number_6 : WS := (wSeq (wIf (wOr (wNot (wTest (wCall g_are_figures (wCons (wVar 4) (wCons (wVar 1) wNil))))) (wOr (wTest (wBin oGt (wCB oLen (wCons (wVar 5) wNil)) (wC (.int 1)))) (wNot (wTest (wCB oAll (wCons (wLc (wiSeq (wVar 5)) 6 wYes (wCall g_are_figures (wCons (wVar 6) (wCons (wVar 1) wNil)))) wNil)))))) (wRaise .NoText) wNext)
  t_read_number_8)
@[reducible] def t_read_number_5 : WS := (wSeq (wAsg (wM "str" omSplit (wVar 2) (wCons (wC (.str (S "."))) wNil)) (wgStar 4 5))
  t_read_number_6)
@[reducible] def t_read_number_4 : WS := (wSeq (wSet 2 (wIfE (wTest (wBin oEq (wSl (wVar 0) wNo (wPart (wC (.int 1)))) (wC (.str (S "-"))))) (wSl (wVar 0) (wPart (wC (.int 1))) wNo) (wVar 0)))
  t_read_number_5)
@[reducible] def t_read_number_2 : WS := (wSeq (wIf (wNot (wTest (wIsi .str (wVar 0)))) (wRaise .NoText) wNext)
  t_read_number_4)
@[reducible] def t_read_number_1 : WS := (wSeq (wExpr (wCall g_need_base (wCons (wVar 1) wNil)))
  t_read_number_2)
def w_read_number : WS := t_read_number_1
def w_Lcell_at : WS := (wSeq (wIf (wTest (wBin oLt (wVar 1) (wCB oLen (wCons (wVar 0) wNil)))) (wRet (wBin oIx (wVar 0) (wVar 1))) wNext)
  (wSeq (wIf (wTest (wBin oEq (wVar 0) (wLst wNil))) (wRet (wC (.int 0))) wNext)
  (wSeq (wSet 2 (wBin oIx (wVar 0) (wBin oMod (wVar 1) (wCB oLen (wCons (wVar 0) wNil)))))
  (wSeq (wFor (wiR1 (wCons (wCB oMin (wCons (wBin oDiv (wVar 1) (wCB oLen (wCons (wVar 0) wNil))) (wCons (wC (.int 60)) wNil))) wNil)) (wgName 3) (wSet 2 (wBin oDiv (wVar 2) (wC (.int 1000003)))))
  (wRet (wBin oAdd (wBin oAdd (wBin oMul (wBin oIx (wVar 0) (wBin oMod (wVar 1) (wCB oLen (wCons (wVar 0) wNil)))) (wC (.int 31))) (wVar 1)) (wBin oMul (wVar 2) (wC (.int 101)))))))))
def w_Lmixed : WS := (wSeq (wSet 3 (wBin oMod (wBin oAdd (wBin oAdd (wBin oMul (wCall g_Lcell_at (wCons (wVar 0) (wCons (wVar 1) wNil))) (wC (.int 1103515245))) (wBin oMul (wC (.int 7919)) (wVar 1))) (wC (.int 12345))) (wC (.int 2147483647))))
  (wRet (wBin oMod (wBin oMod (wBin oMod (wBin oPow (wVar 3) (wC (.int 5))) (wC (.int 2147483647))) (wC (.int 999983))) (wVar 2))))
def w_Ldraw : WS := (wSeq (wExpr (wM "list" omAppend (wVar 1) (wCons (wC (.int 0)) wNil)))
  (wRet (wCall g_Lmixed (wCons (wVar 0) (wCons (wCB oLen (wCons (wVar 1) wNil)) (wCons (wVar 2) wNil))))))
def w_Lpick : WS := (wRet (wBin oIx (wVar 2) (wCall g_Ldraw (wCons (wVar 0) (wCons (wVar 1) (wCons (wCB oLen (wCons (wVar 2) wNil)) wNil))))))
def w_Lten : WS := (wRet (wCB oInt (wCons (wBin oAdd (wC (.str (S "1"))) (wBin oMul (wC (.str (S "0"))) (wVar 0))) wNil)))
def w_Lread : WS := (wSeq (wSet 2 (wBin oAdd (wM "str" omSplit (wVar 0) (wCons (wC (.str (S "."))) wNil)) (wLst (wCons (wC (.str (S ""))) wNil))))
  (wSeq (wPar 5 6 (wCons (wBin oIx (wVar 2) (wC (.int 0))) (wCons (wBin oIx (wVar 2) (wC (.int 1))) wNil)))
  (wSeq (wAsg (wTup (wCons (wC (.int 0)) (wCons (wC (.int 0)) (wCons (wC (.int 1)) wNil)))) (wgTup 3 (wgCons (wgName 7) (wgCons (wgName 8) (wgCons (wgName 9) wgNil)))))
  (wSeq (wFor (wiSeq (wVar 5)) (wgName 3) (wSet 7 (wBin oAdd (wBin oMul (wVar 7) (wVar 1)) (wM "str" omSindex (wC (.str (S "0123456789ABCDEF"))) (wCons (wVar 3) wNil)))))
  (wSeq (wFor (wiSeq (wVar 6)) (wgName 3) (wPar 8 9 (wCons (wBin oAdd (wBin oMul (wVar 8) (wVar 1)) (wM "str" omSindex (wC (.str (S "0123456789ABCDEF"))) (wCons (wVar 3) wNil))) (wCons (wBin oMul (wVar 9) (wVar 1)) wNil))))
  (wSeq (wSet 4 (wCB oLen (wCons (wVar 6) wNil)))
  (wRet (wTup (wCons (wBin oAdd (wBin oMul (wVar 7) (wCall g_Lten (wCons (wVar 4) wNil))) (wBin oDiv (wBin oMul (wVar 8) (wCall g_Lten (wCons (wVar 4) wNil))) (wVar 9))) (wCons (wVar 4) wNil))))))))))
def w_Lwhich (n : XN) (a : Addr) : WS := (wSeq (wSet 1 (wLst (wCons (wIsX a (isa n .NoNumber) (wVar 0)) (wCons (wIsX a (isa n .NoScale) (wVar 0)) (wCons (wIsX a (isa n .NoBase) (wVar 0)) (wCons (wIsX a (isa n .NoWidth) (wVar 0)) wNil))))))
  (wSeq (wExpr (wM "list" omExtend (wVar 1) (wCons (wLst (wCons (wIsX a (isa n .NoText) (wVar 0)) (wCons (wIsX a (isa n .NoProgram) (wVar 0)) (wCons (wIsX a (isa n .NoTree) (wVar 0)) (wCons (wIsX a (isa n .NoDivisor) (wVar 0)) wNil))))) wNil)))
  (wSeq (wExpr (wM "list" omExtend (wVar 1) (wCons (wLst (wCons (wIsX a (isa n .NoExponent) (wVar 0)) (wCons (wIsX a (isa n .NoRoot) (wVar 0)) (wCons (wIsX a (isa n .TooLong) (wVar 0)) (wCons (wIsX a (isa n .TooMany) (wVar 0)) wNil))))) wNil)))
  (wSeq (wExpr (wM "list" omAppend (wVar 1) (wCons (wIsX a (isa n .Nothing) (wVar 0)) wNil)))
  (wSeq (wIf (wOr (wTest (wBin oNe (wM "list" omCountB (wVar 1) (wCons (wC (.bl true)) wNil)) (wC (.int 1)))) (wNot (wTest (wIsX a true (wVar 0))))) (wRet (wTup (wCons (wC (.str (S "refused"))) (wCons (wNeg (wC (.int 1))) wNil)))) wNext)
  (wRet (wTup (wCons (wC (.str (S "refused"))) (wCons (wM "list" omIndex (wVar 1) (wCons (wC (.bl true)) wNil)) wNil)))))))))
def w_Lask : WS := (wTryC [.NoText, .TooLong] ((.DeskError, (some 2), [.NoText, .TooLong], (fun a fs n => wNoD fs (wRet (wCall (g_Lwhich n a) (wCons (wVar 2) wNil))))) :: []) (wRet (wCallK 1 g_read_number (wCons (wVar 0) wNil) (wCons (wVar 1) wNil))))
def w_Lis_good : WS := (wSeq (wSet 2 (wIfE (wTest (wBin oEq (wSl (wVar 0) wNo (wPart (wC (.int 1)))) (wC (.str (S "-"))))) (wSl (wVar 0) (wPart (wC (.int 1))) wNo) (wVar 0)))
  (wSeq (wSet 3 (wM "str" omSplit (wVar 2) (wCons (wC (.str (S "."))) wNil)))
  (wSeq (wIf (wOr (wTest (wBin oGt (wCB oLen (wCons (wVar 3) wNil)) (wC (.int 2)))) (wOr (wTest (wBin oIn (wC (.str (S ""))) (wVar 3))) (wAnd (wTest (wBin oEq (wCB oLen (wCons (wVar 3) wNil)) (wC (.int 2)))) (wTest (wBin oGt (wCB oLen (wCons (wBin oIx (wVar 3) (wC (.int 1))) wNil)) (wC (.int 60))))))) (wRet (wC (.bl false))) wNext)
  (wRet (wBin oEq (wLc (wiSeq (wVar 3)) 4 (wTest (wBin oNe (wLc (wiSeq (wVar 4)) 5 (wTest (wBin oNi (wVar 5) (wSl (wC (.str (S "0123456789ABCDEF"))) wNo (wPart (wVar 1))))) (wVar 5)) (wLst wNil))) (wVar 4)) (wLst wNil))))))
@[reducible] def t_law_150 : WS := (wSeq (wSet 6 (wCall g_Lread (wCons (wVar 10) (wCons (wVar 3) wNil))))
  (wSet 6 (wIfE (wTest (wBin oEq (wVar 10) (wVar 9))) (wVar 6) (wTup (wCons (wBin oSub (wC (.int 0)) (wBin oIx (wVar 6) (wC (.int 0)))) (wCons (wBin oIx (wVar 6) (wC (.int 1))) wNil))))))
@[reducible] def t_law_147 : WS := (wSeq (wIf (wNot (wTest (wCall g_Lis_good (wCons (wVar 9) (wCons (wVar 3) wNil))))) (wSet 6 (wTup (wCons (wC (.str (S "refused"))) (wCons (wC (.int 4)) wNil)))) t_law_150)
  (wIf (wTest (wBin oNe (wCall g_Lask (wCons (wVar 9) (wCons (wVar 3) wNil))) (wVar 6))) (wRet (wC (.bl false))) wNext))
@[reducible] def t_law_146 : WS := (wSeq (wSet 10 (wIfE (wTest (wBin oEq (wSl (wVar 9) wNo (wPart (wC (.int 1)))) (wC (.str (S "-"))))) (wSl (wVar 9) (wPart (wC (.int 1))) wNo) (wVar 9)))
  t_law_147)
@[reducible] def t_law_145 : WS := (wSeq (wSet 9 (wBin oAdd (wBin oAdd (wSl (wVar 5) wNo (wPart (wVar 7))) (wVar 8)) (wSl (wVar 5) (wPart (wBin oAdd (wVar 7) (wCall g_Ldraw (wCons (wVar 0) (wCons (wVar 1) (wCons (wC (.int 2)) wNil)))))) wNo)))
  t_law_146)
@[reducible] def t_law_144 : WS := (wSeq (wSet 8 (wCall g_Lpick (wCons (wVar 0) (wCons (wVar 1) (wCons (wLst (wCons (wC (.str (S "0"))) (wCons (wC (.str (S "1"))) (wCons (wC (.str (S "9"))) (wCons (wC (.str (S "F"))) (wCons (wC (.str (S "a"))) (wCons (wC (.str (S "."))) (wCons (wC (.str (S "-"))) (wCons (wC (.str (S " "))) (wCons (wC (.str (S ""))) (wCons (wC (.str (S "+"))) (wCons (wC (.str (S "_"))) wNil)))))))))))) wNil)))))
  t_law_145)
@[reducible] def t_law_143 : WS := (wSeq (wSet 7 (wCall g_Ldraw (wCons (wVar 0) (wCons (wVar 1) (wCons (wBin oAdd (wCB oLen (wCons (wVar 5) wNil)) (wC (.int 1))) wNil)))))
  t_law_144)
@[reducible] def t_law_141 : WS := (wSeq (wIf (wOr (wTest (wBin oNe (wCall g_Lask (wCons (wVar 5) (wCons (wVar 3) wNil))) (wVar 6))) (wTest (wBin oNe (wCall g_Lask (wCons (wBin oAdd (wC (.str (S "-"))) (wVar 5)) (wCons (wVar 3) wNil))) (wTup (wCons (wBin oSub (wC (.int 0)) (wBin oIx (wVar 6) (wC (.int 0)))) (wCons (wBin oIx (wVar 6) (wC (.int 1))) wNil)))))) (wRet (wC (.bl false))) wNext)
  t_law_143)
@[reducible] def t_law_140 : WS := (wSeq (wSet 6 (wCall g_Lread (wCons (wVar 5) (wCons (wVar 3) wNil))))
  t_law_141)
@[reducible] def t_law_138 : WS := (wSeq (wSet 11 (wLc (wiR1 (wCons (wBin oAdd (wC (.int 1)) (wCall g_Ldraw (wCons (wVar 0) (wCons (wVar 1) (wCons (wC (.int 9)) wNil))))) wNil)) 12 wYes (wCall g_Lpick (wCons (wVar 0) (wCons (wVar 1) (wCons (wCB oList (wCons (wVar 4) wNil)) wNil))))))
  (wSet 5 (wBin oAdd (wBin oAdd (wVar 5) (wC (.str (S ".")))) (wM "str" omJoin (wC (.str (S ""))) (wCons (wVar 11) wNil)))))
@[reducible] def t_law_137 : WS := (wSeq (wIf (wTest (wBin oEq (wCall g_Ldraw (wCons (wVar 0) (wCons (wVar 1) (wCons (wC (.int 2)) wNil)))) (wC (.int 0)))) t_law_138 wNext)
  t_law_140)
@[reducible] def t_law_136 : WS := (wSeq (wSet 5 (wM "str" omJoin (wC (.str (S ""))) (wCons (wLc (wiR1 (wCons (wBin oAdd (wC (.int 1)) (wCall g_Ldraw (wCons (wVar 0) (wCons (wVar 1) (wCons (wC (.int 9)) wNil))))) wNil)) 12 wYes (wCall g_Lpick (wCons (wVar 0) (wCons (wVar 1) (wCons (wCB oList (wCons (wVar 4) wNil)) wNil))))) wNil)))
  t_law_137)
@[reducible] def t_law_135 : WS := (wSeq (wSet 4 (wSl (wC (.str (S "0123456789ABCDEF"))) wNo (wPart (wVar 3))))
  t_law_136)
@[reducible] def t_law_134 : WS := (wSeq (wSet 3 (wBin oAdd (wC (.int 2)) (wCall g_Ldraw (wCons (wVar 0) (wCons (wVar 1) (wCons (wC (.int 15)) wNil))))))
  t_law_135)
@[reducible] def t_law_133 : WS := (wSeq (wFor (wiR1 (wCons (wC (.int 5)) wNil)) (wgName 2) t_law_134)
  (wRet (wAndV (wBin oEq (wCall g_Lask (wCons (wBin oAdd (wC (.str (S "0."))) (wBin oMul (wC (.str (S "1"))) (wC (.int 61)))) (wCons (wC (.int 10)) wNil))) (wTup (wCons (wC (.str (S "refused"))) (wCons (wC (.int 4)) wNil)))) (wBin oEq (wCall g_Lask (wCons (wBin oMul (wC (.str (S "1"))) (wC (.int 300))) (wCons (wC (.int 10)) wNil))) (wTup (wCons (wC (.str (S "refused"))) (wCons (wC (.int 10)) wNil)))))))
@[reducible] def t_law_132 : WS := (wSeq (wSet 1 (wLst wNil))
  t_law_133)
def w_law : WS := t_law_132
end Desk
namespace Desk
open PySem PySem.Spec L2 DD
open PyProof.Rows hiding St


theorem vc_is_whole : ∀ ds h Q E, g_is_whole ds h Q E → w_is_whole (dends Q E) (dstart 3 ds) h := by
  rintro ds h Q E ⟨d, lo, hi, rfl, ht, q⟩
  cases d with
  | int i =>
    refine ⟨trivial, ?_⟩
    refine ite2 (fun c => ⟨trivial, h, .refl h, ?_⟩) (fun c => ⟨h, .refl h, ?_⟩)
    · have e : isW (.int i) lo hi = decide (i ≤ hi) := by
        show (decide (lo ≤ i) && _) = _
        rw [c, Bool.true_and]
      rw [e] at q
      exact q
    · have e : isW (.int i) lo hi = false := by
        show (decide (lo ≤ i) && _) = _
        rw [Bool.eq_false_iff.mpr c, Bool.false_and]
      rw [e] at q
      exact q
  | ref a =>
    simp only [tyk] at ht
    have q : Q (.bl false) h := q
    show (match tyD h (.ref a) with | some t => _ | none => False)
    simp only [tyD] at ht ⊢
    split at ht <;> simp_all <;> exact ⟨h, .refl h, q⟩
  | ty n => exact absurd ht (by simp [tyk, tyD])
  | fn n => exact absurd ht (by simp [tyk, tyD])
  | _ => exact ⟨h, .refl h, q⟩

theorem vc_raise_to : ∀ ds h Q E, g_raise_to ds h Q E → w_raise_to (dends Q E) (dstart 4 ds) h := by
  rintro ds h Q E ⟨n, m, rfl, ⟨h0, h1, hn⟩, q⟩
  refine ⟨⟨by omega, by omega⟩, ?_⟩
  refine for_rng (fun i env h' => (∃ x, env = [some (.int n), some (.int m), some (.int (n ^ i)), x]) ∧ h' = h) ⟨⟨none, by rw [Int.pow_zero]; rfl⟩, rfl⟩ ?_ ?_
  · rintro i env h' hi ⟨⟨x, rfl⟩, rfl⟩
    refine ⟨?_, ⟨some (.int (0 + (i : Int))), by rw [Int.pow_succ]; rfl⟩, rfl⟩
    have h2 := sz_pow n i
    have h3 : sz n * (i + 1) ≤ sz n * (m.toNat + 1) := Nat.mul_le_mul_left _ (by omega)
    rw [Nat.mul_succ] at h3
    show sz (n ^ i) + sz n ≤ 134217728
    omega
  · rintro env h' ⟨⟨x, rfl⟩, rfl⟩
    exact ⟨h', .refl _, q⟩

theorem vc_ten : ∀ ds h Q E, g_ten ds h Q E → w_ten (dends Q E) (dstart 1 ds) h := by
  rintro ds h Q E ⟨m, rfl, ⟨h0, h1⟩, q⟩
  refine ⟨10, m, rfl, ⟨h0, h1, ?_⟩, h, .refl h, q⟩
  have e : sz 10 = 4 := by decide
  rw [e]
  omega

theorem vc_cut_off : ∀ ds h Q E, g_cut_off ds h Q E → w_cut_off (dends Q E) (dstart 2 ds) h := by
  rintro ds h Q E ⟨t, b, rfl, ⟨h0, h1⟩, q⟩
  refine ⟨trivial, ?_⟩
  unfold cutO at q
  refine ite2 (fun c => ?_) (fun c => ?_)
  · rw [if_pos (of_decide_eq_true c)] at q
    exact ⟨pdiv_of h0 h1, h, .refl h, q⟩
  · rw [if_neg (fun z => c (decide_eq_true z))] at q
    exact ⟨trivial, pdiv_of h0 h1, trivial, h, .refl h, q⟩

theorem vc_fitted : ∀ ds h Q E, g_fitted ds h Q E → w_fitted (dends Q E) (dstart 2 ds) h := by
  rintro ds h Q E ⟨f, s, rfl, q⟩
  refine ⟨trivial, ?_⟩
  unfold fit at q
  refine ite2 (fun c => ?_) (fun c => ⟨trivial, ite2 (fun c2 => ?_) (fun c2 => ?_)⟩)
  · rw [if_pos (.inl (of_decide_eq_true c))] at q
    exact ⟨h, .refl h, q⟩
  · rw [if_pos (.inr (of_decide_eq_true c2))] at q
    exact ⟨h, .refl h, q⟩
  · rw [if_neg (fun z => z.elim (fun z => c (decide_eq_true z)) (fun z => c2 (decide_eq_true z)))] at q
    exact ⟨by show 2 ≤ sizeLine; decide, h, .refl h, q⟩


theorem vc_need_base : ∀ ds h Q E, g_need_base ds h Q E → w_need_base (dends Q E) (dstart 1 ds) h := by
  rintro ds h Q E ⟨s, rfl, ht, z⟩
  refine ⟨s, 2, 16, rfl, ht, ?_⟩
  unfold guardW at z
  refine ite2 (fun c => ?_) (fun c => ?_)
  · rw [if_neg (by simpa using c)] at z
    exact ⟨h, .refl h, z⟩
  · rw [if_pos (by simpa using c)] at z
    exact ⟨h, .refl h, z⟩









theorem vc_worth_of : ∀ ds h Q E, g_worth_of ds h Q E → w_worth_of (dends Q E) (dstart 4 ds) h := by
  rintro ds h Q E ⟨x, b, rfl, ⟨h0, h1, h2⟩, q⟩
  refine for_x (xs := x.map fun c => .str [c]) (fun i env h' => (∃ y3, env = [some (.str x), some (.int b), some (.int (wth b (x.take i))), y3]) ∧ h' = h) ⟨⟨_, rfl⟩, rfl⟩ ?_ ?_
  · rintro i d env h' e ⟨⟨y3, rfl⟩, rfl⟩
    rw [List.getElem?_map] at e
    obtain ⟨c, ec, rfl⟩ := Option.map_eq_some_iff.mp e
    have hc := h2 c (List.mem_of_getElem? ec)
    obtain ⟨f1, f2, f3⟩ := fv_is hc
    have zb : sz (b : Int) ≤ 5 := sz_le (by omega)
    have zw := sz_wth h0 (x := x.take i) fun c hc => h2 c (List.mem_of_mem_take hc)
    have : (x.take i).length ≤ 20000 := by rw [List.length_take]; omega
    refine ⟨pmul_of zw zb (by omega), rfl, fv c, f1, f2, ⟨some (.str [c]), ?_⟩, rfl⟩
    rw [List.take_succ, ec]
    show _ = [_, _, some (D.int ((wth b (x.take i ++ [c]) : Nat) : Int)), _]
    rw [wth_snoc]
    rfl
  · rw [List.length_map]
    rintro env h' ⟨⟨y3, rfl⟩, rfl⟩
    rw [List.take_length]
    exact ⟨h', .refl _, q⟩

theorem vc_number_of : ∀ ds h Q E, g_number_of ds h Q E → w_number_of (dends Q E) (dstart 5 ds) h := by
  rintro ds h Q E ⟨w, y, b, rfl, ⟨h0, h1, h2, h3, h4, h5⟩, z⟩
  unfold numO at z
  refine ⟨slen (by omega), ⟨trivial, ite2 (fun c => ?_) (fun c => ?_)⟩⟩
  · rw [if_pos (by have := of_decide_eq_true c; omega)] at z
    exact ⟨h, .refl h, z⟩
  have c : y.length ≤ 60 := by
    have : ¬ (60 : Int) < (y.length : Int) := fun z => c (decide_eq_true z)
    omega
  rw [if_neg (by omega)] at z
  have zb : sz (b : Int) ≤ 5 := sz_le (by omega)
  have zw := sz_wth h1 h4
  have zy := sz_wth h1 h5
  have zt := sz_ten y.length
  have zm := szm zy zt
  have zc := Nat.le_trans (sz_cutO ((wth b y : Int) * 10 ^ y.length) ((b : Int) ^ y.length)) (Nat.succ_le_succ zm)
  have zp : sz ((b : Int) ^ y.length) ≤ 301 := Nat.le_trans (sz_pow _ _) (by
    have : sz (b : Int) * y.length ≤ 5 * 60 := Nat.mul_le_mul zb c
    omega)
  have bp : (0 : Int) < (b : Int) ^ y.length := Int.pow_pos (by omega)
  refine ⟨y, b, rfl, ⟨h1, h3, h5⟩, y.length, rfl, ⟨by omega, by omega⟩, ?_⟩
  rw [Int.toNat_natCast]
  refine ⟨pmul_of zy zt (by omega), b, y.length, rfl, ⟨by omega, by omega, ?_⟩, ?_⟩
  · have : sz (b : Int) * ((y.length : Int).toNat + 1) ≤ 5 * 61 := Nat.mul_le_mul zb (by omega)
    omega
  rw [Int.toNat_natCast]
  refine ⟨_, _, rfl, ⟨bp, by omega⟩, w, b, rfl, ⟨h1, h2, h4⟩, y.length, rfl, ⟨by omega, by omega⟩, ?_⟩
  rw [Int.toNat_natCast]
  exact ⟨pmul_of zw zt (by omega), _, _, rfl, z.out⟩

theorem vc_are_figures : ∀ ds h Q E, g_are_figures ds h Q E → w_are_figures (dends Q E) (dstart 3 ds) h := by
  rintro ds h Q E ⟨x, b, rfl, hl, q⟩
  unfold areF at q
  refine retI ?_
  refine ne_str' ?_
  rw [S_nil]
  have e : (!decide (x = [])) = decide (x ≠ []) := by by_cases h : x = [] <;> simp [h]
  rw [e]
  refine ite2 (fun c => ?_) (fun c => ?_)
  · rw [c, Bool.true_and] at q
    refine allV (seqs rfl fun p hp => lc_signs x (fun c => .bl (decide (c ∈ figs.take b))) (by omega) ?_ ?_)
    · intro c hc acc Q' q
      refine ⟨by decide, ?_⟩
      rw [cut_take]
      exact in_sign rfl q
    · exact all_l (f := fun c => decide (c ∈ figs.take b)) dup_same ⟨h, .new hp, q⟩
  · rw [Bool.eq_false_iff.mpr c, Bool.false_and] at q
    exact ⟨h, .refl h, q⟩



theorem rdP_tail {b : Nat} {w : List Nat} {r : List (List Nat)} : rdP b (w :: r) = if areF b w = false ∨ 1 < r.length ∨ r.all (areF b) = false then .error .NoText else if r ≠ [] ∧ 60 < (r.headD []).length then .error .NoText else numO b w (r.headD []) := by
  match r with
  | [] => by_cases h : areF b w = true <;> simp [rdP, h]
  | [y] => by_cases h : areF b w = true <;> by_cases h2 : areF b y = true <;> by_cases h3 : y.length ≤ 60 <;> simp [rdP, h, h2, h3] <;> omega
  | y :: u :: r => simp [rdP]
theorem vc_read_number : ∀ ds h Q E, g_read_number ds h Q E → w_read_number (dends Q E) (dstart 7 ds) h := by
  rintro ds h Q E ⟨t, b, rfl, ⟨tt, tb⟩, z⟩
  refine ⟨b, rfl, tb, ?_⟩
  unfold guardW at z ⊢
  refine ite2 (fun c => ?_) (fun c => ?_)
  · rw [if_pos c] at z
    obtain ⟨j, rfl, j0, j1⟩ := isW_int c
    obtain ⟨n, rfl⟩ := Int.eq_ofNat_of_zero_le (a := j) (by omega)
    dsimp only
    cases t with
    | ref a =>
      obtain ⟨t, e, y⟩ := tyk_ref' tt
      refine ifQ (isiN rfl e ?_)
      rcases y with rfl | rfl <;> exact ite_y rfl ⟨h, .refl h, z⟩
    | ty n => exact absurd tt (by simp [tyk, tyD])
    | fn n => exact absurd tt (by simp [tyk, tyD])
    | str x =>
      obtain ⟨hx, z⟩ := z
      have z := z n rfl
      have n0 : 2 ≤ n := by omega
      have n1 : n ≤ 16 := by omega
      unfold rdn at z
      have lb : (bareT x).length ≤ 15000 := by
        unfold bareT
        split
        · rw [List.length_drop]
          omega
        · omega
      refine ifQ (isiN rfl rfl (ite_n (by decide) ?_))
      have r5 : t_read_number_5 (dends Q E) [some (.str x), some (.int n), some (.str (bareT x)), none, none, none, none] h := by
        rw [t_read_number_5]
        generalize hP : TL.spl [46] 0 [] (bareT x) = P at *
        have pl : P.length ≤ 15001 := by
          have := spl_len (S := [46]) (bareT x) [] 0
          rw [hP] at this
          omega
        have pe : ∀ y ∈ P, y.length ≤ 20000 := fun y hy => by
          have := spl_el (S := [46]) (bareT x) [] 0 y (by rw [hP]; exact hy)
          rw [List.length_nil] at this
          omega
        have pn : P ≠ [] := by
          rw [← hP]
          exact spl_ne _ _ _
        obtain ⟨w, r, rfl⟩ : ∃ w r, P = w :: r := by
          cases P with
          | nil => exact absurd rfl pn
          | cons w r => exact ⟨w, r, rfl⟩
        have hw := pe w (List.mem_cons_self ..)
        have hr : ∀ y ∈ r, y.length ≤ 20000 := fun y hy => pe y (List.mem_cons_of_mem _ hy)
        rw [List.length_cons] at pl
        rw [rdP_tail] at z
        refine ⟨rfl, ?_⟩
        rw [S_dot]
        refine ⟨⟨by decide, by exact slen (by omega)⟩, fun p1 hp1 => ?_⟩
        rw [hP]
        refine ⟨.str w, r.map D.str, by rw [List.length_map]; omega, .inr ⟨p1, rfl, dup_same⟩, fun p2 hp2 => ?_⟩
        have s2 : Sub h (dup (dup h p1 (.lst ((w :: r).map D.str))) p2 (.lst (r.map D.str))) := (Sub.new hp1).newT hp2
        have e2 : dup (dup h p1 (.lst ((w :: r).map D.str))) p2 (.lst (r.map D.str)) p2 = some (.lst (r.map D.str)) := dup_same
        generalize hG : dup (dup h p1 (.lst ((w :: r).map D.str))) p2 (.lst (r.map D.str)) = g at *
        clear hG hp1 hp2
        have bad : (areF n w = false ∨ 1 < r.length ∨ r.all (areF n) = false) → ∀ g', Sub h g' → ∃ h', Sub h' g' ∧ E ⟨.NoText, none⟩ h' := fun b g' s => by
          rw [if_pos b] at z
          exact ⟨h, s, z⟩
        dsimp only
        refine ifQ (orI ⟨w, n, rfl, hw, ?_⟩)
        cases hA : areF n w with
        | false => exact ite_y rfl (ite_y rfl (bad (.inl hA) _ s2))
        | true =>
        refine ite_n (by decide) (orI (tI (binI (lenI rfl e2 ⟨trivial, ?_⟩))))
        rw [List.length_map]
        refine ite2 (fun c => ite_y rfl (bad (.inr (.inl (by have := of_decide_eq_true c; omega))) _ s2)) (fun c => ?_)
        have c : ¬ 1 < r.length := fun y => c (decide_eq_true (by omega))
        refine nallC (seqv rfl e2 fun p3 hp3 => lc_strs r (fun y => .bl (areF n y)) (by omega) e2 hp3 ?_ ?_)
        · intro y hy acc Q' q
          exact ⟨y, n, rfl, hr y hy, q⟩
        refine all_l (f := areF n) (xs := r) dup_same ?_
        have s3 : Sub h (dup g p3 (.lst (r.map fun y => .bl (areF n y)))) := s2.newT hp3
        have e3 := (Sub.new (o := .lst (r.map fun y => .bl (areF n y))) hp3) _ _ e2
        generalize hG : dup g p3 (.lst (r.map fun y => .bl (areF n y))) = g2 at *
        clear hG hp3
        refine ite2 (fun c => bad (.inr (.inr (by simpa using c))) _ s3) (fun c2 => ?_)
        have c2 : r.all (areF n) = true := by simpa using c2
        rw [if_neg (by rw [hA, c2]; simp; omega)] at z
        have r10 : ∀ (y : List Nat) (g4 : DH) (x6 : Option D), Sub h g4 → (∀ c ∈ y, c ∈ figs) → y.length ≤ 20000 → ansD (negA x (numO n w y)) h Q E →
            g_number_of [.str w, .str y, .int n] g4 (fun d h1 => (wRet (wIfE (wTest (wBin oEq (wSl (wVar 0) wNo (wPart (wC (.int 1)))) (wC (.str (S "-"))))) (wTup (wCons (wBin oSub (wC (.int 0)) (wBin oIx (wVar 3) (wC (.int 0)))) (wCons (wBin oIx (wVar 3) (wC (.int 1))) wNil))) (wVar 3))) (dends Q E) [some (.str x), some (.int n), some (.str (bareT x)), some d, some (.str w), some (.ref p2), x6] h1) (fun x1 h1 => ∃ h', Sub h' h1 ∧ E x1 h') := by
          intro y g4 x6 sg fy ly zy
          refine ⟨w, y, n, rfl, ⟨n0, n1, hw, ly, areF_figs hA, fy⟩, ?_⟩
          cases eN : numO n w y with
          | error ex =>
            rw [eN] at zy
            exact ⟨h, sg, zy⟩
          | ok m =>
            rw [eN] at zy
            refine ⟨slen (by omega), ?_⟩
            rw [show (1 : Int) = ((1 : Nat) : Int) from rfl, cut_take]
            have zy : Q (numD (if x.take 1 = S "-" then (0 - m.1, m.2) else m)) h := zy
            refine eq_str (ite2 (fun c => ?_) (fun c => ?_))
            · rw [if_pos (of_decide_eq_true c)] at zy
              exact ixt rfl ⟨trivial, ixt rfl ⟨sln rfl, h, sg, zy⟩⟩
            · rw [if_neg (fun z => c (decide_eq_true z))] at zy
              exact ⟨h, sg, zy⟩
        match r, c, hr, c2, z, e3 with
        | [], c, hr, c2, z, e3 =>
          rw [if_neg (by simp)] at z
          refine ⟨sln rfl, fun p4 hp4 => ?_⟩
          have e4 := (Sub.new (o := .lst []) hp4) _ _ e3
          refine ne_strs (xs := []) (ys := []) e4 dup_same (ite_n (by decide) (ite_n (by decide) ⟨sln rfl, fun p5 hp5 => ?_⟩))
          have e5 := (Sub.new (o := .lst []) hp5) _ _ e4
          refine ne_strs (xs := []) (ys := []) e5 dup_same (ite_n (by decide) ?_)
          rw [S_nil]
          exact r10 [] _ none ((s3.newT hp4).newT hp5) (fun c hc => nomatch hc) (by simp) z
        | [y], c, hr, c2, z, e3 =>
          have c2 : areF n y = true := by simpa using c2
          refine ⟨sln rfl, fun p4 hp4 => ?_⟩
          have e4 := (Sub.new (o := .lst []) hp4) _ _ e3
          refine ne_strs (xs := [y]) (ys := []) e4 dup_same (ite_y (by simp) (ixl e4 rfl ⟨slen (by have := hr y (by simp); omega), trivial, ite2 (fun k => ?_) (fun k => ?_)⟩))
          · have k : 60 < y.length := by have := of_decide_eq_true k; omega
            rw [if_pos ⟨by simp, k⟩] at z
            exact ⟨h, s3.newT hp4, z⟩
          · have k : ¬ 60 < y.length := fun u => k (decide_eq_true (by omega))
            rw [if_neg (fun u => k u.2)] at z
            refine ⟨sln rfl, fun p5 hp5 => ?_⟩
            have e5 := (Sub.new (o := .lst []) hp5) _ _ e4
            refine ne_strs (xs := [y]) (ys := []) e5 dup_same (ite_y (by simp) (ixl e5 rfl ?_))
            exact r10 y _ none ((s3.newT hp4).newT hp5) (areF_figs c2) (hr y (by simp)) z
        | _ :: _ :: _, c, _, _, _, _ => exact absurd (by simp) c
      have r4 : ∀ u : List Nat, u = bareT x → t_read_number_5 (dends Q E) [some (.str x), some (.int n), some (.str u), none, none, none, none] h := fun u e => by
        subst e
        exact r5
      refine ⟨slen (by omega), ?_⟩
      rw [show (1 : Int) = ((1 : Nat) : Int) from rfl, cut_take]
      refine eq_str (ite2 (fun c => ⟨slen (by omega), ?_⟩) (fun c => ?_))
      · rw [cut_drop]
        refine r4 _ ?_
        unfold bareT
        rw [if_pos (of_decide_eq_true c)]
      · refine r4 _ ?_
        unfold bareT
        rw [if_neg (fun z => c (decide_eq_true z))]
    | _ => exact ⟨h, .refl h, z⟩
  · rw [if_neg c] at z
    exact ⟨h, .refl h, z⟩


theorem vc_Lcell_at : ∀ ds h Q E, g_Lcell_at ds h Q E → w_Lcell_at (dends Q E) (dstart 4 ds) h := by
  rintro ds h Q E ⟨ns, k, rfl, ⟨hs, h0, h1⟩, z⟩
  have hlen : (ns.map D.int).length = ns.length := List.length_map _
  refine ⟨trivial, ite2 (fun c => ?_) (fun c => ?_)⟩
  · have c := of_decide_eq_true c
    rw [hlen] at c
    obtain ⟨i, e, hi⟩ := hs.at h0 c
    show (match atI (ns.map D.int) k with | some d => _ | none => False)
    rw [e]
    exact ⟨h, .refl h, z i (by omega)⟩
  · have c : ¬ k < ns.length := fun q => c (decide_eq_true (by rw [hlen]; exact q))
    refine ⟨by show 0 ≤ sizeLine; decide, fun p hp => ?_⟩
    show (match (match pyWs (pyN _ 4) (ns.map D.int) with | some ds => some (PD.lst ds) | none => none), pyN _ 4 p with | some d, some e => _ | _, _ => False)
    rw [py_ints]
    have e2 : pyN (dup h p (.lst [])) 4 p = some (.lst []) := by
      show (match dup h p (.lst []) p with | some (.lst xs) => _ | _ => none) = _
      rw [dup_same]
      rfl
    rw [e2]
    refine ⟨⟨by show PD.depths _ + 1 ≤ 64; rw [dep_ints]; decide, by show (1:Nat) ≤ 64; decide⟩, ite2 (fun c2 => ⟨h, .new hp, z 0 (by decide)⟩) (fun c2 => ?_)⟩
    have hn : 0 < ns.length := by
      cases ns with
      | nil => exact absurd rfl c2
      | cons _ _ => simp
    have key : ∀ x : Int, ∃ z, atI (ns.map D.int) (x % ((ns.map D.int).length : Int)) = some (.int z) ∧ sz z ≤ 1048576 := fun x => by
      rw [hlen]
      exact hs.at (Int.emod_nonneg _ (by omega)) (Int.emod_lt_of_pos _ (by omega))
    have hl := hs.1
    have m0 : PMod k ((ns.map D.int).length : Int) := by
      show (0 : Int) < _
      rw [hlen]
      omega
    obtain ⟨i, e, hi⟩ := key k
    refine ⟨m0, ?_⟩
    show (match atI (ns.map D.int) (k % ((ns.map D.int).length : Int)) with | some d => _ | none => False)
    rw [e]
    have hd : (0 : Int) < (ns.map D.int).length := m0
    have q0 : 0 ≤ k / ((ns.map D.int).length : Int) := Int.ediv_nonneg h0 (by omega)
    refine ⟨⟨hd, ?_⟩, ⟨by omega, by omega⟩, ?_⟩
    · rw [hlen]
      have : (ns.length : Int).natAbs.log2 ≤ (ns.length : Int).natAbs := Nat.log2_le_self _
      omega
    refine for_rng (fun _ env h' => (∃ s x, env = [some (scrD ns), some (.int k), some (.int s), x] ∧ sz s ≤ 1048576) ∧ h' = dup h p (.lst [])) ⟨⟨i, _, rfl, hi⟩, rfl⟩ ?_ ?_
    · rintro j env h' hj ⟨⟨s, x, rfl, hs⟩, rfl⟩
      refine ⟨⟨by decide, by decide⟩, ⟨_, _, rfl, ?_⟩, rfl⟩
      have := sz_div s 1000003
      omega
    · rintro env h' ⟨⟨s, x, rfl, hss⟩, rfl⟩
      refine ⟨m0, ?_⟩
      show (match atI (ns.map D.int) (k % ((ns.map D.int).length : Int)) with | some d => _ | none => False)
      rw [e]
      have a1 := sz_mul i 31
      have a2 := sz_mul s 101
      have a3 := sz_add (i * 31) k
      have a4 := sz_add (i * 31 + k) (s * 101)
      have a5 : sz 31 = 5 := by decide
      have a6 : sz 101 = 7 := by decide
      have a7 : sz k ≤ 30 := sz_le (by omega)
      refine ⟨by show sz i + sz 31 ≤ 134217728; omega, by show sz s + sz 101 ≤ 134217728; omega, h, .new hp, z _ (by omega)⟩

theorem vc_Lmixed : ∀ ds h Q E, g_Lmixed ds h Q E → w_Lmixed (dends Q E) (dstart 4 ds) h := by
  rintro ds h Q E ⟨ns, k, b, rfl, ⟨hs, h0, h1, hb⟩, z⟩
  refine ⟨ns, k, rfl, ⟨hs, h0, h1⟩, fun c hc => ?_⟩
  have a1 : sz 1103515245 = 31 := by decide
  have a2 : sz 7919 = 13 := by decide
  have a3 : sz k ≤ 30 := sz_le (by omega)
  refine ⟨by show sz c + sz 1103515245 ≤ 134217728; omega, by show sz 7919 + sz k ≤ 134217728; omega, by show (0 : Int) < 2147483647; decide, ?_⟩
  have m0 : 0 ≤ (c * 1103515245 + 7919 * k + 12345) % 2147483647 := Int.emod_nonneg _ (by decide)
  have m1 : (c * 1103515245 + 7919 * k + 12345) % 2147483647 < 2147483647 := Int.emod_lt_of_pos _ (by decide)
  have m2 : sz ((c * 1103515245 + 7919 * k + 12345) % 2147483647) ≤ 31 := sz_le (by omega)
  refine ⟨⟨by decide, ?_⟩, by show (0 : Int) < 2147483647; decide, by show (0 : Int) < 999983; decide, hb, h, .refl h, z _ ⟨Int.emod_nonneg _ (by omega), Int.emod_lt_of_pos _ hb⟩⟩
  show ((sz ((c * 1103515245 + 7919 * k + 12345) % 2147483647) : Nat) : Int) * 5 ≤ 2 ^ 27
  omega

theorem vc_Ldraw : ∀ ds h Q E, g_Ldraw ds h Q E → w_Ldraw (dends Q E) (dstart 3 ds) h := by
  rintro ds h Q E ⟨ns, a, b, h0, n, rfl, ⟨hs, hb⟩, ⟨ht, hn⟩, z⟩
  obtain ⟨ts, e, hl⟩ := ht.at
  refine ⟨?_, ?_⟩
  · show (match h a with | some (.lst _) => _ | some (.dic _) => _ | some (.dit _) => _ | _ => False)
    rw [e]
  · show (match h a with | some (.lst _) => _ | _ => False)
    rw [e]
    refine ⟨Nat.lt_of_le_of_lt (Nat.le_trans hl hn) (by decide), ?_⟩
    show (match dup h a (.lst (ts ++ [.int 0])) a with | some (.lst xs) => _ | some (.dic _) => _ | _ => False)
    rw [dup_same]
    have hl2 : (ts ++ [D.int 0]).length = ts.length + 1 := by simp
    refine ⟨ns, _, b, rfl, ⟨hs, by omega, ?_, hb⟩, fun i hi => ⟨_, .refl _, z i _ hi (ht.put (by omega))⟩⟩
    rw [hl2]
    omega

theorem vc_Lpick : ∀ ds h Q E, g_Lpick ds h Q E → w_Lpick (dends Q E) (dstart 3 ds) h := by
  rintro ds h Q E ⟨ns, a, s, xs, h0, n, rfl, ⟨hs, hx, hi, hne⟩, ⟨ht, hn⟩, z⟩
  have pos : 0 < xs.length := List.length_pos_iff.mpr hx
  cases s with
  | ref p =>
    have hi : h p = some (.lst xs) := hi
    show (match h p with | some (.lst xs) => _ | some (.dic _) => _ | _ => False)
    rw [hi]
    have ne : p ≠ a := fun e => hne (by rw [e])
    obtain ⟨h1, hw, hs1, hp1⟩ : ∃ h1, Tw h1 a n h ∧ Sub h0 h1 ∧ h1 p = some (.lst xs) := by
      rcases ht.with hi ne with ⟨h1, h2⟩ | ⟨o, h1, h2⟩
      · exact ⟨_, h2, h1, dup_same⟩
      · exact ⟨h0, ht, .refl _, by rw [h1, h2]⟩
    refine ⟨ns, a, _, h1, n, rfl, ⟨hs, by omega⟩, ⟨hw, hn⟩, fun i h' hi' t => ?_⟩
    show (match h' p with | some (.lst xs) => _ | _ => False)
    rw [t.get hp1 ne]
    obtain ⟨d, hd, e⟩ := atI_nat (xs := xs) hi'.1 hi'.2
    show (match atI xs i with | some d => _ | none => False)
    rw [e]
    exact ⟨h', .refl _, z d h' hd (t.base hs1)⟩
  | tup ys =>
    have hi : ys = xs := hi
    subst hi
    refine ⟨ns, a, _, h0, n, rfl, ⟨hs, by omega⟩, ⟨ht, hn⟩, fun i h' hi' t => ?_⟩
    obtain ⟨d, hd, e⟩ := atI_nat (xs := ys) hi'.1 hi'.2
    show (match atI ys i with | some d => _ | none => False)
    rw [e]
    exact ⟨h', .refl _, z d h' hd t⟩
  | str x =>
    obtain ⟨hsz, e⟩ : x.length ≤ sizeLine ∧ xs = x.map fun c => D.str [c] := hi
    have el : xs.length = x.length := by rw [e, List.length_map]
    refine ⟨hsz, ns, a, _, h0, n, rfl, ⟨hs, by omega⟩, ⟨ht, hn⟩, fun i h' hi' t => ?_⟩
    obtain ⟨d, hd, e2⟩ := atI_nat (xs := x) hi'.1 hi'.2
    refine ⟨hsz, ?_⟩
    show (match atI x i with | some d => _ | none => False)
    rw [e2]
    exact ⟨h', .refl _, z _ h' (by rw [e]; exact List.mem_map_of_mem hd) t⟩
  | _ => exact hi.elim

theorem vc_Lten : ∀ ds h Q E, g_Lten ds h Q E → w_Lten (dends Q E) (dstart 1 ds) h := by
  rintro ds h Q E ⟨n, rfl, ⟨h0, h1⟩, q⟩
  have e1 : S "1" = [49] := by decide
  have e0 : S "0" = [48] := by decide
  have hl : (S "1").length = 1 := by rw [e1]; rfl
  have hf : ((List.replicate n.toNat (S "0")).flatten).length = n.toNat := by rw [e0, flat_one]; simp
  refine ⟨⟨h0, by omega, by rw [e0]; decide⟩, ?_, _, ten_text (by omega), ?_, h, .refl h, q⟩
  · rw [hl, hf]
    exact Nat.le_trans (by omega) (show 700 ≤ sizeLine by decide)
  · rw [List.length_append, hl, hf]
    omega







theorem vc_Lread : ∀ ds h Q E, g_Lread ds h Q E → w_Lread (dends Q E) (dstart 10 ds) h := by
  rintro ds h Q E ⟨x, w, y, b, rfl, ⟨h0, h1, hw, hy, lw, ly, hx⟩, q⟩
  have no46 : ∀ {l : List Nat}, (∀ c ∈ l, c ∈ figs) → 46 ∉ l := fun hl c => absurd (hl 46 c) (by decide)
  have lx : x.length ≤ 161 := by
    rcases hx with rfl | ⟨rfl, rfl⟩
    · simp
      omega
    · omega
  have sp : ∃ r : List (List Nat), TL.spl [46] 0 [] x ++ [[]] = w :: y :: r ∧ r.length ≤ 1 := by
    rcases hx with rfl | ⟨rfl, rfl⟩
    · exact ⟨[[]], by rw [TL.spl_part1 (no46 hw), TL.spl_last1 (no46 hy)]; rfl, by decide⟩
    · exact ⟨[], by rw [TL.spl_last1 (no46 hw)]; rfl, by decide⟩
  obtain ⟨r, sp, lr⟩ := sp
  have ls := congrArg List.length sp
  rw [List.length_append, List.length_singleton] at ls
  simp only [List.length_cons] at ls
  have zb : sz (b : Int) ≤ 5 := sz_le (by omega)
  have zy := sz_wth h1 hy
  have zw := sz_wth h1 hw
  have zt := sz_ten y.length
  have zp : sz ((b : Int) ^ y.length) ≤ 301 := Nat.le_trans (sz_pow _ _) (by
    have : sz (b : Int) * y.length ≤ 5 * 60 := Nat.mul_le_mul zb ly
    omega)
  have bp : (0 : Int) < (b : Int) ^ y.length := Int.pow_pos (by omega)
  refine ⟨rfl, ?_⟩
  rw [S_dot]
  refine ⟨⟨by decide, by exact slen (by omega)⟩, fun p1 hp1 => ⟨sln rfl, fun p2 hp2 => addL ((Sub.new hp2) _ _ dup_same) dup_same (by rw [List.length_map, List.length_singleton]; exact slen (by omega)) fun p3 hp3 => ?_⟩⟩
  have e3 : dup (dup (dup h p1 (.lst ((TL.spl [46] 0 [] x).map D.str))) p2 (.lst [.str (S "")])) p3 (.lst ((TL.spl [46] 0 [] x).map D.str ++ [.str (S "")])) p3 = some (.lst ((w :: y :: r).map D.str)) := by
    rw [dup_same, ← sp, List.map_append, S_nil]
    rfl
  have s3 : Sub h (dup (dup (dup h p1 (.lst ((TL.spl [46] 0 [] x).map D.str))) p2 (.lst [.str (S "")])) p3 (.lst ((TL.spl [46] 0 [] x).map D.str ++ [.str (S "")]))) := ((Sub.new hp1).newT hp2).newT hp3
  generalize dup (dup (dup h p1 (.lst ((TL.spl [46] 0 [] x).map D.str))) p2 (.lst [.str (S "")])) p3 (.lst ((TL.spl [46] 0 [] x).map D.str ++ [.str (S "")])) = g at *
  simp only [DD.wAnd, DD.wOr, DD.wNot, wVar, wC, wBin, wTest, wIfE, wAndV, wOrV, wNotV, wNil, wCons, wTup, wLst, wSl, wNo, wPart, wNeg, wRev, wCB, wM, wM0, wCall, wCallD, wCallK, wNext, wSeq, wExpr, wRet, wRetN, wIf, wSet, wPar, wPar3, wAsg, wAug, wgName, wgNil, wgCons, wgTup, wgStar, wiSeq, wiR1, wiR2, wRaise, wRaiseF, wLc, wYes, oI, oLen, oAbs, oInt, oStr, oDivmod, oList, oTuple, oMul, oAdd, List.getElem?_cons_zero, List.getElem?_cons_succ, List.set_cons_zero, List.set_cons_succ, e3]
  show oIx (.ref p3) (.int 0) g _
  refine ixl e3 (atI_zero ..) ?_
  show oIx (.ref p3) (.int 1) g _
  refine ixl e3 (atI_one ..) ⟨sln rfl, rfl, ?_⟩
  have z0 : sz 0 ≤ 0 := by decide
  refine for_x (xs := w.map fun c => .str [c]) (fun i env h' => (∃ y3, env = [some (.str x), some (.int b), some (.ref p3), y3, none, some (.str w), some (.str y), some (.int (wth b (w.take i))), some (.int 0), some (.int 1)]) ∧ Sub h h') ⟨⟨_, rfl⟩, s3⟩ ?_ ?_
  · rintro i d env h' e ⟨⟨y3, rfl⟩, sg⟩
    rw [List.getElem?_map] at e
    obtain ⟨c, ec, rfl⟩ := Option.map_eq_some_iff.mp e
    obtain ⟨f1, f2, f3⟩ := fv_is (hw c (List.mem_of_getElem? ec))
    have zw := sz_wth h1 (x := w.take i) fun c hc => hw c (List.mem_of_mem_take hc)
    have : (w.take i).length ≤ 100 := by rw [List.length_take]; omega
    refine ⟨pmul_of zw zb (by omega), rfl, fv c, f1, f2, ⟨some (.str [c]), ?_⟩, sg⟩
    rw [List.take_succ, ec]
    show _ = [_, _, _, _, _, _, _, some (D.int ((wth b (w.take i ++ [c]) : Nat) : Int)), _, _]
    rw [wth_snoc]
    rfl
  rw [List.length_map]
  rintro env h' ⟨⟨y3, rfl⟩, sg⟩
  rw [List.take_length]
  refine for_x (xs := y.map fun c => .str [c]) (fun i env h' => (∃ y3, env = [some (.str x), some (.int b), some (.ref p3), y3, none, some (.str w), some (.str y), some (.int (wth b w)), some (.int (wth b (y.take i))), some (.int ((b : Int) ^ i))]) ∧ Sub h h') ⟨⟨_, rfl⟩, sg⟩ ?_ ?_
  · rintro i d env h' e ⟨⟨y3, rfl⟩, sg⟩
    rw [List.getElem?_map] at e
    obtain ⟨c, ec, rfl⟩ := Option.map_eq_some_iff.mp e
    have il : i < y.length := (List.getElem?_eq_some_iff.mp ec).1
    obtain ⟨f1, f2, f3⟩ := fv_is (hy c (List.mem_of_getElem? ec))
    have zw := sz_wth h1 (x := y.take i) fun c hc => hy c (List.mem_of_mem_take hc)
    have : (y.take i).length ≤ 60 := by rw [List.length_take]; omega
    have zi : sz ((b : Int) ^ i) ≤ 301 := Nat.le_trans (sz_pow _ _) (by
      have : sz (b : Int) * i ≤ 5 * 60 := Nat.mul_le_mul zb (by omega)
      omega)
    refine ⟨pmul_of zw zb (by omega), rfl, fv c, f1, f2, pmul_of zi zb (by omega), ⟨some (.str [c]), ?_⟩, sg⟩
    rw [List.take_succ, ec]
    show _ = [_, _, _, _, _, _, _, _, some (D.int ((wth b (y.take i ++ [c]) : Nat) : Int)), some (D.int ((b : Int) ^ (i + 1)))]
    rw [wth_snoc, Int.pow_succ]
    rfl
  rw [List.length_map]
  rintro env h2 ⟨⟨y3, rfl⟩, sg⟩
  rw [List.take_length]
  have zW := szm zw zt
  refine ⟨slen (by omega), y.length, rfl, ⟨by omega, by omega⟩, ?_⟩
  rw [Int.toNat_natCast]
  refine ⟨pmul_of zw zt (by omega), y.length, rfl, ⟨by omega, by omega⟩, ?_⟩
  rw [Int.toNat_natCast]
  have cp : ∀ n : Nat, ((10 ^ n : Nat) : Int) = 10 ^ n := fun n => by rw [Int.natCast_pow]; rfl
  have e : (wth b w : Int) * 10 ^ y.length + (wth b y : Int) * 10 ^ y.length / (b : Int) ^ y.length = (rdV b w y).1 := by
    show _ = ((wth b w * 10 ^ y.length + wth b y * 10 ^ y.length / b ^ y.length : Nat) : Int)
    rw [Int.natCast_add, Int.natCast_ediv, Int.natCast_mul, Int.natCast_mul, cp, Int.natCast_pow]
  refine ⟨pmul_of zy zt (by omega), pdiv_of bp (by omega), sln rfl, h, sg, ?_⟩
  rw [e]
  exact q

theorem vc_Lwhich (n : XN) : ∀ a ds h Q E, g_Lwhich n a ds h Q E → w_Lwhich n a (dends Q fun _ _ => False) (dstart 2 ds) h := by
  rintro a ds h Q E ⟨k, rfl, hk, q⟩
  refine ⟨rfl, rfl, rfl, rfl, sln rfl, fun p1 hp1 => ?_⟩
  have s1 : Sub h (dup h p1 (.lst [.bl (isa n .NoNumber), .bl (isa n .NoScale), .bl (isa n .NoBase), .bl (isa n .NoWidth)])) := .new hp1
  refine ⟨tyL dup_same, rfl, rfl, rfl, rfl, sln rfl, fun p2 hp2 => ?_⟩
  have n2 : p1 ≠ p2 := dne dup_same hp2
  refine extL ((dup_ne n2).trans dup_same) dup_same ?_ ?_
  · exact sln rfl
  refine ⟨tyL dup_same, rfl, rfl, rfl, rfl, sln rfl, fun p3 hp3 => ?_⟩
  have n3 : p1 ≠ p3 := dne dup_same hp3
  refine extL ((dup_ne n3).trans dup_same) dup_same ?_ ?_
  · exact sln rfl
  refine ⟨tyL dup_same, rfl, appL dup_same ?_ ?_⟩
  · exact Nat.lt_of_lt_of_le (show 12 < 100000 by decide) (slen (by decide))
  obtain ⟨hc, hb, hi⟩ := isas_ok hk
  refine ⟨tyL dup_same, isas n, dup_same, ?_⟩
  refine wcv (oNe_int (by rw [hc]; rfl) (ite_n Bool.false_ne_true ⟨rfl, ite_n (by decide) ?_⟩))
  dsimp only [wNext]
  refine ⟨tyL dup_same, (isas n).map D.bl, k, .bl true, dup_same, ⟨rfl, rfl⟩, ?_, rfl, noBefore hb, sln rfl, h, ?_, q⟩
  · rw [List.getElem?_map, hi]
    rfl
  · have u1 := s1.newT (o := .lst [.bl (isa n .NoText), .bl (isa n .NoProgram), .bl (isa n .NoTree), .bl (isa n .NoDivisor)]) hp2
    exact (((u1.mut hp1).newT hp3).mut hp1).mut hp1

theorem vc_Lask : ∀ ds h Q E, g_Lask ds h Q E → w_Lask (dends Q E) (dstart 3 ds) h := by
  rintro ds h Q E ⟨x, b, rfl, ⟨lx, h0, h1, hx⟩, q⟩
  rw [w_Lask]
  dsimp only [wTryC]
  refine ⟨rfl, rfl, read_ok lx h0 h1 ?_⟩
  cases e : rdn b x with
  | ok n =>
    rw [e] at q
    exact ⟨h, .refl h, q h (.refl h)⟩
  | error n =>
    rw [e] at q
    rcases hx n e with rfl | rfl
    · refine ⟨by decide, xc_none rfl (by decide) fun a ha => ⟨rfl, ?_⟩⟩
      exact ⟨4, rfl, rfl, _, .refl _, q _ (.refl _)⟩
    · refine ⟨by decide, xc_none rfl (by decide) fun a ha => ⟨rfl, ?_⟩⟩
      exact ⟨10, rfl, rfl, _, .refl _, q _ (.refl _)⟩

theorem vc_Lis_good : ∀ ds h Q E, g_Lis_good ds h Q E → w_Lis_good (dends Q E) (dstart 6 ds) h := by
  rintro ds h Q E ⟨x, b, rfl, ⟨h0, h1, lx⟩, q⟩
  have main : ∀ u : List Nat, u = bareT x → ({ dends Q E with nx := (wSeq (wSet 3 (wM "str" omSplit (wVar 2) (wCons (wC (.str (S "."))) wNil)))
      (wSeq (wIf (wOr (wTest (wBin oGt (wCB oLen (wCons (wVar 3) wNil)) (wC (.int 2)))) (wOr (wTest (wBin oIn (wC (.str (S ""))) (wVar 3))) (wAnd (wTest (wBin oEq (wCB oLen (wCons (wVar 3) wNil)) (wC (.int 2)))) (wTest (wBin oGt (wCB oLen (wCons (wBin oIx (wVar 3) (wC (.int 1))) wNil)) (wC (.int 60))))))) (wRet (wC (.bl false))) wNext)
      (wRet (wBin oEq (wLc (wiSeq (wVar 3)) 4 (wTest (wBin oNe (wLc (wiSeq (wVar 4)) 5 (wTest (wBin oNi (wVar 5) (wSl (wC (.str (S "0123456789ABCDEF"))) wNo (wPart (wVar 1))))) (wVar 5)) (wLst wNil))) (wVar 4)) (wLst wNil))))) (dends Q E) : DEnds }).nx [some (.str x), some (.int b), some (.str u), none, none, none] h := by
    rintro u rfl
    dsimp only
    have lu : (bareT x).length ≤ 1000 := by
      unfold bareT
      split
      · rw [List.length_drop]
        omega
      · omega
    unfold isG at q
    refine ⟨rfl, ?_⟩
    rw [S_dot]
    refine ⟨⟨by decide, by exact slen (by omega)⟩, fun p1 hp1 => ?_⟩
    have pl := spl_len (S := [46]) (bareT x) [] 0
    have pe := spl_el (S := [46]) (bareT x) [] 0
    have hne := spl_ne (S := [46]) (bareT x) [] 0
    generalize TL.spl [46] 0 [] (bareT x) = P at *
    have q : ∀ h', Sub h h' → Q (.bl (goodP b P)) h' := q
    have s1 : Sub h (dup h p1 (.lst (P.map D.str))) := .new hp1
    have e1 : dup h p1 (.lst (P.map D.str)) p1 = some (.lst (P.map D.str)) := dup_same
    generalize dup h p1 (.lst (P.map D.str)) = g at *
    dsimp only
    refine ifQ (orI (tI (binI (lenI rfl e1 ⟨trivial, ?_⟩))))
    rw [List.length_map]
    have bad : goodP b P = false → ∀ h', Sub h h' → ∃ h2, Sub h2 h' ∧ Q (.bl false) h2 := fun e h' s => ⟨h', .refl _, e ▸ q h' s⟩
    refine ite2 (fun c => ite_y rfl (bad ?_ _ s1)) (fun c => ?_)
    · have c : 2 < P.length := by have := of_decide_eq_true c; omega
      match P, c with
      | _ :: _ :: _ :: _, _ => rfl
    have c : ¬ 2 < P.length := fun z => c (decide_eq_true (by omega))
    refine orI (tI ?_)
    show oIn (.str (S "")) (.ref p1) g _
    show (match g p1 with | some (.lst ys) => (flatD _ = true ∧ ys.all flatD = true) ∧ _ | _ => False)
    rw [e1, S_nil]
    refine ⟨⟨rfl, flat_strs P⟩, ?_⟩
    show (if inD (.str []) (P.map D.str) = true then _ else _)
    rw [inD_nil]
    refine ite2 (fun c2 => ite_y rfl (bad ?_ _ s1)) (fun c2 => ?_)
    · exact good_nil (of_decide_eq_true c2)
    have c2 : [] ∉ P := fun z => c2 (decide_eq_true z)
    have nP : P ≠ [] := hne
    have body : (∀ w y, P = [w, y] → y.length ≤ 60) → wRet (wBin oEq (wLc (wiSeq (wVar 3)) 4 (wTest (wBin oNe (wLc (wiSeq (wVar 4)) 5 (wTest (wBin oNi (wVar 5) (wSl (wC (.str (S "0123456789ABCDEF"))) wNo (wPart (wVar 1))))) (wVar 5)) (wLst wNil))) (wVar 4)) (wLst wNil)) (dends Q E) [some (.str x), some (.int b), some (.str (bareT x)), some (.ref p1), none, none] g := by
      intro h4
      refine retI (binI (seqv rfl e1 fun p2 hp2 => ?_))
      refine lc_f P D.str (fun y => !decide (y.filter (fun c => !decide (c ∈ figs.take b)) = [])) (by omega) hp2 ?_ ?_ ?_ ?_
      · intro i h' s
        unfold itL
        rw [s _ _ e1]
      · intro y hy h' s Q' q'
        have ly := pe y hy
        rw [List.length_nil] at ly
        refine tI (binI (seqs rfl fun p3 hp3 => ?_))
        refine lc_f y (fun c => .str [c]) (fun c => !decide (c ∈ figs.take b)) (by omega) hp3 (fun _ _ _ => rfl) ?_ ?_ ?_
        · intro c hc h2 s2 Q2 q2
          refine tI (binI (wv rfl ⟨sln rfl, ?_⟩))
          show oNi (.str [c]) (.str (cutL (S "0123456789ABCDEF") none (some (b : Int)))) h2 _
          rw [cut_take]
          exact q2 h2 (.refl _)
        · intro c hc h2 Q2 q2
          exact q2
        · intro h2 s2 e2
          refine ⟨sln rfl, fun p4 hp4 => ?_⟩
          refine ne_strs (xs := (y.filter (fun c => !decide (c ∈ figs.take b))).map fun c => [c]) (ys := []) ((Sub.new hp4) _ _ (by rw [e2, List.map_map]; rfl)) dup_same ?_
          have e : decide ((y.filter (fun c => !decide (c ∈ figs.take b))).map (fun c : Nat => ([c] : List Nat)) = []) = decide (y.filter (fun c => !decide (c ∈ figs.take b)) = []) := by
            rw [Bool.eq_iff_iff, decide_eq_true_iff, decide_eq_true_iff, List.map_eq_nil_iff]
          rw [e]
          exact q' _ (s2.newT hp4)
      · intro c hc h2 Q2 q2
        exact q2
      · intro h2 s2 e2
        refine ⟨sln rfl, fun p4 hp4 => ?_⟩
        refine eq_strs (xs := P.filter (fun y => !decide (y.filter (fun c => !decide (c ∈ figs.take b)) = []))) (ys := []) ((Sub.new hp4) _ _ e2) dup_same ?_
        rw [← good_all nP c c2 h4]
        exact ⟨_, .refl _, q _ ((s1.trans s2).newT hp4)⟩
    refine andI (tI (binI (lenI rfl e1 (eq_int (ite2 (fun c3 => ?_) (fun c3 => ?_))))))
    · rw [List.length_map] at c3
      have c3 : P.length = 2 := by have := of_decide_eq_true c3; omega
      obtain ⟨w, y, rfl⟩ : ∃ w y, P = [w, y] := by
        match P, c3 with
        | [w, y], _ => exact ⟨w, y, rfl⟩
      refine tI (binI (ixl e1 (atI_one ..) ⟨slen (by have := pe y (by simp); rw [List.length_nil] at this; omega), trivial, ite2 (fun c4 => ?_) (fun c4 => ?_)⟩))
      · refine bad ?_ _ s1
        have c4 : 60 < y.length := by have := of_decide_eq_true c4; omega
        show (areF b w && areF b y && decide (y.length ≤ 60)) = false
        rw [decide_eq_false (by omega), Bool.and_false]
      · refine body fun w' y' e => ?_
        have c4 : ¬ 60 < y.length := fun u => c4 (decide_eq_true (by omega))
        cases e
        omega
    · rw [List.length_map] at c3
      refine ite_n Bool.false_ne_true (body fun w y e => absurd (by rw [e]; rfl) c3)
  refine ⟨slen (by omega), ?_⟩
  rw [show (1 : Int) = ((1 : Nat) : Int) from rfl, cut_take]
  refine eq_str (ite2 (fun c => ⟨slen (by omega), ?_⟩) (fun c => ?_))
  · rw [cut_drop]
    refine main _ ?_
    unfold bareT
    rw [if_pos (of_decide_eq_true c)]
  · refine main _ ?_
    unfold bareT
    rw [if_neg (fun z => c (decide_eq_true z))]







theorem join_signs : ∀ acc : List Nat, TL.joinL (S "") (acc.map fun c => [c]) = acc := by
  intro acc
  rw [S_nil, joinL_nil]
  induction acc with
  | nil => rfl
  | cons c acc ih => rw [List.map_cons, List.flatten_cons, ih]; rfl
/-- so many figures, picked -/
theorem tPick {ns : List Int} {p : Addr} {x2 x3 x5 x6 x7 x8 x9 x10 x11 x12 : Option D} {f : List Nat} {h0 h : DH} {n : Nat} {Q : DK} {E : DXK} (hs : Scr ns) (hf : f ≠ []) (lf : f.length ≤ 16) (t : Tw h0 p n h) (hn : n ≤ 900)
    (z : ∀ (q : Addr) (acc : List Nat) (h' : DH), acc ≠ [] → acc.length ≤ 9 → (∀ c ∈ acc, c ∈ f) → h' q = some (.lst ((acc.map fun c => [c]).map D.str)) → Tw h0 p (n + 10) h' → Q (.ref q) h') :
    wLc (wiR1 (wCons (wBin oAdd (wC (.int 1)) (wCall g_Ldraw (wCons (wVar 0) (wCons (wVar 1) (wCons (wC (.int 9)) wNil))))) wNil)) 12 wYes (wCall g_Lpick (wCons (wVar 0) (wCons (wVar 1) (wCons (wCB oList (wCons (wVar 4) wNil)) wNil))))
      [some (scrD ns), some (.ref p), x2, x3, some (.str f), x5, x6, x7, x8, x9, x10, x11, x12] h Q E := by
  refine ⟨ns, p, 9, h0, _, rfl, ⟨hs, by decide⟩, ⟨t, by omega⟩, fun m h1 hm t1 => ⟨⟨by omega, by omega⟩, fun q hq => ?_⟩⟩
  have ne : q ≠ p := t1.ne hq
  have t2 := t1.put2 (o := .lst []) hq
  refine lc_n (1 + m).toNat (fun j h' => ∃ acc : List Nat, acc.length = j ∧ (∀ c ∈ acc, c ∈ f) ∧ Tw (dup h0 q (.lst ((acc.map fun c => [c]).map D.str))) p (n + 1 + j) h') ⟨[], rfl, by simp, t2.2⟩ ?_ ?_
  · rintro j h2 hj ⟨acc, hl, ha, t3⟩
    refine ⟨.int (0 + (j : Int)), by unfold itR; rw [if_pos (by omega)], ?_⟩
    refine ite_y rfl ⟨slen (by omega), fun q2 hq2 => ⟨ns, p, .ref q2, _, _, _, rfl, ⟨hs, by simpa using hf, dup_same, fun e => t3.ne hq2 (D.ref.inj e)⟩, ⟨t3.new hq2, by omega⟩, fun d h3 hd t4 => ?_⟩⟩
    obtain ⟨c, hc, rfl⟩ := List.mem_map.mp hd
    refine ⟨(acc.map fun c => [c]).map D.str, t4.get dup_same ne, ?_, acc ++ [c], by simp [hl], ?_, ?_⟩
    · rw [List.length_map, List.length_map, hl]
      exact Nat.lt_of_lt_of_le (by omega) (slen (n := 1000) (by decide))
    · intro y hy
      rcases List.mem_append.mp hy with hy | hy
      · exact ha y hy
      · rw [List.mem_singleton] at hy
        subst hy
        exact hc
    · rw [List.map_append, List.map_append]
      exact Tw.le (n := n + 1 + j + 1) (t4.chg (o' := .lst ((acc.map fun c => [c]).map D.str ++ [.str [c]])) ne) (by omega)
  · rintro h2 ⟨acc, hl, ha, t3⟩
    refine ⟨by unfold itR; rw [if_neg (by omega)], z q acc h2 ?_ (by omega) ha (t3.get dup_same ne) ((t3.out t2.1).le (by omega))⟩
    intro y
    rw [y, List.length_nil] at hl
    omega
theorem ifA {wc : WT} {s t u : WS} {F : DEnds} {env : DD.Env} {h : DH} (q : wc env h (fun k h1 => if k = true then s { F with nx := u F } env h1 else t { F with nx := u F } env h1) (fun x h1 => F.xc x env h1)) : wSeq (wIf wc s t) u F env h := q
theorem t147 {F : DEnds} {ns : List Int} {p : Addr} {x2 x4 x5 x6 x7 x8 x11 x12 : Option D} {sp : List Nat} {b : Nat} {h : DH} (h0 : 2 ≤ b) (h1 : b ≤ 16) (ls : sp.length ≤ 100)
    (z : ∀ y6 h', Sub h h' → F.nx [some (scrD ns), some (.ref p), x2, some (.int b), x4, x5, y6, x7, x8, some (.str sp), some (.str (bareT sp)), x11, x12] h') :
    t_law_147 F [some (scrD ns), some (.ref p), x2, some (.int b), x4, x5, x6, x7, x8, some (.str sp), some (.str (bareT sp)), x11, x12] h := by
  have lb : (bareT sp).length ≤ 100 := by
    unfold bareT
    split
    · rw [List.length_drop]
      omega
    · omega
  refine ifA ⟨sp, b, rfl, ⟨h0, h1, by omega⟩, fun g s => ?_⟩
  show (if (!isG b sp) = true then _ else _)
  have tail : ∀ (r : Ans) (d : D) (x : Option D) (g : DH), rdn b sp = r → (∀ e, r = .error e → e = .NoText ∨ e = .TooLong) → d = askD r → (∀ {Q : DK} {g' : DH}, Q (.bl false) g' → oNe (askD r) d g' Q) → Sub h g →
      (wIf (wTest (wBin oNe (wCall g_Lask (wCons (wVar 9) (wCons (wVar 3) wNil))) (wVar 6))) (wRet (wC (.bl false))) wNext) F [some (scrD ns), some (.ref p), x2, some (.int b), x4, x5, some d, x7, x8, some (.str sp), some (.str (bareT sp)), x11, x12] g := by
    intro r d x g hr hx hd ho sg
    refine ifI (tI ⟨sp, b, rfl, ⟨by omega, h0, h1, hr ▸ hx⟩, fun g2 s2 => ?_⟩)
    rw [hr]
    exact ho (ite_n Bool.false_ne_true (z _ g2 (sg.trans s2)))
  cases hG : isG b sp with
  | false =>
    refine ite_y rfl ⟨sln rfl, ?_⟩
    have e := rdn_bad hG
    refine tail _ (refD 4) none g e (fun x y => .inl (by cases y; rfl)) rfl (fun q => oNe_ref (k := 4) q) s
  | true =>
    refine ite_n (by decide) ?_
    obtain ⟨w, y, hp, e⟩ := rdn_good h0 h1 hG ls
    have hw : areF b w = true := by rcases hp with ⟨h, _⟩ | ⟨h, _⟩ <;> exact h
    have hy : ∀ c ∈ y, c ∈ figs := by
      rcases hp with ⟨_, h, _⟩ | ⟨_, h, _⟩
      · exact areF_figs h
      · subst h
        exact fun c hc => nomatch hc
    have ly : y.length ≤ 60 := by
      rcases hp with ⟨_, _, h, _⟩ | ⟨_, h, _⟩
      · exact h
      · subst h
        exact Nat.zero_le _
    have lw : w.length ≤ 100 := by
      rcases hp with ⟨_, _, _, h⟩ | ⟨_, _, h⟩
      · have := congrArg List.length h
        rw [List.length_append] at this
        omega
      · have := congrArg List.length h
        omega
    refine ⟨bareT sp, w, y, b, rfl, ⟨h0, h1, areF_figs hw, hy, lw, ly, ?_⟩, ?_⟩
    · rcases hp with ⟨_, _, _, h⟩ | ⟨_, h, h2⟩
      · exact .inl h
      · exact .inr ⟨h2, h⟩
    have wne : bareT sp ≠ [] := by
      have : w ≠ [] := fun z => by
        subst z
        cases hw
      rcases hp with ⟨_, _, _, h⟩ | ⟨_, _, h⟩
      · rw [h]
        simp
      · rw [h]
        exact this
    have eb : decide (bareT sp = sp) = !decide (sp.take 1 = S "-") := by
      by_cases k : sp.take 1 = S "-"
      · have : bareT sp ≠ sp := by
          intro u
          have v := congrArg List.length u
          unfold bareT at v
          rw [if_pos k, List.length_drop] at v
          have : sp.length ≠ 0 := fun l => by
            have := List.length_eq_zero_iff.mp l
            subst this
            exact absurd k (by decide)
          omega
        simp [k, this]
      · have : bareT sp = sp := by
          unfold bareT
          rw [if_neg k]
        simp [k, this]
    dsimp only
    refine eq_str ?_
    rw [eb]
    have ne2 : ∀ {u v : Nm}, u = v → ∀ {Q : DK} {g' : DH}, Q (.bl false) g' → oNe (numD u) (numD v) g' Q := fun e _ _ q => oNe_numI e q
    by_cases k : sp.take 1 = S "-"
    · rw [decide_eq_true k]
      refine ite_n Bool.false_ne_true (ixt rfl ⟨trivial, ixt rfl ⟨sln rfl, ?_⟩⟩)
      refine tail _ (numD (0 - (rdV b w y).1, (rdV b w y).2)) none g (e.trans (show negA sp (.ok (rdV b w y)) = .ok (0 - (rdV b w y).1, (rdV b w y).2) by
        unfold negA
        dsimp only
        rw [if_pos k])) (fun x y => by cases y) rfl (fun q => ne2 rfl q) s
    · rw [decide_eq_false k]
      refine ite_y rfl ?_
      refine tail _ (numD (rdV b w y)) none g (e.trans (show negA sp (.ok (rdV b w y)) = .ok (rdV b w y) by
        unfold negA
        dsimp only
        rw [if_neg k])) (fun x y => by cases y) rfl (fun q => ne2 rfl q) s
/-- a text of figures, perhaps with a point -/
def TxF (b : Nat) (x w y : List Nat) : Prop := areF b w = true ∧ w.length ≤ 9 ∧ y.length ≤ 9 ∧ (areF b y = true ∧ x = w ++ ([46] ++ y) ∨ x = w ∧ y = [])
theorem areF_acc {b : Nat} {acc : List Nat} (h : acc ≠ []) (h2 : ∀ c ∈ acc, c ∈ figs.take b) : areF b acc = true := areF_of h h2
theorem TxF.bare {b : Nat} {x w y : List Nat} (t : TxF b x w y) : x.take 1 ≠ S "-" := by
  obtain ⟨h1, _, _, h2⟩ := t
  have hne : w ≠ [] := fun z => by
    subst z
    cases h1
  obtain ⟨c, r, rfl⟩ : ∃ c r, w = c :: r := by
    cases w with
    | nil => exact absurd rfl hne
    | cons c r => exact ⟨c, r, rfl⟩
  have hc := areF_figs h1 c (List.mem_cons_self ..)
  have e : x.take 1 = [c] := by
    rcases h2 with ⟨_, h⟩ | ⟨h, _⟩ <;> (rw [h]; rfl)
  rw [e, S_mi]
  intro z
  cases z
  exact absurd hc (by decide)
theorem TxF.parts {b : Nat} {x w y u : List Nat} (t : TxF b x w y) (hb : 2 ≤ b) (h16 : b ≤ 16) (hu : bareT u = x) : rdn b u = negA u (.ok (rdV b w y)) := by
  obtain ⟨h1, h2, h3, h4⟩ := t
  unfold rdn
  rw [hu]
  rcases h4 with ⟨h4, rfl⟩ | ⟨ew, rfl⟩
  · rw [TL.spl_part1 (areF_no46 h1), TL.spl_last1 (areF_no46 h4)]
    show negA u (rdP b [[] ++ w, [] ++ y]) = _
    rw [List.nil_append, List.nil_append]
    unfold rdP
    dsimp only
    rw [if_pos ⟨h1, h4, by omega⟩, numO_rdV hb h16 (areF_figs h1) (areF_figs h4) (by omega) (by omega)]
  · rw [ew, TL.spl_last1 (areF_no46 h1)]
    show negA u (rdP b [[] ++ w]) = _
    rw [List.nil_append]
    unfold rdP
    dsimp only
    rw [if_pos h1, numO_rdV (y := []) hb h16 (areF_figs h1) (fun c hc => nomatch hc) (by omega) (by decide)]
theorem t140 {F : DEnds} {ns : List Int} {p : Addr} {x2 x4 x6 x7 x8 x9 x10 x11 x12 : Option D} {x w y : List Nat} {b : Nat} {h0 h : DH} {n : Nat} (hs : Scr ns) (b0 : 2 ≤ b) (b1 : b ≤ 16) (tx : TxF b x w y) (t : Tw h0 p n h) (hn : n ≤ 900)
    (z : ∀ y6 y7 y8 y9 y10 h', Tw h0 p (n + 3) h' → F.nx [some (scrD ns), some (.ref p), x2, some (.int b), x4, some (.str x), y6, y7, y8, y9, y10, x11, x12] h') :
    t_law_140 F [some (scrD ns), some (.ref p), x2, some (.int b), x4, some (.str x), x6, x7, x8, x9, x10, x11, x12] h := by
  have e1 := tx.parts b0 b1 (u := x) (by unfold bareT; rw [if_neg tx.bare])
  have e2 := tx.parts b0 b1 (u := 45 :: x) (by unfold bareT; rw [if_pos (by rw [S_mi]; rfl)]; rfl)
  have e1 : rdn b x = .ok (rdV b w y) := e1.trans (by
    unfold negA
    dsimp only
    rw [if_neg tx.bare])
  have e2 : rdn b (45 :: x) = .ok (0 - (rdV b w y).1, (rdV b w y).2) := e2.trans (by
    unfold negA
    dsimp only
    rw [if_pos (by rw [S_mi]; rfl)])
  obtain ⟨h1, h2, h3, h4⟩ := tx
  have lx : x.length ≤ 19 := by
    rcases h4 with ⟨_, rfl⟩ | ⟨rfl, rfl⟩
    · rw [List.length_append, List.length_append, List.length_singleton]
      omega
    · omega
  have hy : ∀ c ∈ y, c ∈ figs := by
    rcases h4 with ⟨h, _⟩ | ⟨_, rfl⟩
    · exact areF_figs h
    · exact fun c hc => nomatch hc
  refine ⟨x, w, y, b, rfl, ⟨b0, b1, areF_figs h1, hy, by omega, by omega, ?_⟩, ?_⟩
  · rcases h4 with ⟨_, h⟩ | h
    · exact .inl h
    · exact .inr h
  dsimp only
  refine ifQ (orI (tI ⟨x, b, rfl, ⟨by omega, b0, b1, fun e ee => ?_⟩, fun g1 s1 => ?_⟩))
  · rw [e1] at ee
    cases ee
  rw [e1]
  refine oNe_numI rfl (ite_n Bool.false_ne_true (tI ⟨slen (by rw [S_mi, List.length_singleton]; omega), 45 :: x, b, by rw [S_mi]; rfl, ⟨by rw [List.length_cons]; omega, b0, b1, fun e ee => ?_⟩, fun g2 s2 => ?_⟩))
  · rw [e2] at ee
    cases ee
  rw [e2]
  refine ixt rfl ⟨trivial, ixt rfl ⟨sln rfl, oNe_numI (x := (0 - (rdV b w y).1, (rdV b w y).2)) (y := (0 - (rdV b w y).1, (rdV b w y).2)) rfl (ite_n Bool.false_ne_true ?_)⟩⟩
  have t2 := (t.sub s1).sub s2
  refine ⟨slen (by omega), ns, p, _, h0, _, rfl, ⟨hs, by omega⟩, ⟨t2, by omega⟩, fun k g3 hk t3 => ?_⟩
  obtain ⟨k, rfl⟩ := Int.eq_ofNat_of_zero_le hk.1
  refine ⟨sln rfl, fun q hq => ⟨ns, p, .ref q, _, h0, _, rfl, ⟨hs, by simp, dup_same, fun e => t3.ne hq (D.ref.inj e)⟩, ⟨t3.new hq, by omega⟩, fun d g4 hd t4 => ?_⟩⟩
  have hd : ∃ s : List Nat, d = .str s ∧ s.length ≤ 1 := by
    simp only [List.mem_cons, List.not_mem_nil, or_false] at hd
    rcases hd with rfl | rfl | rfl | rfl | rfl | rfl | rfl | rfl | rfl | rfl | rfl <;> exact ⟨_, rfl, by decide⟩
  obtain ⟨s, rfl, ls⟩ := hd
  refine ⟨slen (by omega), ?_⟩
  rw [cut_take]
  have l1 : (x.take k).length ≤ 19 := by rw [List.length_take]; omega
  refine ⟨slen (by omega), ns, p, 2, h0, _, rfl, ⟨hs, by decide⟩, ⟨t4, by omega⟩, fun u g5 hu t5 => ?_⟩
  obtain ⟨u, rfl⟩ := Int.eq_ofNat_of_zero_le hu.1
  refine ⟨slen (by omega), ?_⟩
  rw [show ((k : Nat) : Int) + ((u : Nat) : Int) = ((k + u : Nat) : Int) from rfl, cut_drop]
  have lsp : (x.take k ++ s ++ x.drop (k + u)).length ≤ 50 := by
    rw [List.length_append, List.length_append, List.length_drop]
    omega
  refine ⟨slen (by rw [List.length_append, List.length_drop]; omega), ?_⟩
  generalize x.take k ++ s ++ x.drop (k + u) = sp at *
  have fin : ∀ v : List Nat, v = bareT sp → ({ F with nx := t_law_147 F : DEnds }).nx [some (scrD ns), some (.ref p), x2, some (.int b), x4, some (.str x), some (numD (rdV b w y)), some (.int k), some (.str s), some (.str sp), some (.str v), x11, x12] g5 := by
    rintro v rfl
    exact t147 b0 b1 (by omega) fun y6 h' s' => z _ _ _ _ _ h' (t5.sub s')
  refine ⟨slen (by omega), ?_⟩
  rw [show (1 : Int) = ((1 : Nat) : Int) from rfl, cut_take]
  refine eq_str (ite2 (fun c => ⟨slen (by omega), ?_⟩) (fun c => ?_))
  · rw [cut_drop]
    refine fin _ ?_
    unfold bareT
    rw [if_pos (of_decide_eq_true c)]
  · refine fin _ ?_
    unfold bareT
    rw [if_neg (fun z => c (decide_eq_true z))]
theorem figs_take {b : Nat} (h : 2 ≤ b) : figs.take b ≠ [] := fun e => by
  have e := congrArg List.length e
  rw [List.length_take, show figs.length = 16 from by decide, List.length_nil] at e
  omega
theorem vc_law : ∀ ds h Q E, gLaw ds h Q E → w_law (dends Q E) (dstart 13 ds) h := by
  rintro ds h Q E ⟨ns, rfl, hs, z⟩
  refine ⟨sln rfl, fun p hp => ⟨by decide, ?_⟩⟩
  refine for_rng (fun i env h' => (∃ x2 x3 x4 x5 x6 x7 x8 x9 x10 x11 x12, env = [some (scrD ns), some (.ref p), x2, x3, x4, x5, x6, x7, x8, x9, x10, x11, x12]) ∧ Tw h p (40 * i) h') ⟨⟨none, none, none, none, none, none, none, none, none, none, none, rfl⟩, [], Nat.zero_le _, .refl _⟩ ?_ ?_
  · rintro i env h' hi ⟨⟨x2, x3, x4, x5, x6, x7, x8, x9, x10, x11, x12, rfl⟩, t⟩
    have hi : i < 5 := hi
    refine ⟨ns, p, 15, h, _, rfl, ⟨hs, by decide⟩, ⟨t, by omega⟩, fun r h2 hr t2 => ?_⟩
    obtain ⟨r, rfl⟩ := Int.eq_ofNat_of_zero_le hr.1
    have hr := hr.2
    have b0 : 2 ≤ 2 + r := by omega
    have b1 : 2 + r ≤ 16 := by omega
    have lf : (figs.take (2 + r)).length ≤ 16 := by rw [List.length_take]; exact Nat.le_trans (Nat.min_le_right _ _) (by decide)
    refine ⟨sln rfl, ?_⟩
    rw [show (2 : Int) + (r : Int) = ((2 + r : Nat) : Int) from rfl, cut_take]
    refine ⟨rfl, conI ?_⟩
    refine tPick hs (figs_take b0) lf t2 (by omega) fun q acc h3 an al ac e3 t3 => ?_
    have jsum : ∀ acc : List Nat, acc.length ≤ 9 → ((acc.map fun c => ([c] : List Nat)).map List.length).sum ≤ 9 := fun acc l => by
      have := sum_le (M := 1) (ys := acc.map fun c => ([c] : List Nat)) fun y hy => by
        obtain ⟨c, _, rfl⟩ := List.mem_map.mp hy
        exact Nat.le_refl _
      rw [List.length_map] at this
      omega
    refine ⟨acc.map fun c => [c], e3, ?_, ?_⟩
    · have := jsum acc al
      rw [S_nil, List.length_nil]
      exact Nat.le_trans (by omega) (show 100000 ≤ sizeLine by decide)
    rw [join_signs]
    have go : ∀ (F : DEnds) (hF : ∀ env h', (∃ x2 x3 x4 x5 x6 x7 x8 x9 x10 x11 x12, env = [some (scrD ns), some (.ref p), x2, x3, x4, x5, x6, x7, x8, x9, x10, x11, x12]) ∧ Tw h p (40 * (i + 1)) h' → F.nx env h') (x w y : List Nat) (x9 x10 x11 x12 : Option D) (g : DH), TxF (2 + r) x w y → Tw h p (40 * i + 30) g → t_law_140 F [some (scrD ns), some (.ref p), some (.int (0 + (i : Int))), some (.int ((2 + r : Nat) : Int)), some (.str (figs.take (2 + r))), some (.str x), x6, x7, x8, x9, x10, x11, x12] g := fun F hF x w y x9 x10 x11 x12 g tx tg => t140 hs b0 b1 tx tg (by omega) fun y6 y7 y8 y9 y10 g2 t2 => hF _ _ ⟨⟨_, _, _, _, _, _, _, _, _, _, _, rfl⟩, t2.le (by omega)⟩
    have fa := areF_acc an ac
    dsimp only
    refine ifQ (tI (binI ⟨ns, p, 2, h, _, rfl, ⟨hs, by decide⟩, ⟨t3, by omega⟩, fun v h4 hv t4 => eq_int (ite2 (fun c => ?_) (fun c => ?_))⟩))
    · refine tPick hs (figs_take b0) lf t4 (by omega) fun q2 acc2 h5 an2 al2 ac2 e5 t5 => ?_
      refine ⟨slen (by rw [S_dot, List.length_singleton]; omega), rfl, acc2.map fun c => [c], e5, ?_, ?_⟩
      · have := jsum acc2 al2
        rw [S_nil, List.length_nil]
        exact Nat.le_trans (by omega) (show 100000 ≤ sizeLine by decide)
      rw [join_signs, S_dot]
      refine ⟨slen (by rw [List.length_append, List.length_singleton]; omega), ?_⟩
      refine go _ (fun _ _ z => z) _ acc acc2 _ _ _ _ _ ⟨fa, al, al2, .inl ⟨areF_acc an2 ac2, ?_⟩⟩ (t5.le (by omega))
      rw [List.append_assoc]
    · exact go _ (fun _ _ z => z) acc acc [] _ _ _ _ _ ⟨fa, al, by decide, .inr ⟨rfl, rfl⟩⟩ (t4.le (by omega))
  · rintro env h' ⟨⟨x2, x3, x4, x5, x6, x7, x8, x9, x10, x11, x12, rfl⟩, t⟩
    dsimp only
    have b1 : rdn 10 (S "0." ++ (List.replicate (Int.toNat 61) (S "1")).flatten) = .error .NoText := rdn_bad (by decide +kernel)
    have b2 : (match rdn 10 ((List.replicate (Int.toNat 300) (S "1")).flatten) with | .error .TooLong => true | _ => false) = true := by decide +kernel
    have b2 : rdn 10 ((List.replicate (Int.toNat 300) (S "1")).flatten) = .error .TooLong := by
      split at b2
      · assumption
      · cases b2
    refine ⟨⟨by decide, by decide, by decide⟩, slen (by decide +kernel), _, 10, rfl, ⟨by decide +kernel, by decide, by decide, fun e ee => ?_⟩, fun g1 s1 => ?_⟩
    · rw [b1] at ee
      cases ee
      exact .inl rfl
    rw [b1]
    refine ⟨sln rfl, oEq_ref (k := 4) (ite_y rfl ⟨⟨by decide, by decide, by decide⟩, _, 10, rfl, ⟨by decide +kernel, by decide, by decide, fun e ee => ?_⟩, fun g2 s2 => ?_⟩)⟩
    · rw [b2] at ee
      cases ee
      exact .inr rfl
    rw [b2]
    exact ⟨sln rfl, oEq_ref (k := 10) ⟨_, .refl _, z _⟩⟩

end Desk
namespace Desk
open PySem PySem.Spec L2 DD
open PyProof.Rows hiding St
def top (i : Nat) : Stmt := PySem.Challenge.pw_scaledesk_k11_whole_read_numbers.main.body.getD i (.Pass ⟨0, 0, 0, 0⟩)
abbrev s_is_whole : Stmt := top 18
theorem sc_is_whole : FnScope ["thing", "low", "high"] ["thing", "low", "high"] (defScope s_is_whole) := ⟨rfl, rfl, rfl, by decide +kernel, rfl, by decide +kernel, by decide +kernel⟩
abbrev s_raise_to : Stmt := top 19
theorem sc_raise_to : FnScope ["number", "many", "made", "turn"] ["number", "many"] (defScope s_raise_to) := ⟨rfl, rfl, rfl, by decide +kernel, rfl, by decide +kernel, by decide +kernel⟩
abbrev s_ten : Stmt := top 20
theorem sc_ten : FnScope ["many"] ["many"] (defScope s_ten) := ⟨rfl, rfl, rfl, by decide +kernel, rfl, by decide +kernel, by decide +kernel⟩
abbrev s_cut_off : Stmt := top 21
theorem sc_cut_off : FnScope ["top", "bottom"] ["top", "bottom"] (defScope s_cut_off) := ⟨rfl, rfl, rfl, by decide +kernel, rfl, by decide +kernel, by decide +kernel⟩
abbrev s_fitted : Stmt := top 22
theorem sc_fitted : FnScope ["figures", "scale"] ["figures", "scale"] (defScope s_fitted) := ⟨rfl, rfl, rfl, by decide +kernel, rfl, by decide +kernel, by decide +kernel⟩
abbrev s_need_base : Stmt := top 25
theorem sc_need_base : FnScope ["base"] ["base"] (defScope s_need_base) := ⟨rfl, rfl, rfl, by decide +kernel, rfl, by decide +kernel, by decide +kernel⟩
abbrev s_worth_of : Stmt := top 26
theorem sc_worth_of : FnScope ["text", "base", "made", "sign"] ["text", "base"] (defScope s_worth_of) := ⟨rfl, rfl, rfl, by decide +kernel, rfl, by decide +kernel, by decide +kernel⟩
abbrev s_number_of : Stmt := top 27
theorem sc_number_of : FnScope ["whole", "behind", "base", "scale", "part"] ["whole", "behind", "base"] (defScope s_number_of) := ⟨rfl, rfl, rfl, by decide +kernel, rfl, by decide +kernel, by decide +kernel⟩
abbrev s_are_figures : Stmt := top 28
theorem sc_are_figures : FnScope ["text", "base", "sign"] ["text", "base"] (defScope s_are_figures) := ⟨rfl, rfl, rfl, by decide +kernel, rfl, by decide +kernel, by decide +kernel⟩
abbrev s_read_number : Stmt := top 29
theorem sc_read_number : FnScope ["text", "base", "plain", "made", "whole", "behind", "one"] ["text", "base"] (defScope s_read_number) := ⟨rfl, rfl, rfl, by decide +kernel, rfl, by decide +kernel, by decide +kernel⟩
abbrev s_Lcell_at : Stmt := top 31
theorem sc_Lcell_at : FnScope ["_law_script", "_law_k", "_law_spare", "_law_again"] ["_law_script", "_law_k"] (defScope s_Lcell_at) := ⟨rfl, rfl, rfl, by decide +kernel, rfl, by decide +kernel, by decide +kernel⟩
abbrev s_Lmixed : Stmt := top 32
theorem sc_Lmixed : FnScope ["_law_script", "_law_k", "_law_bound", "_law_drawn"] ["_law_script", "_law_k", "_law_bound"] (defScope s_Lmixed) := ⟨rfl, rfl, rfl, by decide +kernel, rfl, by decide +kernel, by decide +kernel⟩
abbrev s_Ldraw : Stmt := top 33
theorem sc_Ldraw : FnScope ["_law_script", "_law_town", "_law_bound"] ["_law_script", "_law_town", "_law_bound"] (defScope s_Ldraw) := ⟨rfl, rfl, rfl, by decide +kernel, rfl, by decide +kernel, by decide +kernel⟩
abbrev s_Lpick : Stmt := top 34
theorem sc_Lpick : FnScope ["_law_script", "_law_town", "_law_some"] ["_law_script", "_law_town", "_law_some"] (defScope s_Lpick) := ⟨rfl, rfl, rfl, by decide +kernel, rfl, by decide +kernel, by decide +kernel⟩
abbrev s_Lten : Stmt := top 35
theorem sc_Lten : FnScope ["_law_many"] ["_law_many"] (defScope s_Lten) := ⟨rfl, rfl, rfl, by decide +kernel, rfl, by decide +kernel, by decide +kernel⟩
abbrev s_Lread : Stmt := top 36
theorem sc_Lread : FnScope ["_law_text", "_law_radix", "_law_pieces", "_law_sign", "_law_fine", "_law_whole", "_law_behind", "_law_made", "_law_part", "_law_reach"] ["_law_text", "_law_radix"] (defScope s_Lread) := ⟨rfl, rfl, rfl, by decide +kernel, rfl, by decide +kernel, by decide +kernel⟩
abbrev s_Lwhich : Stmt := top 37
theorem sc_Lwhich : FnScope ["_law_e", "_law_own"] ["_law_e"] (defScope s_Lwhich) := ⟨rfl, rfl, rfl, by decide +kernel, rfl, by decide +kernel, by decide +kernel⟩
abbrev s_Lask : Stmt := top 38
theorem sc_Lask : FnScope ["_law_text", "_law_radix", "_law_e"] ["_law_text", "_law_radix"] (defScope s_Lask) := ⟨rfl, rfl, rfl, by decide +kernel, rfl, by decide +kernel, by decide +kernel⟩
abbrev s_Lis_good : Stmt := top 39
theorem sc_Lis_good : FnScope ["_law_text", "_law_radix", "_law_bare", "_law_pieces", "_law_piece", "_law_one"] ["_law_text", "_law_radix"] (defScope s_Lis_good) := ⟨rfl, rfl, rfl, by decide +kernel, rfl, by decide +kernel, by decide +kernel⟩
abbrev s_law : Stmt := top 40
theorem sc_law : FnScope ["_law_script", "_law_town", "_law_again", "_law_radix", "_law_figures", "_law_text", "_law_due", "_law_at", "_law_sign", "_law_spoilt", "_law_bare", "_law_more", "_law_k"] ["_law_script"] (defScope s_law) := ⟨rfl, rfl, rfl, by decide +kernel, rfl, by decide +kernel, by decide +kernel⟩
abbrev s_NoNumber : Stmt := inClass (top 2) 0
theorem sc_NoNumber : FnScope ["self", "thing"] ["self", "thing"] (defScope s_NoNumber) := ⟨rfl, rfl, rfl, by decide +kernel, rfl, by decide +kernel, by decide +kernel⟩
abbrev s_NoProgram : Stmt := inClass (top 7) 0
theorem sc_NoProgram : FnScope ["self", "word"] ["self", "word"] (defScope s_NoProgram) := ⟨rfl, rfl, rfl, by decide +kernel, rfl, by decide +kernel, by decide +kernel⟩
section
variable {P : Program} {w : World} {K : PySem.W.Frag} {mg : Str → Option Value} {base : Heap}
theorem ok_is_whole {f : Addr} {fd : FuncData} (F : FunD K "is_whole" "is_whole" (defArgs s_is_whole) (defBody s_is_whole) (defScope s_is_whole) [] [] f fd) (mf : mg "is_whole" = some (.ref f)) (m_isinstance : mg "isinstance" = none) (m_int : mg "int" = none) (m_bool : mg "bool" = none) : CalD P w K mg base 1 "is_whole" g_is_whole :=
  cal_of F mf (fnd_of F sc_is_whole (by
    intro ds h Q E hh
    simp only [g_is_whole] at hh
    repeat (first | (obtain ⟨rfl, _⟩ := hh; rfl) | (obtain ⟨_, hh⟩ := hh))) (fun cdv A outer s H E hr tk hp => (db_one (ds_ret (de_and (de_isi .int rfl m_isinstance rfl m_int bo_int (de_var 0)) (de_and (de_not (de_isi .bool rfl m_isinstance rfl m_bool bo_bool (de_var 0))) (de_one (de_chain do_le do_le (de_var 1) (de_var 0) (de_var 2)))))))) vc_is_whole : FnD P w K mg base 1 f fd ["thing", "low", "high"] g_is_whole) (fun _ _ _ _ _ _ us hl => match us, hl with | [_, _, _], _ => rfl)
theorem ok_raise_to {f : Addr} {fd : FuncData} (F : FunD K "raise_to" "raise_to" (defArgs s_raise_to) (defBody s_raise_to) (defScope s_raise_to) [] [] f fd) (mf : mg "raise_to" = some (.ref f)) (m_range : mg "range" = none) : CalD P w K mg base 1 "raise_to" g_raise_to :=
  cal_of F mf (fnd_of F sc_raise_to (by
    intro ds h Q E hh
    simp only [g_raise_to] at hh
    repeat (first | (obtain ⟨rfl, _⟩ := hh; rfl) | (obtain ⟨_, hh⟩ := hh))) (fun cdv A outer s H E hr tk hp => (db_cons (ds_set (i := 2) sc_raise_to.nd rfl (by first | exact .inl rfl | exact .inr rfl) de_int)
    (db_cons (ds_for hp rfl (di_rng1 rfl m_range (da_cons (de_var 1) da_nil)) (dg_name (i := 3) sc_raise_to.nd rfl (by first | exact .inl rfl | exact .inr rfl)) (db_one (ds_set (i := 2) sc_raise_to.nd rfl (by first | exact .inl rfl | exact .inr rfl) (de_op do_mul (de_var 2) (de_var 0)))))
    (db_one (ds_ret (de_var 2)))))) vc_raise_to : FnD P w K mg base 1 f fd ["number", "many"] g_raise_to) (fun _ _ _ _ _ _ us hl => match us, hl with | [_, _], _ => rfl)
theorem ok_ten {f : Addr} {fd : FuncData} (F : FunD K "ten" "ten" (defArgs s_ten) (defBody s_ten) (defScope s_ten) [] [] f fd) (mf : mg "ten" = some (.ref f)) (c_raise_to : CalD P w K mg base 1 "raise_to" g_raise_to) : CalD P w K mg base 2 "ten" g_ten :=
  cal_of F mf (fnd_of F sc_ten (by
    intro ds h Q E hh
    simp only [g_ten] at hh
    repeat (first | (obtain ⟨rfl, _⟩ := hh; rfl) | (obtain ⟨_, hh⟩ := hh))) (fun cdv A outer s H E hr tk hp => (db_one (ds_ret (de_c c_raise_to hr (by decide) rfl tk (da_cons de_int (da_cons (de_var 0) da_nil)))))) vc_ten : FnD P w K mg base 2 f fd ["many"] g_ten) (fun _ _ _ _ _ _ us hl => match us, hl with | [_], _ => rfl)
theorem ok_cut_off {f : Addr} {fd : FuncData} (F : FunD K "cut_off" "cut_off" (defArgs s_cut_off) (defBody s_cut_off) (defScope s_cut_off) [] [] f fd) (mf : mg "cut_off" = some (.ref f)) : CalD P w K mg base 1 "cut_off" g_cut_off :=
  cal_of F mf (fnd_of F sc_cut_off (by
    intro ds h Q E hh
    simp only [g_cut_off] at hh
    repeat (first | (obtain ⟨rfl, _⟩ := hh; rfl) | (obtain ⟨_, hh⟩ := hh))) (fun cdv A outer s H E hr tk hp => (db_one (ds_ret (de_ifExp (dt_cmp do_ge (de_var 0) de_int) (de_op do_div (de_var 0) (de_var 1)) (de_op do_sub de_int (de_op do_div (de_op do_sub de_int (de_var 0)) (de_var 1))))))) vc_cut_off : FnD P w K mg base 1 f fd ["top", "bottom"] g_cut_off) (fun _ _ _ _ _ _ us hl => match us, hl with | [_, _], _ => rfl)
theorem ok_fitted {f : Addr} {fd : FuncData} (F : FunD K "fitted" "fitted" (defArgs s_fitted) (defBody s_fitted) (defScope s_fitted) [] [] f fd) (mf : mg "fitted" = some (.ref f)) (m_abs : mg "abs" = none) (v_FIGURES_reckoning : GV K mg "FIGURES_reckoning" (.int BIG)) (v_SCALE : GV K mg "SCALE" (.int 60)) (x_TooLong : ExcD K mg .TooLong) : CalD P w K mg base 1 "fitted" g_fitted :=
  cal_of F mf (fnd_of F sc_fitted (by
    intro ds h Q E hh
    simp only [g_fitted] at hh
    repeat (first | (obtain ⟨rfl, _⟩ := hh; rfl) | (obtain ⟨_, hh⟩ := hh))) (fun cdv A outer s H E hr tk hp => (db_cons (ds_if (dt_w (dw_or (dt_cmp do_ge (de_callB dc_abs rfl m_abs bo_abs (da_cons (de_var 0) da_nil)) (de_glob rfl v_FIGURES_reckoning)) (dw_or1 (dt_cmp do_gt (de_var 1) (de_glob rfl v_SCALE))))) (db_one (ds_raise (n := .TooLong) x_TooLong rfl rfl tk rfl)) db_nil)
    (db_one (ds_ret (de_tup (da_cons (de_var 0) (da_cons (de_var 1) da_nil))))))) vc_fitted : FnD P w K mg base 1 f fd ["figures", "scale"] g_fitted) (fun _ _ _ _ _ _ us hl => match us, hl with | [_, _], _ => rfl)
theorem ok_need_base {f : Addr} {fd : FuncData} (F : FunD K "need_base" "need_base" (defArgs s_need_base) (defBody s_need_base) (defScope s_need_base) [] [] f fd) (mf : mg "need_base" = some (.ref f)) (c_is_whole : CalD P w K mg base 1 "is_whole" g_is_whole) (x_NoBase : ExcD K mg .NoBase) : CalD P w K mg base 2 "need_base" g_need_base :=
  cal_of F mf (fnd_of F sc_need_base (by
    intro ds h Q E hh
    simp only [g_need_base] at hh
    repeat (first | (obtain ⟨rfl, _⟩ := hh; rfl) | (obtain ⟨_, hh⟩ := hh))) (fun cdv A outer s H E hr tk hp => (db_one (ds_if (dt_not (dt_val (de_c c_is_whole hr (by decide) rfl tk (da_cons (de_var 0) (da_cons de_int (da_cons de_int da_nil)))))) (db_one (ds_raise (n := .NoBase) x_NoBase rfl rfl tk rfl)) db_nil))) vc_need_base : FnD P w K mg base 2 f fd ["base"] g_need_base) (fun _ _ _ _ _ _ us hl => match us, hl with | [_], _ => rfl)
theorem ok_worth_of {f : Addr} {fd : FuncData} (F : FunD K "worth_of" "worth_of" (defArgs s_worth_of) (defBody s_worth_of) (defScope s_worth_of) [] [] f fd) (mf : mg "worth_of" = some (.ref f)) (v_FIGURES_bases : GV K mg "FIGURES_bases" (.str (S "0123456789ABCDEF"))) : CalD P w K mg base 1 "worth_of" g_worth_of :=
  cal_of F mf (fnd_of F sc_worth_of (by
    intro ds h Q E hh
    simp only [g_worth_of] at hh
    repeat (first | (obtain ⟨rfl, _⟩ := hh; rfl) | (obtain ⟨_, hh⟩ := hh))) (fun cdv A outer s H E hr tk hp => (db_cons (ds_set (i := 2) sc_worth_of.nd rfl (by first | exact .inl rfl | exact .inr rfl) de_int)
    (db_cons (ds_for hp rfl (di_seq (de_var 0)) (dg_name (i := 3) sc_worth_of.nd rfl (by first | exact .inl rfl | exact .inr rfl)) (db_one (ds_set (i := 2) sc_worth_of.nd rfl (by first | exact .inl rfl | exact .inr rfl) (de_op do_add (de_op do_mul (de_var 2) (de_var 1)) (de_m PySem.F.plainAttrs_str PySem.F.slot_str_index PySem.F.type_str_index dm_sindex (de_glob rfl v_FIGURES_bases) (da_cons (de_var 3) da_nil))))))
    (db_one (ds_ret (de_var 2)))))) vc_worth_of : FnD P w K mg base 1 f fd ["text", "base"] g_worth_of) (fun _ _ _ _ _ _ us hl => match us, hl with | [_, _], _ => rfl)
theorem ok_number_of {f : Addr} {fd : FuncData} (F : FunD K "number_of" "number_of" (defArgs s_number_of) (defBody s_number_of) (defScope s_number_of) [] [] f fd) (mf : mg "number_of" = some (.ref f)) (c_worth_of : CalD P w K mg base 1 "worth_of" g_worth_of) (c_ten : CalD P w K mg base 2 "ten" g_ten) (c_fitted : CalD P w K mg base 1 "fitted" g_fitted) (c_raise_to : CalD P w K mg base 1 "raise_to" g_raise_to) (c_cut_off : CalD P w K mg base 1 "cut_off" g_cut_off) (v_SCALE : GV K mg "SCALE" (.int 60)) (x_TooLong : ExcD K mg .TooLong) (m_len : mg "len" = none) : CalD P w K mg base 3 "number_of" g_number_of :=
  cal_of F mf (fnd_of F sc_number_of (by
    intro ds h Q E hh
    simp only [g_number_of] at hh
    repeat (first | (obtain ⟨rfl, _⟩ := hh; rfl) | (obtain ⟨_, hh⟩ := hh))) (fun cdv A outer s H E hr tk hp => (db_cons (ds_set (i := 3) sc_number_of.nd rfl (by first | exact .inl rfl | exact .inr rfl) (de_callB dc_len rfl m_len bo_len (da_cons (de_var 1) da_nil)))
    (db_cons (ds_if (dt_cmp do_gt (de_var 3) (de_glob rfl v_SCALE)) (db_one (ds_raise (n := .TooLong) x_TooLong rfl rfl tk rfl)) db_nil)
    (db_cons (ds_set (i := 4) sc_number_of.nd rfl (by first | exact .inl rfl | exact .inr rfl) (de_c c_cut_off hr (by decide) rfl tk (da_cons (de_op do_mul (de_c c_worth_of hr (by decide) rfl tk (da_cons (de_var 1) (da_cons (de_var 2) da_nil))) (de_c c_ten hr (by decide) rfl tk (da_cons (de_var 3) da_nil))) (da_cons (de_c c_raise_to hr (by decide) rfl tk (da_cons (de_var 2) (da_cons (de_var 3) da_nil))) da_nil))))
    (db_one (ds_ret (de_c c_fitted hr (by decide) rfl tk (da_cons (de_op do_add (de_op do_mul (de_c c_worth_of hr (by decide) rfl tk (da_cons (de_var 0) (da_cons (de_var 2) da_nil))) (de_c c_ten hr (by decide) rfl tk (da_cons (de_var 3) da_nil))) (de_var 4)) (da_cons (de_var 3) da_nil))))))))) vc_number_of : FnD P w K mg base 3 f fd ["whole", "behind", "base"] g_number_of) (fun _ _ _ _ _ _ us hl => match us, hl with | [_, _, _], _ => rfl)
theorem ok_are_figures {f : Addr} {fd : FuncData} (F : FunD K "are_figures" "are_figures" (defArgs s_are_figures) (defBody s_are_figures) (defScope s_are_figures) [] [] f fd) (mf : mg "are_figures" = some (.ref f)) (v_FIGURES_bases : GV K mg "FIGURES_bases" (.str (S "0123456789ABCDEF"))) (m_all : mg "all" = none) : CalD P w K mg base 1 "are_figures" g_are_figures :=
  cal_of F mf (fnd_of F sc_are_figures (by
    intro ds h Q E hh
    simp only [g_are_figures] at hh
    repeat (first | (obtain ⟨rfl, _⟩ := hh; rfl) | (obtain ⟨_, hh⟩ := hh))) (fun cdv A outer s H E hr tk hp => (db_one (ds_ret (de_and (de_cmp (do_ne hr.units) (de_var 0) de_str) (de_one (de_callB (dc_all rfl) rfl m_all bo_all (da_cons (de_lc rfl sc_are_figures.nd (di_seq (de_var 0)) (blkOk_by (N := ["text", "base", "sign"]) (sc := defScope s_are_figures) (by decide +kernel)) rfl (fun _ _ _ _ _ => pg_name (i := 2) sc_are_figures.nd rfl (Or.inl rfl)) (fun _ _ _ _ _ => dts_nil) (fun _ _ _ _ _ => (de_cmp do_in (de_var 2) (de_slice (de_glob rfl v_FIGURES_bases) dpo_none (dpo_some (de_var 1)))))) da_nil))))))) vc_are_figures : FnD P w K mg base 1 f fd ["text", "base"] g_are_figures) (fun _ _ _ _ _ _ us hl => match us, hl with | [_, _], _ => rfl)
theorem ok_read_number {f : Addr} {fd : FuncData} (F : FunD K "read_number" "read_number" (defArgs s_read_number) (defBody s_read_number) (defScope s_read_number) [] [("base", .int 10)] f fd) (mf : mg "read_number" = some (.ref f)) (c_number_of : CalD P w K mg base 3 "number_of" g_number_of) (m_len : mg "len" = none) (v_SCALE : GV K mg "SCALE" (.int 60)) (x_NoText : ExcD K mg .NoText) (c_are_figures : CalD P w K mg base 1 "are_figures" g_are_figures) (m_all : mg "all" = none) (m_isinstance : mg "isinstance" = none) (m_str : mg "str" = none) (c_need_base : CalD P w K mg base 2 "need_base" g_need_base) : CalK P w K mg base 4 "read_number" 1 "base" (.int 10) g_read_number :=
  calk_of F mf (fnd_of F sc_read_number (by
    intro ds h Q E hh
    simp only [g_read_number] at hh
    repeat (first | (obtain ⟨rfl, _⟩ := hh; rfl) | (obtain ⟨_, hh⟩ := hh))) (fun cdv A outer s H E hr tk hp => (db_cons (ds_expr (de_c c_need_base hr (by decide) rfl tk (da_cons (de_var 1) da_nil)))
    (db_cons (ds_if (dt_not (dt_val (de_isi .str rfl m_isinstance rfl m_str bo_str (de_var 0)))) (db_one (ds_raise (n := .NoText) x_NoText rfl rfl tk rfl)) db_nil)
    (db_cons (ds_set (i := 2) sc_read_number.nd rfl (by first | exact .inl rfl | exact .inr rfl) (de_ifExp (dt_cmp (do_eq hr.units) (de_slice (de_var 0) dpo_none (dpo_some de_int)) de_str) (de_slice (de_var 0) (dpo_some de_int) dpo_none) (de_var 0)))
    (db_cons (ds_asg (de_m PySem.F.plainAttrs_str PySem.F.slot_str_split PySem.F.type_str_split dm_split (de_var 2) (da_cons de_str da_nil)) (dg_star (i := 4) (j := 5) rfl sc_read_number.nd rfl rfl (by first | exact .inl rfl | exact .inr rfl) (by first | exact .inl rfl | exact .inr rfl)))
    (db_cons (ds_if (dt_w (dw_or (dt_not (dt_val (de_c c_are_figures hr (by decide) rfl tk (da_cons (de_var 4) (da_cons (de_var 1) da_nil))))) (dw_or (dt_cmp do_gt (de_callB dc_len rfl m_len bo_len (da_cons (de_var 5) da_nil)) de_int) (dw_or1 (dt_not (dt_val (de_callB (dc_all rfl) rfl m_all bo_all (da_cons (de_lc rfl sc_read_number.nd (di_seq (de_var 5)) (blkOk_by (N := ["text", "base", "plain", "made", "whole", "behind", "one"]) (sc := defScope s_read_number) (by decide +kernel)) rfl (fun _ _ _ _ _ => pg_name (i := 6) sc_read_number.nd rfl (Or.inl rfl)) (fun _ _ _ _ _ => dts_nil) (fun _ _ _ _ _ => (de_c c_are_figures hr (by decide) rfl takes_no (da_cons (de_var 6) (da_cons (de_var 1) da_nil))))) da_nil)))))))) (db_one (ds_raise (n := .NoText) x_NoText rfl rfl tk rfl)) db_nil)
    (db_cons (ds_if (dt_w (dw_and (dt_cmp (do_ne hr.units) (de_var 5) (de_lst da_nil)) (dw_and1 (dt_cmp do_gt (de_callB dc_len rfl m_len bo_len (da_cons (de_ix (de_var 5) de_int) da_nil)) (de_glob rfl v_SCALE))))) (db_one (ds_raise (n := .NoText) x_NoText rfl rfl tk rfl)) db_nil)
    (db_cons (ds_set (i := 3) sc_read_number.nd rfl (by first | exact .inl rfl | exact .inr rfl) (de_c c_number_of hr (by decide) rfl tk (da_cons (de_var 4) (da_cons (de_ifExp (dt_cmp (do_ne hr.units) (de_var 5) (de_lst da_nil)) (de_ix (de_var 5) de_int) de_str) (da_cons (de_var 1) da_nil)))))
    (db_one (ds_ret (de_ifExp (dt_cmp (do_eq hr.units) (de_slice (de_var 0) dpo_none (dpo_some de_int)) de_str) (de_tup (da_cons (de_op do_sub de_int (de_ix (de_var 3) de_int)) (da_cons (de_ix (de_var 3) de_int) da_nil))) (de_var 3)))))))))))) vc_read_number : FnD P w K mg base 4 f fd ["text", "base"] g_read_number) (fun _ => .int _) rfl (fun _ _ _ _ _ _ us _ hl => match us, hl with | [_], _ => ⟨_, _, _, _, _, _, rfl, rfl, rfl⟩) (fun _ _ _ _ _ _ us _ hl => match us, hl with | [_], _ => rfl)
theorem ok_Lcell_at {f : Addr} {fd : FuncData} (F : FunD K "_law_cell_at" "_law_cell_at" (defArgs s_Lcell_at) (defBody s_Lcell_at) (defScope s_Lcell_at) [] [] f fd) (mf : mg "_law_cell_at" = some (.ref f)) (m_len : mg "len" = none) (m_min : mg "min" = none) (m_range : mg "range" = none) : CalD P w K mg base 1 "_law_cell_at" g_Lcell_at :=
  cal_of F mf (fnd_of F sc_Lcell_at (by
    intro ds h Q E hh
    simp only [g_Lcell_at] at hh
    repeat (first | (obtain ⟨rfl, _⟩ := hh; rfl) | (obtain ⟨_, hh⟩ := hh))) (fun cdv A outer s H E hr tk hp => (db_cons (ds_if (dt_cmp do_lt (de_var 1) (de_callB dc_len rfl m_len bo_len (da_cons (de_var 0) da_nil))) (db_one (ds_ret (de_ix (de_var 0) (de_var 1)))) db_nil)
    (db_cons (ds_if (dt_cmp (do_eq hr.units) (de_var 0) (de_lst da_nil)) (db_one (ds_ret de_int)) db_nil)
    (db_cons (ds_set (i := 2) sc_Lcell_at.nd rfl (by first | exact .inl rfl | exact .inr rfl) (de_ix (de_var 0) (de_op do_mod (de_var 1) (de_callB dc_len rfl m_len bo_len (da_cons (de_var 0) da_nil)))))
    (db_cons (ds_for hp rfl (di_rng1 rfl m_range (da_cons (de_callB (dc_min rfl) rfl m_min bo_min (da_cons (de_op do_div (de_var 1) (de_callB dc_len rfl m_len bo_len (da_cons (de_var 0) da_nil))) (da_cons de_int da_nil))) da_nil)) (dg_name (i := 3) sc_Lcell_at.nd rfl (by first | exact .inl rfl | exact .inr rfl)) (db_one (ds_set (i := 2) sc_Lcell_at.nd rfl (by first | exact .inl rfl | exact .inr rfl) (de_op do_div (de_var 2) de_int))))
    (db_one (ds_ret (de_op do_add (de_op do_add (de_op do_mul (de_ix (de_var 0) (de_op do_mod (de_var 1) (de_callB dc_len rfl m_len bo_len (da_cons (de_var 0) da_nil)))) de_int) (de_var 1)) (de_op do_mul (de_var 2) de_int))))))))) vc_Lcell_at : FnD P w K mg base 1 f fd ["_law_script", "_law_k"] g_Lcell_at) (fun _ _ _ _ _ _ us hl => match us, hl with | [_, _], _ => rfl)
theorem ok_Lmixed {f : Addr} {fd : FuncData} (F : FunD K "_law_mixed" "_law_mixed" (defArgs s_Lmixed) (defBody s_Lmixed) (defScope s_Lmixed) [] [] f fd) (mf : mg "_law_mixed" = some (.ref f)) (c_Lcell_at : CalD P w K mg base 1 "_law_cell_at" g_Lcell_at) : CalD P w K mg base 2 "_law_mixed" g_Lmixed :=
  cal_of F mf (fnd_of F sc_Lmixed (by
    intro ds h Q E hh
    simp only [g_Lmixed] at hh
    repeat (first | (obtain ⟨rfl, _⟩ := hh; rfl) | (obtain ⟨_, hh⟩ := hh))) (fun cdv A outer s H E hr tk hp => (db_cons (ds_set (i := 3) sc_Lmixed.nd rfl (by first | exact .inl rfl | exact .inr rfl) (de_op do_mod (de_op do_add (de_op do_add (de_op do_mul (de_c c_Lcell_at hr (by decide) rfl tk (da_cons (de_var 0) (da_cons (de_var 1) da_nil))) de_int) (de_op do_mul de_int (de_var 1))) de_int) de_int))
    (db_one (ds_ret (de_op do_mod (de_op do_mod (de_op do_mod (de_op do_pow (de_var 3) de_int) de_int) de_int) (de_var 2)))))) vc_Lmixed : FnD P w K mg base 2 f fd ["_law_script", "_law_k", "_law_bound"] g_Lmixed) (fun _ _ _ _ _ _ us hl => match us, hl with | [_, _, _], _ => rfl)
theorem ok_Ldraw {f : Addr} {fd : FuncData} (F : FunD K "_law_draw" "_law_draw" (defArgs s_Ldraw) (defBody s_Ldraw) (defScope s_Ldraw) [] [] f fd) (mf : mg "_law_draw" = some (.ref f)) (m_len : mg "len" = none) (c_Lmixed : CalD P w K mg base 2 "_law_mixed" g_Lmixed) : CalD P w K mg base 3 "_law_draw" g_Ldraw :=
  cal_of F mf (fnd_of F sc_Ldraw (by
    intro ds h Q E hh
    simp only [g_Ldraw] at hh
    repeat (first | (obtain ⟨rfl, _⟩ := hh; rfl) | (obtain ⟨_, hh⟩ := hh))) (fun cdv A outer s H E hr tk hp => (db_cons (ds_expr (de_m PySem.F.plainAttrs_list PySem.F.slot_list_append PySem.F.type_list_append dm_append (de_var 1) (da_cons de_int da_nil)))
    (db_one (ds_ret (de_c c_Lmixed hr (by decide) rfl tk (da_cons (de_var 0) (da_cons (de_callB dc_len rfl m_len bo_len (da_cons (de_var 1) da_nil)) (da_cons (de_var 2) da_nil)))))))) vc_Ldraw : FnD P w K mg base 3 f fd ["_law_script", "_law_town", "_law_bound"] g_Ldraw) (fun _ _ _ _ _ _ us hl => match us, hl with | [_, _, _], _ => rfl)
theorem ok_Lpick {f : Addr} {fd : FuncData} (F : FunD K "_law_pick" "_law_pick" (defArgs s_Lpick) (defBody s_Lpick) (defScope s_Lpick) [] [] f fd) (mf : mg "_law_pick" = some (.ref f)) (m_len : mg "len" = none) (c_Ldraw : CalD P w K mg base 3 "_law_draw" g_Ldraw) : CalD P w K mg base 4 "_law_pick" g_Lpick :=
  cal_of F mf (fnd_of F sc_Lpick (by
    intro ds h Q E hh
    simp only [g_Lpick] at hh
    repeat (first | (obtain ⟨rfl, _⟩ := hh; rfl) | (obtain ⟨_, hh⟩ := hh))) (fun cdv A outer s H E hr tk hp => (db_one (ds_ret (de_ix (de_var 2) (de_c c_Ldraw hr (by decide) rfl tk (da_cons (de_var 0) (da_cons (de_var 1) (da_cons (de_callB dc_len rfl m_len bo_len (da_cons (de_var 2) da_nil)) da_nil)))))))) vc_Lpick : FnD P w K mg base 4 f fd ["_law_script", "_law_town", "_law_some"] g_Lpick) (fun _ _ _ _ _ _ us hl => match us, hl with | [_, _, _], _ => rfl)
theorem ok_Lten {f : Addr} {fd : FuncData} (F : FunD K "_law_ten" "_law_ten" (defArgs s_Lten) (defBody s_Lten) (defScope s_Lten) [] [] f fd) (mf : mg "_law_ten" = some (.ref f)) (m_int : mg "int" = none) : CalD P w K mg base 1 "_law_ten" g_Lten :=
  cal_of F mf (fnd_of F sc_Lten (by
    intro ds h Q E hh
    simp only [g_Lten] at hh
    repeat (first | (obtain ⟨rfl, _⟩ := hh; rfl) | (obtain ⟨_, hh⟩ := hh))) (fun cdv A outer s H E hr tk hp => (db_one (ds_ret (de_callTy dc_int rfl m_int bo_int (da_cons (de_op do_add de_str (de_op do_mul de_str (de_var 0))) da_nil))))) vc_Lten : FnD P w K mg base 1 f fd ["_law_many"] g_Lten) (fun _ _ _ _ _ _ us hl => match us, hl with | [_], _ => rfl)
theorem ok_Lread {f : Addr} {fd : FuncData} (F : FunD K "_law_read" "_law_read" (defArgs s_Lread) (defBody s_Lread) (defScope s_Lread) [] [] f fd) (mf : mg "_law_read" = some (.ref f)) (c_Lten : CalD P w K mg base 1 "_law_ten" g_Lten) (m_len : mg "len" = none) : CalD P w K mg base 2 "_law_read" g_Lread :=
  cal_of F mf (fnd_of F sc_Lread (by
    intro ds h Q E hh
    simp only [g_Lread] at hh
    repeat (first | (obtain ⟨rfl, _⟩ := hh; rfl) | (obtain ⟨_, hh⟩ := hh))) (fun cdv A outer s H E hr tk hp => (db_cons (ds_set (i := 2) sc_Lread.nd rfl (by first | exact .inl rfl | exact .inr rfl) (de_op do_add (de_m PySem.F.plainAttrs_str PySem.F.slot_str_split PySem.F.type_str_split dm_split (de_var 0) (da_cons de_str da_nil)) (de_lst (da_cons de_str da_nil))))
    (db_cons (ds_par (i := 5) (j := 6) rfl sc_Lread.nd rfl rfl (by decide) rfl rfl (da_cons (de_ix (de_var 2) de_int) (da_cons (de_ix (de_var 2) de_int) da_nil)))
    (db_cons (ds_asg (de_tup (da_cons de_int (da_cons de_int (da_cons de_int da_nil)))) (dg_tup rfl (dgs_cons (dg_name (i := 7) sc_Lread.nd rfl (by first | exact .inl rfl | exact .inr rfl)) (dgs_cons (dg_name (i := 8) sc_Lread.nd rfl (by first | exact .inl rfl | exact .inr rfl)) (dgs_cons (dg_name (i := 9) sc_Lread.nd rfl (by first | exact .inl rfl | exact .inr rfl)) dgs_nil)))))
    (db_cons (ds_for hp rfl (di_seq (de_var 5)) (dg_name (i := 3) sc_Lread.nd rfl (by first | exact .inl rfl | exact .inr rfl)) (db_one (ds_set (i := 7) sc_Lread.nd rfl (by first | exact .inl rfl | exact .inr rfl) (de_op do_add (de_op do_mul (de_var 7) (de_var 1)) (de_m PySem.F.plainAttrs_str PySem.F.slot_str_index PySem.F.type_str_index dm_sindex de_str (da_cons (de_var 3) da_nil))))))
    (db_cons (ds_for hp rfl (di_seq (de_var 6)) (dg_name (i := 3) sc_Lread.nd rfl (by first | exact .inl rfl | exact .inr rfl)) (db_one (ds_par (i := 8) (j := 9) rfl sc_Lread.nd rfl rfl (by decide) rfl rfl (da_cons (de_op do_add (de_op do_mul (de_var 8) (de_var 1)) (de_m PySem.F.plainAttrs_str PySem.F.slot_str_index PySem.F.type_str_index dm_sindex de_str (da_cons (de_var 3) da_nil))) (da_cons (de_op do_mul (de_var 9) (de_var 1)) da_nil)))))
    (db_cons (ds_set (i := 4) sc_Lread.nd rfl (by first | exact .inl rfl | exact .inr rfl) (de_callB dc_len rfl m_len bo_len (da_cons (de_var 6) da_nil)))
    (db_one (ds_ret (de_tup (da_cons (de_op do_add (de_op do_mul (de_var 7) (de_c c_Lten hr (by decide) rfl tk (da_cons (de_var 4) da_nil))) (de_op do_div (de_op do_mul (de_var 8) (de_c c_Lten hr (by decide) rfl tk (da_cons (de_var 4) da_nil))) (de_var 9))) (da_cons (de_var 4) da_nil)))))))))))) vc_Lread : FnD P w K mg base 2 f fd ["_law_text", "_law_radix"] g_Lread) (fun _ _ _ _ _ _ us hl => match us, hl with | [_, _], _ => rfl)
theorem ok_Lwhich {f : Addr} {fd : FuncData} (F : FunD K "_law_which" "_law_which" (defArgs s_Lwhich) (defBody s_Lwhich) (defScope s_Lwhich) [] [] f fd) {n : XN} (mf : mg "_law_which" = some (.ref f)) (q : ExcQ K n) (ia : ∀ m, m ∈ ([.Nothing, .TooMany, .TooLong, .NoRoot, .NoExponent, .NoDivisor, .NoTree, .NoProgram, .NoText, .NoWidth, .NoBase, .NoScale, .NoNumber] : List XN) → ExcI K n m) (m_isinstance : mg "isinstance" = none) (m_ValueError : mg "ValueError" = none) (gx_Nothing : mg "Nothing" = some (.ref (xad K .Nothing))) (gx_TooMany : mg "TooMany" = some (.ref (xad K .TooMany))) (gx_TooLong : mg "TooLong" = some (.ref (xad K .TooLong))) (gx_NoRoot : mg "NoRoot" = some (.ref (xad K .NoRoot))) (gx_NoExponent : mg "NoExponent" = some (.ref (xad K .NoExponent))) (gx_NoDivisor : mg "NoDivisor" = some (.ref (xad K .NoDivisor))) (gx_NoTree : mg "NoTree" = some (.ref (xad K .NoTree))) (gx_NoProgram : mg "NoProgram" = some (.ref (xad K .NoProgram))) (gx_NoText : mg "NoText" = some (.ref (xad K .NoText))) (gx_NoWidth : mg "NoWidth" = some (.ref (xad K .NoWidth))) (gx_NoBase : mg "NoBase" = some (.ref (xad K .NoBase))) (gx_NoScale : mg "NoScale" = some (.ref (xad K .NoScale))) (gx_NoNumber : mg "NoNumber" = some (.ref (xad K .NoNumber))) : CalE P w K mg base 1 "_law_which" n (g_Lwhich n) :=
  cale_of F mf sc_Lwhich (fun a ds h Q E hh => by
    simp only [g_Lwhich] at hh
    repeat (first | (obtain ⟨rfl, _⟩ := hh; rfl) | (obtain ⟨_, hh⟩ := hh))) (fun _ _ _ _ _ _ us hl => match us, hl with | [_], _ => rfl) (fun a oe cdv A outer s H E hr hd => (db_cons (ds_set (i := 1) sc_Lwhich.nd rfl (by first | exact .inl rfl | exact .inr rfl) (de_lst (da_cons (de_isX (m := .NoNumber) q (ia _ (by decide)) hd rfl m_isinstance rfl gx_NoNumber (de_var 0)) (da_cons (de_isX (m := .NoScale) q (ia _ (by decide)) hd rfl m_isinstance rfl gx_NoScale (de_var 0)) (da_cons (de_isX (m := .NoBase) q (ia _ (by decide)) hd rfl m_isinstance rfl gx_NoBase (de_var 0)) (da_cons (de_isX (m := .NoWidth) q (ia _ (by decide)) hd rfl m_isinstance rfl gx_NoWidth (de_var 0)) da_nil))))))
    (db_cons (ds_expr (de_m PySem.F.plainAttrs_list PySem.F.slot_list_extend PySem.F.type_list_extend dm_extend (de_var 1) (da_cons (de_lst (da_cons (de_isX (m := .NoText) q (ia _ (by decide)) hd rfl m_isinstance rfl gx_NoText (de_var 0)) (da_cons (de_isX (m := .NoProgram) q (ia _ (by decide)) hd rfl m_isinstance rfl gx_NoProgram (de_var 0)) (da_cons (de_isX (m := .NoTree) q (ia _ (by decide)) hd rfl m_isinstance rfl gx_NoTree (de_var 0)) (da_cons (de_isX (m := .NoDivisor) q (ia _ (by decide)) hd rfl m_isinstance rfl gx_NoDivisor (de_var 0)) da_nil))))) da_nil)))
    (db_cons (ds_expr (de_m PySem.F.plainAttrs_list PySem.F.slot_list_extend PySem.F.type_list_extend dm_extend (de_var 1) (da_cons (de_lst (da_cons (de_isX (m := .NoExponent) q (ia _ (by decide)) hd rfl m_isinstance rfl gx_NoExponent (de_var 0)) (da_cons (de_isX (m := .NoRoot) q (ia _ (by decide)) hd rfl m_isinstance rfl gx_NoRoot (de_var 0)) (da_cons (de_isX (m := .TooLong) q (ia _ (by decide)) hd rfl m_isinstance rfl gx_TooLong (de_var 0)) (da_cons (de_isX (m := .TooMany) q (ia _ (by decide)) hd rfl m_isinstance rfl gx_TooMany (de_var 0)) da_nil))))) da_nil)))
    (db_cons (ds_expr (de_m PySem.F.plainAttrs_list PySem.F.slot_list_append PySem.F.type_list_append dm_append (de_var 1) (da_cons (de_isX (m := .Nothing) q (ia _ (by decide)) hd rfl m_isinstance rfl gx_Nothing (de_var 0)) da_nil)))
    (db_cons (ds_if (dt_w (dw_or (dt_cmp (do_ne (rh_units hr)) (de_m PySem.F.plainAttrs_list PySem.F.slot_list_count PySem.F.type_list_count (dm_countB (rh_units hr)) (de_var 1) (da_cons de_bl da_nil)) de_int) (dw_or1 (dt_not (dt_val (de_isXV q hd rfl m_isinstance rfl m_ValueError (de_var 0))))))) (db_one (ds_ret (de_tup (da_cons de_str (da_cons (de_neg de_int) da_nil))))) db_nil)
    (db_one (ds_ret (de_tup (da_cons de_str (da_cons (de_m PySem.F.plainAttrs_list PySem.F.slot_list_index PySem.F.type_list_index dm_index (de_var 1) (da_cons de_bl da_nil)) da_nil))))))))))) (vc_Lwhich n)
theorem ok_Lask {f : Addr} {fd : FuncData} (F : FunD K "_law_ask" "_law_ask" (defArgs s_Lask) (defBody s_Lask) (defScope s_Lask) [] [] f fd) (mf : mg "_law_ask" = some (.ref f)) (c_read_number : CalK P w K mg base 4 "read_number" 1 "base" (.int 10) g_read_number) (e_Lwhich : ∀ n, n ∈ ([.NoText, .TooLong] : List XN) → CalE P w K mg base 1 "_law_which" n (g_Lwhich n)) (xm_DeskError : ∀ n, n ∈ ([.NoText, .TooLong] : List XN) → ExcM K n .DeskError) (gx_DeskError : mg "DeskError" = some (.ref (xad K .DeskError))) : CalD P w K mg base 5 "_law_ask" g_Lask :=
  cal_of F mf (fnd_of F sc_Lask (by
    intro ds h Q E hh
    simp only [g_Lask] at hh
    repeat (first | (obtain ⟨rfl, _⟩ := hh; rfl) | (obtain ⟨_, hh⟩ := hh))) (fun cdv A outer s H E hr tk hp => (db_one (ds_tryC (ns := [.NoText, .TooLong]) (cs := ((.DeskError, (some 2), [.NoText, .TooLong], (fun a fs n => wNoD fs (wRet (wCall (g_Lwhich n a) (wCons (wVar 2) wNil))))) :: [])) rfl rfl sc_Lask.nd tk (fun n hn q hq => by
      simp only [List.mem_cons, List.not_mem_nil, or_false] at hq
      rcases hq with rfl
      · exact xm_DeskError n hn) (fun W Hb pn xe tk2 hp2 => (db_one (ds_ret (de_ck c_read_number hr (by decide) rfl tk2 (da_cons (de_var 0) da_nil) (dk_one (de_var 1)))))) (.named (i := 2) (m := .DeskError) (ns := [.NoText, .TooLong]) rfl rfl ⟨rfl, by decide, .inl gx_DeskError⟩ (fun a fs n Hb pn oe hn hd => db_noD fun e => (by
      subst e
      exact db_one (ds_ret (de_cE (e_Lwhich n hn) hd.held (L2H_room hr (Nat.le_refl _) _) (by decide) rfl takes_n (da_cons (de_var 2) da_nil))))) .nil)))) vc_Lask : FnD P w K mg base 5 f fd ["_law_text", "_law_radix"] g_Lask) (fun _ _ _ _ _ _ us hl => match us, hl with | [_, _], _ => rfl)
theorem ok_Lis_good {f : Addr} {fd : FuncData} (F : FunD K "_law_is_good" "_law_is_good" (defArgs s_Lis_good) (defBody s_Lis_good) (defScope s_Lis_good) [] [] f fd) (mf : mg "_law_is_good" = some (.ref f)) (m_len : mg "len" = none) : CalD P w K mg base 1 "_law_is_good" g_Lis_good :=
  cal_of F mf (fnd_of F sc_Lis_good (by
    intro ds h Q E hh
    simp only [g_Lis_good] at hh
    repeat (first | (obtain ⟨rfl, _⟩ := hh; rfl) | (obtain ⟨_, hh⟩ := hh))) (fun cdv A outer s H E hr tk hp => (db_cons (ds_set (i := 2) sc_Lis_good.nd rfl (by first | exact .inl rfl | exact .inr rfl) (de_ifExp (dt_cmp (do_eq hr.units) (de_slice (de_var 0) dpo_none (dpo_some de_int)) de_str) (de_slice (de_var 0) (dpo_some de_int) dpo_none) (de_var 0)))
    (db_cons (ds_set (i := 3) sc_Lis_good.nd rfl (by first | exact .inl rfl | exact .inr rfl) (de_m PySem.F.plainAttrs_str PySem.F.slot_str_split PySem.F.type_str_split dm_split (de_var 2) (da_cons de_str da_nil)))
    (db_cons (ds_if (dt_w (dw_or (dt_cmp do_gt (de_callB dc_len rfl m_len bo_len (da_cons (de_var 3) da_nil)) de_int) (dw_or (dt_cmp do_in de_str (de_var 3)) (dw_or1 (dt_w (dw_and (dt_cmp (do_eq hr.units) (de_callB dc_len rfl m_len bo_len (da_cons (de_var 3) da_nil)) de_int) (dw_and1 (dt_cmp do_gt (de_callB dc_len rfl m_len bo_len (da_cons (de_ix (de_var 3) de_int) da_nil)) de_int)))))))) (db_one (ds_ret de_bl)) db_nil)
    (db_one (ds_ret (de_cmp (do_eq hr.units) (de_lc rfl sc_Lis_good.nd (di_seq (de_var 3)) (blkOk_by (N := ["_law_text", "_law_radix", "_law_bare", "_law_pieces", "_law_piece", "_law_one"]) (sc := defScope s_Lis_good) (by decide +kernel)) rfl (fun _ _ _ _ _ => pg_name (i := 4) sc_Lis_good.nd rfl (Or.inl rfl)) (fun _ _ _ _ _ => (dts_one (dt_cmp (do_ne hr.units) (de_lc rfl sc_Lis_good.nd (di_seq (de_var 4)) (blkOk_by (N := ["_law_text", "_law_radix", "_law_bare", "_law_pieces", "_law_piece", "_law_one"]) (by kernel_rfl)) rfl (fun _ _ _ _ _ => pg_name (i := 5) sc_Lis_good.nd rfl (Or.inl rfl)) (fun _ _ _ _ _ => (dts_one (dt_cmp do_ni (de_var 5) (de_slice de_str dpo_none (dpo_some (de_var 1)))))) (fun _ _ _ _ _ => (de_var 5))) (de_lst da_nil)))) (fun _ _ _ _ _ => (de_var 4))) (de_lst da_nil)))))))) vc_Lis_good : FnD P w K mg base 1 f fd ["_law_text", "_law_radix"] g_Lis_good) (fun _ _ _ _ _ _ us hl => match us, hl with | [_, _], _ => rfl)
theorem ok_law {f : Addr} {fd : FuncData} (F : FunD K "law" "law" (defArgs s_law) (defBody s_law) (defScope s_law) [] [] f fd) (c_Lask : CalD P w K mg base 5 "_law_ask" g_Lask) (c_Lis_good : CalD P w K mg base 1 "_law_is_good" g_Lis_good) (c_Lread : CalD P w K mg base 2 "_law_read" g_Lread) (c_Ldraw : CalD P w K mg base 3 "_law_draw" g_Ldraw) (c_Lpick : CalD P w K mg base 4 "_law_pick" g_Lpick) (m_len : mg "len" = none) (m_range : mg "range" = none) (m_list : mg "list" = none) : FnD P w K mg base 6 f fd ["_law_script"] gLaw :=
  fnd_of F sc_law (by
    intro ds h Q E hh
    simp only [gLaw] at hh
    repeat (first | (obtain ⟨rfl, _⟩ := hh; rfl) | (obtain ⟨_, hh⟩ := hh))) (fun cdv A outer s H E hr tk hp => (db_cons (ds_set (i := 1) sc_law.nd rfl (by first | exact .inl rfl | exact .inr rfl) (de_lst da_nil))
    (db_cons (ds_for hp rfl (di_rng1 rfl m_range (da_cons de_int da_nil)) (dg_name (i := 2) sc_law.nd rfl (by first | exact .inl rfl | exact .inr rfl)) (db_cons (ds_set (i := 3) sc_law.nd rfl (by first | exact .inl rfl | exact .inr rfl) (de_op do_add de_int (de_c c_Ldraw hr (by decide) rfl tk (da_cons (de_var 0) (da_cons (de_var 1) (da_cons de_int da_nil))))))
    (db_cons (ds_set (i := 4) sc_law.nd rfl (by first | exact .inl rfl | exact .inr rfl) (de_slice de_str dpo_none (dpo_some (de_var 3))))
    (db_cons (ds_set (i := 5) sc_law.nd rfl (by first | exact .inl rfl | exact .inr rfl) (de_m PySem.F.plainAttrs_str PySem.F.slot_str_join PySem.F.type_str_join dm_join de_str (da_cons (de_lc rfl sc_law.nd (di_rng1 rfl m_range (da_cons (de_op do_add de_int (de_c c_Ldraw hr (by decide) rfl tk (da_cons (de_var 0) (da_cons (de_var 1) (da_cons de_int da_nil))))) da_nil)) (blkOk_by (N := ["_law_script", "_law_town", "_law_again", "_law_radix", "_law_figures", "_law_text", "_law_due", "_law_at", "_law_sign", "_law_spoilt", "_law_bare", "_law_more", "_law_k"]) (sc := defScope s_law) (by decide +kernel)) rfl (fun _ _ _ _ _ => pg_name (i := 12) sc_law.nd rfl (Or.inl rfl)) (fun _ _ _ _ _ => dts_nil) (fun _ _ _ _ _ => (de_c c_Lpick hr (by decide) rfl takes_no (da_cons (de_var 0) (da_cons (de_var 1) (da_cons (de_callTy (dc_list rfl) rfl m_list bo_list (da_cons (de_var 4) da_nil)) da_nil)))))) da_nil)))
    (db_cons (ds_if (dt_cmp (do_eq hr.units) (de_c c_Ldraw hr (by decide) rfl tk (da_cons (de_var 0) (da_cons (de_var 1) (da_cons de_int da_nil)))) de_int) (db_cons (ds_setLc (j := 11) rfl sc_law.nd rfl rfl (sw_true rfl rfl rfl (by decide +kernel)) (di_rng1 rfl m_range (da_cons (de_op do_add de_int (de_c c_Ldraw hr (by decide) rfl tk (da_cons (de_var 0) (da_cons (de_var 1) (da_cons de_int da_nil))))) da_nil)) (blkOk_by (N := ["_law_script", "_law_town", "_law_again", "_law_radix", "_law_figures", "_law_text", "_law_due", "_law_at", "_law_sign", "_law_spoilt", "_law_bare", "_law_more", "_law_k"]) (sc := defScope s_law) (by decide +kernel)) rfl (fun _ _ _ _ _ => pg_name (i := 12) sc_law.nd rfl (Or.inl rfl)) (fun _ _ _ _ _ => dts_nil) (fun _ _ _ _ _ => (de_c c_Lpick hr (by decide) rfl takes_no (da_cons (de_var 0) (da_cons (de_var 1) (da_cons (de_callTy (dc_list rfl) rfl m_list bo_list (da_cons (de_var 4) da_nil)) da_nil))))))
    (db_one (ds_set (i := 5) sc_law.nd rfl (by first | exact .inl rfl | exact .inr rfl) (de_op do_add (de_op do_add (de_var 5) de_str) (de_m PySem.F.plainAttrs_str PySem.F.slot_str_join PySem.F.type_str_join dm_join de_str (da_cons (de_var 11) da_nil)))))) db_nil)
    (db_cons (ds_set (i := 6) sc_law.nd rfl (by first | exact .inl rfl | exact .inr rfl) (de_c c_Lread hr (by decide) rfl tk (da_cons (de_var 5) (da_cons (de_var 3) da_nil))))
    (db_cons (ds_if (dt_w (dw_or (dt_cmp (do_ne hr.units) (de_c c_Lask hr (by decide) rfl tk (da_cons (de_var 5) (da_cons (de_var 3) da_nil))) (de_var 6)) (dw_or1 (dt_cmp (do_ne hr.units) (de_c c_Lask hr (by decide) rfl tk (da_cons (de_op do_add de_str (de_var 5)) (da_cons (de_var 3) da_nil))) (de_tup (da_cons (de_op do_sub de_int (de_ix (de_var 6) de_int)) (da_cons (de_ix (de_var 6) de_int) da_nil))))))) (db_one (ds_ret de_bl)) db_nil)
    (db_cons (ds_set (i := 7) sc_law.nd rfl (by first | exact .inl rfl | exact .inr rfl) (de_c c_Ldraw hr (by decide) rfl tk (da_cons (de_var 0) (da_cons (de_var 1) (da_cons (de_op do_add (de_callB dc_len rfl m_len bo_len (da_cons (de_var 5) da_nil)) de_int) da_nil)))))
    (db_cons (ds_set (i := 8) sc_law.nd rfl (by first | exact .inl rfl | exact .inr rfl) (de_c c_Lpick hr (by decide) rfl tk (da_cons (de_var 0) (da_cons (de_var 1) (da_cons (de_lst (da_cons de_str (da_cons de_str (da_cons de_str (da_cons de_str (da_cons de_str (da_cons de_str (da_cons de_str (da_cons de_str (da_cons de_str (da_cons de_str (da_cons de_str da_nil)))))))))))) da_nil)))))
    (db_cons (ds_set (i := 9) sc_law.nd rfl (by first | exact .inl rfl | exact .inr rfl) (de_op do_add (de_op do_add (de_slice (de_var 5) dpo_none (dpo_some (de_var 7))) (de_var 8)) (de_slice (de_var 5) (dpo_some (de_op do_add (de_var 7) (de_c c_Ldraw hr (by decide) rfl tk (da_cons (de_var 0) (da_cons (de_var 1) (da_cons de_int da_nil)))))) dpo_none)))
    (db_cons (ds_set (i := 10) sc_law.nd rfl (by first | exact .inl rfl | exact .inr rfl) (de_ifExp (dt_cmp (do_eq hr.units) (de_slice (de_var 9) dpo_none (dpo_some de_int)) de_str) (de_slice (de_var 9) (dpo_some de_int) dpo_none) (de_var 9)))
    (db_cons (ds_if (dt_not (dt_val (de_c c_Lis_good hr (by decide) rfl tk (da_cons (de_var 9) (da_cons (de_var 3) da_nil))))) (db_one (ds_set (i := 6) sc_law.nd rfl (by first | exact .inl rfl | exact .inr rfl) (de_tup (da_cons de_str (da_cons de_int da_nil))))) (db_cons (ds_set (i := 6) sc_law.nd rfl (by first | exact .inl rfl | exact .inr rfl) (de_c c_Lread hr (by decide) rfl tk (da_cons (de_var 10) (da_cons (de_var 3) da_nil))))
    (db_one (ds_set (i := 6) sc_law.nd rfl (by first | exact .inl rfl | exact .inr rfl) (de_ifExp (dt_cmp (do_eq hr.units) (de_var 10) (de_var 9)) (de_var 6) (de_tup (da_cons (de_op do_sub de_int (de_ix (de_var 6) de_int)) (da_cons (de_ix (de_var 6) de_int) da_nil))))))))
    (db_one (ds_if (dt_cmp (do_ne hr.units) (de_c c_Lask hr (by decide) rfl tk (da_cons (de_var 9) (da_cons (de_var 3) da_nil))) (de_var 6)) (db_one (ds_ret de_bl)) db_nil))))))))))))))
    (db_one (ds_ret (de_and (de_cmp (do_eq hr.units) (de_c c_Lask hr (by decide) rfl tk (da_cons (de_op do_add de_str (de_op do_mul de_str de_int)) (da_cons de_int da_nil))) (de_tup (da_cons de_str (da_cons de_int da_nil)))) (de_one (de_cmp (do_eq hr.units) (de_c c_Lask hr (by decide) rfl tk (da_cons (de_op do_mul de_str de_int) (da_cons de_int da_nil))) (de_tup (da_cons de_str (da_cons de_int da_nil))))))))))) vc_law
end
def D_is_whole : He.DefD := ⟨("is_whole", none), "is_whole", "is_whole", defArgs s_is_whole, defBody s_is_whole, defScope s_is_whole, [], []⟩
def D_raise_to : He.DefD := ⟨("raise_to", none), "raise_to", "raise_to", defArgs s_raise_to, defBody s_raise_to, defScope s_raise_to, [], []⟩
def D_ten : He.DefD := ⟨("ten", none), "ten", "ten", defArgs s_ten, defBody s_ten, defScope s_ten, [], []⟩
def D_cut_off : He.DefD := ⟨("cut_off", none), "cut_off", "cut_off", defArgs s_cut_off, defBody s_cut_off, defScope s_cut_off, [], []⟩
def D_fitted : He.DefD := ⟨("fitted", none), "fitted", "fitted", defArgs s_fitted, defBody s_fitted, defScope s_fitted, [], []⟩
def D_need_base : He.DefD := ⟨("need_base", none), "need_base", "need_base", defArgs s_need_base, defBody s_need_base, defScope s_need_base, [], []⟩
def D_worth_of : He.DefD := ⟨("worth_of", none), "worth_of", "worth_of", defArgs s_worth_of, defBody s_worth_of, defScope s_worth_of, [], []⟩
def D_number_of : He.DefD := ⟨("number_of", none), "number_of", "number_of", defArgs s_number_of, defBody s_number_of, defScope s_number_of, [], []⟩
def D_are_figures : He.DefD := ⟨("are_figures", none), "are_figures", "are_figures", defArgs s_are_figures, defBody s_are_figures, defScope s_are_figures, [], []⟩
def D_read_number : He.DefD := ⟨("read_number", none), "read_number", "read_number", defArgs s_read_number, defBody s_read_number, defScope s_read_number, [], [("base", .int 10)]⟩
def D_Lcell_at : He.DefD := ⟨("_law_cell_at", none), "_law_cell_at", "_law_cell_at", defArgs s_Lcell_at, defBody s_Lcell_at, defScope s_Lcell_at, [], []⟩
def D_Lmixed : He.DefD := ⟨("_law_mixed", none), "_law_mixed", "_law_mixed", defArgs s_Lmixed, defBody s_Lmixed, defScope s_Lmixed, [], []⟩
def D_Ldraw : He.DefD := ⟨("_law_draw", none), "_law_draw", "_law_draw", defArgs s_Ldraw, defBody s_Ldraw, defScope s_Ldraw, [], []⟩
def D_Lpick : He.DefD := ⟨("_law_pick", none), "_law_pick", "_law_pick", defArgs s_Lpick, defBody s_Lpick, defScope s_Lpick, [], []⟩
def D_Lten : He.DefD := ⟨("_law_ten", none), "_law_ten", "_law_ten", defArgs s_Lten, defBody s_Lten, defScope s_Lten, [], []⟩
def D_Lread : He.DefD := ⟨("_law_read", none), "_law_read", "_law_read", defArgs s_Lread, defBody s_Lread, defScope s_Lread, [], []⟩
def D_Lwhich : He.DefD := ⟨("_law_which", none), "_law_which", "_law_which", defArgs s_Lwhich, defBody s_Lwhich, defScope s_Lwhich, [], []⟩
def D_Lask : He.DefD := ⟨("_law_ask", none), "_law_ask", "_law_ask", defArgs s_Lask, defBody s_Lask, defScope s_Lask, [], []⟩
def D_Lis_good : He.DefD := ⟨("_law_is_good", none), "_law_is_good", "_law_is_good", defArgs s_Lis_good, defBody s_Lis_good, defScope s_Lis_good, [], []⟩
def D_law : He.DefD := ⟨("law", none), "law", "law", defArgs s_law, defBody s_law, defScope s_law, [], []⟩
def D_NoNumber : He.DefD := ⟨("NoNumber", some "__init__"), "__init__", "NoNumber.__init__", defArgs s_NoNumber, defBody s_NoNumber, defScope s_NoNumber, [], []⟩
def D_NoProgram : He.DefD := ⟨("NoProgram", some "__init__"), "__init__", "NoProgram.__init__", defArgs s_NoProgram, defBody s_NoProgram, defScope s_NoProgram, [], []⟩
def fn : List He.DefD := [D_is_whole, D_raise_to, D_ten, D_cut_off, D_fitted, D_need_base, D_worth_of, D_number_of, D_are_figures, D_read_number, D_Lcell_at, D_Lmixed, D_Ldraw, D_Lpick, D_Lten, D_Lread, D_Lwhich, D_Lask, D_Lis_good, D_law, D_NoNumber, D_NoProgram]
def fa : List He.Fa := [.glo "NoNumber", .glo "NoProgram", .glo "DeskError", .glo "NoBase", .glo "NoDivisor", .glo "NoExponent", .glo "NoRoot", .glo "NoScale", .glo "NoText", .glo "NoTree", .glo "NoWidth", .glo "Nothing", .glo "TooLong", .glo "TooMany", .free "ValueError", .free "abs", .free "all", .free "bool", .free "int", .free "isinstance", .free "len", .free "list", .free "min", .free "range", .free "str", .str "FIGURES_bases" "0123456789ABCDEF", .int "FIGURES_reckoning" BIG, .int "SCALE" 60, .exc "NoBase", .exc "NoText", .exc "TooLong", .glo "is_whole", .glo "raise_to", .glo "ten", .glo "cut_off", .glo "fitted", .glo "need_base", .glo "worth_of", .glo "number_of", .glo "are_figures", .glo "read_number", .glo "_law_cell_at", .glo "_law_mixed", .glo "_law_draw", .glo "_law_pick", .glo "_law_ten", .glo "_law_read", .glo "_law_which", .glo "_law_ask", .glo "_law_is_good", .glo "law"]
def ex : PySem.W.Frag → Bool := fun K => excFB .NoNumber "thing" K && (excFB .NoProgram "word" K && (excMB .NoText .DeskError K && (excMB .TooLong .DeskError K && (excQB .NoText K && (excIB .NoText [.Nothing, .TooMany, .TooLong, .NoRoot, .NoExponent, .NoDivisor, .NoTree, .NoProgram, .NoText, .NoWidth, .NoBase, .NoScale, .NoNumber] K && (excQB .TooLong K && (excIB .TooLong [.Nothing, .TooMany, .TooLong, .NoRoot, .NoExponent, .NoDivisor, .NoTree, .NoProgram, .NoText, .NoWidth, .NoBase, .NoScale, .NoNumber] K)))))))
abbrev R : PySem.W.OpenRow := PySem.W.OpenLaw.row PySem.Challenge.rw_scaledesk_k11_whole_read_numbers
abbrev hk : PySem.W.Hook := He.hookX 5 fa fn [] [] ex
def ob (s : PySem.W.SharedT) : He.AlX := He.obsX 5 fa fn [] [] ex (HandSHeadRun.getT s)
theorem ob_eq (s : PySem.W.SharedT) : ob s = hk.obs s.abs := He.obsX_eq (HandSHeadRun.getT_eq s)
def loose0 : List Str := ["DeskError", "NoNumber", "NoScale", "NoBase", "NoWidth", "NoText", "NoProgram", "NoTree", "NoDivisor", "NoExponent", "NoRoot", "TooLong", "TooMany", "Nothing", "FIGURES_reckoning", "SCALE", "is_whole", "raise_to", "ten", "cut_off", "fitted", "FIGURES_bases", "need_base", "worth_of", "number_of", "are_figures", "read_number", "_law_cell_at", "_law_mixed", "_law_draw"]
def loose1 : List Str := ["_law_pick", "_law_ten", "_law_read", "_law_which", "_law_ask", "_law_is_good"]
abbrev loose : List Str := loose0 ++ loose1
theorem run (w : World) : HandSHeadRun.RunEq R (PySem.W.view R.prog [40]) hk ob 20000 loose w := by
  intro os
  kernel_rfl
theorem facts {P : Program} {w : World} {K : PySem.W.Frag} {h0 h : Heap} {mg : Str → Option Value} {f : Addr} (KX : K.In h) (G : h.Ns mainGlobals mg) (hfa : mg ("law" : Str) = some (.ref f)) (c : He.SaysX fa fn [] [] ex w h0 K) :
    ∃ fd : FuncData, (∀ (s : Shared) (v : Value), BindsTo s fd ⟨[v], []⟩ [("_law_script", v)]) ∧ ∀ base : Heap, K.In base → base.Ns mainGlobals mg → FnD P w K mg base 6 f fd ["_law_script"] gLaw := by
  have KX := KX
  obtain ⟨fd_NoNumber, F_NoNumber⟩ := c.t.d.def_ 20 (d := D_NoNumber) rfl
  have x_NoNumber : ExcF K mg .NoNumber "thing" := excF_of ((He.ba c.more).1) (He.glo_ok KX G (c.t.d.fact 0 (f := .glo "NoNumber") rfl))
  obtain ⟨fd_NoProgram, F_NoProgram⟩ := c.t.d.def_ 21 (d := D_NoProgram) rfl
  have x_NoProgram : ExcF K mg .NoProgram "word" := excF_of ((He.ba (He.ba c.more).2).1) (He.glo_ok KX G (c.t.d.fact 1 (f := .glo "NoProgram") rfl))
  have gx_DeskError : mg "DeskError" = some (.ref (xad K .DeskError)) := He.glo_ok KX G (c.t.d.fact 2 (f := .glo "DeskError") rfl)
  have gx_NoBase : mg "NoBase" = some (.ref (xad K .NoBase)) := He.glo_ok KX G (c.t.d.fact 3 (f := .glo "NoBase") rfl)
  have gx_NoDivisor : mg "NoDivisor" = some (.ref (xad K .NoDivisor)) := He.glo_ok KX G (c.t.d.fact 4 (f := .glo "NoDivisor") rfl)
  have gx_NoExponent : mg "NoExponent" = some (.ref (xad K .NoExponent)) := He.glo_ok KX G (c.t.d.fact 5 (f := .glo "NoExponent") rfl)
  have gx_NoNumber : mg "NoNumber" = some (.ref (xad K .NoNumber)) := He.glo_ok KX G (c.t.d.fact 0 (f := .glo "NoNumber") rfl)
  have gx_NoProgram : mg "NoProgram" = some (.ref (xad K .NoProgram)) := He.glo_ok KX G (c.t.d.fact 1 (f := .glo "NoProgram") rfl)
  have gx_NoRoot : mg "NoRoot" = some (.ref (xad K .NoRoot)) := He.glo_ok KX G (c.t.d.fact 6 (f := .glo "NoRoot") rfl)
  have gx_NoScale : mg "NoScale" = some (.ref (xad K .NoScale)) := He.glo_ok KX G (c.t.d.fact 7 (f := .glo "NoScale") rfl)
  have gx_NoText : mg "NoText" = some (.ref (xad K .NoText)) := He.glo_ok KX G (c.t.d.fact 8 (f := .glo "NoText") rfl)
  have gx_NoTree : mg "NoTree" = some (.ref (xad K .NoTree)) := He.glo_ok KX G (c.t.d.fact 9 (f := .glo "NoTree") rfl)
  have gx_NoWidth : mg "NoWidth" = some (.ref (xad K .NoWidth)) := He.glo_ok KX G (c.t.d.fact 10 (f := .glo "NoWidth") rfl)
  have gx_Nothing : mg "Nothing" = some (.ref (xad K .Nothing)) := He.glo_ok KX G (c.t.d.fact 11 (f := .glo "Nothing") rfl)
  have gx_TooLong : mg "TooLong" = some (.ref (xad K .TooLong)) := He.glo_ok KX G (c.t.d.fact 12 (f := .glo "TooLong") rfl)
  have gx_TooMany : mg "TooMany" = some (.ref (xad K .TooMany)) := He.glo_ok KX G (c.t.d.fact 13 (f := .glo "TooMany") rfl)
  have m_ValueError := He.free_ok KX G (c.t.d.fact 14 (f := .free "ValueError") rfl)
  have m_abs := He.free_ok KX G (c.t.d.fact 15 (f := .free "abs") rfl)
  have m_all := He.free_ok KX G (c.t.d.fact 16 (f := .free "all") rfl)
  have m_bool := He.free_ok KX G (c.t.d.fact 17 (f := .free "bool") rfl)
  have m_int := He.free_ok KX G (c.t.d.fact 18 (f := .free "int") rfl)
  have m_isinstance := He.free_ok KX G (c.t.d.fact 19 (f := .free "isinstance") rfl)
  have m_len := He.free_ok KX G (c.t.d.fact 20 (f := .free "len") rfl)
  have m_list := He.free_ok KX G (c.t.d.fact 21 (f := .free "list") rfl)
  have m_min := He.free_ok KX G (c.t.d.fact 22 (f := .free "min") rfl)
  have m_range := He.free_ok KX G (c.t.d.fact 23 (f := .free "range") rfl)
  have m_str := He.free_ok KX G (c.t.d.fact 24 (f := .free "str") rfl)
  have v_FIGURES_bases : GV K mg "FIGURES_bases" (.str (S "0123456789ABCDEF")) := gv_str KX G (c.t.d.fact 25 (f := .str "FIGURES_bases" "0123456789ABCDEF") rfl)
  have v_FIGURES_reckoning : GV K mg "FIGURES_reckoning" (.int BIG) := gv_int KX G (c.t.d.fact 26 (f := .int "FIGURES_reckoning" BIG) rfl)
  have v_SCALE : GV K mg "SCALE" (.int 60) := gv_int KX G (c.t.d.fact 27 (f := .int "SCALE" 60) rfl)
  have x_NoBase : ExcD K mg .NoBase := excD_of KX G (c.t.d.fact 28 (f := .exc "NoBase") rfl) (c.t.d.fact 3 (f := .glo "NoBase") rfl)
  have x_NoText : ExcD K mg .NoText := excD_of KX G (c.t.d.fact 29 (f := .exc "NoText") rfl) (c.t.d.fact 8 (f := .glo "NoText") rfl)
  have x_TooLong : ExcD K mg .TooLong := excD_of KX G (c.t.d.fact 30 (f := .exc "TooLong") rfl) (c.t.d.fact 12 (f := .glo "TooLong") rfl)
  have xm_DeskError : ∀ n, n ∈ ([.NoText, .TooLong] : List XN) → ExcM K n .DeskError := fun n hn => by
      simp only [List.mem_cons, List.not_mem_nil, or_false] at hn
      rcases hn with rfl | rfl
      · exact excM_of ((He.ba (He.ba (He.ba c.more).2).2).1)
      · exact excM_of ((He.ba (He.ba (He.ba (He.ba c.more).2).2).2).1)
  obtain ⟨fd_is_whole, F_is_whole⟩ := c.t.d.def_ 0 (d := D_is_whole) rfl
  have m_is_whole := He.glo_ok KX G (c.t.d.fact 31 (f := .glo "is_whole") rfl)
  obtain ⟨fd_raise_to, F_raise_to⟩ := c.t.d.def_ 1 (d := D_raise_to) rfl
  have m_raise_to := He.glo_ok KX G (c.t.d.fact 32 (f := .glo "raise_to") rfl)
  obtain ⟨fd_ten, F_ten⟩ := c.t.d.def_ 2 (d := D_ten) rfl
  have m_ten := He.glo_ok KX G (c.t.d.fact 33 (f := .glo "ten") rfl)
  obtain ⟨fd_cut_off, F_cut_off⟩ := c.t.d.def_ 3 (d := D_cut_off) rfl
  have m_cut_off := He.glo_ok KX G (c.t.d.fact 34 (f := .glo "cut_off") rfl)
  obtain ⟨fd_fitted, F_fitted⟩ := c.t.d.def_ 4 (d := D_fitted) rfl
  have m_fitted := He.glo_ok KX G (c.t.d.fact 35 (f := .glo "fitted") rfl)
  obtain ⟨fd_need_base, F_need_base⟩ := c.t.d.def_ 5 (d := D_need_base) rfl
  have m_need_base := He.glo_ok KX G (c.t.d.fact 36 (f := .glo "need_base") rfl)
  obtain ⟨fd_worth_of, F_worth_of⟩ := c.t.d.def_ 6 (d := D_worth_of) rfl
  have m_worth_of := He.glo_ok KX G (c.t.d.fact 37 (f := .glo "worth_of") rfl)
  obtain ⟨fd_number_of, F_number_of⟩ := c.t.d.def_ 7 (d := D_number_of) rfl
  have m_number_of := He.glo_ok KX G (c.t.d.fact 38 (f := .glo "number_of") rfl)
  obtain ⟨fd_are_figures, F_are_figures⟩ := c.t.d.def_ 8 (d := D_are_figures) rfl
  have m_are_figures := He.glo_ok KX G (c.t.d.fact 39 (f := .glo "are_figures") rfl)
  obtain ⟨fd_read_number, F_read_number⟩ := c.t.d.def_ 9 (d := D_read_number) rfl
  have m_read_number := He.glo_ok KX G (c.t.d.fact 40 (f := .glo "read_number") rfl)
  obtain ⟨fd_Lcell_at, F_Lcell_at⟩ := c.t.d.def_ 10 (d := D_Lcell_at) rfl
  have m_Lcell_at := He.glo_ok KX G (c.t.d.fact 41 (f := .glo "_law_cell_at") rfl)
  obtain ⟨fd_Lmixed, F_Lmixed⟩ := c.t.d.def_ 11 (d := D_Lmixed) rfl
  have m_Lmixed := He.glo_ok KX G (c.t.d.fact 42 (f := .glo "_law_mixed") rfl)
  obtain ⟨fd_Ldraw, F_Ldraw⟩ := c.t.d.def_ 12 (d := D_Ldraw) rfl
  have m_Ldraw := He.glo_ok KX G (c.t.d.fact 43 (f := .glo "_law_draw") rfl)
  obtain ⟨fd_Lpick, F_Lpick⟩ := c.t.d.def_ 13 (d := D_Lpick) rfl
  have m_Lpick := He.glo_ok KX G (c.t.d.fact 44 (f := .glo "_law_pick") rfl)
  obtain ⟨fd_Lten, F_Lten⟩ := c.t.d.def_ 14 (d := D_Lten) rfl
  have m_Lten := He.glo_ok KX G (c.t.d.fact 45 (f := .glo "_law_ten") rfl)
  obtain ⟨fd_Lread, F_Lread⟩ := c.t.d.def_ 15 (d := D_Lread) rfl
  have m_Lread := He.glo_ok KX G (c.t.d.fact 46 (f := .glo "_law_read") rfl)
  obtain ⟨fd_Lwhich, F_Lwhich⟩ := c.t.d.def_ 16 (d := D_Lwhich) rfl
  have m_Lwhich := He.glo_ok KX G (c.t.d.fact 47 (f := .glo "_law_which") rfl)
  obtain ⟨fd_Lask, F_Lask⟩ := c.t.d.def_ 17 (d := D_Lask) rfl
  have m_Lask := He.glo_ok KX G (c.t.d.fact 48 (f := .glo "_law_ask") rfl)
  obtain ⟨fd_Lis_good, F_Lis_good⟩ := c.t.d.def_ 18 (d := D_Lis_good) rfl
  have m_Lis_good := He.glo_ok KX G (c.t.d.fact 49 (f := .glo "_law_is_good") rfl)
  obtain ⟨fd_law, F_law⟩ := c.t.d.def_ 19 (d := D_law) rfl
  have e := hfa.symm.trans (He.glo_ok KX G (c.t.d.fact 50 (f := .glo "law") rfl))
  cases e
  have b := FunD.bindsA (ps := ["_law_script"]) F_law fun _ _ _ _ _ _ us hl => match us, hl with | [_], _ => rfl
  refine ⟨fd_law, fun s v => b s [v] rfl, fun base _ _ => ?_⟩
  have i_NoNumber : IniD P w K mg base .NoNumber "thing" := ini_of (st := s_NoNumber) F_NoNumber sc_NoNumber x_NoNumber (fun X hN hs => pss_one (ps_ost (pe_var (by rw [hN] <;> rfl) (by rw [hs]; exact .inl rfl)) (pe_var (by rw [hN] <;> rfl) (by rw [hs]; exact .inl rfl)))) (fun _ _ _ _ _ _ us hl => match us, hl with | [_, _], _ => rfl)
  have i_NoProgram : IniD P w K mg base .NoProgram "word" := ini_of (st := s_NoProgram) F_NoProgram sc_NoProgram x_NoProgram (fun X hN hs => pss_one (ps_ost (pe_var (by rw [hN] <;> rfl) (by rw [hs]; exact .inl rfl)) (pe_var (by rw [hN] <;> rfl) (by rw [hs]; exact .inl rfl)))) (fun _ _ _ _ _ _ us hl => match us, hl with | [_, _], _ => rfl)
  have c_is_whole := ok_is_whole (P := P) (w := w) (base := base) F_is_whole m_is_whole m_isinstance m_int m_bool
  have c_raise_to := ok_raise_to (P := P) (w := w) (base := base) F_raise_to m_raise_to m_range
  have c_ten := ok_ten (P := P) (w := w) (base := base) F_ten m_ten c_raise_to
  have c_cut_off := ok_cut_off (P := P) (w := w) (base := base) F_cut_off m_cut_off 
  have c_fitted := ok_fitted (P := P) (w := w) (base := base) F_fitted m_fitted m_abs v_FIGURES_reckoning v_SCALE x_TooLong
  have c_need_base := ok_need_base (P := P) (w := w) (base := base) F_need_base m_need_base c_is_whole x_NoBase
  have c_worth_of := ok_worth_of (P := P) (w := w) (base := base) F_worth_of m_worth_of v_FIGURES_bases
  have c_number_of := ok_number_of (P := P) (w := w) (base := base) F_number_of m_number_of c_worth_of c_ten c_fitted c_raise_to c_cut_off v_SCALE x_TooLong m_len
  have c_are_figures := ok_are_figures (P := P) (w := w) (base := base) F_are_figures m_are_figures v_FIGURES_bases m_all
  have c_read_number := ok_read_number (P := P) (w := w) (base := base) F_read_number m_read_number c_number_of m_len v_SCALE x_NoText c_are_figures m_all m_isinstance m_str c_need_base
  have c_Lcell_at := ok_Lcell_at (P := P) (w := w) (base := base) F_Lcell_at m_Lcell_at m_len m_min m_range
  have c_Lmixed := ok_Lmixed (P := P) (w := w) (base := base) F_Lmixed m_Lmixed c_Lcell_at
  have c_Ldraw := ok_Ldraw (P := P) (w := w) (base := base) F_Ldraw m_Ldraw m_len c_Lmixed
  have c_Lpick := ok_Lpick (P := P) (w := w) (base := base) F_Lpick m_Lpick m_len c_Ldraw
  have c_Lten := ok_Lten (P := P) (w := w) (base := base) F_Lten m_Lten m_int
  have c_Lread := ok_Lread (P := P) (w := w) (base := base) F_Lread m_Lread c_Lten m_len
  have e_Lwhich : ∀ n, n ∈ ([.NoText, .TooLong] : List XN) → CalE P w K mg base 1 "_law_which" n (g_Lwhich n) := fun n hn => by
      simp only [List.mem_cons, List.not_mem_nil, or_false] at hn
      rcases hn with rfl | rfl
      · exact ok_Lwhich (P := P) (w := w) (base := base) F_Lwhich m_Lwhich (excQ_of ((He.ba (He.ba (He.ba (He.ba (He.ba c.more).2).2).2).2).1)) (excI_of ((He.ba (He.ba (He.ba (He.ba (He.ba (He.ba c.more).2).2).2).2).2).1)) m_isinstance m_ValueError gx_Nothing gx_TooMany gx_TooLong gx_NoRoot gx_NoExponent gx_NoDivisor gx_NoTree gx_NoProgram gx_NoText gx_NoWidth gx_NoBase gx_NoScale gx_NoNumber
      · exact ok_Lwhich (P := P) (w := w) (base := base) F_Lwhich m_Lwhich (excQ_of ((He.ba (He.ba (He.ba (He.ba (He.ba (He.ba (He.ba c.more).2).2).2).2).2).2).1)) (excI_of ((He.ba (He.ba (He.ba (He.ba (He.ba (He.ba (He.ba c.more).2).2).2).2).2).2).2)) m_isinstance m_ValueError gx_Nothing gx_TooMany gx_TooLong gx_NoRoot gx_NoExponent gx_NoDivisor gx_NoTree gx_NoProgram gx_NoText gx_NoWidth gx_NoBase gx_NoScale gx_NoNumber
  have c_Lask := ok_Lask (P := P) (w := w) (base := base) F_Lask m_Lask c_read_number e_Lwhich xm_DeskError gx_DeskError
  have c_Lis_good := ok_Lis_good (P := P) (w := w) (base := base) F_Lis_good m_Lis_good m_len
  exact ok_law F_law c_Lask c_Lis_good c_Lread c_Ldraw c_Lpick m_len m_range m_list
end Desk
open PySem PySem.W PySem.Calls PyProof.Rows
set_option maxHeartbeats 0 in
theorem PySem.Challenge.cw_scaledesk_k11_whole_read_numbers_holds : PySem.Challenge.rw_scaledesk_k11_whole_read_numbers.Holds := by
  w_on; o_law
  refine HandSHeadRun.head_any (r := OpenLaw.row PySem.Challenge.rw_scaledesk_k11_whole_read_numbers) (q := view (OpenLaw.row PySem.Challenge.rw_scaledesk_k11_whole_read_numbers).prog [40]) (H := Desk.hk) (ob := Desk.ob) (M := 20000) (loose := Desk.loose) (d := HandSHeadRun.topDef (OpenLaw.row PySem.Challenge.rw_scaledesk_k11_whole_read_numbers).prog 40) (kwd := []) Desk.ob_eq
    (by kernel_rfl) (fun s => by kernel_rfl) Desk.run (by kernel_rfl) (by kernel_rfl) (by kernel_rfl) (by rfl) (by first | assumption | decide +kernel) (by decide +kernel) ⟨rfl, rfl, rfl, rfl, rfl, by decide +kernel⟩ ?hw ?hc
  case hw => w_witness2
  case hc =>
    refine DD.walk_D (l := PySem.Challenge.rw_scaledesk_k11_whole_read_numbers) (k := 6) (x := "_law_script") rfl (by kernel_rfl) ⟨rfl, by decide, by decide⟩ ?F
    intro w mg fa h Y G hmg0
    obtain ⟨K, KX, c⟩ := Y
    have hmg : mg ("law" : PySem.Str) = some (.ref fa) := by
      have e : (HandSHeadRun.topDef (OpenLaw.row PySem.Challenge.rw_scaledesk_k11_whole_read_numbers).prog 40).name = ("law" : PySem.Str) := by kernel_rfl
      rw [← e]
      exact hmg0
    obtain ⟨fd, hb, hF⟩ := Desk.facts (P := (PySem.Challenge.rw_scaledesk_k11_whole_read_numbers).prog) (w := w) KX G hmg c
    exact ⟨K, fd, KX, hb, hF⟩
#print axioms PySem.Challenge.cw_scaledesk_k11_whole_read_numbers_holds
