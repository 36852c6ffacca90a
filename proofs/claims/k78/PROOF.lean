import PyProof.Rows.All
import Wide.All
import OpenK.AllK
import Wide.FinOn
import HandS.CallSlots
import HandS.Conv
import HandS.Deep
import HandS.Dict
import HandS.Ends
import HandS.ExcInit
import HandS.ExcOwn
import HandS.ExcValue
import HandS.Flow
import HandS.ForExc
import HandS.ForMost
import HandS.IsInst
import HandS.ListItems
import HandS.More
import HandS.RaiseMore
import HandS.Replace
import HandS.SetFor
import HandS.Small
import HandS.Sort
import HandS.SortInts
import HandS.StrMore
import HandS.Strs
import HandS.Style
import HandS.Text
import HandS.TryOnly
import HandS.TupAny
import HandS.TupLe
import HandS.Walk
import HandS.Wide
import HandS.Zip
import KE.BitLaws
import KE.DataFind
import KE.DataMinMax
import KE.GoesMore
import KE.IntTextLaws
import KE.KDictLaw
import KE.KDictPairs
import KE.KDictZip
import KE.KEqNest
import KE.KExcIs
import KE.KItemsList
import KE.SortData
import PyProof.CallStr
import PyProof.ListIndex
import PyProof.ReprLen
import PyProof.ReprRoads
import PyProof.Rows.IntBool
import PyProof.Rows.StrCase
import PyProof.Rows.StrCut
import PyProof.Rows.StrFit
import PyProof.StrBlock2
import PySem.Challenge.RW_oddlong_k78_forms_refused
set_option Elab.async false
set_option linter.all false
set_option maxRecDepth 100000
set_option maxHeartbeats 4000000
namespace Od
open PySem PySem.Spec L2
open PyProof.Rows hiding St
/-! ### data -/
abbrev Tx := List Nat
def sT (s : Tx) : Str := ⟨s.toArray⟩
theorem sT_inj {a b : Tx} (h : sT a = sT b) : a = b := by
  have := congrArg (fun s : Str => s.cps.toList) h
  simpa [sT] using this
theorem sT_cps (a : Tx) : (sT a).cps.toList = a := by simp [sT]
theorem sT_len (a : Tx) : (sT a).length = a.length := by simp [sT, Str.length]
theorem sT_of (x : Str) : sT x.cps.toList = x := by cases x; simp [sT]
theorem sT_app (a b : Tx) : sT a ++ sT b = sT (a ++ b) := by
  show Str.append _ _ = _
  simp [sT, Str.append]
abbrev DK := Sum Int Tx
def kK : DK → Key
  | .inl i => .inl i
  | .inr s => .inr (sT s)
theorem kK_inj {a b : DK} (h : kK a = kK b) : a = b := by
  cases a <;> cases b <;> simp [kK] at h
  · rw [h]
  · rw [sT_inj h]
inductive D where
  | non | bl (b : Bool) | int (i : Int) | str (s : Tx) | tup (xs : List D) | lst (xs : List D) | rol (xs : List D) | dct (ks : List DK) (vs : List D) | exn (c : Tx) (ks : List Tx) (vs : List D) | obj (c : Tx) (ks : List Tx) (vs : List D)
  -- a tuple whose object is known to the letter (made by tuple(..); what dict(..) of a tuple asks)
  | fn (xs : List D)
/-- an exception object of the class c, its dict at d -/
def ExnO (a : Addr) (c : Value) (d : Option Addr) : HO := .ext fun h => ∃ (oe : Obj) (us : Array Value), h.get? a = some oe ∧ Zc c d oe ∧ oe.data = .fields us
/-- what the program's top calls x -/
def Top (K : PySem.W.Frag) (x : Tx) (a : Addr) : Prop := PySem.W.nsIn K mainGlobals (sT x) = some (some (.ref a))
section
variable (K : PySem.W.Frag) (P : Hp)
mutual
def Den : D → V → Prop
  | .non, v => v = .non
  | .bl b, v => v = .bl b
  | .int i, v => v = .int i
  | .str s, v => v = .str (sT s)
  | .tup ds, v => ∃ a vs, v = .ref a ∧ SqT K P a vs ∧ DenL ds vs
  | .lst ds, v => ∃ a vs, v = .ref a ∧ P a = some (.lst vs) ∧ DenL ds vs
  | .rol ds, v => ∃ a vs, v = .ref a ∧ SqL K P a vs ∧ DenL ds vs
  | .dct ks ds, v => ∃ a ws, v = .ref a ∧ P a = some (.dK ws) ∧ ws.map Prod.fst = ks.map kK ∧ DenL ds (ws.map Prod.snd)
  | .exn c ks ds, v => ∃ a C d ws, v = .ref a ∧ Top K c C ∧ P a = some (ExnO a (.ref C) d) ∧ ws.map Prod.fst = ks.map sT ∧ ((d = none ∧ ws = []) ∨ ∃ dd, d = some dd ∧ P dd = some (.xd ws)) ∧ DenL ds (ws.map Prod.snd)
  | .obj c ks ds, v => ∃ a C dx ws, v = .ref a ∧ Top K c C ∧ P a = some (.ins C dx ws) ∧ ws.map Prod.fst = ks.map sT ∧ DenL ds (ws.map Prod.snd)
  | .fn ds, v => ∃ a vs, v = .ref a ∧ (∃ o, P a = some (.frz o (.tup vs)) ∧ o.dict = none) ∧ DenL ds vs
def DenL : List D → List V → Prop
  | [], vs => vs = []
  | d :: ds, vs => ∃ v r, vs = v :: r ∧ Den d v ∧ DenL ds r
end
end
/-- what a variable holds: shared data, or an object that it alone owns -/
inductive T1 where
  | sh (d : D) | lst (ds : List D) | dct (ks : List DK) (vs : List D)
inductive T where
  | sh (d : D) | lst (ds : List D) | dct (ks : List DK) (vs : List D) | rcd (fs : List (Tx × T1)) | ins (C : Tx) (fs : List (Tx × T1)) | seq (b : Bool) (ts : List T1)
abbrev Env := List (Option T)
structure Exn where
  cls : Tx
  fs : List (Tx × D)
inductive Res (α : Type) where
  | ok (a : α) | exc (x : Exn) (ρ : Env) | fail
def Res.bind {α β : Type} : Res α → (α → Res β) → Res β
  | .ok a, f => f a
  | .exc x ρ, _ => .exc x ρ
  | .fail, _ => .fail
instance : Monad Res where
  pure := .ok
  bind := Res.bind
theorem ok_bind {α β : Type} (a : α) (f : α → Res β) : (Res.ok a >>= f) = f a := rfl
def Res.of {α : Type} : Option α → Res α
  | some a => .ok a
  | none => .fail
/-! ### the heap behind -/
def sqO (b : Bool) (vs : List V) : HO := if b then .tup vs else .lst vs
/-- who owns an address: a slot (none: the value in hand), a field -/
abbrev Own := Addr → Option (Option Nat × Option Tx)
section
variable (K : PySem.W.Frag) (mg : Str → Option Value) (P : Hp) (W : Own) (H : Hp) (r : Option Nat)
def R1 (f : Option Tx) : T1 → V → Prop
  | .sh d, v => Den K P d v
  | .lst ds, v => ∃ a vs, v = .ref a ∧ W a = some (r, f) ∧ H a = some (.lst vs) ∧ DenL K P ds vs
  | .dct ks ds, v => ∃ a ws, v = .ref a ∧ W a = some (r, f) ∧ H a = some (.dK ws) ∧ ws.map Prod.fst = ks.map kK ∧ DenL K P ds (ws.map Prod.snd)
def RF : List (Tx × T1) → List (Str × V) → Prop
  | [], ws => ws = []
  | (k, t) :: fs, ws => ∃ v w, ws = (sT k, v) :: w ∧ R1 K P W H r (some k) t v ∧ RF fs w
def RI : Nat → List T1 → List V → Prop
  | _, [], vs => vs = []
  | n, t :: ts, vs => ∃ v w, vs = v :: w ∧ R1 K P W H r (some [n]) t v ∧ RI (n + 1) ts w
def RT : T → V → Prop
  | .sh d, v => Den K P d v
  | .lst ds, v => R1 K P W H r none (.lst ds) v
  | .dct ks ds, v => R1 K P W H r none (.dct ks ds) v
  | .rcd fs, v => ∃ a ws, v = .ref a ∧ W a = some (r, none) ∧ H a = some (.dK (ws.map fun p => (.inr p.1, p.2))) ∧ (fs.map Prod.fst).Nodup ∧ RF K P W H r fs ws
  | .ins C fs, v => ∃ a c dx ws, v = .ref a ∧ W a = some (r, none) ∧ (mg (sT C) = some (.ref c) ∧ Top K C c) ∧ H a = some (.ins c dx ws) ∧ (fs.map Prod.fst).Nodup ∧ RF K P W H r fs ws
  | .seq b ts, v => ∃ a vs, v = .ref a ∧ W a = some (r, none) ∧ H a = some (sqO b vs) ∧ RI K P W H r 0 ts vs
end
structure Wd (K : PySem.W.Frag) (mg : Str → Option Value) (P : Hp) (W : Own) (H : Hp) (σ : St) (ρ : Env) : Prop where
  same : Same P H
  own : ∀ a r, W a = some r → P a = none ∧ ∃ o, H a = some o
  env : ∀ (i : Nat) (t : T), ρ[i]? = some (some t) → ∃ v, σ[i]? = some (some v) ∧ RT K mg P W H (some i) t v
  len : ρ.length ≤ σ.length
def Step (P : Hp) (W : Own) (H P' : Hp) (W' : Own) (H' : Hp) : Prop := Same P P' ∧ ∀ a o, H a = some o → W a = none → H' a = some o ∧ W' a = none ∧ P' a = P a
/-- only new objects -/
def Al (P H P' H' : Hp) : Prop := Same H H' ∧ Same P P' ∧ Same P' H' ∧ ∀ a o, H a = some o → P' a = P a
theorem same_refl (H : Hp) : Same H H := fun _ _ h => h
theorem same_trans {A B C : Hp} (h : Same A B) (g : Same B C) : Same A C := fun a o e => g a o (h a o e)
theorem same_none {A B : Hp} (h : Same A B) {a : Addr} (e : B a = none) : A a = none := by
  cases q : A a with
  | none => rfl
  | some o => rw [h a o q] at e; cases e
theorem Step.refl (P : Hp) (W : Own) (H : Hp) : Step P W H P W H := ⟨same_refl P, fun _ _ h w => ⟨h, w, rfl⟩⟩
theorem Step.trans {P P1 P2 H H1 H2 : Hp} {W W1 W2 : Own} (a : Step P W H P1 W1 H1) (b : Step P1 W1 H1 P2 W2 H2) : Step P W H P2 W2 H2 :=
  ⟨same_trans a.1 b.1, fun x o h w => by
    obtain ⟨h1, w1, p1⟩ := a.2 x o h w
    obtain ⟨h2, w2, p2⟩ := b.2 x o h1 w1
    exact ⟨h2, w2, p2.trans p1⟩⟩
theorem Al.refl {P H : Hp} (h : Same P H) : Al P H P H := ⟨same_refl H, same_refl P, h, fun _ _ _ => rfl⟩
theorem Al.trans {P P1 P2 H H1 H2 : Hp} (a : Al P H P1 H1) (b : Al P1 H1 P2 H2) : Al P H P2 H2 :=
  ⟨same_trans a.1 b.1, same_trans a.2.1 b.2.1, b.2.2.1, fun x o h => (b.2.2.2 x o (a.1 x o h)).trans (a.2.2.2 x o h)⟩
theorem Al.step {P P1 H H1 : Hp} (a : Al P H P1 H1) (W : Own) : Step P W H P1 W H1 := ⟨a.2.1, fun x o h w => ⟨a.1 x o h, w, a.2.2.2 x o h⟩⟩
/-- a new object, put into the shared part -/
theorem Al.new {P H : Hp} {p : Addr} {o : HO} (s : Same P H) (n : H p = none) : Al P H (upd P p o) (upd H p o) := by
  refine ⟨fun a u e => ?_, fun a u e => ?_, fun a u e => ?_, fun a u e => ?_⟩
  · rw [upd_ne (ne_of_none e n)]; exact e
  · rw [upd_ne (ne_of_none e (same_none s n))]; exact e
  · by_cases h : a = p
    · subst h; rw [upd_same] at e ⊢; exact e
    · rw [upd_ne h] at e ⊢; exact s a u e
  · rw [upd_ne (ne_of_none e n)]
/-- a new object that nobody knows -/
theorem Al.newH {P H : Hp} {p : Addr} {o : HO} (s : Same P H) (n : H p = none) : Al P H P (upd H p o) := by
  refine ⟨fun a u e => ?_, same_refl P, fun a u e => ?_, fun a u e => rfl⟩
  · rw [upd_ne (ne_of_none e n)]; exact e
  · rw [upd_ne (ne_of_none e (same_none s n))]; exact s a u e
section
variable {K : PySem.W.Frag} {mg : Str → Option Value} {P P' H H' : Hp} {W W' : Own} {σ : St} {ρ : Env}
theorem same_rd {a : Addr} {u : HO} (s : Same P P') (h : Rd P a u) : Rd P' a u := by
  rcases h with h | ⟨o, h⟩
  · exact .inl (s a _ h)
  · exact .inr ⟨o, s a _ h⟩
theorem same_l {a : Addr} {xs : List V} (s : Same P P') (h : SqL K P a xs) : SqL K P' a xs := by
  rcases h with h | h
  · exact .inl (same_rd s h)
  · exact .inr h
theorem same_t {a : Addr} {xs : List V} (s : Same P P') (h : SqT K P a xs) : SqT K P' a xs := by
  rcases h with h | h
  · exact .inl (same_rd s h)
  · exact .inr h
mutual
theorem Den.mono (s : Same P P') : ∀ (d : D) (v : V), Den K P d v → Den K P' d v
  | .non, v, h => h
  | .bl b, v, h => h
  | .int i, v, h => h
  | .str x, v, h => h
  | .tup ds, v, h => by
    unfold Den at h ⊢
    obtain ⟨a, vs, e, q, l⟩ := h
    exact ⟨a, vs, e, same_t s q, DenL.mono s ds vs l⟩
  | .lst ds, v, h => by
    unfold Den at h ⊢
    obtain ⟨a, vs, e, q, l⟩ := h
    exact ⟨a, vs, e, s a _ q, DenL.mono s ds vs l⟩
  | .rol ds, v, h => by
    unfold Den at h ⊢
    obtain ⟨a, vs, e, q, l⟩ := h
    exact ⟨a, vs, e, same_l s q, DenL.mono s ds vs l⟩
  | .dct ks ds, v, h => by
    unfold Den at h ⊢
    obtain ⟨a, ws, e, q, k, l⟩ := h
    exact ⟨a, ws, e, s a _ q, k, DenL.mono s ds _ l⟩
  | .exn c ks ds, v, h => by
    unfold Den at h ⊢
    obtain ⟨a, C, d, ws, e, t, q, k, m, l⟩ := h
    exact ⟨a, C, d, ws, e, t, s a _ q, k, m.imp id fun ⟨dd, e, q⟩ => ⟨dd, e, s dd _ q⟩, DenL.mono s ds _ l⟩
  | .obj c ks ds, v, h => by
    unfold Den at h ⊢
    obtain ⟨a, C, dx, ws, e, t, q, k, l⟩ := h
    exact ⟨a, C, dx, ws, e, t, s a _ q, k, DenL.mono s ds _ l⟩
  | .fn ds, v, h => by
    unfold Den at h ⊢
    obtain ⟨a, vs, e, ⟨o, q, n⟩, l⟩ := h
    exact ⟨a, vs, e, ⟨o, s a _ q, n⟩, DenL.mono s ds vs l⟩
theorem DenL.mono (s : Same P P') : ∀ (ds : List D) (vs : List V), DenL K P ds vs → DenL K P' ds vs
  | [], vs, h => h
  | d :: ds, vs, h => by
    unfold DenL at h ⊢
    obtain ⟨v, r, e, h1, h2⟩ := h
    exact ⟨v, r, e, Den.mono s d v h1, DenL.mono s ds r h2⟩
end
theorem DenL.len : ∀ {ds : List D} {vs : List V}, DenL K P ds vs → vs.length = ds.length
  | [], vs, h => by unfold DenL at h; subst h; rfl
  | d :: ds, vs, h => by
    unfold DenL at h
    obtain ⟨v, r, e, h1, h2⟩ := h
    subst e
    simp [h2.len]
theorem DenL.get : ∀ {ds : List D} {vs : List V} {i : Nat} {d : D}, DenL K P ds vs → ds[i]? = some d → ∃ v, vs[i]? = some v ∧ Den K P d v
  | [], vs, i, d, h, e => by simp at e
  | d0 :: ds, vs, i, d, h, e => by
    unfold DenL at h
    obtain ⟨v, r, rfl, h1, h2⟩ := h
    cases i with
    | zero => simp at e; subst e; exact ⟨v, rfl, h1⟩
    | succ i => exact h2.get (by simpa using e)
theorem DenL.get' : ∀ {ds : List D} {vs : List V} {i : Nat} {v : V}, DenL K P ds vs → vs[i]? = some v → ∃ d, ds[i]? = some d ∧ Den K P d v
  | [], vs, i, d, h, e => by unfold DenL at h; subst h; simp at e
  | d0 :: ds, vs, i, d, h, e => by
    unfold DenL at h
    obtain ⟨v, r, rfl, h1, h2⟩ := h
    cases i with
    | zero => simp at e; subst e; exact ⟨d0, rfl, h1⟩
    | succ i => exact h2.get' (by simpa using e)
theorem DenL.nil : DenL K P [] [] := by unfold DenL; rfl
theorem DenL.cons {d : D} {ds : List D} {v : V} {vs : List V} (h : Den K P d v) (t : DenL K P ds vs) : DenL K P (d :: ds) (v :: vs) := by
  unfold DenL; exact ⟨v, vs, rfl, h, t⟩
theorem DenL.append : ∀ {ds es : List D} {vs ws : List V}, DenL K P ds vs → DenL K P es ws → DenL K P (ds ++ es) (vs ++ ws)
  | [], es, vs, ws, h, g => by unfold DenL at h; subst h; exact g
  | d :: ds, es, vs, ws, h, g => by
    unfold DenL at h
    obtain ⟨v, r, rfl, h1, h2⟩ := h
    exact DenL.cons h1 (DenL.append h2 g)
theorem DenL.take : ∀ {ds : List D} {vs : List V} (n : Nat), DenL K P ds vs → DenL K P (ds.take n) (vs.take n)
  | [], vs, n, h => by unfold DenL at h; subst h; simpa using DenL.nil
  | d :: ds, vs, n, h => by
    unfold DenL at h
    obtain ⟨v, r, rfl, h1, h2⟩ := h
    cases n with
    | zero => exact DenL.nil
    | succ n => exact DenL.cons h1 (DenL.take n h2)
theorem DenL.drop : ∀ {ds : List D} {vs : List V} (n : Nat), DenL K P ds vs → DenL K P (ds.drop n) (vs.drop n)
  | [], vs, n, h => by unfold DenL at h; subst h; simpa using DenL.nil
  | d :: ds, vs, n, h => by
    unfold DenL at h
    obtain ⟨v, r, rfl, h1, h2⟩ := h
    cases n with
    | zero => exact DenL.cons h1 h2
    | succ n => exact DenL.drop n h2
theorem DenL.reverse : ∀ {ds : List D} {vs : List V}, DenL K P ds vs → DenL K P ds.reverse vs.reverse
  | [], vs, h => by unfold DenL at h; subst h; exact DenL.nil
  | d :: ds, vs, h => by
    unfold DenL at h
    obtain ⟨v, r, rfl, h1, h2⟩ := h
    simp only [List.reverse_cons]
    exact DenL.append (DenL.reverse h2) (DenL.cons h1 DenL.nil)
theorem DenL.set : ∀ {ds : List D} {vs : List V} {d : D} {v : V} (i : Nat), DenL K P ds vs → Den K P d v → DenL K P (ds.set i d) (vs.set i v)
  | [], vs, d, v, i, h, g => by unfold DenL at h; subst h; simpa using DenL.nil
  | d0 :: ds, vs, d, v, i, h, g => by
    unfold DenL at h
    obtain ⟨v0, r, rfl, h1, h2⟩ := h
    cases i with
    | zero => exact DenL.cons g h2
    | succ i => exact DenL.cons h1 (DenL.set i h2 g)
theorem DenL.ints : ∀ {ns : List Int} {vs : List V}, DenL K P (ns.map D.int) vs → vs = ns.map V.int
  | [], vs, h => by simpa [DenL] using h
  | n :: ns, vs, h => by
    simp only [List.map_cons] at h
    unfold DenL at h
    obtain ⟨v, r, rfl, h1, h2⟩ := h
    unfold Den at h1
    rw [h1, h2.ints]; rfl
theorem DenL.strs : ∀ {ns : List Tx} {vs : List V}, DenL K P (ns.map D.str) vs → vs = (ns.map sT).map V.str
  | [], vs, h => by simpa [DenL] using h
  | n :: ns, vs, h => by
    simp only [List.map_cons] at h
    unfold DenL at h
    obtain ⟨v, r, rfl, h1, h2⟩ := h
    unfold Den at h1
    rw [h1, h2.strs]; rfl
theorem DenL.of_ints : ∀ (ns : List Int), DenL K P (ns.map D.int) (ns.map V.int)
  | [] => DenL.nil
  | n :: ns => DenL.cons (by unfold Den; rfl) (DenL.of_ints ns)
theorem R1.mono {r r' : Option Nat} {f : Option Tx} (s : Same P P') (w : ∀ a, W a = some (r, f) → W' a = some (r', f) ∧ ∀ o, H a = some o → H' a = some o) : ∀ (t : T1) (v : V), R1 K P W H r f t v → R1 K P' W' H' r' f t v
  | .sh d, v, h => Den.mono s d v h
  | .lst ds, v, h => by
    obtain ⟨a, vs, e, hw, hh, l⟩ := h
    exact ⟨a, vs, e, (w a hw).1, (w a hw).2 _ hh, DenL.mono s ds vs l⟩
  | .dct ks ds, v, h => by
    obtain ⟨a, ws, e, hw, hh, k, l⟩ := h
    exact ⟨a, ws, e, (w a hw).1, (w a hw).2 _ hh, k, DenL.mono s ds _ l⟩
theorem RF.mono {r r' : Option Nat} (s : Same P P') (w : ∀ f a, W a = some (r, some f) → W' a = some (r', some f) ∧ ∀ o, H a = some o → H' a = some o) : ∀ (fs : List (Tx × T1)) (ws : List (Str × V)), RF K P W H r fs ws → RF K P' W' H' r' fs ws
  | [], ws, h => h
  | (k, t) :: fs, ws, h => by
    obtain ⟨v, q, e, h1, h2⟩ := h
    exact ⟨v, q, e, R1.mono s (w k) t v h1, RF.mono s w fs q h2⟩
theorem RI.mono {r r' : Option Nat} (s : Same P P') (w : ∀ f a, W a = some (r, some f) → W' a = some (r', some f) ∧ ∀ o, H a = some o → H' a = some o) : ∀ (n : Nat) (ts : List T1) (vs : List V), RI K P W H r n ts vs → RI K P' W' H' r' n ts vs
  | _, [], vs, h => h
  | n, t :: ts, vs, h => by
    obtain ⟨v, q, e, h1, h2⟩ := h
    exact ⟨v, q, e, R1.mono s (w [n]) t v h1, RI.mono s w (n + 1) ts q h2⟩
theorem RT.mono {r r' : Option Nat} (s : Same P P') (w : ∀ f a, W a = some (r, f) → W' a = some (r', f) ∧ ∀ o, H a = some o → H' a = some o) : ∀ (t : T) (v : V), RT K mg P W H r t v → RT K mg P' W' H' r' t v
  | .sh d, v, h => Den.mono s d v h
  | .lst ds, v, h => R1.mono s (w none) (.lst ds) v h
  | .dct ks ds, v, h => R1.mono s (w none) (.dct ks ds) v h
  | .rcd fs, v, h => by
    obtain ⟨a, ws, e, hw, hh, nd, l⟩ := h
    exact ⟨a, ws, e, (w none a hw).1, (w none a hw).2 _ hh, nd, RF.mono s (fun f => w (some f)) fs ws l⟩
  | .ins C fs, v, h => by
    obtain ⟨a, c, dx, ws, e, hw, hc, hh, nd, l⟩ := h
    exact ⟨a, c, dx, ws, e, (w none a hw).1, hc, (w none a hw).2 _ hh, nd, RF.mono s (fun f => w (some f)) fs ws l⟩
  | .seq b ts, v, h => by
    obtain ⟨a, vs, e, hw, hh, l⟩ := h
    exact ⟨a, vs, e, (w none a hw).1, (w none a hw).2 _ hh, RI.mono s (fun f => w (some f)) 0 ts vs l⟩
theorem Wd.al (w : Wd K mg P W H σ ρ) (a : Al P H P' H') : Wd K mg P' W H' σ ρ := by
  refine ⟨a.2.2.1, fun x r e => ?_, fun i t e => ?_, w.len⟩
  · obtain ⟨p, o, h⟩ := w.own x r e
    exact ⟨(a.2.2.2 x o h).trans p, o, a.1 x o h⟩
  · obtain ⟨v, hs, hr⟩ := w.env i t e
    exact ⟨v, hs, RT.mono a.2.1 (fun f x e => ⟨e, fun o h => a.1 x o h⟩) t v hr⟩
end
/-! ### what code gives -/
section
variable (K : PySem.W.Frag) (mg : Str → Option Value)
def XR (P H : Hp) (x : Exn) (c : Value) (od : Option Addr) : Prop :=
  ∃ C, mg (sT x.cls) = some (.ref C) ∧ c = .ref C ∧
    ((x.fs = [] ∧ od = none) ∨ ∃ (k : Tx) (d : D) (a : Addr) (v : V), x.fs = [(k, d)] ∧ od = some a ∧ H a = some (.xd [(sT k, v)]) ∧ P a = some (.xd [(sT k, v)]) ∧ Den K P d v)
variable {α β : Type} (E : WX) (Rel : Hp → Own → Hp → St → α → β → Prop)
def Go (r : Res α) (P : Hp) (W : Own) (H : Hp) (σ : St) (Q : β → Hp → Prop) : Prop :=
  match r with
  | .ok a => ∀ v P' W' H', Step P W H P' W' H' → Rel P' W' H' σ a v → Q v H'
  | .exc x ρ' => ∀ c od P' W' H', Step P W H P' W' H' → Wd K mg P' W' H' σ ρ' → XR K mg P' H' x c od → E c od σ H'
  | .fail => False
def rX (F : Env → Res α) : St → Hp → (β → Hp → Prop) → Prop := fun σ H Q => ∃ P W ρ, Wd K mg P W H σ ρ ∧ Go K mg E Rel (F ρ) P W H σ Q
end
section
variable {K : PySem.W.Frag} {mg : Str → Option Value} {α β γ δ : Type} {E : WX} {Rel : Hp → Own → Hp → St → α → γ → Prop} {Rel' : Hp → Own → Hp → St → β → δ → Prop} {P P' H H' : Hp} {W W' : Own} {σ : St} {ρ : Env} {Q Q' : γ → Hp → Prop} {R : δ → Hp → Prop}
theorem Go.mono {r : Res α} (h : Go K mg E Rel r P W H σ Q) (q : ∀ v H', Q v H' → Q' v H') : Go K mg E Rel r P W H σ Q' := by
  cases r with
  | ok a => exact fun v P' W' H' s r => q v H' (h v P' W' H' s r)
  | exc x ρ' => exact h
  | fail => exact h
theorem Go.step {r : Res α} (s : Step P W H P' W' H') (h : Go K mg E Rel r P W H σ Q) : Go K mg E Rel r P' W' H' σ Q := by
  cases r with
  | ok a => exact fun v P2 W2 H2 s2 r => h v P2 W2 H2 (s.trans s2) r
  | exc x ρ' => exact fun c od P2 W2 H2 s2 => h c od P2 W2 H2 (s.trans s2)
  | fail => exact h
theorem Go.bind {r : Res α} {g : α → Res β} (h : Go K mg E Rel' (r >>= g) P W H σ R) :
    Go K mg E Rel r P W H σ (fun v1 H1 => ∃ P1 W1 a, Step P W H P1 W1 H1 ∧ Rel P1 W1 H1 σ a v1 ∧ Go K mg E Rel' (g a) P1 W1 H1 σ R) := by
  cases r with
  | ok a => exact fun v P1 W1 H1 s rel => ⟨P1, W1, a, s, rel, Go.step s h⟩
  | exc x ρ' => exact h
  | fail => exact h
end
/-- results: shared data; an object in hand; a place that is read later -/
inductive Hd where
  | val (d : D) | slot (i : Nat)
section
variable (K : PySem.W.Frag) (mg : Str → Option Value)
def VRel (P : Hp) (W : Own) (H : Hp) (σ : St) (a : D × Env) (v : V) : Prop := Wd K mg P W H σ a.2 ∧ Den K P a.1 v
def TRel (P : Hp) (W : Own) (H : Hp) (σ : St) (a : T × Env) (v : V) : Prop := Wd K mg P W H σ a.2 ∧ RT K mg P W H none a.1 v
def Hok (P : Hp) (σ : St) : Hd → V → Prop
  | .val d, v => Den K P d v
  | .slot i, v => σ[i]? = some (some v)
def HRel (P : Hp) (W : Own) (H : Hp) (σ : St) (a : Hd × Env) (v : V) : Prop := Wd K mg P W H σ a.2 ∧ Hok K P σ a.1 v
end
abbrev EM := Env → Res (D × Env)
abbrev OM := Env → Res (T × Env)
abbrev HM := Env → Res (Hd × Env)
abbrev BM := Env → Res (Bool × Env)
def EV (X : Cx) (E : WX) (e : Expr) (F : EM) : Prop := PE X e (rX X.K X.mg E (VRel X.K X.mg) F)
def ET (X : Cx) (E : WX) (e : Expr) (F : OM) : Prop := PE X e (rX X.K X.mg E (TRel X.K X.mg) F)
def EH (X : Cx) (E : WX) (e : Expr) (F : HM) : Prop := PE X e (rX X.K X.mg E (HRel X.K X.mg) F)
/-- a test -/
def GoB (K : PySem.W.Frag) (mg : Str → Option Value) (E : WX) (r : Res (Bool × Env)) (P : Hp) (W : Own) (H : Hp) (σ : St) (Q : Bool → Hp → Prop) : Prop :=
  match r with
  | .ok (b, ρ') => ∀ P' W' H', Step P W H P' W' H' → Wd K mg P' W' H' σ ρ' → Q b H'
  | .exc x ρ' => ∀ c od P' W' H', Step P W H P' W' H' → Wd K mg P' W' H' σ ρ' → XR K mg P' H' x c od → E c od σ H'
  | .fail => False
def rB (K : PySem.W.Frag) (mg : Str → Option Value) (E : WX) (F : BM) : TT := fun σ H Q => ∃ P W ρ, Wd K mg P W H σ ρ ∧ GoB K mg E (F ρ) P W H σ Q
def EB (X : Cx) (E : WX) (e : Expr) (F : BM) : Prop := PT X e (rB X.K X.mg E F)
section
variable {K : PySem.W.Frag} {mg : Str → Option Value} {α γ : Type} {E : WX} {Rel : Hp → Own → Hp → St → α → γ → Prop} {P P' H H' : Hp} {W W' : Own} {σ : St} {ρ : Env} {Q Q' : Bool → Hp → Prop} {QV : γ → Hp → Prop}
theorem GoB.mono {r : Res (Bool × Env)} (h : GoB K mg E r P W H σ Q) (q : ∀ v H', Q v H' → Q' v H') : GoB K mg E r P W H σ Q' := by
  cases r with
  | ok a => exact fun P' W' H' s r => q a.1 H' (h P' W' H' s r)
  | exc x ρ' => exact h
  | fail => exact h
theorem GoB.step {r : Res (Bool × Env)} (s : Step P W H P' W' H') (h : GoB K mg E r P W H σ Q) : GoB K mg E r P' W' H' σ Q := by
  cases r with
  | ok a => exact fun P2 W2 H2 s2 r => h P2 W2 H2 (s.trans s2) r
  | exc x ρ' => exact fun c od P2 W2 H2 s2 => h c od P2 W2 H2 (s.trans s2)
  | fail => exact h
/-- a value, then a test -/
theorem Go.bindB {r : Res α} {g : α → Res (Bool × Env)} (h : GoB K mg E (r >>= g) P W H σ Q) :
    Go K mg E Rel r P W H σ (fun v1 H1 => ∃ P1 W1 a, Step P W H P1 W1 H1 ∧ Rel P1 W1 H1 σ a v1 ∧ GoB K mg E (g a) P1 W1 H1 σ Q) := by
  cases r with
  | ok a => exact fun v P1 W1 H1 s rel => ⟨P1, W1, a, s, rel, GoB.step s h⟩
  | exc x ρ' => exact h
  | fail => exact h
/-- a test, then a value -/
theorem GoB.bind {r : Res (Bool × Env)} {g : Bool × Env → Res α} (h : Go K mg E Rel (r >>= g) P W H σ QV) :
    GoB K mg E r P W H σ (fun b H1 => ∃ P1 W1 ρ1, Step P W H P1 W1 H1 ∧ Wd K mg P1 W1 H1 σ ρ1 ∧ Go K mg E Rel (g (b, ρ1)) P1 W1 H1 σ QV) := by
  cases r with
  | ok a => exact fun P1 W1 H1 s wd => ⟨P1, W1, a.2, s, wd, Go.step s h⟩
  | exc x ρ' => exact h
  | fail => exact h
theorem GoB.bindB {r : Res (Bool × Env)} {g : Bool × Env → Res (Bool × Env)} (h : GoB K mg E (r >>= g) P W H σ Q) :
    GoB K mg E r P W H σ (fun b H1 => ∃ P1 W1 ρ1, Step P W H P1 W1 H1 ∧ Wd K mg P1 W1 H1 σ ρ1 ∧ GoB K mg E (g (b, ρ1)) P1 W1 H1 σ Q) := by
  cases r with
  | ok a => exact fun P1 W1 H1 s wd => ⟨P1, W1, a.2, s, wd, GoB.step s h⟩
  | exc x ρ' => exact h
  | fail => exact h
end
theorem PE.imp {X : Cx} {e : Expr} {t t' : TE} (h : PE X e t) (q : ∀ σ H Q, t' σ H Q → t σ H Q) : PE X e t' := ⟨fun pins s σ H Q I hq => h.run pins s σ H Q I (q σ H Q hq)⟩
theorem PT.imp {X : Cx} {e : Expr} {t t' : TT} (h : PT X e t) (q : ∀ σ H Q, t' σ H Q → t σ H Q) : PT X e t' := ⟨fun pins s σ H Q I hq => h.run pins s σ H Q I (q σ H Q hq)⟩
theorem PA.imp {X : Cx} {e : List Expr} {t t' : TA} (h : PA X e t) (q : ∀ σ H Q, t' σ H Q → t σ H Q) : PA X e t' := ⟨fun pos pins s σ H Q I hq => h.run pos pins s σ H Q I (q σ H Q hq)⟩
theorem PS.imp {X : Cx} {e : Stmt} {t t' : TS} (h : PS X e t) (q : ∀ D σ H, t' D σ H → t D σ H) : PS X e t' := ⟨fun pins s σ H D I hq => h.run pins s σ H D I (q D σ H hq)⟩
theorem PSs.imp {X : Cx} {e : List Stmt} {t t' : TS} (h : PSs X e t) (q : ∀ D σ H, t' D σ H → t D σ H) : PSs X e t' := ⟨fun pins s σ H D I hq => h.run pins s σ H D I (q D σ H hq)⟩
/-! ### what stands at a place now -/
def slotD : Option (Option T) → Option D
  | some (some (.sh d)) => some d
  | some (some (.lst ds)) => some (.lst ds)
  | some (some (.dct ks ds)) => some (.dct ks ds)
  | _ => none
def getH (h : Hd) (ρ : Env) : Option D :=
  match h with
  | .val d => some d
  | .slot i => slotD ρ[i]?
def View (K : PySem.W.Frag) (P H : Hp) : D → V → Prop
  | .lst ds, v => ∃ a vs, v = .ref a ∧ H a = some (.lst vs) ∧ DenL K P ds vs
  | .dct ks ds, v => ∃ a ws, v = .ref a ∧ H a = some (.dK ws) ∧ ws.map Prod.fst = ks.map kK ∧ DenL K P ds (ws.map Prod.snd)
  | d, v => Den K P d v
section
variable {K : PySem.W.Frag} {mg : Str → Option Value} {P P' H H' : Hp} {W W' : Own} {σ : St} {ρ : Env}
theorem Den.view {d : D} {v : V} (s : Same P H) (h : Den K P d v) : View K P H d v := by
  cases d with
  | lst ds =>
    unfold Den at h
    obtain ⟨a, vs, e, q, l⟩ := h
    exact ⟨a, vs, e, s a _ q, l⟩
  | dct ks ds =>
    unfold Den at h
    obtain ⟨a, ws, e, q, k, l⟩ := h
    exact ⟨a, ws, e, s a _ q, k, l⟩
  | _ => exact h
theorem Hok.step {h : Hd} {v : V} (s : Same P P') (q : Hok K P σ h v) : Hok K P' σ h v := by
  cases h with
  | val d => exact Den.mono s d v q
  | slot i => exact q
theorem Hok.view {h : Hd} {v : V} {d : D} (w : Wd K mg P W H σ ρ) (q : Hok K P σ h v) (g : getH h ρ = some d) : View K P H d v := by
  cases h with
  | val d' =>
    have : d' = d := Option.some.inj g
    subst this
    exact Den.view w.same q
  | slot i =>
    have g : slotD ρ[i]? = some d := g
    have q : σ[i]? = some (some v) := q
    cases e : ρ[i]? with
    | none => rw [e] at g; cases g
    | some o =>
      cases o with
      | none => rw [e] at g; cases g
      | some t =>
        obtain ⟨v', hs, hr⟩ := w.env i t e
        rw [q] at hs
        cases hs
        rw [e] at g
        cases t with
        | sh d' => cases g; exact Den.view w.same hr
        | lst ds => cases g; obtain ⟨a, vs, e, hw, hh, l⟩ := hr; exact ⟨a, vs, e, hh, l⟩
        | dct ks ds => cases g; obtain ⟨a, ws, e, hw, hh, k, l⟩ := hr; exact ⟨a, ws, e, hh, k, l⟩
        | rcd fs => cases g
        | ins C fs => cases g
        | seq b ts => cases g
end
end Od
namespace Od
open PySem PySem.Spec L2
open PyProof.Rows hiding St
/-! ### new objects, frozen objects -/
def ownNew (W : Own) (p : Addr) (f : Option Tx) : Own := fun a => if a = p then some (none, f) else W a
def ownOff (W : Own) (p : Addr) : Own := fun a => if a = p then none else W a
section
variable {K : PySem.W.Frag} {mg : Str → Option Value} {P P' H H' : Hp} {W W' : Own} {σ : St} {ρ : Env}
theorem Wd.newT {o : HO} {p : Addr} (w : Wd K mg P W H σ ρ) (n : H p = none) : Wd K mg P (ownNew W p none) (upd H p o) σ ρ ∧ Step P W H P (ownNew W p none) (upd H p o) := by
  have wp : W p = none := by
    cases e : W p with
    | none => rfl
    | some r => obtain ⟨_, u, h⟩ := w.own p r e; rw [n] at h; cases h
  refine ⟨⟨(Al.newH (o := o) w.same n).2.2.1, fun a r e => ?_, fun i t e => ?_, w.len⟩, same_refl P, fun a u h wa => ?_⟩
  · unfold ownNew at e
    by_cases h : a = p
    · subst h; exact ⟨same_none w.same n, _, upd_same⟩
    · rw [if_neg h] at e
      obtain ⟨h1, u, h2⟩ := w.own a r e
      exact ⟨h1, u, by rw [upd_ne h]; exact h2⟩
  · obtain ⟨v, hs, hr⟩ := w.env i t e
    refine ⟨v, hs, RT.mono (same_refl P) (fun f x ex => ?_) t v hr⟩
    have hx : x ≠ p := fun z => by subst z; rw [wp] at ex; cases ex
    exact ⟨by unfold ownNew; rw [if_neg hx]; exact ex, fun o h => by rw [upd_ne hx]; exact h⟩
  · have ha : a ≠ p := ne_of_none h n
    exact ⟨by rw [upd_ne ha]; exact h, by unfold ownNew; rw [if_neg ha]; exact wa, rfl⟩
/-- an object of a role goes into the shared part -/
theorem Wd.frz {o : HO} {p : Addr} {r : Option Nat} {ρ' : Env} (w : Wd K mg P W H σ ρ) (hw : W p = some (r, none)) (hh : H p = some o)
    (hln : ρ'.length = ρ.length)
    (hρ : ∀ (i : Nat) (t : T), ρ'[i]? = some (some t) → ρ[i]? = some (some t) ∧ some i ≠ r ∨ ∃ v, σ[i]? = some (some v) ∧ RT K mg (upd P p o) (ownOff W p) H (some i) t v) :
    Wd K mg (upd P p o) (ownOff W p) H σ ρ' ∧ Step P W H (upd P p o) (ownOff W p) H := by
  have pp := (w.own p _ hw).1
  have sm : Same P (upd P p o) := fun a u e => by rw [upd_ne (ne_of_none e pp)]; exact e
  refine ⟨⟨fun a u e => ?_, fun a r' e => ?_, fun i t e => ?_, by rw [hln]; exact w.len⟩, sm, fun a u h wa => ?_⟩
  · by_cases h : a = p
    · subst h; rw [upd_same] at e; cases e; exact hh
    · rw [upd_ne h] at e; exact w.same a u e
  · unfold ownOff at e
    by_cases h : a = p
    · rw [if_pos h] at e; cases e
    · rw [if_neg h] at e
      obtain ⟨h1, h2⟩ := w.own a r' e
      exact ⟨by rw [upd_ne h]; exact h1, h2⟩
  · rcases hρ i t e with ⟨e1, ne⟩ | h
    · obtain ⟨v, hs, hr⟩ := w.env i t e1
      refine ⟨v, hs, RT.mono sm (fun f x ex => ⟨?_, fun _ h => h⟩) t v hr⟩
      have hx : x ≠ p := fun z => by subst z; rw [hw] at ex; cases ex; exact ne rfl
      unfold ownOff; rw [if_neg hx]; exact ex
    · exact h
  · have ha : a ≠ p := fun z => by subst z; rw [hw] at wa; cases wa
    exact ⟨h, by unfold ownOff; rw [if_neg ha]; exact wa, by rw [upd_ne ha]⟩
end
/-- all of a role goes into the shared part -/
noncomputable def frzP (P H : Hp) (W : Own) (r : Option Nat) : Hp := fun a => match W a with
  | some (r', _) => if r' = r then H a else P a
  | none => P a
noncomputable def offW (W : Own) (r : Option Nat) : Own := fun a => match W a with
  | some (r', f) => if r' = r then none else some (r', f)
  | none => none
section
variable {K : PySem.W.Frag} {mg : Str → Option Value} {P P' H H' : Hp} {W W' : Own} {σ : St} {ρ : Env}
theorem frzP_at {r : Option Nat} {a : Addr} {f : Option Tx} (h : W a = some (r, f)) : frzP P H W r a = H a := by
  unfold frzP; rw [h]; simp
theorem Wd.frzS (w : Wd K mg P W H σ ρ) (r : Option Nat) : Same P (frzP P H W r) := fun a u e => by
  unfold frzP
  cases h : W a with
  | none => exact e
  | some q => have := (w.own a q h).1; rw [e] at this; cases this
theorem Wd.frzA {r : Option Nat} {ρ' : Env} (w : Wd K mg P W H σ ρ) (hln : ρ'.length = ρ.length)
    (hρ : ∀ (i : Nat) (t : T), ρ'[i]? = some (some t) → ρ[i]? = some (some t) ∧ some i ≠ r ∨ ∃ v, σ[i]? = some (some v) ∧ RT K mg (frzP P H W r) (offW W r) H (some i) t v) :
    Wd K mg (frzP P H W r) (offW W r) H σ ρ' ∧ Step P W H (frzP P H W r) (offW W r) H := by
  have sm := w.frzS r
  refine ⟨⟨fun a u e => ?_, fun a r' e => ?_, fun i t e => ?_, by rw [hln]; exact w.len⟩, sm, fun a u h wa => ?_⟩
  · unfold frzP at e
    split at e
    · split at e
      · exact e
      · exact w.same a u e
    · exact w.same a u e
  · unfold offW at e
    split at e
    · rename_i q f hq
      split at e
      · cases e
      · rename_i hne
        obtain ⟨h1, h2⟩ := w.own a _ hq
        refine ⟨?_, h2⟩
        unfold frzP
        rw [hq]
        simp only [if_neg hne]
        exact h1
    · cases e
  · rcases hρ i t e with ⟨e1, ne⟩ | h
    · obtain ⟨v, hs, hr⟩ := w.env i t e1
      refine ⟨v, hs, RT.mono sm (fun f x ex => ⟨?_, fun _ h => h⟩) t v hr⟩
      unfold offW
      rw [ex]
      simp only [if_neg ne]
    · exact h
  · refine ⟨h, by unfold offW; rw [wa], by unfold frzP; rw [wa]⟩
end
/-- an instance's parts, all shared -/
def shs : List (Tx × T1) → Option (List Tx × List D)
  | [] => some ([], [])
  | (k, .sh d) :: fs => (shs fs).map fun p => (k :: p.1, d :: p.2)
  | _ => none
def d1 : T1 → D
  | .sh d => d
  | .lst ds => .lst ds
  | .dct ks ds => .dct ks ds
def frzT : T → Option D
  | .sh d => some d
  | .lst ds => some (.lst ds)
  | .dct ks ds => some (.dct ks ds)
  | .ins C fs => (shs fs).map fun p => .obj C p.1 p.2
  | .seq b ts => some (if b then .tup (ts.map d1) else .lst (ts.map d1))
  | _ => none
section
variable {K : PySem.W.Frag} {mg : Str → Option Value} {P P' H H' : Hp} {W W' : Own} {σ : St} {ρ : Env}
theorem RF.shs {r : Option Nat} : ∀ {fs : List (Tx × T1)} {ws : List (Str × V)} {p : List Tx × List D}, RF K P W H r fs ws → shs fs = some p → ws.map Prod.fst = p.1.map sT ∧ DenL K P p.2 (ws.map Prod.snd)
  | [], ws, p, h, e => by
    cases h
    cases (show some ([], []) = some p from e)
    exact ⟨rfl, DenL.nil⟩
  | (k, .sh d) :: fs, ws, p, h, e => by
    obtain ⟨v, w, rfl, h1, h2⟩ := h
    obtain ⟨q, hq, rfl⟩ := Option.map_eq_some_iff.mp (show (Od.shs fs).map (fun p => (k :: p.1, d :: p.2)) = some p from e)
    obtain ⟨a, b⟩ := RF.shs h2 hq
    exact ⟨by simp [a], DenL.cons h1 b⟩
  | (k, .lst ds) :: fs, ws, p, h, e => by cases (show (none : Option (List Tx × List D)) = some p from e)
  | (k, .dct ks ds) :: fs, ws, p, h, e => by cases (show (none : Option (List Tx × List D)) = some p from e)
theorem R1.den {r : Option Nat} {f : Option Tx} {t : T1} {v : V} (s : Same P P') (hp : ∀ a f, W a = some (r, f) → P' a = H a) (h : R1 K P W H r f t v) : Den K P' (d1 t) v := by
  cases t with
  | sh d => exact Den.mono s d v h
  | lst ds =>
    obtain ⟨a, vs, e, hw, hh, l⟩ := h
    show Den K P' (.lst ds) v
    unfold Den
    exact ⟨a, vs, e, by rw [hp a f hw]; exact hh, DenL.mono s ds vs l⟩
  | dct ks ds =>
    obtain ⟨a, ws, e, hw, hh, k, l⟩ := h
    show Den K P' (.dct ks ds) v
    unfold Den
    exact ⟨a, ws, e, by rw [hp a f hw]; exact hh, k, DenL.mono s ds _ l⟩
theorem RI.den {r : Option Nat} (s : Same P P') (hp : ∀ a f, W a = some (r, f) → P' a = H a) : ∀ {n : Nat} {ts : List T1} {vs : List V}, RI K P W H r n ts vs → DenL K P' (ts.map d1) vs
  | n, [], vs, h => by cases h; exact DenL.nil
  | n, t :: ts, vs, h => by
    obtain ⟨v, q, rfl, h1, h2⟩ := h
    exact DenL.cons (R1.den s hp h1) (RI.den s hp h2)
theorem seq_den {b : Bool} {ds : List D} {vs : List V} {a : Addr} (h : P a = some (sqO b vs)) (l : DenL K P ds vs) : Den K P (if b then .tup ds else .lst ds) (.ref a) := by
  cases b with
  | true => exact (by unfold Den; exact ⟨a, vs, rfl, SqT.of h, l⟩ : Den K P (.tup ds) (.ref a))
  | false => exact (by unfold Den; exact ⟨a, vs, rfl, h, l⟩ : Den K P (.lst ds) (.ref a))
theorem Wd.freezeR {t : T} {v : V} {d : D} {r : Option Nat} {ρ' : Env} (w : Wd K mg P W H σ ρ) (h : RT K mg P W H r t v) (g : frzT t = some d) (hln : ρ'.length = ρ.length)
    (hρ : ∀ P' W', Same P P' → Den K P' d v → ∀ (i : Nat) (t : T), ρ'[i]? = some (some t) → ρ[i]? = some (some t) ∧ some i ≠ r ∨ ∃ v, σ[i]? = some (some v) ∧ RT K mg P' W' H (some i) t v)
    (hr0 : ∀ P' W', Wd K mg P' W' H σ ρ → Same P P' → Den K P' d v → Wd K mg P' W' H σ ρ') :
    ∃ P' W', Step P W H P' W' H ∧ Wd K mg P' W' H σ ρ' ∧ Den K P' d v := by
  cases t with
  | sh d' => cases g; exact ⟨P, W, Step.refl P W H, hr0 P W w (same_refl P) h, h⟩
  | lst ds =>
    cases g
    obtain ⟨a, vs, e, hw, hh, l⟩ := h
    have pp := (w.own a _ hw).1
    have sm : Same P (upd P a (.lst vs)) := fun x u ex => by rw [upd_ne (ne_of_none ex pp)]; exact ex
    have dn : Den K (upd P a (.lst vs)) (.lst ds) v := by unfold Den; exact ⟨a, vs, e, upd_same, DenL.mono sm ds vs l⟩
    obtain ⟨w', st⟩ := w.frz (ρ' := ρ') hw hh hln (hρ _ _ sm dn)
    exact ⟨_, _, st, w', dn⟩
  | dct ks ds =>
    cases g
    obtain ⟨a, ws, e, hw, hh, k, l⟩ := h
    have pp := (w.own a _ hw).1
    have sm : Same P (upd P a (.dK ws)) := fun x u ex => by rw [upd_ne (ne_of_none ex pp)]; exact ex
    have dn : Den K (upd P a (.dK ws)) (.dct ks ds) v := by unfold Den; exact ⟨a, ws, e, upd_same, k, DenL.mono sm ds _ l⟩
    obtain ⟨w', st⟩ := w.frz (ρ' := ρ') hw hh hln (hρ _ _ sm dn)
    exact ⟨_, _, st, w', dn⟩
  | rcd fs => cases g
  | ins C fs =>
    obtain ⟨p, hp, rfl⟩ := Option.map_eq_some_iff.mp (show (shs fs).map (fun p => D.obj C p.1 p.2) = some d from g)
    obtain ⟨a, c, dx, ws, e, hw, hc, hh, nd, l⟩ := h
    have pp := (w.own a _ hw).1
    have sm : Same P (upd P a (.ins c dx ws)) := fun x u ex => by rw [upd_ne (ne_of_none ex pp)]; exact ex
    obtain ⟨k1, k2⟩ := RF.shs l hp
    have dn : Den K (upd P a (.ins c dx ws)) (.obj C p.1 p.2) v := by unfold Den; exact ⟨a, c, dx, ws, e, hc.2, upd_same, k1, DenL.mono sm _ _ k2⟩
    obtain ⟨w', st⟩ := w.frz (ρ' := ρ') hw hh hln (hρ _ _ sm dn)
    exact ⟨_, _, st, w', dn⟩
  | seq b ts =>
    have g := Option.some.inj (show some (if b then D.tup (ts.map d1) else .lst (ts.map d1)) = some d from g)
    subst g
    obtain ⟨a, vs, rfl, hw, hh, l⟩ := h
    have sm := w.frzS r
    have dn : Den K (frzP P H W r) (if b then .tup (ts.map d1) else .lst (ts.map d1)) (.ref a) := seq_den (by rw [frzP_at hw]; exact hh) (RI.den sm (fun x f e => frzP_at e) l)
    obtain ⟨w', st⟩ := w.frzA (ρ' := ρ') (r := r) hln (hρ _ _ sm dn)
    exact ⟨_, _, st, w', dn⟩
theorem Wd.freeze {t : T} {v : V} {d : D} (w : Wd K mg P W H σ ρ) (h : RT K mg P W H none t v) (g : frzT t = some d) :
    ∃ P' W', Step P W H P' W' H ∧ Wd K mg P' W' H σ ρ ∧ Den K P' d v :=
  w.freezeR h g rfl (fun _ _ _ _ i t e => .inl ⟨e, by simp⟩) (fun _ _ w _ _ => w)
theorem Wd.freezeS {t : T} {d : D} {i : Nat} (w : Wd K mg P W H σ ρ) (e : ρ[i]? = some (some t)) (g : frzT t = some d) :
    ∃ v, σ[i]? = some (some v) ∧ ∃ P' W', Step P W H P' W' H ∧ Wd K mg P' W' H σ (ρ.set i (some (.sh d))) ∧ Den K P' d v := by
  obtain ⟨v, hs, hr⟩ := w.env i t e
  have hi : i < ρ.length := (List.getElem?_eq_some_iff.mp e).1
  refine ⟨v, hs, w.freezeR hr g (by simp) (fun P' W' sm dn j t' ej => ?_) (fun P' W' w' sm dn => ?_)⟩
  · by_cases hj : j = i
    · subst hj
      rw [List.getElem?_set_self hi] at ej
      cases ej
      exact .inr ⟨v, hs, dn⟩
    · rw [List.getElem?_set_ne (Ne.symm hj)] at ej
      exact .inl ⟨ej, fun z => hj (Option.some.inj z)⟩
  · refine ⟨w'.same, w'.own, fun j t' ej => ?_, by simpa using w'.len⟩
    by_cases hj : j = i
    · subst hj
      rw [List.getElem?_set_self hi] at ej
      cases ej
      exact ⟨v, hs, dn⟩
    · rw [List.getElem?_set_ne (Ne.symm hj)] at ej
      exact w'.env j t' ej
/-- a slot's object becomes the one in hand -/
theorem Wd.take {t : T} {i : Nat} (w : Wd K mg P W H σ ρ) (e : ρ[i]? = some (some t)) :
    ∃ v, σ[i]? = some (some v) ∧ ∃ W', Step P W H P W' H ∧ Wd K mg P W' H σ (ρ.set i none) ∧ RT K mg P W' H none t v := by
  obtain ⟨v, hs, hr⟩ := w.env i t e
  have hi : i < ρ.length := (List.getElem?_eq_some_iff.mp e).1
  refine ⟨v, hs, fun a => match W a with | some (some j, f) => if j = i then some (none, f) else some (some j, f) | o => o, ⟨same_refl P, fun a o h wa => ⟨h, by simp only [wa], rfl⟩⟩, ⟨w.same, fun a r ea => ?_, fun j t' ej => ?_, by simpa using w.len⟩, ?_⟩
  · cases q : W a with
    | none => simp only [q] at ea; cases ea
    | some r' => exact w.own a r' q
  · have hj : j ≠ i := fun z => by subst z; rw [List.getElem?_set_self hi] at ej; cases ej
    rw [List.getElem?_set_ne (Ne.symm hj)] at ej
    obtain ⟨v', hs', hr'⟩ := w.env j t' ej
    exact ⟨v', hs', RT.mono (same_refl P) (fun f x ex => ⟨by simp only [ex, if_neg hj], fun _ h => h⟩) t' v' hr'⟩
  · exact RT.mono (same_refl P) (fun f x ex => ⟨by simp [ex], fun _ h => h⟩) t v hr
theorem Wd.forget {i : Nat} (w : Wd K mg P W H σ ρ) : Wd K mg P W H σ (ρ.set i none) := by
  refine ⟨w.same, w.own, fun j t ej => ?_, by simpa using w.len⟩
  by_cases hj : j = i
  · subst hj
    by_cases hi : j < ρ.length
    · rw [List.getElem?_set_self hi] at ej; cases ej
    · rw [List.getElem?_eq_none (by simpa using hi)] at ej; cases ej
  · rw [List.getElem?_set_ne (Ne.symm hj)] at ej
    exact w.env j t ej
end
/-! ### values -/
def eC (d : D) : EM := fun ρ => .ok (d, ρ)
def eV (i : Nat) : EM := fun ρ => match ρ[i]? with
  | some (some (.sh d)) => .ok (d, ρ)
  | _ => .fail
/-- a name whose object is shared from here on -/
def eFv (i : Nat) : EM := fun ρ => match ρ[i]? with
  | some (some t) => match frzT t with
    | some d => .ok (d, ρ.set i (some (.sh d)))
    | none => .fail
  | _ => .fail
/-- a name whose object is handed on -/
def tMv (i : Nat) : OM := fun ρ => match ρ[i]? with
  | some (some t) => .ok (t, ρ.set i none)
  | _ => .fail
def hS (i : Nat) : HM := fun ρ => .ok (.slot i, ρ)
def hV (F : EM) : HM := fun ρ => F ρ >>= fun a => .ok (.val a.1, a.2)
def eFz (F : OM) : EM := fun ρ => F ρ >>= fun a => match frzT a.1 with
  | some d => .ok (d, a.2)
  | none => .fail
def tSh (F : EM) : OM := fun ρ => F ρ >>= fun a => .ok (.sh a.1, a.2)
section
variable {X : Cx} {E : WX} {e : Expr}
theorem ev_of {d : D} {v : V} (h : PE X e (tC v)) (hd : ∀ P, Den X.K P d v) : EV X E e (eC d) := PE.imp h fun σ H Q ⟨P, W, ρ, w, g⟩ =>
  g v P W H (Step.refl P W H) ⟨w, hd P⟩
theorem ev_int {i j pos} : EV X E (.Constant (.int i) j pos) (eC (.int i)) := ev_of pe_int fun _ => by unfold Den; rfl
theorem ev_bl {b j pos} : EV X E (.Constant (.bool b) j pos) (eC (.bl b)) := ev_of pe_bl fun _ => by unfold Den; rfl
theorem ev_non {j pos} : EV X E (.Constant .none j pos) (eC .non) := ev_of pe_non fun _ => by unfold Den; rfl
theorem ev_str {s : Tx} {x j pos} (hx : x = sT s) : EV X E (.Constant (.str x) j pos) (eC (.str s)) := ev_of pe_str fun _ => by unfold Den; rw [hx]
theorem ev_glob {d : D} {x : Str} {v : V} {u : Value} {pos : Pos} (hg : Gl X x) (hm : X.mg x = some u) (r : RelV v u) (hd : ∀ P, Den X.K P d v) (hdb : (x == ("__debug__" : Str)) = false := by decide) : EV X E (.Name x pos) (eC d) :=
  ev_of (pe_glob hg hm r hdb) hd
theorem ev_var {i : Nat} {x : Str} {pos : Pos} (hN : X.N[i]? = some x) (hv : Vis X.env.scope x) (hd : (x == ("__debug__" : Str)) = false := by decide) (hcd : (x == ("__classdict__" : Str)) = false := by decide) : EV X E (.Name x pos) (eV i) :=
  PE.imp (pe_var hN hv hd hcd) fun σ H Q ⟨P, W, ρ, w, g⟩ => by
    unfold eV at g
    cases er : ρ[i]? with
    | none => rw [er] at g; exact g.elim
    | some o =>
      cases o with
      | none => rw [er] at g; exact g.elim
      | some t =>
        rw [er] at g
        obtain ⟨v, hs, hr⟩ := w.env i t er
        cases t with
        | sh d => exact ⟨v, hs, g v P W H (Step.refl P W H) ⟨w, hr⟩⟩
        | _ => exact g.elim
theorem ev_fv {i : Nat} {x : Str} {pos : Pos} (hN : X.N[i]? = some x) (hv : Vis X.env.scope x) (hd : (x == ("__debug__" : Str)) = false := by decide) (hcd : (x == ("__classdict__" : Str)) = false := by decide) : EV X E (.Name x pos) (eFv i) :=
  PE.imp (pe_var hN hv hd hcd) fun σ H Q ⟨P, W, ρ, w, g⟩ => by
    unfold eFv at g
    cases er : ρ[i]? with
    | none => rw [er] at g; exact g.elim
    | some o =>
      cases o with
      | none => rw [er] at g; exact g.elim
      | some t =>
        rw [er] at g
        cases ef : frzT t with
        | none => simp only [ef] at g; exact g.elim
        | some d =>
          simp only [ef] at g
          obtain ⟨v, hs, P', W', st, w', dn⟩ := w.freezeS er ef
          exact ⟨v, hs, g v P' W' H st ⟨w', dn⟩⟩
theorem et_mv {i : Nat} {x : Str} {pos : Pos} (hN : X.N[i]? = some x) (hv : Vis X.env.scope x) (hd : (x == ("__debug__" : Str)) = false := by decide) (hcd : (x == ("__classdict__" : Str)) = false := by decide) : ET X E (.Name x pos) (tMv i) :=
  PE.imp (pe_var hN hv hd hcd) fun σ H Q ⟨P, W, ρ, w, g⟩ => by
    unfold tMv at g
    cases er : ρ[i]? with
    | none => rw [er] at g; exact g.elim
    | some o =>
      cases o with
      | none => rw [er] at g; exact g.elim
      | some t =>
        rw [er] at g
        obtain ⟨v, hs, W', st, w', rt⟩ := w.take er
        exact ⟨v, hs, g v P W' H st ⟨w', rt⟩⟩
/-- the slot must hold something -/
def hSc (i : Nat) : HM := fun ρ => match ρ[i]? with
  | some (some _) => .ok (.slot i, ρ)
  | _ => .fail
theorem eh_s {i : Nat} {x : Str} {pos : Pos} (hN : X.N[i]? = some x) (hv : Vis X.env.scope x) (hd : (x == ("__debug__" : Str)) = false := by decide) (hcd : (x == ("__classdict__" : Str)) = false := by decide) : EH X E (.Name x pos) (hSc i) :=
  PE.imp (pe_var hN hv hd hcd) fun σ H Q ⟨P, W, ρ, w, g⟩ => by
    unfold hSc at g
    cases er : ρ[i]? with
    | none => rw [er] at g; exact g.elim
    | some o =>
      cases o with
      | none => rw [er] at g; exact g.elim
      | some t =>
        rw [er] at g
        obtain ⟨v, hs, hr⟩ := w.env i t er
        exact ⟨v, hs, g v P W H (Step.refl P W H) ⟨w, hs⟩⟩
theorem eh_v {F : EM} (h : EV X E e F) : EH X E e (hV F) := PE.imp h fun σ H Q ⟨P, W, ρ, w, g⟩ =>
  ⟨P, W, ρ, w, (Go.bind g).mono fun v H1 ⟨P1, W1, a, st, ⟨w1, d1⟩, k⟩ => k v P1 W1 H1 (Step.refl P1 W1 H1) ⟨w1, d1⟩⟩
theorem ev_fz {F : OM} (h : ET X E e F) : EV X E e (eFz F) := PE.imp h fun σ H Q ⟨P, W, ρ, w, g⟩ =>
  ⟨P, W, ρ, w, (Go.bind g).mono fun v H1 ⟨P1, W1, a, st, ⟨w1, t1⟩, k⟩ => by
    cases ef : frzT a.1 with
    | none => simp only [ef] at k; exact k.elim
    | some d =>
      simp only [ef] at k
      obtain ⟨P2, W2, s2, w2, dn⟩ := w1.freeze t1 ef
      exact k v P2 W2 H1 s2 ⟨w2, dn⟩⟩
theorem et_sh {F : EM} (h : EV X E e F) : ET X E e (tSh F) := PE.imp h fun σ H Q ⟨P, W, ρ, w, g⟩ =>
  ⟨P, W, ρ, w, (Go.bind g).mono fun v H1 ⟨P1, W1, a, st, ⟨w1, d1⟩, k⟩ => k v P1 W1 H1 (Step.refl P1 W1 H1) ⟨w1, d1⟩⟩
end
/-! ### operations -/
def e1 (f : D → Option D) (A : HM) : EM := fun ρ => A ρ >>= fun a => Res.of ((getH a.1 a.2).bind f) >>= fun r => .ok (r, a.2)
def e2 (f : D → D → Option D) (A B : HM) : EM := fun ρ => A ρ >>= fun a => B a.2 >>= fun b => Res.of ((getH a.1 b.2).bind fun d => (getH b.1 b.2).bind fun e => f d e) >>= fun r => .ok (r, b.2)
def e3 (f : D → D → D → Option D) (A B C : HM) : EM := fun ρ => A ρ >>= fun a => B a.2 >>= fun b => C b.2 >>= fun c =>
  Res.of ((getH a.1 c.2).bind fun d => (getH b.1 c.2).bind fun e => (getH c.1 c.2).bind fun g => f d e g) >>= fun r => .ok (r, c.2)
def t1 (f : D → Option (List D)) (A : HM) : OM := fun ρ => A ρ >>= fun a => Res.of ((getH a.1 a.2).bind f) >>= fun r => .ok (.lst r, a.2)
def t2 (f : D → D → Option (List D)) (A B : HM) : OM := fun ρ => A ρ >>= fun a => B a.2 >>= fun b => Res.of ((getH a.1 b.2).bind fun d => (getH b.1 b.2).bind fun e => f d e) >>= fun r => .ok (.lst r, b.2)
def b2 (f : D → D → Option Bool) (A B : HM) : BM := fun ρ => A ρ >>= fun a => B a.2 >>= fun b => Res.of ((getH a.1 b.2).bind fun d => (getH b.1 b.2).bind fun e => f d e) >>= fun r => .ok (r, b.2)
section
variable (K : PySem.W.Frag)
def Op1V (r : V → Hp → VK → Prop) (f : D → Option D) : Prop := ∀ (P H : Hp) (x : V) (d res : D) (Q : VK), Same P H → View K P H d x → f d = some res → (∀ v P' H', Al P H P' H' → Den K P' res v → Q v H') → r x H Q
def Op2V (r : R2) (f : D → D → Option D) : Prop := ∀ (P H : Hp) (x y : V) (d e res : D) (Q : VK), Same P H → View K P H d x → View K P H e y → f d e = some res → (∀ v P' H', Al P H P' H' → Den K P' res v → Q v H') → r x y H Q
def Op2L (r : R2) (f : D → D → Option (List D)) : Prop := ∀ (P H : Hp) (x y : V) (d e : D) (res : List D) (Q : VK), Same P H → View K P H d x → View K P H e y → f d e = some res → (∀ p vs, H p = none → DenL K P res vs → Q (.ref p) (upd H p (.lst vs))) → r x y H Q
end
section
variable {K : PySem.W.Frag} {mg : Str → Option Value} {E : WX} {P H : Hp} {W : Own} {σ : St} {ρ : Env} {Q : VK}
theorem opt2 {f : D → D → Option α} {a b : Option D} {r : α} (h : (a.bind fun d => b.bind fun e => f d e) = some r) : ∃ d e, a = some d ∧ b = some e ∧ f d e = some r := by
  cases a with
  | none => cases h
  | some d =>
    cases b with
    | none => cases h
    | some e => exact ⟨d, e, rfl, rfl, h⟩
theorem opt1 {f : D → Option α} {a : Option D} {r : α} (h : a.bind f = some r) : ∃ d, a = some d ∧ f d = some r := by
  cases a with
  | none => cases h
  | some d => exact ⟨d, rfl, h⟩
theorem Go.of {α β γ : Type} {Rel : Hp → Own → Hp → St → β → γ → Prop} {o : Option α} {g : α → Res β} {R : γ → Hp → Prop} (h : Go K mg E Rel (Res.of o >>= g) P W H σ R) : ∃ r, o = some r ∧ Go K mg E Rel (g r) P W H σ R := by
  cases o with
  | none => exact h.elim
  | some r => exact ⟨r, rfl, h⟩
theorem GoB.of {α : Type} {o : Option α} {g : α → Res (Bool × Env)} {Q : Bool → Hp → Prop} (h : GoB K mg E (Res.of o >>= g) P W H σ Q) : ∃ r, o = some r ∧ GoB K mg E (g r) P W H σ Q := by
  cases o with
  | none => exact h.elim
  | some r => exact ⟨r, rfl, h⟩
/-- one operand -/
theorem r1_of {α : Type} {f : D → Option α} {A : HM} {β : Type} {Rel : Hp → Own → Hp → St → β → V → Prop} {G : α → Env → Res β}
    (h : rX K mg E Rel (fun ρ => A ρ >>= fun a => Res.of ((getH a.1 a.2).bind f) >>= fun r => G r a.2) σ H Q) :
    rX K mg E (HRel K mg) A σ H fun x H1 => ∃ P1 W1 ρ1 d res, Wd K mg P1 W1 H1 σ ρ1 ∧ View K P1 H1 d x ∧ f d = some res ∧ Go K mg E Rel (G res ρ1) P1 W1 H1 σ Q := by
  obtain ⟨P, W, ρ, w, g⟩ := h
  refine ⟨P, W, ρ, w, (Go.bind g).mono fun x H1 ⟨P1, W1, a, s1, ⟨w1, k1⟩, g1⟩ => ?_⟩
  obtain ⟨r, e, g2⟩ := Go.of g1
  obtain ⟨d, ha, hf⟩ := opt1 e
  exact ⟨P1, W1, a.2, d, r, w1, Hok.view w1 k1 ha, hf, g2⟩
theorem r2_of {α : Type} {f : D → D → Option α} {A B : HM} {β : Type} {Rel : Hp → Own → Hp → St → β → V → Prop} {G : α → Env → Res β}
    (h : rX K mg E Rel (fun ρ => A ρ >>= fun a => B a.2 >>= fun b => Res.of ((getH a.1 b.2).bind fun d => (getH b.1 b.2).bind fun e => f d e) >>= fun r => G r b.2) σ H Q) :
    rX K mg E (HRel K mg) A σ H fun x H1 => rX K mg E (HRel K mg) B σ H1 fun y H2 => ∃ P2 W2 ρ2 d e res, Wd K mg P2 W2 H2 σ ρ2 ∧ View K P2 H2 d x ∧ View K P2 H2 e y ∧ f d e = some res ∧ Go K mg E Rel (G res ρ2) P2 W2 H2 σ Q := by
  obtain ⟨P, W, ρ, w, g⟩ := h
  refine ⟨P, W, ρ, w, (Go.bind g).mono fun x H1 ⟨P1, W1, a, s1, ⟨w1, k1⟩, g1⟩ => ⟨P1, W1, a.2, w1, (Go.bind g1).mono fun y H2 ⟨P2, W2, b, s2, ⟨w2, k2⟩, g2⟩ => ?_⟩⟩
  obtain ⟨r, e, g3⟩ := Go.of g2
  obtain ⟨d, e', ha, hb, hf⟩ := opt2 e
  exact ⟨P2, W2, b.2, d, e', r, w2, Hok.view w2 (Hok.step s2.1 k1) ha, Hok.view w2 k2 hb, hf, g3⟩
theorem rb2_of {f : D → D → Option Bool} {A B : HM} {Q : Bool → Hp → Prop}
    (h : rB K mg E (b2 f A B) σ H Q) :
    rX K mg E (HRel K mg) A σ H fun x H1 => rX K mg E (HRel K mg) B σ H1 fun y H2 => ∃ P2 W2 ρ2 d e res, Wd K mg P2 W2 H2 σ ρ2 ∧ View K P2 H2 d x ∧ View K P2 H2 e y ∧ f d e = some res ∧ GoB K mg E (.ok (res, ρ2)) P2 W2 H2 σ Q := by
  obtain ⟨P, W, ρ, w, g⟩ := h
  refine ⟨P, W, ρ, w, (Go.bindB g).mono fun x H1 ⟨P1, W1, a, s1, ⟨w1, k1⟩, g1⟩ => ⟨P1, W1, a.2, w1, (Go.bindB g1).mono fun y H2 ⟨P2, W2, b, s2, ⟨w2, k2⟩, g2⟩ => ?_⟩⟩
  obtain ⟨r, e, g3⟩ := GoB.of g2
  obtain ⟨d, e', ha, hb, hf⟩ := opt2 e
  exact ⟨P2, W2, b.2, d, e', r, w2, Hok.view w2 (Hok.step s2.1 k1) ha, Hok.view w2 k2 hb, hf, g3⟩
theorem fin_v {d : D} (w : Wd K mg P W H σ ρ) (g : Go K mg E (VRel K mg) (.ok (d, ρ)) P W H σ Q) : ∀ v P' H', Al P H P' H' → Den K P' d v → Q v H' :=
  fun v P' H' al dn => g v P' W H' (al.step W) ⟨w.al al, dn⟩
theorem fin_l {ds : List D} (w : Wd K mg P W H σ ρ) (g : Go K mg E (TRel K mg) (.ok (.lst ds, ρ)) P W H σ Q) : ∀ p vs, H p = none → DenL K P ds vs → Q (.ref p) (upd H p (.lst vs)) :=
  fun p vs n l => g (.ref p) P (ownNew W p none) _ (w.newT n).2 ⟨(w.newT n).1, p, vs, rfl, by unfold ownNew; rw [if_pos rfl], upd_same, l⟩
end
section
variable {X : Cx} {E : WX} {a b c : Expr} {A B C : HM} {pos : Pos}
theorem ev_op {op : Operator} {r : R2} {f : D → D → Option D} (hr : OpR X (binaryOp op) r) (hf : Op2V X.K r f) (ha : EH X E a A) (hb : EH X E b B) : EV X E (.BinOp a op b pos) (e2 f A B) :=
  PE.imp (pe_op hr ha hb) fun σ H Q h => by
    obtain ⟨P, W, ρ, w, g⟩ := r2_of (G := fun r ρ => .ok (r, ρ)) h
    exact ⟨P, W, ρ, w, g.mono fun x H1 ⟨P1, W1, ρ1, w1, g1⟩ => ⟨P1, W1, ρ1, w1, g1.mono fun y H2 ⟨P2, W2, ρ2, d, e, res, w2, v1, v2, hfe, g2⟩ =>
      hf P2 H2 x y d e res Q w2.same v1 v2 hfe (fin_v w2 g2)⟩⟩
theorem et_op {op : Operator} {r : R2} {f : D → D → Option (List D)} (hr : OpR X (binaryOp op) r) (hf : Op2L X.K r f) (ha : EH X E a A) (hb : EH X E b B) : ET X E (.BinOp a op b pos) (t2 f A B) :=
  PE.imp (pe_op hr ha hb) fun σ H Q h => by
    obtain ⟨P, W, ρ, w, g⟩ := r2_of (G := fun r ρ => .ok (T.lst r, ρ)) h
    exact ⟨P, W, ρ, w, g.mono fun x H1 ⟨P1, W1, ρ1, w1, g1⟩ => ⟨P1, W1, ρ1, w1, g1.mono fun y H2 ⟨P2, W2, ρ2, d, e, res, w2, v1, v2, hfe, g2⟩ =>
      hf P2 H2 x y d e res Q w2.same v1 v2 hfe (fin_l w2 g2)⟩⟩
theorem ev_un {op : UnaryOp} {r : V → Hp → VK → Prop} {f : D → Option D} (hr : UnR X (unaryOp op) r) (hf : Op1V X.K r f) (ha : EH X E a A) : EV X E (.UnaryOp op a pos) (e1 f A) :=
  PE.imp (pe_un hr ha) fun σ H Q h => by
    obtain ⟨P, W, ρ, w, g⟩ := r1_of (G := fun r ρ => .ok (r, ρ)) h
    exact ⟨P, W, ρ, w, g.mono fun x H1 ⟨P1, W1, ρ1, d, res, w1, v1, hfe, g1⟩ => hf P1 H1 x d res Q w1.same v1 hfe (fin_v w1 g1)⟩
theorem ev_cmp {op : CmpOp} {r : R2} {f : D → D → Option D} (hr : OpR X (compareOp op) r) (hf : Op2V X.K r f) (ha : EH X E a A) (hb : EH X E b B) (hm : behindInMarks op b = false) : EV X E (.Compare a [op] [b] pos) (e2 f A B) :=
  PE.imp (pe_cmpR hr ha hb hm) fun σ H Q h => by
    obtain ⟨P, W, ρ, w, g⟩ := r2_of (G := fun r ρ => .ok (r, ρ)) h
    exact ⟨P, W, ρ, w, g.mono fun x H1 ⟨P1, W1, ρ1, w1, g1⟩ => ⟨P1, W1, ρ1, w1, g1.mono fun y H2 ⟨P2, W2, ρ2, d, e, res, w2, v1, v2, hfe, g2⟩ =>
      hf P2 H2 x y d e res Q w2.same v1 v2 hfe (fin_v w2 g2)⟩⟩
def Op2B (K : PySem.W.Frag) (r : R2) (f : D → D → Option Bool) : Prop := ∀ (P H : Hp) (x y : V) (d e : D) (res : Bool) (Q : VK), Same P H → View K P H d x → View K P H e y → f d e = some res → Q (.bl res) H → r x y H Q
def blOf (f : D → D → Option Bool) : D → D → Option D := fun d e => (f d e).map D.bl
theorem Op2B.toV {K : PySem.W.Frag} {r : R2} {f : D → D → Option Bool} (h : Op2B K r f) : Op2V K r (blOf f) := fun P H x y d e res Q s v1 v2 hf q => by
  unfold blOf at hf
  cases hb : f d e with
  | none => rw [hb] at hf; cases hf
  | some b =>
    rw [hb] at hf
    cases hf
    exact h P H x y d e b Q s v1 v2 hb (q (.bl b) P H (Al.refl s) (by unfold Den; rfl))
theorem eb_cmp {op : CmpOp} {r : R2} {f : D → D → Option Bool} (hr : OpR X (compareOp op) r) (hf : Op2B X.K r f) (ha : EH X E a A) (hb : EH X E b B) (hm : behindInMarks op b = false) : EB X E (.Compare a [op] [b] pos) (b2 f A B) :=
  PT.imp (pt_cmpR hr ha hb hm) fun σ H Q h => by
    obtain ⟨P, W, ρ, w, g⟩ := rb2_of h
    exact ⟨P, W, ρ, w, g.mono fun x H1 ⟨P1, W1, ρ1, w1, g1⟩ => ⟨P1, W1, ρ1, w1, g1.mono fun y H2 ⟨P2, W2, ρ2, d, e, res, w2, v1, v2, hfe, g2⟩ =>
      hf P2 H2 x y d e res _ w2.same v1 v2 hfe ⟨res, rfl, g2 P2 W2 H2 (Step.refl P2 W2 H2) w2⟩⟩⟩
end
end Od
namespace Od
open PySem PySem.Spec L2
open PyProof.Rows hiding St
theorem szOf {n : Nat} (h : n ≤ 1000000) : n ≤ sizeLine := Nat.le_trans h (by decide)
theorem szLt {n : Nat} (h : n < 1000000) : n < sizeLine := Nat.lt_of_lt_of_le h (by decide)
/-! ### numbers, sums of texts, lists, tuples -/
def fAdd : D → D → Option D
  | .int i, .int j => some (.int (i + j))
  | .str a, .str b => if a.length + b.length ≤ 1000000 then some (.str (a ++ b)) else none
  | .lst a, .lst b => if a.length + b.length ≤ 1000000 then some (.lst (a ++ b)) else none
  | .tup a, .tup b => if a.length + b.length ≤ 1000000 then some (.tup (a ++ b)) else none
  | .bl k, .int j => some (.int ((if k = true then (1 : Int) else 0) + j))
  | _, _ => none
def lAdd : D → D → Option (List D)
  | .lst a, .lst b => if a.length + b.length ≤ 1000000 then some (a ++ b) else none
  | _, _ => none
def fSub : D → D → Option D
  | .int i, .int j => some (.int (i - j))
  | _, _ => none
def okMul (i j : Int) : Bool := (decide (-18446744073709551616 < i) && decide (i < 18446744073709551616)) || (decide (-18446744073709551616 < j) && decide (j < 18446744073709551616))
def fMul : D → D → Option D
  | .int i, .int j => if okMul i j then some (.int (i * j)) else none
  | _, _ => none
def fFdiv : D → D → Option D
  | .int i, .int j => if 0 < j ∧ j < 1073741824 then some (.int (i / j)) else none
  | _, _ => none
def fMod : D → D → Option D
  | .int i, .int j => if 0 < j then some (.int (i % j)) else none
  | _, _ => none
def fPow : D → D → Option D
  | .int i, .int j => if 0 ≤ j ∧ j ≤ 1000000 ∧ i.natAbs < 18446744073709551616 then some (.int (i ^ j.toNat)) else none
  | _, _ => none
def fShl : D → D → Option D
  | .int i, .int j => if 0 ≤ j ∧ j ≤ 1000000 ∧ i.natAbs < 18446744073709551616 then some (.int (i * 2 ^ j.toNat)) else none
  | _, _ => none
def fShr : D → D → Option D
  | .int i, .int j => if 0 ≤ j then some (.int (i / 2 ^ j.toNat)) else none
  | _, _ => none
def fAnd : D → D → Option D
  | .int i, .int j => some (.int (Builtin.bitAnd i j))
  | _, _ => none
def fNeg : D → Option D
  | .int i => some (.int (-i))
  | _ => none
section
variable {K : PySem.W.Frag} {P H : Hp}
theorem vint {i : Int} {v : V} (h : View K P H (.int i) v) : v = .int i := by unfold View at h; unfold Den at h; exact h
theorem vstr {i : Tx} {v : V} (h : View K P H (.str i) v) : v = .str (sT i) := by unfold View at h; unfold Den at h; exact h
theorem vbl {i : Bool} {v : V} (h : View K P H (.bl i) v) : v = .bl i := by unfold View at h; unfold Den at h; exact h
theorem vnon {v : V} (h : View K P H .non v) : v = .non := by unfold View at h; unfold Den at h; exact h
theorem dint {i : Int} : Den K P (.int i) (.int i) := by unfold Den; rfl
theorem dstr {i : Tx} : Den K P (.str i) (.str (sT i)) := by unfold Den; rfl
theorem dbl {i : Bool} : Den K P (.bl i) (.bl i) := by unfold Den; rfl
theorem dnon : Den K P .non .non := by unfold Den; rfl
theorem dnewL {p : Addr} {ds : List D} {vs : List V} (s : Same P H) (n : H p = none) (h : DenL K P ds vs) : Al P H (upd P p (.lst vs)) (upd H p (.lst vs)) ∧ Den K (upd P p (.lst vs)) (.lst ds) (.ref p) := by
  have a := Al.new (o := .lst vs) s n
  exact ⟨a, by unfold Den; exact ⟨p, vs, rfl, upd_same, DenL.mono a.2.1 ds vs h⟩⟩
theorem dnewT {p : Addr} {ds : List D} {vs : List V} (s : Same P H) (n : H p = none) (h : DenL K P ds vs) : Al P H (upd P p (.tup vs)) (upd H p (.tup vs)) ∧ Den K (upd P p (.tup vs)) (.tup ds) (.ref p) := by
  have a := Al.new (o := .tup vs) s n
  exact ⟨a, by unfold Den; exact ⟨p, vs, rfl, SqT.of upd_same, DenL.mono a.2.1 ds vs h⟩⟩
/-- a tuple seen in the shared part -/
theorem vtup {ds : List D} {v : V} (s : Same P H) (h : View K P H (.tup ds) v) : ∃ a vs, v = .ref a ∧ SqT K H a vs ∧ DenL K P ds vs := by
  unfold View at h; unfold Den at h
  obtain ⟨a, vs, e, q, l⟩ := h
  exact ⟨a, vs, e, same_t s q, l⟩
theorem vtupD {ds : List D} {v : V} (h : View K P H (.tup ds) v) : Den K P (.tup ds) v := by
  unfold View at h; exact h
theorem vlst {ds : List D} {v : V} (h : View K P H (.lst ds) v) : ∃ a vs, v = .ref a ∧ H a = some (.lst vs) ∧ DenL K P ds vs := h
theorem vrol {ds : List D} {v : V} (s : Same P H) (h : View K P H (.rol ds) v) : ∃ a vs, v = .ref a ∧ SqL K H a vs ∧ DenL K P ds vs := by
  unfold View at h; unfold Den at h
  obtain ⟨a, vs, e, q, l⟩ := h
  exact ⟨a, vs, e, same_l s q, l⟩
end
/-- True + 1 -/
def rAddBI : R2 := fun x y H Q => ∃ k j, x = V.bl k ∧ y = V.int j ∧ Q (.int ((if k = true then (1 : Int) else 0) + j)) H
theorem op_addBI {X : Cx} : OpR X (binaryOp .Add) rAddBI := by
  rintro pins s σ H x y v u Q I rx ry ⟨k, j, rfl, rfl, q⟩
  obtain ⟨t, rfl⟩ := ry
  cases rx
  exact PySem.IntBool.add_bool_int ⟨.int ((if k = true then (1 : Int) else 0) + j), H, I.tok _, ⟨_, rfl⟩, q⟩
def rAddA (K : PySem.W.Frag) : R2 := fun x y H Q => (rI0 (fun i j => .int (i + j))) x y H Q ∨ (∃ i j, x = V.str i ∧ y = V.str j ∧ i.length + j.length ≤ sizeLine ∧ Q (.str (i ++ j)) H) ∨ rCatA K x y H Q ∨ rCat x y H Q ∨ rAddBI x y H Q
theorem op_addA {X : Cx} : OpR X (binaryOp .Add) (rAddA X.K) := op_add.or (op_add_str.or (op_catA.or (op_cat.or op_addBI)))
theorem f_add {K : PySem.W.Frag} : Op2V K (rAddA K) fAdd := by
  intro P H x y d e res Q s v1 v2 hf q
  unfold fAdd at hf
  split at hf
  · cases hf
    exact .inl ⟨_, _, vint v1, vint v2, q _ P H (Al.refl s) dint⟩
  · rename_i a b
    split at hf
    · rename_i hl
      cases hf
      refine .inr (.inl ⟨_, _, vstr v1, vstr v2, by rw [sT_len, sT_len]; exact szOf hl, ?_⟩)
      rw [sT_app]
      exact q _ P H (Al.refl s) dstr
    · cases hf
  · rename_i a b
    split at hf
    · rename_i hl
      cases hf
      obtain ⟨l, vs, e1, h1, l1⟩ := vlst v1
      obtain ⟨m, ws, e2, h2, l2⟩ := vlst v2
      refine .inr (.inr (.inr (.inl ⟨l, m, vs, ws, e1, e2, h1, h2, by rw [l1.len, l2.len]; exact szOf hl, fun p n => ?_⟩)))
      obtain ⟨al, dn⟩ := dnewL s n (DenL.append l1 l2)
      exact q _ _ _ al dn
    · cases hf
  · rename_i a b
    split at hf
    · rename_i hl
      cases hf
      obtain ⟨l, vs, e1, h1, l1⟩ := vtup s v1
      obtain ⟨m, ws, e2, h2, l2⟩ := vtup s v2
      refine .inr (.inr (.inl ⟨l, m, vs, ws, e1, e2, h1, h2, by rw [l1.len, l2.len]; exact szOf hl, fun z => ?_, fun z z2 => ?_, fun z z2 p n => ?_⟩))
      · have za : a = [] := List.eq_nil_of_length_eq_zero (by rw [← l1.len, z]; rfl)
        subst za
        rw [← e2]
        exact q _ P H (Al.refl s) (vtupD v2)
      · have zb : b = [] := List.eq_nil_of_length_eq_zero (by rw [← l2.len, z2]; rfl)
        subst zb
        rw [← e1, List.append_nil] at *
        exact q _ P H (Al.refl s) (vtupD v1)
      · obtain ⟨al, dn⟩ := dnewT s n (DenL.append l1 l2)
        exact q _ _ _ al dn
    · cases hf
  · rename_i a b
    cases hf
    exact .inr (.inr (.inr (.inr ⟨_, _, vbl v1, vint v2, q _ P H (Al.refl s) dint⟩)))
  · cases hf
theorem l_add {K : PySem.W.Frag} : Op2L K (rAddA K) lAdd := by
  intro P H x y d e res Q s v1 v2 hf q
  unfold lAdd at hf
  split at hf
  · rename_i a b
    split at hf
    · rename_i hl
      cases hf
      obtain ⟨l, vs, e1, h1, l1⟩ := vlst v1
      obtain ⟨m, ws, e2, h2, l2⟩ := vlst v2
      exact .inr (.inr (.inr (.inl ⟨l, m, vs, ws, e1, e2, h1, h2, by rw [l1.len, l2.len]; exact szOf hl, fun p n => q p _ n (DenL.append l1 l2)⟩)))
    · cases hf
  · cases hf
theorem f_sub {K : PySem.W.Frag} : Op2V K (rI0 fun i j => .int (i - j)) fSub := by
  intro P H x y d e res Q s v1 v2 hf q
  unfold fSub at hf
  split at hf
  · cases hf
    exact ⟨_, _, vint v1, vint v2, q _ P H (Al.refl s) dint⟩
  · cases hf
theorem okMul_c {i j : Int} (h : okMul i j = true) : CMul i j := by
  unfold okMul at h
  simp only [Bool.or_eq_true, Bool.and_eq_true, decide_eq_true_eq] at h
  exact h
theorem f_mul {K : PySem.W.Frag} : Op2V K (rI CMul fun i j => .int (i * j)) fMul := by
  intro P H x y d e res Q s v1 v2 hf q
  unfold fMul at hf
  split at hf
  · split at hf
    · rename_i h
      cases hf
      exact ⟨_, _, vint v1, vint v2, okMul_c h, q _ P H (Al.refl s) dint⟩
    · cases hf
  · cases hf
theorem f_fdiv {K : PySem.W.Frag} : Op2V K (rI CDiv fun i j => .int (i / j)) fFdiv := by
  intro P H x y d e res Q s v1 v2 hf q
  unfold fFdiv at hf
  split at hf
  · split at hf
    · rename_i h
      cases hf
      exact ⟨_, _, vint v1, vint v2, h, q _ P H (Al.refl s) dint⟩
    · cases hf
  · cases hf
theorem f_mod {K : PySem.W.Frag} : Op2V K (rI (fun _ j => 0 < j) fun i j => .int (i % j)) fMod := by
  intro P H x y d e res Q s v1 v2 hf q
  unfold fMod at hf
  split at hf
  · split at hf
    · rename_i h
      cases hf
      exact ⟨_, _, vint v1, vint v2, h, q _ P H (Al.refl s) dint⟩
    · cases hf
  · cases hf
theorem f_pow {K : PySem.W.Frag} : Op2V K (rI CPow fun i j => .int (i ^ j.toNat)) fPow := by
  intro P H x y d e res Q s v1 v2 hf q
  unfold fPow at hf
  split at hf
  · split at hf
    · rename_i h
      cases hf
      exact ⟨_, _, vint v1, vint v2, h, q _ P H (Al.refl s) dint⟩
    · cases hf
  · cases hf
theorem f_shl {K : PySem.W.Frag} : Op2V K (rI CPow fun i j => .int (i * 2 ^ j.toNat)) fShl := by
  intro P H x y d e res Q s v1 v2 hf q
  unfold fShl at hf
  split at hf
  · split at hf
    · rename_i h
      cases hf
      exact ⟨_, _, vint v1, vint v2, h, q _ P H (Al.refl s) dint⟩
    · cases hf
  · cases hf
theorem f_shr {K : PySem.W.Frag} : Op2V K (rI (fun _ j => 0 ≤ j) fun i j => .int (i / 2 ^ j.toNat)) fShr := by
  intro P H x y d e res Q s v1 v2 hf q
  unfold fShr at hf
  split at hf
  · split at hf
    · rename_i h
      cases hf
      exact ⟨_, _, vint v1, vint v2, h, q _ P H (Al.refl s) dint⟩
    · cases hf
  · cases hf
theorem f_and {K : PySem.W.Frag} : Op2V K (rI0 fun i j => .int (Builtin.bitAnd i j)) fAnd := by
  intro P H x y d e res Q s v1 v2 hf q
  unfold fAnd at hf
  split at hf
  · cases hf
    exact ⟨_, _, vint v1, vint v2, q _ P H (Al.refl s) dint⟩
  · cases hf
theorem f_neg {K : PySem.W.Frag} : Op1V K (rU fun i => .int (-i)) fNeg := by
  intro P H x d res Q s v1 hf q
  unfold fNeg at hf
  split at hf
  · cases hf
    exact ⟨_, vint v1, q _ P H (Al.refl s) dint⟩
  · cases hf
/-! ### comparisons -/
mutual
def D.py : D → PyData
  | .non => .none
  | .bl b => .bool b
  | .int i => .int i
  | .str s => .str (sT s)
  | .tup ds => .tuple (D.pyL ds)
  | .lst ds => .list (D.pyL ds)
  | .rol ds => .list (D.pyL ds)
  | _ => .dict []
def D.pyL : List D → List PyData
  | [] => []
  | d :: ds => D.py d :: D.pyL ds
end
mutual
def D.ok : D → Bool
  | .str s => s.all (· < 1114112)
  | .tup ds => D.okL ds
  | .lst ds => D.okL ds
  | .rol ds => D.okL ds
  | .dct _ _ => false
  | .exn _ _ _ => false
  | .obj _ _ _ => false
  | .fn _ => false
  | _ => true
def D.okL : List D → Bool
  | [] => true
  | d :: ds => D.ok d && D.okL ds
end
mutual
def D.dep : D → Nat
  | .tup ds => D.depL ds + 1
  | .lst ds => D.depL ds + 1
  | .rol ds => D.depL ds + 1
  | _ => 0
def D.depL : List D → Nat
  | [] => 0
  | d :: ds => max (D.dep d) (D.depL ds)
end
mutual
theorem py_ok : ∀ d : D, d.ok = true → d.py.canLay0 = true ∧ d.py.depth = d.dep
  | .non, h => ⟨rfl, rfl⟩
  | .bl b, h => ⟨rfl, rfl⟩
  | .int i, h => ⟨rfl, rfl⟩
  | .str s, h => by
    refine ⟨?_, rfl⟩
    unfold D.ok at h
    show PyData.strOk (sT s) = true
    unfold PyData.strOk sT
    rw [Array.all_eq_true']
    intro x hx
    rw [List.all_eq_true] at h
    exact h x (by simpa using hx)
  | .tup ds, h => by
    unfold D.ok at h
    obtain ⟨a, b⟩ := pyL_ok ds h
    unfold D.py D.dep
    exact ⟨by unfold PyData.canLay0; exact a, by unfold PyData.depth; rw [b]⟩
  | .lst ds, h => by
    unfold D.ok at h
    obtain ⟨a, b⟩ := pyL_ok ds h
    unfold D.py D.dep
    exact ⟨by unfold PyData.canLay0; exact a, by unfold PyData.depth; rw [b]⟩
  | .rol ds, h => by
    unfold D.ok at h
    obtain ⟨a, b⟩ := pyL_ok ds h
    unfold D.py D.dep
    exact ⟨by unfold PyData.canLay0; exact a, by unfold PyData.depth; rw [b]⟩
  | .dct _ _, h => by cases h
  | .exn _ _ _, h => by cases h
  | .obj _ _ _, h => by cases h
  | .fn _, h => by cases h
theorem pyL_ok : ∀ ds : List D, D.okL ds = true → PyData.canLayAll0 (D.pyL ds) = true ∧ PyData.depthAll (D.pyL ds) = D.depL ds
  | [], h => ⟨rfl, rfl⟩
  | d :: ds, h => by
    unfold D.okL at h
    rw [Bool.and_eq_true] at h
    obtain ⟨a, b⟩ := py_ok d h.1
    obtain ⟨a', b'⟩ := pyL_ok ds h.2
    unfold D.pyL D.depL
    exact ⟨by unfold PyData.canLayAll0; rw [a, a']; rfl, by unfold PyData.depthAll; rw [b, b']⟩
end
section
variable {K : PySem.W.Frag} {P H : Hp}
mutual
theorem den_dp (s : Same P H) : ∀ (d : D) (v : V), d.ok = true → Den K P d v → Dp K H v d.py
  | .non, v, o, h => by unfold Den at h; subst h; exact .non
  | .bl b, v, o, h => by unfold Den at h; subst h; exact .bl b
  | .int i, v, o, h => by unfold Den at h; subst h; exact .int i
  | .str x, v, o, h => by unfold Den at h; subst h; exact .str _
  | .tup ds, v, o, h => by
    unfold Den at h
    obtain ⟨a, vs, rfl, q, l⟩ := h
    unfold D.ok at o
    unfold D.py
    exact .tup (same_t s q) (denL_dp s ds vs o l)
  | .lst ds, v, o, h => by
    unfold Den at h
    obtain ⟨a, vs, rfl, q, l⟩ := h
    unfold D.ok at o
    unfold D.py
    exact .lst (SqL.of (s a _ q)) (denL_dp s ds vs o l)
  | .rol ds, v, o, h => by
    unfold Den at h
    obtain ⟨a, vs, rfl, q, l⟩ := h
    unfold D.ok at o
    unfold D.py
    exact .lst (same_l s q) (denL_dp s ds vs o l)
  | .dct _ _, v, o, h => by cases o
  | .exn _ _ _, v, o, h => by cases o
  | .obj _ _ _, v, o, h => by cases o
  | .fn _, v, o, h => by cases o
theorem denL_dp (s : Same P H) : ∀ (ds : List D) (vs : List V), D.okL ds = true → DenL K P ds vs → DpAll K H vs (D.pyL ds)
  | [], vs, o, h => by unfold DenL at h; subst h; exact .nil
  | d :: ds, vs, o, h => by
    unfold DenL at h
    obtain ⟨v, r, rfl, h1, h2⟩ := h
    unfold D.okL at o
    rw [Bool.and_eq_true] at o
    unfold D.pyL
    exact .cons (den_dp s d v o.1 h1) (denL_dp s ds r o.2 h2)
end
theorem view_dp (s : Same P H) {d : D} {v : V} (o : d.ok = true) (h : View K P H d v) : Dp K H v d.py := by
  cases d with
  | lst ds =>
    obtain ⟨a, vs, rfl, q, l⟩ := vlst h
    unfold D.ok at o
    unfold D.py
    exact .lst (SqL.of q) (denL_dp s ds vs o l)
  | dct _ _ => cases o
  | exn _ _ _ => cases o
  | obj _ _ _ => cases o
  | fn _ => cases o
  | _ => exact den_dp s _ v o h
end
def D.eqB (d e : D) : Bool := PyData.eqv d.py e.py
def okCmp (d e : D) : Bool := d.ok && e.ok && decide (d.dep ≤ 60) && decide (e.dep ≤ 60)
def fEq : D → D → Option Bool
  | .int i, .int j => some (decide (i = j))
  | .str a, .str b => some (decide (a = b))
  | .bl a, .bl b => some (decide (a = b))
  | .non, .int j => some false
  | .int j, .non => some false
  | .non, .str j => some false
  | .str j, .non => some false
  | .int j, .str k => some false
  | .str j, .int k => some false
  | d, e => if okCmp d e then some (D.eqB d e) else none
def fNe (d e : D) : Option Bool := (fEq d e).map (! ·)
theorem eq_cases (d e : D) : (∃ i j, d = .int i ∧ e = .int j ∧ fEq d e = some (decide (i = j))) ∨ (∃ i j, d = .str i ∧ e = .str j ∧ fEq d e = some (decide (i = j))) ∨ (∃ i j, d = .bl i ∧ e = .bl j ∧ fEq d e = some (decide (i = j))) ∨
    (fEq d e = some false ∧ ((d = .non ∧ ∃ j, e = .int j) ∨ (e = .non ∧ ∃ j, d = .int j) ∨ (d = .non ∧ ∃ j, e = .str j) ∨ (e = .non ∧ ∃ j, d = .str j) ∨ (∃ i j, d = .int i ∧ e = .str j) ∨ (∃ i j, d = .str i ∧ e = .int j))) ∨
    fEq d e = (if okCmp d e then some (D.eqB d e) else none) := by
  cases d <;> cases e <;> first
    | exact .inl ⟨_, _, rfl, rfl, rfl⟩
    | exact .inr (.inl ⟨_, _, rfl, rfl, rfl⟩)
    | exact .inr (.inr (.inl ⟨_, _, rfl, rfl, rfl⟩))
    | exact .inr (.inr (.inr (.inl ⟨rfl, .inl ⟨rfl, _, rfl⟩⟩)))
    | exact .inr (.inr (.inr (.inl ⟨rfl, .inr (.inl ⟨rfl, _, rfl⟩)⟩)))
    | exact .inr (.inr (.inr (.inl ⟨rfl, .inr (.inr (.inl ⟨rfl, _, rfl⟩))⟩)))
    | exact .inr (.inr (.inr (.inl ⟨rfl, .inr (.inr (.inr (.inl ⟨rfl, _, rfl⟩)))⟩)))
    | exact .inr (.inr (.inr (.inl ⟨rfl, .inr (.inr (.inr (.inr (.inl ⟨_, _, rfl, rfl⟩))))⟩)))
    | exact .inr (.inr (.inr (.inl ⟨rfl, .inr (.inr (.inr (.inr (.inr ⟨_, _, rfl, rfl⟩))))⟩)))
    | exact .inr (.inr (.inr (.inr rfl)))
def rEqA (K : PySem.W.Frag) : R2 := fun x y H Q => rEq x y H Q ∨ rEqD K x y H Q
def rNeA (K : PySem.W.Frag) : R2 := fun x y H Q => rNe x y H Q ∨ rNeD K x y H Q
theorem op_eqA {X : Cx} (hu : X.A.units + 64 < cLine) : OpR X (compareOp .Eq) (rEqA X.K) := op_eq.or (op_eqD hu)
theorem op_neA {X : Cx} (hu : X.A.units + 64 < cLine) : OpR X (compareOp .NotEq) (rNeA X.K) := op_ne.or (op_neD hu)
theorem shaped_of {d : D} (o : d.ok = true) (h : d.dep ≤ 60) : SeqAt.shaped d.py = true := by
  unfold SeqAt.shaped
  obtain ⟨a, b⟩ := py_ok d o
  rw [a, b]
  simp; omega
theorem str_eq {i j : Tx} : decide (V.str (sT i) = V.str (sT j)) = decide (i = j) := by
  by_cases h : i = j
  · subst h; simp
  · rw [decide_eq_false h, decide_eq_false]
    intro e
    exact h (sT_inj (by injection e))
theorem f_eqG {K : PySem.W.Frag} {P H : Hp} {x y : V} {d e : D} {res : Bool} {Q : VK} (s : Same P H) (v1 : View K P H d x) (v2 : View K P H e y) (hf : fEq d e = some res) (q : Q (.bl res) H) : rEqA K x y H Q := by
  rcases eq_cases d e with ⟨i, j, rfl, rfl, h⟩ | ⟨i, j, rfl, rfl, h⟩ | ⟨i, j, rfl, rfl, h⟩ | ⟨h, h2⟩ | h <;> rw [h] at hf
  · cases hf
    rw [vint v1, vint v2]
    refine .inl ⟨rfl, ?_⟩
    simpa using q
  · cases hf
    rw [vstr v1, vstr v2]
    refine .inl ⟨rfl, ?_⟩
    rw [str_eq]; exact q
  · cases hf
    rw [vbl v1, vbl v2]
    refine .inl ⟨rfl, ?_⟩
    simpa using q
  · cases hf
    rcases h2 with ⟨rfl, j, rfl⟩ | ⟨rfl, j, rfl⟩ | ⟨rfl, j, rfl⟩ | ⟨rfl, j, rfl⟩ | ⟨i, j, rfl, rfl⟩ | ⟨i, j, rfl, rfl⟩
    · rw [vnon v1, vint v2]; exact .inl ⟨rfl, by simpa using q⟩
    · rw [vint v1, vnon v2]; exact .inl ⟨rfl, by simpa using q⟩
    · rw [vnon v1, vstr v2]; exact .inl ⟨rfl, by simpa using q⟩
    · rw [vstr v1, vnon v2]; exact .inl ⟨rfl, by simpa using q⟩
    · rw [vint v1, vstr v2]; exact .inl ⟨rfl, by simpa using q⟩
    · rw [vstr v1, vint v2]; exact .inl ⟨rfl, by simpa using q⟩
  · split at hf
    · rename_i o
      unfold okCmp at o
      simp only [Bool.and_eq_true, decide_eq_true_eq] at o
      obtain ⟨⟨⟨o1, o2⟩, o3⟩, o4⟩ := o
      cases hf
      exact .inr ⟨d.py, e.py, view_dp s o1 v1, view_dp s o2 v2, shaped_of o1 o3, shaped_of o2 o4, q⟩
    · cases hf
theorem f_eq {K : PySem.W.Frag} : Op2B K (rEqA K) fEq := fun P H x y d e res Q s v1 v2 hf q => f_eqG s v1 v2 hf q
theorem f_ne {K : PySem.W.Frag} : Op2B K (rNeA K) fNe := fun P H x y d e res Q s v1 v2 hf q => by
  unfold fNe at hf
  cases h : fEq d e with
  | none => rw [h] at hf; cases hf
  | some b =>
    rw [h] at hf
    cases hf
    have g := f_eqG (Q := fun v H' => ∃ b, v = .bl b ∧ Q (.bl (!b)) H') s v1 v2 h ⟨b, rfl, q⟩
    rcases g with ⟨h1, b', e1, q1⟩ | ⟨d', e', h1, h2, h3, h4, b', e1, q1⟩
    · cases e1; exact .inl ⟨h1, q1⟩
    · cases e1; exact .inr ⟨d', e', h1, h2, h3, h4, q1⟩
def cLt : D → D → Option Bool
  | .int i, .int j => some (decide (i < j))
  | .str i, .str j => some (decide (i < j))
  | _, _ => none
def cLe : D → D → Option Bool
  | .int i, .int j => some (decide (i ≤ j))
  | _, _ => none
def cGt : D → D → Option Bool
  | .int i, .int j => some (decide (j < i))
  | _, _ => none
def cGe : D → D → Option Bool
  | .int i, .int j => some (decide (j ≤ i))
  | _, _ => none
def rLtA : R2 := fun x y H Q => (rI0 fun i j => .bl (decide (i < j))) x y H Q ∨ ∃ i j, x = V.str i ∧ y = V.str j ∧ Q (.bl (decide (i.cps.toList < j.cps.toList))) H
theorem op_ltA {X : Cx} : OpR X (compareOp .Lt) rLtA := op_lt.or op_lt_str
theorem f_lt {K : PySem.W.Frag} : Op2B K rLtA cLt := fun P H x y d e res Q s v1 v2 hf q => by
  unfold cLt at hf
  split at hf
  · cases hf; exact .inl ⟨_, _, vint v1, vint v2, q⟩
  · cases hf
    refine .inr ⟨_, _, vstr v1, vstr v2, ?_⟩
    rw [sT_cps, sT_cps]; exact q
  · cases hf
theorem f_le {K : PySem.W.Frag} : Op2B K (rI0 fun i j => .bl (decide (i ≤ j))) cLe := fun P H x y d e res Q s v1 v2 hf q => by
  unfold cLe at hf
  split at hf
  · cases hf; exact ⟨_, _, vint v1, vint v2, q⟩
  · cases hf
theorem f_gt {K : PySem.W.Frag} : Op2B K (rI0 fun i j => .bl (decide (j < i))) cGt := fun P H x y d e res Q s v1 v2 hf q => by
  unfold cGt at hf
  split at hf
  · cases hf; exact ⟨_, _, vint v1, vint v2, q⟩
  · cases hf
theorem f_ge {K : PySem.W.Frag} : Op2B K (rI0 fun i j => .bl (decide (j ≤ i))) cGe := fun P H x y d e res Q s v1 v2 hf q => by
  unfold cGe at hf
  split at hf
  · cases hf; exact ⟨_, _, vint v1, vint v2, q⟩
  · cases hf
/-- is None -/
def cIsN : D → D → Option Bool
  | .non, .non => some true
  | _, .non => some false
  | _, _ => none
theorem isN_v {K : PySem.W.Frag} {P H : Hp} {x y : V} {d e : D} {res : Bool} (v1 : View K P H d x) (v2 : View K P H e y) (hf : cIsN d e = some res) : y = .non ∧ decide (x = .non) = res := by
  unfold cIsN at hf
  split at hf
  · cases hf
    exact ⟨vnon v2, by rw [vnon v1]; rfl⟩
  · rename_i hd
    cases hf
    refine ⟨vnon v2, ?_⟩
    have hx : x ≠ .non := by
      cases d with
      | non => exact absurd rfl hd
      | bl b => rw [vbl v1]; intro z; cases z
      | int b => rw [vint v1]; intro z; cases z
      | str b => rw [vstr v1]; intro z; cases z
      | tup ds => obtain ⟨a, vs, e, _⟩ := vtupD v1; subst e; intro z; cases z
      | lst ds => obtain ⟨a, vs, e, _⟩ := vlst v1; subst e; intro z; cases z
      | rol ds => obtain ⟨a, vs, e, _⟩ := v1; subst e; intro z; cases z
      | dct ks ds => obtain ⟨a, vs, e, _⟩ := v1; subst e; intro z; cases z
      | exn c ks ds => obtain ⟨a, C, d, ws, e, _⟩ := v1; subst e; intro z; cases z
      | obj c ks ds => obtain ⟨a, C, d, ws, e, _⟩ := v1; subst e; intro z; cases z
      | fn ds => obtain ⟨f, vs, e, _⟩ := v1; subst e; intro z; cases z
    exact decide_eq_false hx
  · cases hf
theorem f_isN {K : PySem.W.Frag} : Op2B K (fun x y H Q => y = .non ∧ Q (.bl (decide (x = .non))) H) cIsN := fun P H x y d e res Q s v1 v2 hf q => by
  obtain ⟨h1, h2⟩ := isN_v v1 v2 hf
  exact ⟨h1, by rw [h2]; exact q⟩
/-- in -/
def D.flat : D → Bool
  | .non => true | .bl _ => true | .int _ => true | .str _ => true
  | _ => false
def D.flatEq : D → D → Bool
  | .non, .non => true
  | .bl a, .bl b => a == b
  | .bl a, .int b => (if a then 1 else 0) == b
  | .int a, .bl b => a == (if b then 1 else 0)
  | .int a, .int b => a == b
  | .str a, .str b => a == b
  | _, _ => false
def inL (d : D) (ds : List D) : Option Bool := if d.flat && ds.all D.flat then some (ds.any fun z => D.flatEq z d) else if okCmp d (.lst ds) then some (ds.any fun z => D.eqB z d) else none
def cIn : D → D → Option Bool
  | d, .lst ds => inL d ds
  | d, .tup ds => if d.flat && ds.all D.flat then some (ds.any fun z => D.flatEq z d) else none
  | .str [c], .str z => some (decide (c ∈ z))
  | .int i, .dct ks _ => some (ks.any fun k => decide (k = .inl i))
  | .str i, .dct ks _ => some (ks.any fun k => decide (k = .inr i))
  | _, _ => none
end Od
namespace Od
open PySem PySem.Spec L2
open PyProof.Rows hiding St
/-! ### in -/
section
variable {K : PySem.W.Frag} {P H : Hp}
theorem dflat {d : D} {v : V} (f : d.flat = true) (h : Den K P d v) : flatV v = true := by
  cases d <;> simp [D.flat] at f <;> unfold Den at h <;> subst h <;> rfl
theorem sT_beq {a b : Tx} : (sT a == sT b) = (a == b) := by
  by_cases h : a = b
  · subst h; simp
  · have h2 : ¬ sT a = sT b := fun e => h (sT_inj e)
    rw [beq_eq_false_iff_ne.mpr h2, beq_eq_false_iff_ne.mpr h]
theorem dflatEq {d e : D} {v u : V} (f : d.flat = true) (g : e.flat = true) (h : Den K P d v) (k : Den K P e u) : eqV v u = D.flatEq d e := by
  cases d <;> simp [D.flat] at f <;> cases e <;> simp [D.flat] at g <;> unfold Den at h k <;> subst h <;> subst k <;> simp [eqV, D.flatEq]
  exact sT_beq
theorem flatL : ∀ {ds : List D} {vs : List V}, ds.all D.flat = true → DenL K P ds vs → vs.all flatV = true
  | [], vs, f, h => by unfold DenL at h; subst h; rfl
  | d :: ds, vs, f, h => by
    unfold DenL at h
    obtain ⟨v, r, rfl, h1, h2⟩ := h
    rw [List.all_cons, Bool.and_eq_true] at f ⊢
    exact ⟨dflat f.1 h1, flatL f.2 h2⟩
theorem inV_eq {d : D} {v : V} (f : d.flat = true) (h : Den K P d v) : ∀ {ds : List D} {vs : List V}, ds.all D.flat = true → DenL K P ds vs → inV v vs = ds.any fun z => D.flatEq z d
  | [], vs, _, k => by unfold DenL at k; subst k; rfl
  | e :: ds, vs, g, k => by
    unfold DenL at k
    obtain ⟨u, r, rfl, h1, h2⟩ := k
    rw [List.all_cons, Bool.and_eq_true] at g
    have ih := inV_eq f h g.2 h2
    unfold inV at ih ⊢
    rw [List.any_cons, List.any_cons, ih, dflatEq g.1 f h1 h]
theorem vden {d : D} {v : V} (f : d.flat = true) (h : View K P H d v) : Den K P d v := by
  cases d <;> simp [D.flat] at f <;> exact h
theorem pyL_any (d : D) : ∀ ds : List D, ((D.pyL ds).any fun z => PyData.eqv z d.py) = ds.any fun z => D.eqB z d
  | [] => rfl
  | e :: ds => by
    show ((D.py e :: D.pyL ds).any fun z => PyData.eqv z d.py) = _
    rw [List.any_cons, List.any_cons, pyL_any d ds]; rfl
theorem valV_keys (ws : List (Key × V)) (k : Key) : (valV ws k).isSome = (ws.map Prod.fst).any fun j => decide (j = k) := by
  rw [← valV_any, List.any_map]; rfl
theorem keys_any (ks : List DK) (k : DK) : ((ks.map kK).any fun j => decide (j = kK k)) = ks.any fun j => decide (j = k) := by
  rw [List.any_map]
  congr 1
  funext j
  by_cases h : j = k
  · subst h; simp
  · have : ¬ kK j = kK k := fun e => h (kK_inj e)
    simp [h, this]
end
theorem op_inK {X : Cx} (hu : X.A.units + 1 < cLine) : OpR X (compareOp .In) (fun x y H Q => ∃ a o, y = .ref a ∧ DGet H a x o ∧ Q (.bl o.isSome) H) := by
  intro pins s σ H x y v u Q I rx ry h
  obtain ⟨a, o, rfl, g, q⟩ := h
  cases ry
  exact d_in hu I g rx fun s3 I3 => ⟨.bl _, H, I3, rfl, q⟩
def rInA (K : PySem.W.Frag) : R2 := fun x y H Q => rIn K false x y H Q ∨ rInD K x y H Q ∨ (∃ (c : Nat) (z : Str), x = V.str ⟨#[c]⟩ ∧ y = V.str z ∧ Q (.bl (decide (c ∈ z.cps.toList))) H) ∨ (∃ a o, y = V.ref a ∧ DGet H a x o ∧ Q (.bl o.isSome) H)
theorem op_inA {X : Cx} (hu : X.A.units + 65 < cLine) : OpR X (compareOp .In) (rInA X.K) := op_in_seq.or ((op_inD hu).or (op_in_sign.or (op_inK (by omega))))
/-- what «in» rests upon: one of four ways, with its answer -/
theorem in_cases {K : PySem.W.Frag} {P H : Hp} {x y : V} {d e : D} {res : Bool} (s : Same P H) (v1 : View K P H d x) (v2 : View K P H e y) (hf : cIn d e = some res) :
    (∃ p xs, y = .ref p ∧ (SqL K H p xs ∨ SqT K H p xs) ∧ flatV x = true ∧ xs.all flatV = true ∧ inV x xs = res) ∨
    (∃ d' ds, Dp K H x d' ∧ Dp K H y (.list ds) ∧ SeqAt.shaped d' = true ∧ SeqAt.shaped (.list ds) = true ∧ (ds.any fun z => PyData.eqv z d') = res) ∨
    (∃ (c : Nat) (z : Str), x = V.str ⟨#[c]⟩ ∧ y = V.str z ∧ decide (c ∈ z.cps.toList) = res) ∨ (∃ a o, y = V.ref a ∧ DGet H a x o ∧ o.isSome = res) := by
  unfold cIn at hf
  split at hf
  · rename_i ds
    unfold inL at hf
    split at hf
    · rename_i f
      cases hf
      rw [Bool.and_eq_true] at f
      obtain ⟨a, vs, rfl, q, l⟩ := vlst v2
      exact .inl ⟨a, vs, rfl, .inl (SqL.of q), dflat f.1 (vden f.1 v1), flatL f.2 l, inV_eq f.1 (vden f.1 v1) f.2 l⟩
    · split at hf
      · rename_i o
        cases hf
        unfold okCmp at o
        simp only [Bool.and_eq_true, decide_eq_true_eq] at o
        obtain ⟨⟨⟨o1, o2⟩, o3⟩, o4⟩ := o
        refine .inr (.inl ⟨d.py, D.pyL ds, view_dp s o1 v1, ?_, shaped_of o1 o3, ?_, pyL_any d ds⟩)
        · have := view_dp s o2 v2; unfold D.py at this; exact this
        · have := shaped_of o2 o4; unfold D.py at this; exact this
      · cases hf
  · rename_i ds
    split at hf
    · rename_i f
      cases hf
      rw [Bool.and_eq_true] at f
      obtain ⟨a, vs, rfl, q, l⟩ := vtup s v2
      exact .inl ⟨a, vs, rfl, .inr q, dflat f.1 (vden f.1 v1), flatL f.2 l, inV_eq f.1 (vden f.1 v1) f.2 l⟩
    · cases hf
  · rename_i c z
    cases hf
    exact .inr (.inr (.inl ⟨c, sT z, vstr v1, vstr v2, by rw [sT_cps]⟩))
  · rename_i i ks vs
    cases hf
    obtain ⟨a, ws, rfl, q, k, l⟩ := v2
    rw [vint v1]
    refine .inr (.inr (.inr ⟨a, _, rfl, DGet.k (k := .inl i) q, ?_⟩))
    rw [valV_keys, k]
    exact keys_any ks (.inl i)
  · rename_i i ks vs
    cases hf
    obtain ⟨a, ws, rfl, q, k, l⟩ := v2
    rw [vstr v1]
    refine .inr (.inr (.inr ⟨a, _, rfl, DGet.k (k := .inr (sT i)) q, ?_⟩))
    rw [valV_keys, k]
    exact keys_any ks (.inr i)
  · cases hf
theorem f_in {K : PySem.W.Frag} : Op2B K (rInA K) cIn := fun P H x y d e res Q s v1 v2 hf q => by
  rcases in_cases s v1 v2 hf with ⟨p, xs, h1, h2, h3, h4, h5⟩ | ⟨d', ds, h1, h2, h3, h4, h5⟩ | ⟨c, z, h1, h2, h5⟩ | ⟨a, o, h1, h2, h5⟩
  · exact .inl ⟨p, xs, h1, h2, h3, h4, by rw [h5]; exact q⟩
  · exact .inr (.inl ⟨d', ds, h1, h2, h3, h4, by rw [h5]; exact q⟩)
  · exact .inr (.inr (.inl ⟨c, z, h1, h2, by rw [h5]; exact q⟩))
  · exact .inr (.inr (.inr ⟨a, o, h1, h2, by rw [h5]; exact q⟩))
/-! ### subscripts -/
def kLook (ks : List DK) (vs : List D) (k : DK) : Option D := ((ks.zip vs).find? fun p => decide (p.1 = k)).map Prod.snd
def fIdx : D → D → Option D
  | .lst ds, .int i => atI ds i
  | .rol ds, .int i => atI ds i
  | .tup ds, .int i => atI ds i
  | .str s, .int i => if s.length ≤ 1000000 then (atI s i).map fun c => .str [c] else none
  | .dct ks vs, .int i => kLook ks vs (.inl i)
  | .dct ks vs, .str i => kLook ks vs (.inr i)
  | _, _ => none
theorem ix_dct {X : Cx} (hu : X.A.units + 1 < cLine) : IxR X (fun x y H Q => ∃ a v, x = .ref a ∧ DGet H a y (some v) ∧ Q v H) := by
  intro value slice pins s σ H x y v u Q I rx ry h hs
  obtain ⟨a, z, rfl, g, q⟩ := h
  cases rx
  have hT := dict_typeIs I g
  unfold subscriptTail
  refine wpAny_bind ?_
  rw [getitemInPython_of_ne hT.not_modules]
  refine wpAny_bind (wpAny_specialOf hT PySem.F.slot_dict_getitem.lookup ?_)
  have fin : wpAny (model X.prog X.w) X.A (subscripted slice false (.ref a) u) (fun r s₃ => wpAny (model X.prog X.w) X.A (letTemporaryGo value (.ref a) r >>= fun _ => pure r) (EP X pins σ Q) X.xe s₃) X.xe s := by
    rw [hs]
    exact wpAny_operating (wpAny_mono (d_getItem hu I g ry fun w' s' I' r' => (show EP X pins σ Q w' s' from ⟨z, H, I', r', q⟩)) (fun r s₃ h₃ => wpAny_bind (wpAny_letTemporaryGo (wpAny_pure h₃))) fun _ _ x => x)
  first
    | exact wpAny_pure (wpAny_bind fin)
    | exact wpAny_bind (wpAny_pure (wpAny_bind fin))
    | exact wpAny_bind fin
def rIxA (K : PySem.W.Frag) : R2 := fun x y H Q => rIx K x y H Q ∨ ∃ a v, x = V.ref a ∧ DGet H a y (some v) ∧ Q v H
theorem ix_A {X : Cx} (hu : X.A.units + 1 < cLine) : IxR X (rIxA X.K) := ix_seq.or (ix_dct hu)
theorem atI_den {K : PySem.W.Frag} {P : Hp} {ds : List D} {vs : List V} {i : Int} {d : D} (l : DenL K P ds vs) (h : atI ds i = some d) : ∃ v, atI vs i = some v ∧ Den K P d v := by
  unfold atI at h ⊢
  rw [l.len]
  cases e : ixN ds.length i with
  | none => rw [e] at h; cases h
  | some j =>
    rw [e] at h
    exact l.get h
theorem kLook_v {K : PySem.W.Frag} {P : Hp} : ∀ {ks : List DK} {ds : List D} {ws : List (Key × V)} {k : DK} {d : D}, ws.map Prod.fst = ks.map kK → DenL K P ds (ws.map Prod.snd) → kLook ks ds k = some d → ∃ v, valV ws (kK k) = some v ∧ Den K P d v
  | [], ds, ws, k, d, _, _, h => by simp [kLook] at h
  | k0 :: ks, [], ws, k, d, _, _, h => by simp [kLook] at h
  | k0 :: ks, d0 :: ds, [], k, d, e, _, h => by simp at e
  | k0 :: ks, d0 :: ds, (j, v) :: ws, k, d, e, l, h => by
    simp only [List.map_cons, List.cons.injEq] at e
    simp only [List.map_cons] at l
    unfold DenL at l
    obtain ⟨v', r, e2, h1, h2⟩ := l
    simp only [List.cons.injEq] at e2
    obtain ⟨rfl, rfl⟩ := e2
    unfold kLook at h
    rw [List.zip_cons_cons, List.find?_cons] at h
    by_cases hk : k0 = k
    · subst hk
      rw [decide_eq_true rfl] at h
      simp only [Option.map_some, Option.some.injEq] at h
      subst h
      exact ⟨v, valV_pos (p := (j, v)) e.1, h1⟩
    · rw [decide_eq_false hk] at h
      have hj : ¬ (j, v).1 = kK k := fun z => hk (kK_inj (e.1.symm.trans z))
      rw [valV_neg hj]
      exact kLook_v e.2 h2 h
theorem f_idx {K : PySem.W.Frag} : Op2V K (rIxA K) fIdx := by
  intro P H x y d e res Q s v1 v2 hf q
  unfold fIdx at hf
  split at hf
  · obtain ⟨a, vs, rfl, h, l⟩ := vlst v1
    obtain ⟨v, hv, dn⟩ := atI_den l hf
    exact .inl (.inl ⟨a, vs, _, v, rfl, vint v2, SqL.of h, hv, q v P H (Al.refl s) dn⟩)
  · obtain ⟨a, vs, rfl, h, l⟩ := vrol s v1
    obtain ⟨v, hv, dn⟩ := atI_den l hf
    exact .inl (.inl ⟨a, vs, _, v, rfl, vint v2, h, hv, q v P H (Al.refl s) dn⟩)
  · obtain ⟨a, vs, rfl, h, l⟩ := vtup s v1
    obtain ⟨v, hv, dn⟩ := atI_den l hf
    exact .inl (.inr (.inl ⟨a, vs, _, v, rfl, vint v2, h, hv, q v P H (Al.refl s) dn⟩))
  · rename_i z i
    split at hf
    · rename_i hz
      cases e : atI z i with
      | none => rw [e] at hf; cases hf
      | some c =>
        rw [e] at hf
        cases hf
        exact .inl (.inr (.inr ⟨sT z, i, c, vstr v1, vint v2, by rw [sT_len]; exact szOf hz, by rw [sT_cps]; exact e, q _ P H (Al.refl s) dstr⟩))
    · cases hf
  · obtain ⟨a, ws, rfl, h, k, l⟩ := v1
    obtain ⟨v, hv, dn⟩ := kLook_v k l hf
    rw [vint v2]
    exact .inr ⟨a, v, rfl, by rw [← hv]; exact DGet.k (k := .inl _) h, q v P H (Al.refl s) dn⟩
  · obtain ⟨a, ws, rfl, h, k, l⟩ := v1
    obtain ⟨v, hv, dn⟩ := kLook_v k l hf
    rw [vstr v2]
    exact .inr ⟨a, v, rfl, by rw [← hv]; exact DGet.k (k := .inr _) h, q v P H (Al.refl s) dn⟩
  · cases hf
section
variable {X : Cx} {E : WX} {a b c : Expr} {A B C : HM} {pos : Pos}
theorem ev_ix {r : R2} {f : D → D → Option D} (hr : IxR X r) (hf : Op2V X.K r f) (ha : EH X E a A) (hb : EH X E b B) (hs : PlainIx b) : EV X E (.Subscript a b pos) (e2 f A B) :=
  PE.imp (pe_ix hr ha hb hs) fun σ H Q h => by
    obtain ⟨P, W, ρ, w, g⟩ := r2_of (G := fun r ρ => .ok (r, ρ)) h
    exact ⟨P, W, ρ, w, g.mono fun x H1 ⟨P1, W1, ρ1, w1, g1⟩ => ⟨P1, W1, ρ1, w1, g1.mono fun y H2 ⟨P2, W2, ρ2, d, e, res, w2, v1, v2, hfe, g2⟩ =>
      hf P2 H2 x y d e res Q w2.same v1 v2 hfe (fin_v w2 g2)⟩⟩
end
/-! slices -/
def cutD {α : Type} (xs : List α) (lo hi : Option Int) : List α := (xs.drop (HT.sIx xs.length 0 lo)).take (HT.sIx xs.length xs.length hi - HT.sIx xs.length 0 lo)
def fCut (lo hi : Option Int) : D → Option D
  | .lst ds => some (.lst (cutD ds lo hi))
  | .rol ds => some (.lst (cutD ds lo hi))
  | .tup ds => some (.tup (cutD ds lo hi))
  | .str z => if z.length ≤ 1000000 then some (.str (cutD z lo hi)) else none
  | _ => none
def lCut (lo hi : Option Int) : D → Option (List D)
  | .lst ds => some (cutD ds lo hi)
  | .rol ds => some (cutD ds lo hi)
  | _ => none
def intOf : D → Option Int
  | .int i => some i
  | _ => none
def oN : Env → Res (Option Int × Env) := fun ρ => .ok (none, ρ)
def oS (F : EM) : Env → Res (Option Int × Env) := fun ρ => F ρ >>= fun a => Res.of (intOf a.1) >>= fun i => .ok (some i, a.2)
def eCut (A : HM) (lo hi : Env → Res (Option Int × Env)) : EM := fun ρ => A ρ >>= fun a => lo a.2 >>= fun l => hi l.2 >>= fun u => Res.of ((getH a.1 u.2).bind (fCut l.1 u.1)) >>= fun r => .ok (r, u.2)
def tCut (A : HM) (lo hi : Env → Res (Option Int × Env)) : OM := fun ρ => A ρ >>= fun a => lo a.2 >>= fun l => hi l.2 >>= fun u => Res.of ((getH a.1 u.2).bind (lCut l.1 u.1)) >>= fun r => .ok (.lst r, u.2)
def ORel (K : PySem.W.Frag) (mg : Str → Option Value) (P : Hp) (W : Own) (H : Hp) (σ : St) (a : Option Int × Env) (v : Option Int) : Prop := Wd K mg P W H σ a.2 ∧ a.1 = v
def EO (X : Cx) (E : WX) (e : Option Expr) (F : Env → Res (Option Int × Env)) : Prop := PO X e (rX X.K X.mg E (ORel X.K X.mg) F)
theorem PO.imp {X : Cx} {e : Option Expr} {t t' : TO} (h : PO X e t) (q : ∀ σ H Q, t' σ H Q → t σ H Q) : PO X e t' := ⟨fun pins s σ H Q I hq => h.run pins s σ H Q I (q σ H Q hq)⟩
theorem intOf_some {d : D} {i : Int} (h : intOf d = some i) : d = .int i := by cases d <;> simp [intOf] at h; rw [h]
section
variable {X : Cx} {E : WX} {a b c : Expr} {A B C : HM} {pos : Pos}
theorem eo_n : EO X E none oN := PO.imp po_none fun σ H Q ⟨P, W, ρ, w, g⟩ => g none P W H (Step.refl P W H) ⟨w, rfl⟩
theorem eo_s {e : Expr} {F : EM} (h : EV X E e F) : EO X E (some e) (oS F) := PO.imp (po_some h) fun σ H Q ⟨P, W, ρ, w, g⟩ =>
  ⟨P, W, ρ, w, (Go.bind g).mono fun v H1 ⟨P1, W1, a, st, ⟨w1, d1⟩, k⟩ => by
    obtain ⟨i, e, k⟩ := Go.of k
    rw [intOf_some e] at d1
    unfold Den at d1
    exact ⟨i, d1, k (some i) P1 W1 H1 (Step.refl P1 W1 H1) ⟨w1, rfl⟩⟩⟩
def rSlX (K : PySem.W.Frag) : V → Option Int → Option Int → Hp → VK → Prop := fun x lo hi H Q => rSlL K x lo hi H Q ∨ rSlA K x lo hi H Q ∨ rSlS x lo hi H Q
theorem sl_X {X : Cx} : SlR X (rSlX X.K) := sl_list.or (sl_tupA.or sl_str)
theorem cutV_den {K : PySem.W.Frag} {P : Hp} {ds : List D} {vs : List V} {lo hi : Option Int} (l : DenL K P ds vs) : DenL K P (cutD ds lo hi) (cutV vs lo hi) := by
  unfold cutD cutV
  rw [l.len]
  exact DenL.take _ (DenL.drop _ l)
theorem cutS_of (z : Tx) (lo hi : Option Int) : cutS (sT z) lo hi = sT (cutD z lo hi) := by
  unfold cutS cutD sT
  simp [Str.length]
theorem f_cut {K : PySem.W.Frag} {P H : Hp} {x : V} {d res : D} {lo hi : Option Int} {Q : VK} (s : Same P H) (v1 : View K P H d x) (hf : fCut lo hi d = some res) (q : ∀ v P' H', Al P H P' H' → Den K P' res v → Q v H') : rSlX K x lo hi H Q := by
  unfold fCut at hf
  split at hf
  · cases hf
    obtain ⟨a, vs, rfl, h, l⟩ := vlst v1
    refine .inl ⟨a, vs, rfl, SqL.of h, fun p n => ?_⟩
    obtain ⟨al, dn⟩ := dnewL s n (cutV_den (lo := lo) (hi := hi) l)
    exact q _ _ _ al dn
  · cases hf
    obtain ⟨a, vs, rfl, h, l⟩ := vrol s v1
    refine .inl ⟨a, vs, rfl, h, fun p n => ?_⟩
    obtain ⟨al, dn⟩ := dnewL s n (cutV_den (lo := lo) (hi := hi) l)
    exact q _ _ _ al dn
  · cases hf
    have v1' := vtupD v1
    obtain ⟨a, vs, rfl, h, l⟩ := vtup s v1
    refine .inr (.inl ⟨a, vs, rfl, h, fun ⟨z1, z2⟩ => ?_, fun _ p n => ?_⟩)
    · refine q _ P H (Al.refl s) ?_
      rw [l.len] at z1 z2
      have : ∀ ds : List D, HT.sIx ds.length 0 lo = 0 → HT.sIx ds.length ds.length hi = ds.length → cutD ds lo hi = ds := fun ds e1 e2 => by
        unfold cutD; rw [e1, e2]; simp
      rw [this _ z1 z2]
      exact v1'
    · obtain ⟨al, dn⟩ := dnewT s n (cutV_den (lo := lo) (hi := hi) l)
      exact q _ _ _ al dn
  · split at hf
    · rename_i hz
      cases hf
      refine .inr (.inr ⟨_, vstr v1, by rw [sT_len]; exact szOf hz, ?_⟩)
      rw [cutS_of]
      exact q _ P H (Al.refl s) dstr
    · cases hf
  · cases hf
theorem l_cut {K : PySem.W.Frag} {P H : Hp} {x : V} {d : D} {res : List D} {lo hi : Option Int} {Q : VK} (s : Same P H) (v1 : View K P H d x) (hf : lCut lo hi d = some res) (q : ∀ p vs, H p = none → DenL K P res vs → Q (.ref p) (upd H p (.lst vs))) : rSlX K x lo hi H Q := by
  unfold lCut at hf
  split at hf
  · cases hf
    obtain ⟨a, vs, rfl, h, l⟩ := vlst v1
    exact .inl ⟨a, vs, rfl, SqL.of h, fun p n => q p _ n (cutV_den l)⟩
  · cases hf
    obtain ⟨a, vs, rfl, h, l⟩ := vrol s v1
    exact .inl ⟨a, vs, rfl, h, fun p n => q p _ n (cutV_den l)⟩
  · cases hf
theorem ev_cut {e : Expr} {lo hi : Option Expr} {p2 : Pos} {L U : Env → Res (Option Int × Env)} (he : EH X E e A) (hl : EO X E lo L) (hu : EO X E hi U) : EV X E (.Subscript e (.Slice lo hi none p2) pos) (eCut A L U) :=
  PE.imp (pe_slice sl_X he hl hu) fun σ H Q ⟨P, W, ρ, w, g⟩ =>
    ⟨P, W, ρ, w, (Go.bind g).mono fun x H1 ⟨P1, W1, a, s1, ⟨w1, k1⟩, g1⟩ => ⟨P1, W1, a.2, w1, (Go.bind g1).mono fun l H2 ⟨P2, W2, b, s2, ⟨w2, k2⟩, g2⟩ =>
      ⟨P2, W2, b.2, w2, (Go.bind g2).mono fun u H3 ⟨P3, W3, c, s3, ⟨w3, k3⟩, g3⟩ => by
        obtain ⟨r, e, g4⟩ := Go.of g3
        obtain ⟨d, hd, hf⟩ := opt1 e
        subst k2; subst k3
        exact f_cut w3.same (Hok.view w3 (Hok.step (s2.trans s3).1 k1) hd) hf (fin_v w3 g4)⟩⟩⟩
theorem et_cut {e : Expr} {lo hi : Option Expr} {p2 : Pos} {L U : Env → Res (Option Int × Env)} (he : EH X E e A) (hl : EO X E lo L) (hu : EO X E hi U) : ET X E (.Subscript e (.Slice lo hi none p2) pos) (tCut A L U) :=
  PE.imp (pe_slice sl_X he hl hu) fun σ H Q ⟨P, W, ρ, w, g⟩ =>
    ⟨P, W, ρ, w, (Go.bind g).mono fun x H1 ⟨P1, W1, a, s1, ⟨w1, k1⟩, g1⟩ => ⟨P1, W1, a.2, w1, (Go.bind g1).mono fun l H2 ⟨P2, W2, b, s2, ⟨w2, k2⟩, g2⟩ =>
      ⟨P2, W2, b.2, w2, (Go.bind g2).mono fun u H3 ⟨P3, W3, c, s3, ⟨w3, k3⟩, g3⟩ => by
        obtain ⟨r, e, g4⟩ := Go.of g3
        obtain ⟨d, hd, hf⟩ := opt1 e
        subst k2; subst k3
        exact l_cut w3.same (Hok.view w3 (Hok.step (s2.trans s3).1 k1) hd) hf (fin_l w3 g4)⟩⟩⟩
end
/-! ### tests -/
def bVal (F : EM) : BM := fun ρ => F ρ >>= fun a => match a.1 with
  | .bl b => .ok (b, a.2)
  | _ => .fail
def bNot (F : BM) : BM := fun ρ => F ρ >>= fun a => .ok (!a.1, a.2)
def bAnd (F G : BM) : BM := fun ρ => F ρ >>= fun a => if a.1 then G a.2 else .ok (false, a.2)
def bOr (F G : BM) : BM := fun ρ => F ρ >>= fun a => if a.1 then .ok (true, a.2) else G a.2
def eIf (T : BM) (A B : EM) : EM := fun ρ => T ρ >>= fun a => if a.1 then A a.2 else B a.2
/-- and, or of truths, as values -/
def eAnd (A B : EM) : EM := fun ρ => A ρ >>= fun a => match a.1 with
  | .bl true => B a.2
  | .bl false => .ok (.bl false, a.2)
  | _ => .fail
def eOr (A B : EM) : EM := fun ρ => A ρ >>= fun a => match a.1 with
  | .bl true => .ok (.bl true, a.2)
  | .bl false => B a.2
  | _ => .fail
def eNot (A : EM) : EM := fun ρ => A ρ >>= fun a => match a.1 with
  | .bl b => .ok (.bl (!b), a.2)
  | _ => .fail
def EW (X : Cx) (E : WX) (e : Expr) (F : BM) : Prop := PW X e (rB X.K X.mg E F)
theorem PW.imp {X : Cx} {e : Expr} {t t' : TT} (h : PW X e t) (q : ∀ σ H Q, t' σ H Q → t σ H Q) : PW X e t' := ⟨fun wh pins s σ H Q I hq => h.run wh pins s σ H Q I (q σ H Q hq)⟩
section
variable {X : Cx} {E : WX} {a b c : Expr} {F G : BM} {A B : EM} {pos : Pos} {rest : List Expr}
theorem eb_val {e : Expr} (h : EV X E e A) (he : ∀ whole, isTrue e X.env whole = (do let v ← whole; standAt e.pos; holding [v] (truthy v)) := by intro _; rfl) : EB X E e (bVal A) :=
  PT.imp (pt_val h he) fun σ H Q ⟨P, W, ρ, w, g⟩ => ⟨P, W, ρ, w, (Go.bindB g).mono fun v H1 ⟨P1, W1, a, st, ⟨w1, d1⟩, k⟩ => by
    obtain ⟨d, ρ1⟩ := a
    cases d with
    | bl b =>
      unfold Den at d1
      exact ⟨b, d1, k P1 W1 H1 (Step.refl P1 W1 H1) w1⟩
    | _ => exact k.elim⟩
theorem eb_not (h : EB X E a F) : EB X E (.UnaryOp .Not a pos) (bNot F) :=
  PT.imp (pt_not h) fun σ H Q ⟨P, W, ρ, w, g⟩ => ⟨P, W, ρ, w, (GoB.bindB g).mono fun b H1 ⟨P1, W1, ρ1, st, w1, k⟩ => k P1 W1 H1 (Step.refl P1 W1 H1) w1⟩
theorem eb_w (h : EW X E a F) : EB X E a F := h.pt
theorem ew_and1 (h : EB X E a F) : EW X E (.BoolOp .And [a] pos) F := pw_and1 h
theorem ew_or1 (h : EB X E a F) : EW X E (.BoolOp .Or [a] pos) F := pw_or1 h
theorem ew_and (h : EB X E a F) (g : EW X E (.BoolOp .And (b :: rest) pos) G) : EW X E (.BoolOp .And (a :: b :: rest) pos) (bAnd F G) :=
  PW.imp (pw_and h g) fun σ H Q ⟨P, W, ρ, w, g⟩ => ⟨P, W, ρ, w, (GoB.bindB g).mono fun b H1 ⟨P1, W1, ρ1, st, w1, k⟩ => by
    cases b with
    | true => exact ⟨P1, W1, ρ1, w1, k⟩
    | false => exact k P1 W1 H1 (Step.refl P1 W1 H1) w1⟩
theorem ew_or (h : EB X E a F) (g : EW X E (.BoolOp .Or (b :: rest) pos) G) : EW X E (.BoolOp .Or (a :: b :: rest) pos) (bOr F G) :=
  PW.imp (pw_or h g) fun σ H Q ⟨P, W, ρ, w, g⟩ => ⟨P, W, ρ, w, (GoB.bindB g).mono fun b H1 ⟨P1, W1, ρ1, st, w1, k⟩ => by
    cases b with
    | true => exact k P1 W1 H1 (Step.refl P1 W1 H1) w1
    | false => exact ⟨P1, W1, ρ1, w1, k⟩⟩
theorem ev_one {op} (h : EV X E a A) : EV X E (.BoolOp op [a] pos) A := pe_one h
theorem ev_and (h : EV X E a A) (g : EV X E (.BoolOp .And (b :: rest) pos) B) : EV X E (.BoolOp .And (a :: b :: rest) pos) (eAnd A B) :=
  PE.imp (pe_and h g) fun σ H Q ⟨P, W, ρ, w, g⟩ => ⟨P, W, ρ, w, (Go.bind g).mono fun v H1 ⟨P1, W1, a, st, ⟨w1, d1⟩, k⟩ => by
    obtain ⟨d, ρ1⟩ := a
    cases d with
    | bl b =>
      unfold Den at d1
      refine ⟨b, d1, ?_⟩
      cases b with
      | true => exact ⟨P1, W1, ρ1, w1, k⟩
      | false => exact k (.bl false) P1 W1 H1 (Step.refl P1 W1 H1) ⟨w1, by unfold Den; rfl⟩
    | _ => exact k.elim⟩
theorem ev_or (h : EV X E a A) (g : EV X E (.BoolOp .Or (b :: rest) pos) B) : EV X E (.BoolOp .Or (a :: b :: rest) pos) (eOr A B) :=
  PE.imp (pe_or h g) fun σ H Q ⟨P, W, ρ, w, g⟩ => ⟨P, W, ρ, w, (Go.bind g).mono fun v H1 ⟨P1, W1, a, st, ⟨w1, d1⟩, k⟩ => by
    obtain ⟨d, ρ1⟩ := a
    cases d with
    | bl b =>
      unfold Den at d1
      refine ⟨b, d1, ?_⟩
      cases b with
      | false => exact ⟨P1, W1, ρ1, w1, k⟩
      | true => exact k (.bl true) P1 W1 H1 (Step.refl P1 W1 H1) ⟨w1, by unfold Den; rfl⟩
    | _ => exact k.elim⟩
theorem ev_not (h : EV X E a A) : EV X E (.UnaryOp .Not a pos) (eNot A) :=
  PE.imp (pe_not h) fun σ H Q ⟨P, W, ρ, w, g⟩ => ⟨P, W, ρ, w, (Go.bind g).mono fun v H1 ⟨P1, W1, a, st, ⟨w1, d1⟩, k⟩ => by
    obtain ⟨d, ρ1⟩ := a
    cases d with
    | bl b =>
      unfold Den at d1
      exact ⟨b, d1, k (.bl (!b)) P1 W1 H1 (Step.refl P1 W1 H1) ⟨w1, by unfold Den; rfl⟩⟩
    | _ => exact k.elim⟩
theorem ev_if (h : EB X E c F) (ha : EV X E a A) (hb : EV X E b B) : EV X E (.IfExp c a b pos) (eIf F A B) :=
  PE.imp (pe_ifExp h ha hb) fun σ H Q ⟨P, W, ρ, w, g⟩ => ⟨P, W, ρ, w, (GoB.bind g).mono fun b H1 ⟨P1, W1, ρ1, st, w1, k⟩ => by
    cases b with
    | true => exact ⟨P1, W1, ρ1, w1, k⟩
    | false => exact ⟨P1, W1, ρ1, w1, k⟩⟩
/-- a op1 b op2 c -/
def eChain (f g : D → D → Option Bool) (A B C : HM) : EM := fun ρ => A ρ >>= fun a => B a.2 >>= fun b => Res.of ((getH a.1 b.2).bind fun d => (getH b.1 b.2).bind fun e => f d e) >>= fun r =>
  if r then C b.2 >>= fun c => Res.of ((getH b.1 c.2).bind fun d => (getH c.1 c.2).bind fun e => g d e) >>= fun r2 => .ok (.bl r2, c.2) else .ok (.bl false, b.2)
def bChain (f g : D → D → Option Bool) (A B C : HM) : BM := bVal (eChain f g A B C)
theorem chain_red {r r' : R2} {f g : D → D → Option Bool} {A B C : HM} {σ : St} {H : Hp} {Q : VK} {K : PySem.W.Frag} {mg : Str → Option Value} (hf : Op2B K r f) (hg : Op2B K r' g) (h : rX K mg E (VRel K mg) (eChain f g A B C) σ H Q) :
    tChain r r' (rX K mg E (HRel K mg) A) (rX K mg E (HRel K mg) B) (rX K mg E (HRel K mg) C) σ H Q := by
  obtain ⟨P, W, ρ, w, k⟩ := h
  refine ⟨P, W, ρ, w, (Go.bind k).mono fun x H1 ⟨P1, W1, a, s1, ⟨w1, k1⟩, g1⟩ => ⟨P1, W1, a.2, w1, (Go.bind g1).mono fun y H2 ⟨P2, W2, b, s2, ⟨w2, k2⟩, g2⟩ => ?_⟩⟩
  obtain ⟨t, e, g3⟩ := Go.of g2
  obtain ⟨d, e', ha, hb, hfe⟩ := opt2 e
  refine hf P2 H2 x y d e' t _ w2.same (Hok.view w2 (Hok.step s2.1 k1) ha) (Hok.view w2 k2 hb) hfe ⟨t, rfl, ?_⟩
  cases t with
  | false => exact g3 (.bl false) P2 W2 H2 (Step.refl P2 W2 H2) ⟨w2, by unfold Den; rfl⟩
  | true =>
    refine ⟨P2, W2, b.2, w2, (Go.bind g3).mono fun z H3 ⟨P3, W3, c, s3, ⟨w3, k3⟩, g4⟩ => ?_⟩
    obtain ⟨t2, e2, g5⟩ := Go.of g4
    obtain ⟨d2, e2', hb2, hc2, hge⟩ := opt2 e2
    exact hg P3 H3 y z d2 e2' t2 _ w3.same (Hok.view w3 (Hok.step s3.1 k2) hb2) (Hok.view w3 k3 hc2) hge (g5 (.bl t2) P3 W3 H3 (Step.refl P3 W3 H3) ⟨w3, by unfold Den; rfl⟩)
theorem ev_chain {op op' : CmpOp} {r r' : R2} {f g : D → D → Option Bool} {A B C : HM} (ho : OpR X (compareOp op) r) (hf : Op2B X.K r f) (ho' : OpR X (compareOp op') r') (hg : Op2B X.K r' g) (ha : EH X E a A) (hb : EH X E b B) (hc : EH X E c C)
    (hm : lastMarks [op, op'] [b, c] = false := by with_unfolding_all rfl) : EV X E (.Compare a [op, op'] [b, c] pos) (eChain f g A B C) :=
  PE.imp (pe_chain ho ho' ha hb hc hm) fun σ H Q h => chain_red hf hg h
theorem eb_chain {op op' : CmpOp} {r r' : R2} {f g : D → D → Option Bool} {A B C : HM} (ho : OpR X (compareOp op) r) (hf : Op2B X.K r f) (ho' : OpR X (compareOp op') r') (hg : Op2B X.K r' g) (ha : EH X E a A) (hb : EH X E b B) (hc : EH X E c C)
    (hm : lastMarks [op, op'] [b, c] = false := by with_unfolding_all rfl) : EB X E (.Compare a [op, op'] [b, c] pos) (bChain f g A B C) :=
  PT.imp (pt_chain ho ho' ha hb hc hm) fun σ H Q ⟨P, W, ρ, w, g0⟩ => by
    refine chain_red (Q := fun x H1 => ∃ k, x = .bl k ∧ Q k H1) hf hg ⟨P, W, ρ, w, (Go.bindB g0).mono fun v H1 ⟨P1, W1, a, st, ⟨w1, d1⟩, k⟩ => ?_⟩
    obtain ⟨d, ρ1⟩ := a
    cases d with
    | bl b =>
      unfold Den at d1
      exact ⟨b, d1, k P1 W1 H1 (Step.refl P1 W1 H1) w1⟩
    | _ => exact k.elim
end
end Od
namespace Od
open PySem PySem.Spec L2
open PyProof.Rows hiding St
/-! ### lists of arguments -/
def hL : List HM → Env → Res (List Hd × Env)
  | [], ρ => .ok ([], ρ)
  | A :: As, ρ => A ρ >>= fun a => hL As a.2 >>= fun r => .ok (a.1 :: r.1, r.2)
def vL : List EM → Env → Res (List D × Env)
  | [], ρ => .ok ([], ρ)
  | A :: As, ρ => A ρ >>= fun a => vL As a.2 >>= fun r => .ok (a.1 :: r.1, r.2)
def getL : List Hd → Env → Option (List D)
  | [], _ => some []
  | h :: hs, ρ => (getH h ρ).bind fun d => (getL hs ρ).bind fun ds => some (d :: ds)
section
variable (K : PySem.W.Frag) (mg : Str → Option Value)
def HokL (P : Hp) (σ : St) : List Hd → List V → Prop
  | [], vs => vs = []
  | h :: hs, vs => ∃ v r, vs = v :: r ∧ Hok K P σ h v ∧ HokL P σ hs r
def ViewL (P H : Hp) : List D → List V → Prop
  | [], vs => vs = []
  | d :: ds, vs => ∃ v r, vs = v :: r ∧ View K P H d v ∧ ViewL P H ds r
def HLRel (P : Hp) (W : Own) (H : Hp) (σ : St) (a : List Hd × Env) (vs : List V) : Prop := Wd K mg P W H σ a.2 ∧ HokL K P σ a.1 vs
def VLRel (P : Hp) (W : Own) (H : Hp) (σ : St) (a : List D × Env) (vs : List V) : Prop := Wd K mg P W H σ a.2 ∧ DenL K P a.1 vs
end
def EAH (X : Cx) (E : WX) (es : List Expr) (As : List HM) : Prop := PA X es (rX X.K X.mg E (HLRel X.K X.mg) (hL As))
def EAV (X : Cx) (E : WX) (es : List Expr) (As : List EM) : Prop := PA X es (rX X.K X.mg E (VLRel X.K X.mg) (vL As))
section
variable {K : PySem.W.Frag} {mg : Str → Option Value} {P P' H H' : Hp} {W W' : Own} {σ : St} {ρ : Env}
theorem HokL.step (s : Same P P') : ∀ {hs : List Hd} {vs : List V}, HokL K P σ hs vs → HokL K P' σ hs vs
  | [], vs, h => h
  | h0 :: hs, vs, h => by
    obtain ⟨v, r, e, h1, h2⟩ := h
    exact ⟨v, r, e, Hok.step s h1, HokL.step s h2⟩
theorem HokL.view (w : Wd K mg P W H σ ρ) : ∀ {hs : List Hd} {vs : List V} {ds : List D}, HokL K P σ hs vs → getL hs ρ = some ds → ViewL K P H ds vs
  | [], vs, ds, h, g => by
    have : ([] : List D) = ds := Option.some.inj g
    subst this
    exact h
  | h0 :: hs, vs, ds, h, g => by
    obtain ⟨v, r, e, h1, h2⟩ := h
    unfold getL at g
    obtain ⟨d, g1, g2⟩ := opt1 g
    cases e3 : getL hs ρ with
    | none => rw [e3] at g2; cases g2
    | some ds' =>
      rw [e3] at g2
      have : d :: ds' = ds := Option.some.inj g2
      subst this
      exact ⟨v, r, e, Hok.view w h1 g1, HokL.view w h2 e3⟩
end
section
variable {X : Cx} {E : WX} {e : Expr} {es : List Expr}
theorem eah_nil : EAH X E [] [] := PA.imp pa_nil fun σ H Q ⟨P, W, ρ, w, g⟩ => g [] P W H (Step.refl P W H) ⟨w, rfl⟩
theorem eah_cons {A : HM} {As : List HM} (ha : EH X E e A) (hr : EAH X E es As) (hs : starEach (e :: es) X.env = (false, eval e X.env) :: starEach es X.env := by rfl) : EAH X E (e :: es) (A :: As) :=
  PA.imp (pa_cons ha hr hs) fun σ H Q ⟨P, W, ρ, w, g⟩ => ⟨P, W, ρ, w, (Go.bind g).mono fun x H1 ⟨P1, W1, a, s1, ⟨w1, k1⟩, g1⟩ => ⟨P1, W1, a.2, w1, (Go.bind g1).mono fun vs H2 ⟨P2, W2, b, s2, ⟨w2, k2⟩, g2⟩ =>
    g2 (x :: vs) P2 W2 H2 (Step.refl P2 W2 H2) ⟨w2, x, vs, rfl, Hok.step s2.1 k1, k2⟩⟩⟩
theorem eav_nil : EAV X E [] [] := PA.imp pa_nil fun σ H Q ⟨P, W, ρ, w, g⟩ => g [] P W H (Step.refl P W H) ⟨w, DenL.nil⟩
theorem eav_cons {A : EM} {As : List EM} (ha : EV X E e A) (hr : EAV X E es As) (hs : starEach (e :: es) X.env = (false, eval e X.env) :: starEach es X.env := by rfl) : EAV X E (e :: es) (A :: As) :=
  PA.imp (pa_cons ha hr hs) fun σ H Q ⟨P, W, ρ, w, g⟩ => ⟨P, W, ρ, w, (Go.bind g).mono fun x H1 ⟨P1, W1, a, s1, ⟨w1, k1⟩, g1⟩ => ⟨P1, W1, a.2, w1, (Go.bind g1).mono fun vs H2 ⟨P2, W2, b, s2, ⟨w2, k2⟩, g2⟩ =>
    g2 (x :: vs) P2 W2 H2 (Step.refl P2 W2 H2) ⟨w2, DenL.cons (Den.mono s2.1 _ _ k1) k2⟩⟩⟩
end
/-! ### displays -/
def eTup (As : List EM) : EM := fun ρ => vL As ρ >>= fun a => if a.1.length ≤ 1000000 then .ok (.tup a.1, a.2) else .fail
def tLst (As : List EM) : OM := fun ρ => vL As ρ >>= fun a => if a.1.length ≤ 1000000 then .ok (.lst a.1, a.2) else .fail
section
variable {X : Cx} {E : WX} {es : List Expr} {As : List EM} {pos : Pos}
theorem ev_tup {k} (h : EAV X E es As) : EV X E (.Tuple es k pos) (eTup As) := PE.imp (pe_tup h) fun σ H Q ⟨P, W, ρ, w, g⟩ =>
  ⟨P, W, ρ, w, (Go.bind g).mono fun vs H1 ⟨P1, W1, a, s1, ⟨w1, k1⟩, g1⟩ => by
    split at g1
    · rename_i hl
      refine ⟨by rw [k1.len]; exact szOf hl, fun p n => ?_⟩
      obtain ⟨al, dn⟩ := dnewT w1.same n k1
      exact fin_v w1 g1 _ _ _ al dn
    · exact g1.elim⟩
theorem et_lst (h : EAV X E es As) : ET X E (.List es pos) (tLst As) := PE.imp (pe_lst h) fun σ H Q ⟨P, W, ρ, w, g⟩ =>
  ⟨P, W, ρ, w, (Go.bind g).mono fun vs H1 ⟨P1, W1, a, s1, ⟨w1, k1⟩, g1⟩ => by
    split at g1
    · rename_i hl
      exact ⟨by rw [k1.len]; exact szOf hl, fun p n => fin_l w1 g1 p _ n k1⟩
    · exact g1.elim⟩
end
/-! ### calls of built-ins -/
def eCB (f : List D → Option D) (As : List HM) : EM := fun ρ => hL As ρ >>= fun a => Res.of ((getL a.1 a.2).bind f) >>= fun r => .ok (r, a.2)
def tCBL (f : List D → Option (List D)) (As : List HM) : OM := fun ρ => hL As ρ >>= fun a => Res.of ((getL a.1 a.2).bind f) >>= fun r => .ok (.lst r, a.2)
def CbV (K : PySem.W.Frag) (r : List V → Hp → VK → Prop) (f : List D → Option D) : Prop := ∀ (P H : Hp) (vs : List V) (ds : List D) (res : D) (Q : VK), Same P H → ViewL K P H ds vs → f ds = some res → (∀ v P' H', Al P H P' H' → Den K P' res v → Q v H') → r vs H Q
def CbL (K : PySem.W.Frag) (r : List V → Hp → VK → Prop) (f : List D → Option (List D)) : Prop := ∀ (P H : Hp) (vs : List V) (ds : List D) (res : List D) (Q : VK), Same P H → ViewL K P H ds vs → f ds = some res → (∀ p vs, H p = none → DenL K P res vs → Q (.ref p) (upd H p (.lst vs))) → r vs H Q
theorem optL {α : Type} {f : List D → Option α} {a : Option (List D)} {r : α} (h : a.bind f = some r) : ∃ d, a = some d ∧ f d = some r := by
  cases a with
  | none => cases h
  | some d => exact ⟨d, rfl, h⟩
section
variable {X : Cx} {E : WX} {e : Expr} {As : List HM} {r : List V → Hp → VK → Prop}
theorem ev_cb {f : List D → Option D} (hf : CbV X.K r f) (hp : PE X e (L2.tCB r (rX X.K X.mg E (HLRel X.K X.mg) (hL As)))) : EV X E e (eCB f As) := PE.imp hp fun σ H Q ⟨P, W, ρ, w, g⟩ =>
  ⟨P, W, ρ, w, (Go.bind g).mono fun vs H1 ⟨P1, W1, a, s1, ⟨w1, k1⟩, g1⟩ => by
    obtain ⟨res, e, g2⟩ := Go.of g1
    obtain ⟨ds, hd, hfe⟩ := optL e
    exact hf P1 H1 vs ds res Q w1.same (HokL.view w1 k1 hd) hfe (fin_v w1 g2)⟩
theorem et_cb {f : List D → Option (List D)} (hf : CbL X.K r f) (hp : PE X e (L2.tCB r (rX X.K X.mg E (HLRel X.K X.mg) (hL As)))) : ET X E e (tCBL f As) := PE.imp hp fun σ H Q ⟨P, W, ρ, w, g⟩ =>
  ⟨P, W, ρ, w, (Go.bind g).mono fun vs H1 ⟨P1, W1, a, s1, ⟨w1, k1⟩, g1⟩ => by
    obtain ⟨res, e, g2⟩ := Go.of g1
    obtain ⟨ds, hd, hfe⟩ := optL e
    exact hf P1 H1 vs ds res Q w1.same (HokL.view w1 k1 hd) hfe (fin_l w1 g2)⟩
end
/-! methods that change nothing -/
inductive Ty where | str | lst | dct | tup
def Ty.name : Ty → String
  | .str => "str" | .lst => "list" | .dct => "dict" | .tup => "tuple"
def isTy : Ty → D → Bool
  | .str, .str _ => true
  | .lst, .lst _ => true
  | .lst, .rol _ => true
  | .dct, .dct _ _ => true
  | _, _ => false
theorem tyV_of {K : PySem.W.Frag} {P H : Hp} {t : Ty} {d : D} {v : V} (s : Same P H) (h : View K P H d v) (ht : isTy t d = true) : L2.tyV K t.name v H := by
  unfold isTy at ht
  split at ht
  · rw [vstr h]; exact rfl
  · obtain ⟨a, vs, rfl, q, l⟩ := vlst h
    exact .inl ⟨rfl, vs, SqL.of q⟩
  · obtain ⟨a, vs, rfl, q, l⟩ := vrol s h
    exact .inl ⟨rfl, vs, q⟩
  · obtain ⟨a, ws, rfl, q, _⟩ := h
    exact .inr (.inr (.inl ⟨rfl, .inl ⟨ws, q⟩⟩))
  · cases ht
def eBM (t : Ty) (f : D → List D → Option D) (A : HM) (As : List HM) : EM := fun ρ => A ρ >>= fun a => if ((getH a.1 a.2).map (isTy t)) = some true then
    hL As a.2 >>= fun b => Res.of ((getH a.1 b.2).bind fun d => (getL b.1 b.2).bind fun ds => f d ds) >>= fun r => .ok (r, b.2) else .fail
def MtV (K : PySem.W.Frag) (r : V → List V → Hp → VK → Prop) (f : D → List D → Option D) : Prop := ∀ (P H : Hp) (x : V) (vs : List V) (d : D) (ds : List D) (res : D) (Q : VK), Same P H → View K P H d x → ViewL K P H ds vs → f d ds = some res → (∀ v P' H', Al P H P' H' → Den K P' res v → Q v H') → r x vs H Q
theorem optM {α : Type} {f : D → List D → Option α} {a : Option D} {b : Option (List D)} {r : α} (h : (a.bind fun d => b.bind fun ds => f d ds) = some r) : ∃ d ds, a = some d ∧ b = some ds ∧ f d ds = some r := by
  cases a with
  | none => cases h
  | some d =>
    cases b with
    | none => cases h
    | some e => exact ⟨d, e, rfl, rfl, h⟩
theorem ty_of {t : Ty} {o : Option D} (h : o.map (isTy t) = some true) : ∃ d, o = some d ∧ isTy t d = true := by
  cases o with
  | none => cases h
  | some d => exact ⟨d, rfl, Option.some.inj h⟩
section
variable {X : Cx} {E : WX} {e : Expr} {A : HM} {As : List HM} {r : V → List V → Hp → VK → Prop} {t : Ty}
theorem ev_bm {f : D → List D → Option D} (hf : MtV X.K r f) (hp : PE X e (tBM X.K t.name r (rX X.K X.mg E (HRel X.K X.mg) A) (rX X.K X.mg E (HLRel X.K X.mg) (hL As)))) : EV X E e (eBM t f A As) := PE.imp hp fun σ H Q ⟨P, W, ρ, w, g⟩ =>
  ⟨P, W, ρ, w, (Go.bind g).mono fun x H1 ⟨P1, W1, a, s1, ⟨w1, k1⟩, g1⟩ => by
    split at g1
    · rename_i ht
      obtain ⟨d1, hd1, ht⟩ := ty_of ht
      refine ⟨tyV_of w1.same (Hok.view w1 k1 hd1) ht, P1, W1, a.2, w1, (Go.bind g1).mono fun vs H2 ⟨P2, W2, b, s2, ⟨w2, k2⟩, g2⟩ => ?_⟩
      obtain ⟨res, e, g3⟩ := Go.of g2
      obtain ⟨d, ds, h1, h2, hfe⟩ := optM e
      exact hf P2 H2 x vs d ds res Q w2.same (Hok.view w2 (Hok.step s2.1 k1) h1) (HokL.view w2 k2 h2) hfe (fin_v w2 g3)
    · exact g1.elim⟩
end
/-! ### methods that change a list of the variable's own -/
def eMut (i : Nat) (m : List D → List D → Option (List D × D)) (As : List EM) : EM := fun ρ => match ρ[i]? with
  | some (some (.lst _)) => vL As ρ >>= fun a => match a.2[i]? with
    | some (some (.lst ds)) => Res.of (m ds a.1) >>= fun r => .ok (r.2, a.2.set i (some (.lst r.1)))
    | _ => .fail
  | _ => .fail
def MutOk (K : PySem.W.Frag) (r : V → List V → Hp → VK → Prop) (m : List D → List D → Option (List D × D)) : Prop := ∀ (P H : Hp) (l : Addr) (vs avs : List V) (ds as ds' : List D) (d : D) (Q : VK), Same P H → H l = some (.lst vs) → DenL K P ds vs → DenL K P as avs → m ds as = some (ds', d) →
  (∀ v vs', DenL K P ds' vs' → Den K P d v → Q v (upd H l (.lst vs'))) → r (.ref l) avs H Q
section
variable {K : PySem.W.Frag} {mg : Str → Option Value} {P P' H H' : Hp} {W W' : Own} {σ : St} {ρ : Env}
theorem Wd.mut {i : Nat} {l : Addr} {o : HO} {t : T} (w : Wd K mg P W H σ ρ) (hl : i < ρ.length) (hs : σ[i]? = some (some (.ref l))) (hw : W l = some (some i, none)) (ht : RT K mg P W (upd H l o) (some i) t (.ref l)) :
    Wd K mg P W (upd H l o) σ (ρ.set i (some t)) ∧ Step P W H P W (upd H l o) := by
  have pl := (w.own l _ hw).1
  refine ⟨⟨fun a u e => ?_, fun a r e => ?_, fun j t' ej => ?_, by simpa using w.len⟩, same_refl P, fun a u h wa => ?_⟩
  · rw [upd_ne (ne_of_none e pl)]; exact w.same a u e
  · obtain ⟨h1, u, h2⟩ := w.own a r e
    refine ⟨h1, ?_⟩
    by_cases h : a = l
    · subst h; exact ⟨_, upd_same⟩
    · exact ⟨u, by rw [upd_ne h]; exact h2⟩
  · by_cases hj : j = i
    · subst hj
      rw [List.getElem?_set_self hl] at ej
      cases ej
      exact ⟨_, hs, ht⟩
    · rw [List.getElem?_set_ne (Ne.symm hj)] at ej
      obtain ⟨v, hs', hr⟩ := w.env j t' ej
      refine ⟨v, hs', RT.mono (same_refl P) (fun f x ex => ⟨ex, fun o h => ?_⟩) t' v hr⟩
      have hx : x ≠ l := fun z => by subst z; rw [hw] at ex; cases ex; exact hj rfl
      rw [upd_ne hx]; exact h
  · have ha : a ≠ l := fun z => by subst z; rw [hw] at wa; cases wa
    exact ⟨by rw [upd_ne ha]; exact h, wa, rfl⟩
theorem Wd.lstAt {i : Nat} {ds : List D} (w : Wd K mg P W H σ ρ) (e : ρ[i]? = some (some (.lst ds))) : ∃ l vs, σ[i]? = some (some (.ref l)) ∧ W l = some (some i, none) ∧ H l = some (.lst vs) ∧ DenL K P ds vs ∧ i < ρ.length := by
  obtain ⟨v, hs, hr⟩ := w.env i _ e
  obtain ⟨a, vs, rfl, hw, hh, l⟩ := hr
  exact ⟨a, vs, hs, hw, hh, l, (List.getElem?_eq_some_iff.mp e).1⟩
end
section
variable {X : Cx} {E : WX} {e : Expr} {As : List EM} {r : V → List V → Hp → VK → Prop} {i : Nat}
theorem mut_core {m : List D → List D → Option (List D × D)} {P H : Hp} {W : Own} {ρ : Env} {σ : St} {Q : VK} {ds0 : List D} (hf : MutOk X.K r m) (w : Wd X.K X.mg P W H σ ρ) (hs : σ[i]? = some (some (.ref l)))
    (g : Go X.K X.mg E (VRel X.K X.mg) (vL As ρ >>= fun a => match a.2[i]? with
    | some (some (T.lst ds)) => Res.of (m ds a.1) >>= fun r => Res.ok (r.2, a.2.set i (some (T.lst r.1)))
    | _ => .fail) P W H σ Q) : rX X.K X.mg E (VLRel X.K X.mg) (vL As) σ H fun vs H2 => r (.ref l) vs H2 Q :=
  ⟨P, W, ρ, w, (Go.bind g).mono fun avs H2 ⟨P2, W2, b, s2, ⟨w2, k2⟩, g2⟩ => by
    cases e : b.2[i]? with
    | none => rw [e] at g2; exact g2.elim
    | some o =>
      cases o with
      | none => rw [e] at g2; exact g2.elim
      | some t =>
        rw [e] at g2
        cases t with
        | lst ds =>
          simp only at g2
          obtain ⟨res, e3, g3⟩ := Go.of g2
          obtain ⟨l', vs, hs', hw, hh, dn, hi⟩ := w2.lstAt e
          rw [hs] at hs'
          cases hs'
          refine hf P2 H2 l vs avs ds b.1 res.1 res.2 Q w2.same hh dn k2 e3 fun v vs' dn' dv => ?_
          obtain ⟨w3, s3⟩ := w2.mut (o := .lst vs') (t := .lst res.1) hi hs hw ⟨l, vs', rfl, hw, upd_same, dn'⟩
          exact g3 v P2 W2 _ s3 ⟨w3, dv⟩
        | _ => exact g2.elim⟩
theorem ev_mut {m : List D → List D → Option (List D × D)} (hf : MutOk X.K r m) (hp : PE X e (tBM X.K "list" r (tVar i) (rX X.K X.mg E (VLRel X.K X.mg) (vL As)))) : EV X E e (eMut i m As) := PE.imp hp fun σ H Q ⟨P, W, ρ, w, g⟩ => by
  unfold eMut at g
  cases e : ρ[i]? with
  | none => rw [e] at g; exact g.elim
  | some o =>
    cases o with
    | none => rw [e] at g; exact g.elim
    | some t =>
      rw [e] at g
      cases t with
      | lst ds =>
        simp only at g
        obtain ⟨l, vs, hs, hw, hh, dn, hi⟩ := w.lstAt e
        exact ⟨.ref l, hs, .inl ⟨rfl, vs, SqL.of hh⟩, mut_core (ds0 := ds) hf w hs g⟩
      | _ => exact g.elim
end
def mAppend : List D → List D → Option (List D × D)
  | ds, [d] => if ds.length < 1000000 then some (ds ++ [d], .non) else none
  | _, _ => none
def mExtend : List D → List D → Option (List D × D)
  | ds, [.lst es] => if ds.length + es.length ≤ 1000000 then some (ds ++ es, .non) else none
  | _, _ => none
theorem DenL.one {K : PySem.W.Frag} {P : Hp} {d : D} {vs : List V} (h : DenL K P [d] vs) : ∃ v, vs = [v] ∧ Den K P d v := by
  unfold DenL at h
  obtain ⟨v, r, rfl, h1, h2⟩ := h
  unfold DenL at h2
  subst h2
  exact ⟨v, rfl, h1⟩
theorem DenL.two {K : PySem.W.Frag} {P : Hp} {d e : D} {vs : List V} (h : DenL K P [d, e] vs) : ∃ v u, vs = [v, u] ∧ Den K P d v ∧ Den K P e u := by
  unfold DenL at h
  obtain ⟨v, r, rfl, h1, h2⟩ := h
  obtain ⟨u, rfl, h3⟩ := DenL.one h2
  exact ⟨v, u, rfl, h1, h3⟩
section
variable {K : PySem.W.Frag}
theorem m_append : MutOk K rAppend mAppend := by
  intro P H l vs avs ds as ds' d Q s hh dn da hm q
  unfold mAppend at hm
  split at hm
  · split at hm
    · rename_i hl
      cases hm
      obtain ⟨v, rfl, dv⟩ := DenL.one da
      exact ⟨l, vs, v, rfl, rfl, hh, by rw [dn.len]; exact szLt hl, q .non _ (DenL.append dn (DenL.cons dv DenL.nil)) dnon⟩
    · cases hm
  · cases hm
theorem m_extend : MutOk K rExtend mExtend := by
  intro P H l vs avs ds as ds' d Q s hh dn da hm q
  unfold mExtend at hm
  split at hm
  · split at hm
    · rename_i hl
      cases hm
      obtain ⟨v, rfl, dv⟩ := DenL.one da
      unfold Den at dv
      obtain ⟨b, ws, rfl, hb, lb⟩ := dv
      exact ⟨l, b, vs, ws, rfl, rfl, hh, s b _ hb, by rw [dn.len, lb.len]; exact szOf hl, q .non _ (DenL.append dn lb) dnon⟩
    · cases hm
  · cases hm
end
end Od
namespace Od
open PySem PySem.Spec L2
open PyProof.Rows hiding St
/-! ### statements -/
inductive Fl where
  | nx (ρ : Env) | rt (t : T) (ρ : Env) | bk (ρ : Env) | ct (ρ : Env)
abbrev SM := Env → Res Fl
/-- slots of the parameters that are handed back keep their value -/
def Kp (md : List Bool) (σ σ' : St) : Prop := σ'.length = σ.length ∧ ∀ i : Nat, md[i]? = some true → σ'[i]? = σ[i]?
theorem Kp.refl (md : List Bool) (σ : St) : Kp md σ σ := ⟨rfl, fun _ _ => rfl⟩
theorem Kp.trans {md : List Bool} {σ σ1 σ2 : St} (a : Kp md σ σ1) (b : Kp md σ1 σ2) : Kp md σ σ2 := ⟨b.1.trans a.1, fun i h => (b.2 i h).trans (a.2 i h)⟩
def GoS (K : PySem.W.Frag) (mg : Str → Option Value) (E : WX) (md : List Bool) (r : Res Fl) (P : Hp) (W : Own) (H : Hp) (σ : St) (D : Ends) : Prop :=
  match r with
  | .ok (.nx ρ') => ∀ σ' P' W' H', Step P W H P' W' H' → Wd K mg P' W' H' σ' ρ' → Kp md σ σ' → D.nx σ' H'
  | .ok (.bk ρ') => ∀ σ' P' W' H', Step P W H P' W' H' → Wd K mg P' W' H' σ' ρ' → Kp md σ σ' → D.bk σ' H'
  | .ok (.ct ρ') => ∀ σ' P' W' H', Step P W H P' W' H' → Wd K mg P' W' H' σ' ρ' → Kp md σ σ' → D.ct σ' H'
  | .ok (.rt t ρ') => ∀ v σ' P' W' H', Step P W H P' W' H' → Wd K mg P' W' H' σ' ρ' → Kp md σ σ' → RT K mg P' W' H' none t v → D.rt v H'
  | .exc x ρ' => ∀ c od σ' P' W' H', Step P W H P' W' H' → Wd K mg P' W' H' σ' ρ' → Kp md σ σ' → XR K mg P' H' x c od → E c od σ' H'
  | .fail => False
def rS (K : PySem.W.Frag) (mg : Str → Option Value) (E : WX) (md : List Bool) (F : SM) : TS := fun D σ H => ∃ P W ρ, Wd K mg P W H σ ρ ∧ GoS K mg E md (F ρ) P W H σ D
def SD (X : Cx) (E : WX) (md : List Bool) (st : Stmt) (F : SM) : Prop := PS X st (rS X.K X.mg E md F)
def SDs (X : Cx) (E : WX) (md : List Bool) (st : List Stmt) (F : SM) : Prop := PSs X st (rS X.K X.mg E md F)
section
variable {K : PySem.W.Frag} {mg : Str → Option Value} {α γ : Type} {E : WX} {md : List Bool} {Rel : Hp → Own → Hp → St → α → γ → Prop} {P P' H H' : Hp} {W W' : Own} {σ σ' : St} {ρ : Env} {D D' : Ends}
theorem GoS.step {r : Res Fl} (s : Step P W H P' W' H') (k : Kp md σ σ') (h : GoS K mg E md r P W H σ D) : GoS K mg E md r P' W' H' σ' D := by
  cases r with
  | ok f =>
    cases f with
    | nx ρ' => exact fun σ2 P2 W2 H2 s2 w k2 => h σ2 P2 W2 H2 (s.trans s2) w (k.trans k2)
    | bk ρ' => exact fun σ2 P2 W2 H2 s2 w k2 => h σ2 P2 W2 H2 (s.trans s2) w (k.trans k2)
    | ct ρ' => exact fun σ2 P2 W2 H2 s2 w k2 => h σ2 P2 W2 H2 (s.trans s2) w (k.trans k2)
    | rt t ρ' => exact fun v σ2 P2 W2 H2 s2 w k2 => h v σ2 P2 W2 H2 (s.trans s2) w (k.trans k2)
  | exc x ρ' => exact fun c od σ2 P2 W2 H2 s2 w k2 => h c od σ2 P2 W2 H2 (s.trans s2) w (k.trans k2)
  | fail => exact h
/-- a value, then a statement's end -/
theorem GoS.val {r : Res α} {g : α → Res Fl} (h : GoS K mg E md (r >>= g) P W H σ D) :
    Go K mg E Rel r P W H σ (fun v1 H1 => ∃ P1 W1 a, Step P W H P1 W1 H1 ∧ Rel P1 W1 H1 σ a v1 ∧ GoS K mg E md (g a) P1 W1 H1 σ D) := by
  cases r with
  | ok a => exact fun v P1 W1 H1 s rel => ⟨P1, W1, a, s, rel, GoS.step s (Kp.refl md σ) h⟩
  | exc x ρ' => exact fun c od P1 W1 H1 s w x => h c od σ P1 W1 H1 s w (Kp.refl md σ) x
  | fail => exact h
theorem GoS.valB {r : Res (Bool × Env)} {g : Bool × Env → Res Fl} (h : GoS K mg E md (r >>= g) P W H σ D) :
    GoB K mg E r P W H σ (fun b H1 => ∃ P1 W1 ρ1, Step P W H P1 W1 H1 ∧ Wd K mg P1 W1 H1 σ ρ1 ∧ GoS K mg E md (g (b, ρ1)) P1 W1 H1 σ D) := by
  cases r with
  | ok a => exact fun P1 W1 H1 s w => ⟨P1, W1, a.2, s, w, GoS.step s (Kp.refl md σ) h⟩
  | exc x ρ' => exact fun c od P1 W1 H1 s w x => h c od σ P1 W1 H1 s w (Kp.refl md σ) x
  | fail => exact h
end
def sSeq (F G : SM) : SM := fun ρ => match F ρ with
  | .ok (.nx ρ1) => G ρ1
  | r => r
def sNil : SM := fun ρ => .ok (.nx ρ)
def sExpr (F : EM) : SM := fun ρ => F ρ >>= fun a => .ok (.nx a.2)
def sRet (F : OM) : SM := fun ρ => F ρ >>= fun a => .ok (.rt a.1 a.2)
def sRetV (F : EM) : SM := fun ρ => F ρ >>= fun a => .ok (.rt (.sh a.1) a.2)
def sIf (C : BM) (F G : SM) : SM := fun ρ => C ρ >>= fun b => if b.1 then F b.2 else G b.2
def putE (i : Nat) (t : T) (ρ : Env) : Option Env := if i < ρ.length then some (ρ.set i (some t)) else none
def sSet (i : Nat) (F : OM) : SM := fun ρ => F ρ >>= fun a => Res.of (putE i a.1 a.2) >>= fun ρ1 => .ok (.nx ρ1)
def sSetV (i : Nat) (F : EM) : SM := fun ρ => F ρ >>= fun a => Res.of (putE i (.sh a.1) a.2) >>= fun ρ1 => .ok (.nx ρ1)
/-- names that are not asked again -/
def wipeE (is : List Nat) (ρ : Env) : Env := is.foldl (fun ρ i => ρ.set i none) ρ
def wipeF (is : List Nat) : Fl → Fl
  | .nx ρ => .nx (wipeE is ρ)
  | .bk ρ => .bk (wipeE is ρ)
  | .ct ρ => .ct (wipeE is ρ)
  | .rt t ρ => .rt t ρ
def sWipe (is : List Nat) (F : SM) : SM := fun ρ => match F ρ with
  | .ok f => .ok (wipeF is f)
  | r => r
section
variable {K : PySem.W.Frag} {mg : Str → Option Value} {P P' H H' : Hp} {W W' : Own} {σ : St} {ρ : Env}
theorem Wd.wipe (w : Wd K mg P W H σ ρ) (is : List Nat) : Wd K mg P W H σ (wipeE is ρ) := by
  induction is generalizing ρ with
  | nil => exact w
  | cons i is ih => exact ih w.forget
/-- the object in hand goes to a slot -/
theorem Wd.put {i : Nat} {t : T} {v : V} (w : Wd K mg P W H σ ρ) (h : RT K mg P W H none t v) (hi : i < ρ.length) :
    ∃ W', Wd K mg P W' H (σ.set i (some v)) (ρ.set i (some t)) ∧ Step P W H P W' H := by
  have hσ : i < σ.length := Nat.lt_of_lt_of_le hi w.len
  refine ⟨fun a => match W a with | some (none, f) => some (some i, f) | some (some j, f) => if j = i then some (none, f) else some (some j, f) | none => none,
    ⟨w.same, fun a r ea => ?_, fun j t' ej => ?_, by simpa using w.len⟩, same_refl P, fun a o h wa => ⟨h, by simp only [wa], rfl⟩⟩
  · cases q : W a with
    | none => simp only [q] at ea; cases ea
    | some r' => exact w.own a r' q
  · by_cases hj : j = i
    · subst hj
      rw [List.getElem?_set_self hi] at ej
      cases ej
      exact ⟨v, by rw [List.getElem?_set_self hσ], RT.mono (same_refl P) (fun f x ex => ⟨by simp only [ex], fun _ h => h⟩) t v h⟩
    · rw [List.getElem?_set_ne (Ne.symm hj)] at ej
      obtain ⟨v', hs', hr'⟩ := w.env j t' ej
      exact ⟨v', by rw [List.getElem?_set_ne (Ne.symm hj)]; exact hs', RT.mono (same_refl P) (fun f x ex => ⟨by simp only [ex, if_neg hj], fun _ h => h⟩) t' v' hr'⟩
theorem putE_some {i : Nat} {t : T} {ρ1 : Env} (h : putE i t ρ = some ρ1) : i < ρ.length ∧ ρ1 = ρ.set i (some t) := by
  unfold putE at h
  split at h
  · rename_i hi; exact ⟨hi, (Option.some.inj h).symm⟩
  · cases h
theorem Kp.set {md : List Bool} {i : Nat} {v : Option V} (h : md[i]? ≠ some true) : Kp md σ (σ.set i v) :=
  ⟨by simp, fun j hj => by
    have : j ≠ i := fun z => by subst z; exact h hj
    rw [List.getElem?_set_ne (Ne.symm this)]⟩
theorem GoS.of {α : Type} {E : WX} {md : List Bool} {D : Ends} {o : Option α} {g : α → Res Fl} (h : GoS K mg E md (Res.of o >>= g) P W H σ D) : ∃ r, o = some r ∧ GoS K mg E md (g r) P W H σ D := by
  cases o with
  | none => exact h.elim
  | some r => exact ⟨r, rfl, h⟩
end
section
variable {X : Cx} {E : WX} {md : List Bool} {st : Stmt} {rest : List Stmt} {F G : SM} {e : Expr} {A : EM} {B : OM} {C : BM} {pos : Pos}
theorem sds_nil : SDs X E md [] sNil := PSs.imp pss_nil fun D σ H ⟨P, W, ρ, w, g⟩ => g σ P W H (Step.refl P W H) w (Kp.refl md σ)
theorem sds_cons (h : SD X E md st F) (g : SDs X E md rest G) : SDs X E md (st :: rest) (sSeq F G) := PSs.imp (pss_cons h g) fun D σ H ⟨P, W, ρ, w, g⟩ => by
  refine ⟨P, W, ρ, w, ?_⟩
  unfold sSeq at g
  cases hf : F ρ with
  | ok f =>
    rw [hf] at g
    cases f with
    | nx ρ1 => exact fun σ' P' W' H' s w' k => ⟨P', W', ρ1, w', GoS.step s k g⟩
    | bk ρ1 => exact g
    | ct ρ1 => exact g
    | rt t ρ1 => exact g
  | exc x ρ1 => rw [hf] at g; exact g
  | fail => rw [hf] at g; exact g
theorem sds_one (h : SD X E md st F) : SDs X E md [st] F := pss_one h
theorem sds_wipe (is : List Nat) (h : SDs X E md rest F) : SDs X E md rest (sWipe is F) := PSs.imp h fun D σ H ⟨P, W, ρ, w, g⟩ => by
  refine ⟨P, W, ρ, w, ?_⟩
  unfold sWipe at g
  cases hf : F ρ with
  | ok f =>
    rw [hf] at g
    cases f with
    | nx ρ1 => exact fun σ' P' W' H' s w' k => g σ' P' W' H' s (w'.wipe is) k
    | bk ρ1 => exact fun σ' P' W' H' s w' k => g σ' P' W' H' s (w'.wipe is) k
    | ct ρ1 => exact fun σ' P' W' H' s w' k => g σ' P' W' H' s (w'.wipe is) k
    | rt t ρ1 => exact g
  | exc x ρ1 => rw [hf] at g; exact g
  | fail => rw [hf] at g; exact g
theorem sd_expr (h : EV X E e A) (hs : swapsWith e none pos.line X.env = pure false := by rfl) : SD X E md (.Expr e pos) (sExpr A) := PS.imp (ps_expr h hs) fun D σ H ⟨P, W, ρ, w, g⟩ =>
  ⟨P, W, ρ, w, (GoS.val g).mono fun v H1 ⟨P1, W1, a, s, ⟨w1, d1⟩, k⟩ => k σ P1 W1 H1 (Step.refl P1 W1 H1) w1 (Kp.refl md σ)⟩
theorem sd_ret (h : ET X E e B) : SD X E md (.Return (some e) pos) (sRet B) := PS.imp (ps_ret h) fun D σ H ⟨P, W, ρ, w, g⟩ =>
  ⟨P, W, ρ, w, (GoS.val g).mono fun v H1 ⟨P1, W1, a, s, ⟨w1, d1⟩, k⟩ => k v σ P1 W1 H1 (Step.refl P1 W1 H1) w1 (Kp.refl md σ) d1⟩
theorem sd_retV (h : EV X E e A) : SD X E md (.Return (some e) pos) (sRetV A) := PS.imp (ps_ret h) fun D σ H ⟨P, W, ρ, w, g⟩ =>
  ⟨P, W, ρ, w, (GoS.val g).mono fun v H1 ⟨P1, W1, a, s, ⟨w1, d1⟩, k⟩ => k v σ P1 W1 H1 (Step.refl P1 W1 H1) w1 (Kp.refl md σ) d1⟩
theorem sd_if {c : Expr} {a b : List Stmt} (hc : EB X E c C) (ha : SDs X E md a F) (hb : SDs X E md b G) : SD X E md (.If c a b pos) (sIf C F G) := PS.imp (ps_if hc ha hb) fun D σ H ⟨P, W, ρ, w, g⟩ =>
  ⟨P, W, ρ, w, (GoS.valB g).mono fun b H1 ⟨P1, W1, ρ1, s, w1, k⟩ => by
    cases b with
    | true => exact ⟨P1, W1, ρ1, w1, k⟩
    | false => exact ⟨P1, W1, ρ1, w1, k⟩⟩
/-- name = e, whatever rule gives it -/
theorem sd_set {i : Nat} (hp : PS X st (tAsg (rX X.K X.mg E (TRel X.K X.mg) B) (gName i))) (hk : md[i]? ≠ some true) : SD X E md st (sSet i B) := PS.imp hp fun D σ H ⟨P, W, ρ, w, g⟩ =>
  ⟨P, W, ρ, w, (GoS.val g).mono fun v H1 ⟨P1, W1, a, s, ⟨w1, d1⟩, k⟩ => by
    obtain ⟨ρ2, e, k⟩ := GoS.of k
    obtain ⟨hi, rfl⟩ := putE_some e
    obtain ⟨W2, w2, s2⟩ := w1.put d1 hi
    exact k _ P1 W2 H1 s2 w2 (Kp.set hk)⟩
theorem sd_setV {i : Nat} (hp : PS X st (tAsg (rX X.K X.mg E (VRel X.K X.mg) A) (gName i))) (hk : md[i]? ≠ some true) : SD X E md st (sSetV i A) := PS.imp hp fun D σ H ⟨P, W, ρ, w, g⟩ =>
  ⟨P, W, ρ, w, (GoS.val g).mono fun v H1 ⟨P1, W1, a, s, ⟨w1, d1⟩, k⟩ => by
    obtain ⟨ρ2, e, k⟩ := GoS.of k
    obtain ⟨hi, rfl⟩ := putE_some e
    obtain ⟨W2, w2, s2⟩ := w1.put (t := .sh a.1) d1 hi
    exact k _ P1 W2 H1 s2 w2 (Kp.set hk)⟩
end
/-! ### targets -/
abbrev GM := D → Env → Option Env
def gNm (i : Nat) : GM := fun d ρ => putE i (.sh d) ρ
def gEach : List GM → List D → Env → Option Env
  | [], [], ρ => some ρ
  | g :: gs, d :: ds, ρ => (g d ρ).bind (gEach gs ds)
  | _, _, _ => none
def gTp (gs : List GM) : GM := fun d ρ => match d with
  | .tup ds => gEach gs ds ρ
  | _ => none
/-- slots but these keep their values -/
def Ke (sl : List Nat) (σ σ' : St) : Prop := σ'.length = σ.length ∧ ∀ i : Nat, i ∉ sl → σ'[i]? = σ[i]?
theorem Ke.refl (sl : List Nat) (σ : St) : Ke sl σ σ := ⟨rfl, fun _ _ => rfl⟩
theorem Ke.trans {sl : List Nat} {σ σ1 σ2 : St} (a : Ke sl σ σ1) (b : Ke sl σ1 σ2) : Ke sl σ σ2 := ⟨b.1.trans a.1, fun i h => (b.2 i h).trans (a.2 i h)⟩
def rG (K : PySem.W.Frag) (mg : Str → Option Value) (sl : List Nat) (g : GM) : TG := fun v σ H Q => ∃ P W ρ d ρ', Wd K mg P W H σ ρ ∧ Den K P d v ∧ g d ρ = some ρ' ∧ ∀ σ' P' W' H', Step P W H P' W' H' → Wd K mg P' W' H' σ' ρ' → Ke sl σ σ' → Q σ' H'
def rGs (K : PySem.W.Frag) (mg : Str → Option Value) (sl : List Nat) (gs : List GM) : TGs := fun vs σ H Q => ∃ P W ρ ds ρ', Wd K mg P W H σ ρ ∧ DenL K P ds vs ∧ gEach gs ds ρ = some ρ' ∧ ∀ σ' P' W' H', Step P W H P' W' H' → Wd K mg P' W' H' σ' ρ' → Ke sl σ σ' → Q σ' H'
def GD (X : Cx) (sl : List Nat) (tg : Expr) (g : GM) : Prop := PG X tg (rG X.K X.mg sl g)
def GDs (X : Cx) (sl : List Nat) (tg : List Expr) (gs : List GM) : Prop := PGs X tg (rGs X.K X.mg sl gs)
theorem PG.imp {X : Cx} {e : Expr} {t t' : TG} (h : PG X e t) (q : ∀ v σ H Q, t' v σ H Q → t v σ H Q) : PG X e t' := ⟨fun pins s σ H v u Q I r hq => h.run pins s σ H v u Q I r (q v σ H Q hq)⟩
theorem PGs.imp {X : Cx} {e : List Expr} {t t' : TGs} (h : PGs X e t) (q : ∀ v σ H Q, t' v σ H Q → t v σ H Q) : PGs X e t' := ⟨fun pins s σ H v u Q I r hq => h.run pins s σ H v u Q I r (q v σ H Q hq)⟩
section
variable {X : Cx} {sl : List Nat} {pos : Pos} {e : Expr} {es : List Expr} {g : GM} {gs : List GM}
theorem gd_name {i : Nat} {x : Str} (hN : X.N.Nodup) (hi : X.N[i]? = some x) (hx : Loc X.env.scope x) (hs : i ∈ sl) (hf : X.fn x = true ∨ X.env.scope.names.lookup x = some .local := by first | exact .inl rfl | exact .inr rfl | assumption) : GD X sl (.Name x pos) (gNm i) :=
  PG.imp (pg_name hN hi hx hf) fun v σ H Q ⟨P, W, ρ, d, ρ', w, dn, e, q⟩ => by
    obtain ⟨hl, rfl⟩ := putE_some e
    obtain ⟨W2, w2, s2⟩ := w.put (t := .sh d) dn hl
    exact q _ P W2 H s2 w2 ⟨by simp, fun j hj => by
      have : j ≠ i := fun z => by subst z; exact hj hs
      rw [List.getElem?_set_ne (Ne.symm this)]⟩
theorem gds_nil : GDs X sl [] [] := PGs.imp pgs_nil fun vs σ H Q ⟨P, W, ρ, ds, ρ', w, dn, e, q⟩ => by
  cases ds with
  | nil =>
    have : ρ = ρ' := Option.some.inj e
    subst this
    unfold DenL at dn
    exact ⟨dn, q σ P W H (Step.refl P W H) w (Ke.refl sl σ)⟩
  | cons d ds => cases e
theorem gds_cons (h : GD X sl e g) (h2 : GDs X sl es gs) (hs : (assignEach (e :: es) X.env).map (·.2) = assign e X.env :: (assignEach es X.env).map (·.2) := by rfl) : GDs X sl (e :: es) (g :: gs) :=
  PGs.imp (pgs_cons h h2 hs) fun vs σ H Q ⟨P, W, ρ, ds, ρ', w, dn, e, q⟩ => by
    cases ds with
    | nil => cases e
    | cons d ds =>
      unfold DenL at dn
      obtain ⟨v, r, rfl, d1, d2⟩ := dn
      unfold gEach at e
      cases e1 : g d ρ with
      | none => rw [e1] at e; cases e
      | some ρ1 =>
        rw [e1] at e
        exact ⟨v, r, rfl, P, W, ρ, d, ρ1, w, d1, e1, fun σ1 P1 W1 H1 s1 w1 k1 => ⟨P1, W1, ρ1, ds, ρ', w1, DenL.mono s1.1 _ _ d2, e, fun σ2 P2 W2 H2 s2 w2 k2 => q σ2 P2 W2 H2 (s1.trans s2) w2 (k1.trans k2)⟩⟩
theorem gEach_len : ∀ {gs : List GM} {ds : List D} {ρ ρ' : Env}, gEach gs ds ρ = some ρ' → ds.length = gs.length
  | [], [], _, _, _ => rfl
  | [], _ :: _, _, _, h => by cases h
  | _ :: _, [], _, _, h => by cases h
  | g :: gs, d :: ds, ρ, ρ', h => by
    unfold gEach at h
    cases e1 : g d ρ with
    | none => rw [e1] at h; cases h
    | some ρ1 =>
      rw [e1] at h
      simp [gEach_len h]
theorem gd_tup {k : Nat} {n : Nat} (hc : X.calm = true) (h : GDs X sl es gs) (hl : gs.length = n) (hn : (assignEach es X.env).length = n := by rfl) (hst : (assignEach es X.env).findIdx? (·.1) = none := by rfl) : GD X sl (.Tuple es k pos) (gTp gs) :=
  PG.imp (pg_tup hc h hn hst) fun v σ H Q ⟨P, W, ρ, d, ρ', w, dn, e, q⟩ => by
    cases d with
    | tup ds =>
      unfold Den at dn
      obtain ⟨a, vs, rfl, t, l⟩ := dn
      have e : gEach gs ds ρ = some ρ' := e
      exact ⟨a, vs, rfl, same_t w.same t, by rw [l.len, gEach_len e, hl], P, W, ρ, ds, ρ', w, l, e, q⟩
    | _ => cases e
end
/-- target = e -/
def sAsg (g : GM) (F : EM) : SM := fun ρ => F ρ >>= fun a => Res.of (g a.1 a.2) >>= fun ρ1 => .ok (.nx ρ1)
theorem Kp.ke {md : List Bool} {sl : List Nat} {σ σ' : St} (k : Ke sl σ σ') (h : ∀ i ∈ sl, md[i]? ≠ some true) : Kp md σ σ' := ⟨k.1, fun i hi => k.2 i fun z => h i z hi⟩
section
variable {X : Cx} {E : WX} {md : List Bool} {sl : List Nat} {pos : Pos} {e tg : Expr} {g : GM} {F : EM}
theorem sd_asg (he : EV X E e F) (hg : GD X sl tg g) (hk : ∀ i ∈ sl, md[i]? ≠ some true) (hs : swapsWithSole [tg] e pos.line X.env = pure false := by rfl) (hw : swappedStores [tg] e X.env = pure none := by rfl)
    (h1 : (assignEach [tg] X.env).map (·.2) = [assign tg X.env] := by rfl) : SD X E md (.Assign [tg] e pos) (sAsg g F) := PS.imp (ps_asg he hg hs hw h1) fun D σ H ⟨P, W, ρ, w, g0⟩ =>
  ⟨P, W, ρ, w, (GoS.val g0).mono fun v H1 ⟨P1, W1, a, s, ⟨w1, d1⟩, k⟩ => by
    obtain ⟨ρ2, e, k⟩ := GoS.of k
    exact ⟨P1, W1, a.2, a.1, ρ2, w1, d1, e, fun σ' P' W' H' s' w' k' => k σ' P' W' H' s' w' (Kp.ke k' hk)⟩⟩
end
/-! ### what is walked -/
structure ItOk (K : PySem.W.Frag) (J : It) (P : Hp) (xs : List D) : Prop where
  go : ∀ (i : Nat) (P2 H2 : Hp), Same P P2 → Same P2 H2 → i < xs.length → J.go i H2
  stop : ∀ (P2 H2 : Hp), Same P P2 → Same P2 H2 → J.stop xs.length H2
  yld : ∀ (i : Nat) (P2 H2 : Hp) (x : V) (H3 : Hp) (d : D), Same P P2 → Same P2 H2 → xs[i]? = some d → J.yld i H2 x H3 → ∃ P3, Al P2 H2 P3 H3 ∧ Den K P3 d x
abbrev IM := Env → Res (List D × Env)
def IRel (K : PySem.W.Frag) (mg : Str → Option Value) (P : Hp) (W : Own) (H : Hp) (σ : St) (a : List D × Env) (J : It) : Prop := Wd K mg P W H σ a.2 ∧ ItOk K J P a.1
def EI (X : Cx) (E : WX) (tg iter : Expr) (I : IM) : Prop := PI X tg iter (rX X.K X.mg E (IRel X.K X.mg) I)
theorem PI.imp {X : Cx} {tg e : Expr} {t t' : TI} (h : PI X tg e t) (q : ∀ σ H Q, t' σ H Q → t σ H Q) : PI X tg e t' := ⟨fun pins s σ H R I hq => h.run pins s σ H R I (q σ H R hq)⟩
def forL (g : GM) (B : SM) : List D → SM
  | [], ρ => .ok (.nx ρ)
  | x :: xs, ρ => Res.of (g x ρ) >>= fun ρ1 => match B ρ1 with
    | .ok (.nx ρ2) => forL g B xs ρ2
    | .ok (.ct ρ2) => forL g B xs ρ2
    | .ok (.bk ρ2) => .ok (.nx ρ2)
    | r => r
def sFor (g : GM) (I : IM) (B : SM) : SM := fun ρ => I ρ >>= fun a => forL g B a.1 a.2
section
variable {X : Cx} {E : WX} {md : List Bool} {sl : List Nat} {pos : Pos} {tg iter : Expr} {body : List Stmt} {g : GM} {I : IM} {B : SM}
theorem sd_for (hp : PassesOwn (model X.prog X.w) X.A X.env X.xe) (hc : X.calm = true) (hi : EI X E tg iter I) (hg : GD X sl tg g) (hb : SDs X E md body B) (hk : ∀ i ∈ sl, md[i]? ≠ some true)
    (hs : ∀ x, foldedSetIterable iter X.env x = pure x := by intro _; rfl) : SD X E md (.For tg iter body [] pos) (sFor g I B) := PS.imp (ps_for hp hc hi hg hb hs) fun D σ H ⟨P, W, ρ, w, g0⟩ => by
  refine ⟨P, W, ρ, w, (GoS.val g0).mono fun J H1 ⟨P1, W1, a, s1, ⟨w1, ok⟩, k⟩ => ?_⟩
  refine ⟨fun i m σ2 H2 => m = a.1.length - i ∧ i ≤ a.1.length ∧ ∃ P2 W2 ρ2, Wd X.K X.mg P2 W2 H2 σ2 ρ2 ∧ Same P1 P2 ∧ GoS X.K X.mg E md (forL g B (a.1.drop i) ρ2) P2 W2 H2 σ2 D, ⟨a.1.length, by simp, Nat.zero_le _, P1, W1, a.2, w1, same_refl P1, k⟩, ?_⟩
  rintro i m σ2 H2 ⟨rfl, hi, P2, W2, ρ2, w2, sm, k2⟩
  by_cases hlt : i < a.1.length
  · rw [List.drop_eq_getElem_cons hlt] at k2
    unfold forL at k2
    obtain ⟨ρ3, eg, k3⟩ := GoS.of k2
    refine .inr ⟨ok.go i P2 H2 sm w2.same hlt, fun σ' H' => ∃ P3 W3 ρ4, Wd X.K X.mg P3 W3 H' σ' ρ4 ∧ Same P1 P3 ∧ GoS X.K X.mg E md (forL g B (a.1.drop (i + 1)) ρ4) P3 W3 H' σ' D, fun σ' H' q => ⟨a.1.length - (i + 1), by omega, rfl, hlt, q⟩, fun x H' y => ?_⟩
    obtain ⟨P3, al, dn⟩ := ok.yld i P2 H2 x H' _ sm w2.same (List.getElem?_eq_getElem hlt) y
    refine ⟨P3, W2, ρ2, _, ρ3, w2.al al, dn, eg, fun σ4 P4 W4 H4 s4 w4 k4 => ?_⟩
    have st : Step P2 W2 H2 P4 W4 H4 := (al.step W2).trans s4
    have kp := Kp.ke k4 hk
    refine ⟨P4, W4, ρ3, w4, ?_⟩
    have k5 := GoS.step st kp k3
    cases hB : B ρ3 with
    | ok f =>
      rw [hB] at k5
      cases f with
      | nx ρ5 => exact fun σ' P' W' H'' s' w' k' => ⟨P', W', ρ5, w', same_trans (same_trans sm st.1) s'.1, GoS.step s' k' k5⟩
      | ct ρ5 => exact fun σ' P' W' H'' s' w' k' => ⟨P', W', ρ5, w', same_trans (same_trans sm st.1) s'.1, GoS.step s' k' k5⟩
      | bk ρ5 => exact k5
      | rt t ρ5 => exact k5
    | exc x ρ5 => rw [hB] at k5; exact k5
    | fail => rw [hB] at k5; exact k5
  · have e : i = a.1.length := by omega
    subst e
    rw [List.drop_length] at k2
    exact .inl ⟨ok.stop P2 H2 sm w2.same, k2 σ2 P2 W2 H2 (Step.refl P2 W2 H2) w2 (Kp.refl md σ2)⟩
end
/-! while: so many turns at most -/
def whL (C : BM) (B : SM) : Nat → SM
  | 0, _ => .fail
  | n + 1, ρ => C ρ >>= fun b => if b.1 then (match B b.2 with
    | .ok (.nx ρ2) => whL C B n ρ2
    | .ok (.ct ρ2) => whL C B n ρ2
    | .ok (.bk ρ2) => .ok (.nx ρ2)
    | r => r) else .ok (.nx b.2)
def sWhile (n : Nat) (C : BM) (B : SM) : SM := whL C B n
section
variable {X : Cx} {E : WX} {md : List Bool} {pos : Pos} {c : Expr} {body : List Stmt} {C : BM} {B : SM}
theorem sd_while (n : Nat) (hp : PassesOwn (model X.prog X.w) X.A X.env X.xe) (hc : EB X E c C) (hb : SDs X E md body B) : SD X E md (.While c body [] pos) (sWhile n C B) := PS.imp (ps_while hp hc hb) fun D σ H ⟨P, W, ρ, w, g0⟩ => by
  refine ⟨fun m σ2 H2 => ∃ P2 W2 ρ2, Wd X.K X.mg P2 W2 H2 σ2 ρ2 ∧ GoS X.K X.mg E md (whL C B m ρ2) P2 W2 H2 σ2 D, ⟨n, P, W, ρ, w, g0⟩, ?_⟩
  rintro m σ2 H2 ⟨P2, W2, ρ2, w2, k2⟩
  cases m with
  | zero => exact k2.elim
  | succ m =>
    unfold whL at k2
    refine ⟨P2, W2, ρ2, w2, (GoS.valB k2).mono fun b H3 ⟨P3, W3, ρ3, s3, w3, k3⟩ => ?_⟩
    cases b with
    | false => exact k3 σ2 P3 W3 H3 (Step.refl P3 W3 H3) w3 (Kp.refl md σ2)
    | true =>
      refine ⟨fun σ' H' => ∃ P' W' ρ', Wd X.K X.mg P' W' H' σ' ρ' ∧ GoS X.K X.mg E md (whL C B m ρ') P' W' H' σ' D, fun σ' H' q => ⟨m, Nat.lt_succ_self m, q⟩, P3, W3, ρ3, w3, ?_⟩
      simp only [if_true] at k3
      cases hB : B ρ3 with
      | ok f =>
        rw [hB] at k3
        cases f with
        | nx ρ5 => exact fun σ' P' W' H'' s' w' k' => ⟨P', W', ρ5, w', GoS.step s' k' k3⟩
        | ct ρ5 => exact fun σ' P' W' H'' s' w' k' => ⟨P', W', ρ5, w', GoS.step s' k' k3⟩
        | bk ρ5 => exact k3
        | rt t ρ5 => exact k3
      | exc x ρ5 => rw [hB] at k3; exact k3
      | fail => rw [hB] at k3; exact k3
end
end Od
namespace Od
open PySem PySem.Spec L2
open PyProof.Rows hiding St
/-! ### what is walked: lists, tuples, texts, ranges, enumerate, zip -/
def iSeq (F : EM) : IM := fun ρ => F ρ >>= fun a => match a.1 with
  | .lst ds => .ok (ds, a.2)
  | .rol ds => .ok (ds, a.2)
  | _ => .fail
def iTupD (F : EM) : IM := fun ρ => F ρ >>= fun a => match a.1 with
  | .tup ds => .ok (ds, a.2)
  | _ => .fail
def rngD (lo : Int) (n : Nat) : List D := (List.range n).map fun k => .int (lo + (k : Nat))
def rngC (lo c : Int) (n : Nat) : List D := (List.range n).map fun k => .int (lo + (k : Nat) * c)
def okI (j : Int) : Bool := decide (-1000000000 ≤ j) && decide (j ≤ 1000000000)
def rng1 : List D → Option (List D)
  | [.int j] => if okI j then some (rngD 0 j.toNat) else none
  | _ => none
def iArg (f : List D → Option (List D)) (As : List EM) : IM := fun ρ => vL As ρ >>= fun a => Res.of (f a.1) >>= fun xs => .ok (xs, a.2)
def enumD (ds : List D) : List D := ds.zipIdx.map fun p => .tup [.int (p.2 : Nat), p.1]
def seqD : D → Option (List D)
  | .lst ds => some ds
  | .rol ds => some ds
  | _ => none
def enu1 : List D → Option (List D)
  | [d] => (seqD d).map enumD
  | _ => none
def zipD (ds es : List D) : List D := (ds.zip es).map fun p => .tup [p.1, p.2]
def zip2 : List D → Option (List D)
  | [d, e] => (seqD d).bind fun ds => (seqD e).map fun es => zipD ds es
  | _ => none
theorem rngD_get {lo : Int} {n i : Nat} {d : D} (h : (rngD lo n)[i]? = some d) : d = .int (lo + (i : Nat)) := by
  unfold rngD at h
  rw [List.getElem?_map] at h
  by_cases hi : i < n
  · rw [List.getElem?_range hi] at h
    cases h; rfl
  · rw [List.getElem?_eq_none (by simpa using hi)] at h; cases h
theorem rngC_get {lo c : Int} {n i : Nat} {d : D} (h : (rngC lo c n)[i]? = some d) : d = .int (lo + (i : Nat) * c) := by
  unfold rngC at h
  rw [List.getElem?_map] at h
  by_cases hi : i < n
  · rw [List.getElem?_range hi] at h
    cases h; rfl
  · rw [List.getElem?_eq_none (by simpa using hi)] at h; cases h
theorem rngD_len {lo : Int} {n : Nat} : (rngD lo n).length = n := by simp [rngD]
theorem rngC_len {lo c : Int} {n : Nat} : (rngC lo c n).length = n := by simp [rngC]
section
variable {K : PySem.W.Frag} {P : Hp}
theorem it_list {a : Addr} {ds : List D} {vs : List V} (q : SqL K P a vs) (l : DenL K P ds vs) : ItOk K (Itl K a) P ds where
  go := fun i P2 H2 s s2 hi => walk_list.goes i H2 (by rw [l.len]; exact hi) (same_l s2 (same_l s q))
  stop := fun P2 H2 s s2 => by rw [← l.len]; exact walk_list.stops H2 (same_l s2 (same_l s q))
  yld := fun i P2 H2 x H3 d s s2 hd y => by
    have hi : i < ds.length := (List.getElem?_eq_some_iff.mp hd).1
    obtain ⟨rfl, hx⟩ := walk_list.yields i H2 x H3 (by rw [l.len]; exact hi) (same_l s2 (same_l s q)) y
    obtain ⟨d', e, dn⟩ := l.get' hx
    rw [hd] at e; cases e
    exact ⟨P2, Al.refl s2, Den.mono s _ _ dn⟩
theorem it_tup {a : Addr} {ds : List D} {vs : List V} (q : SqT K P a vs) (l : DenL K P ds vs) : ItOk K (Itt K a) P ds where
  go := fun i P2 H2 s s2 hi => walk_tup.goes i H2 (by rw [l.len]; exact hi) (same_t s2 (same_t s q))
  stop := fun P2 H2 s s2 => by rw [← l.len]; exact walk_tup.stops H2 (same_t s2 (same_t s q))
  yld := fun i P2 H2 x H3 d s s2 hd y => by
    have hi : i < ds.length := (List.getElem?_eq_some_iff.mp hd).1
    obtain ⟨rfl, hx⟩ := walk_tup.yields i H2 x H3 (by rw [l.len]; exact hi) (same_t s2 (same_t s q)) y
    obtain ⟨d', e, dn⟩ := l.get' hx
    rw [hd] at e; cases e
    exact ⟨P2, Al.refl s2, Den.mono s _ _ dn⟩
theorem it_range {lo : Int} {n : Nat} : ItOk K (Itr lo n) P (rngD lo n) where
  go := fun i P2 H2 s s2 hi => by rw [rngD_len] at hi; exact hi
  stop := fun P2 H2 s s2 => by rw [rngD_len]; exact Nat.le_refl n
  yld := fun i P2 H2 x H3 d s s2 hd y => by
    obtain ⟨rfl, rfl⟩ := y
    rw [rngD_get hd]
    exact ⟨P2, Al.refl s2, dint⟩
theorem it_rangeC {lo c : Int} {n : Nat} : ItOk K (Itc lo c n) P (rngC lo c n) where
  go := fun i P2 H2 s s2 hi => by rw [rngC_len] at hi; exact hi
  stop := fun P2 H2 s s2 => by rw [rngC_len]; exact Nat.le_refl n
  yld := fun i P2 H2 x H3 d s s2 hd y => by
    obtain ⟨rfl, rfl⟩ := y
    rw [rngC_get hd]
    exact ⟨P2, Al.refl s2, dint⟩
theorem pair_new {P2 H2 : Hp} {T : Addr} {x y : V} {d e : D} (s : Same P2 H2) (n : H2 T = none) (h1 : Den K P2 d x) (h2 : Den K P2 e y) :
    ∃ P3, Al P2 H2 P3 (upd H2 T (.tup [x, y])) ∧ Den K P3 (.tup [d, e]) (.ref T) :=
  let ⟨al, dn⟩ := dnewT s n (DenL.cons h1 (DenL.cons h2 DenL.nil))
  ⟨_, al, dn⟩
theorem it_enum {a : Addr} {ds : List D} {vs : List V} (q : SqL K P a vs) (l : DenL K P ds vs) : ItOk K (Ite K a) P (enumD ds) where
  go := fun i P2 H2 s s2 hi => walk_enum.goes i H2 (by rw [l.len]; simpa [enumD] using hi) (same_l s2 (same_l s q))
  stop := fun P2 H2 s s2 => by
    have e : (enumD ds).length = vs.length := by rw [l.len]; simp [enumD]
    rw [e]; exact walk_enum.stops H2 (same_l s2 (same_l s q))
  yld := fun i P2 H2 x H3 d s s2 hd y => by
    have hi : i < ds.length := by
      have := (List.getElem?_eq_some_iff.mp hd).1
      simpa [enumD] using this
    obtain ⟨T, x1, x2, rfl, n, rfl, e1, e2⟩ := walk_enum.yields i H2 x H3 (by rw [l.len]; exact hi) (same_l s2 (same_l s q)) y
    cases e1
    obtain ⟨d', e, dn⟩ := l.get' e2
    unfold enumD at hd
    rw [List.getElem?_map, List.getElem?_zipIdx, e] at hd
    simp only [Option.map_some, Option.some.injEq] at hd
    rw [← hd, Nat.zero_add]
    exact pair_new s2 n dint (Den.mono s _ _ dn)
theorem it_zip {a b : Addr} {ds es : List D} {vs ws : List V} (q : SqL K P a vs) (l : DenL K P ds vs) (q2 : SqL K P b ws) (l2 : DenL K P es ws) : ItOk K (Itz K a b) P (zipD ds es) where
  go := fun i P2 H2 s s2 hi => (walk_zip rfl).goes i H2 (by rw [l.len, l2.len]; simpa [zipD] using hi) ⟨same_l s2 (same_l s q), same_l s2 (same_l s q2)⟩
  stop := fun P2 H2 s s2 => by
    have e : (zipD ds es).length = min vs.length ws.length := by rw [l.len, l2.len]; simp [zipD]
    rw [e]; exact (walk_zip rfl).stops H2 ⟨same_l s2 (same_l s q), same_l s2 (same_l s q2)⟩
  yld := fun i P2 H2 x H3 d s s2 hd y => by
    have hi : i < min ds.length es.length := by
      have := (List.getElem?_eq_some_iff.mp hd).1
      simpa [zipD] using this
    obtain ⟨T, x1, x2, rfl, n, rfl, e1, e2⟩ := (walk_zip rfl).yields i H2 x H3 (by rw [l.len, l2.len]; exact hi) ⟨same_l s2 (same_l s q), same_l s2 (same_l s q2)⟩ y
    obtain ⟨d1, e1', dn1⟩ := l.get' e1
    obtain ⟨d2, e2', dn2⟩ := l2.get' e2
    unfold zipD at hd
    have ez : (ds.zip es)[i]? = some (d1, d2) := List.getElem?_zip_eq_some.mpr ⟨e1', e2'⟩
    rw [List.getElem?_map, ez] at hd
    simp only [Option.map_some, Option.some.injEq] at hd
    rw [← hd]
    exact pair_new s2 n (Den.mono s _ _ dn1) (Den.mono s _ _ dn2)
end
theorem seqD_v {K : PySem.W.Frag} {P : Hp} {d : D} {v : V} {ds : List D} (h : Den K P d v) (e : seqD d = some ds) : ∃ a vs, v = .ref a ∧ SqL K P a vs ∧ DenL K P ds vs := by
  cases d <;> simp [seqD] at e
  · subst e
    unfold Den at h
    obtain ⟨a, vs, rfl, q, l⟩ := h
    exact ⟨a, vs, rfl, SqL.of q, l⟩
  · subst e
    unfold Den at h
    exact h
section
variable {K : PySem.W.Frag} {X : Cx} {E : WX} {tg e : Expr} {F : EM} {As : List EM}
theorem ei_seq (h : EV X E e F) : EI X E tg e (iSeq F) := PI.imp (pi_list h) fun σ H Q ⟨P, W, ρ, w, g⟩ => ⟨P, W, ρ, w, (Go.bind g).mono fun v H1 ⟨P1, W1, a, s1, ⟨w1, d1⟩, k⟩ => by
  obtain ⟨d, ρ1⟩ := a
  cases d with
  | lst ds =>
    obtain ⟨a, vs, rfl, q, l⟩ := seqD_v d1 (ds := ds) rfl
    exact ⟨a, rfl, ⟨vs, same_l w1.same q⟩, k _ P1 W1 H1 (Step.refl P1 W1 H1) ⟨w1, it_list q l⟩⟩
  | rol ds =>
    obtain ⟨a, vs, rfl, q, l⟩ := seqD_v d1 (ds := ds) rfl
    exact ⟨a, rfl, ⟨vs, same_l w1.same q⟩, k _ P1 W1 H1 (Step.refl P1 W1 H1) ⟨w1, it_list q l⟩⟩
  | _ => exact k.elim⟩
theorem ei_tup (h : EV X E e F) : EI X E tg e (iTupD F) := PI.imp (pi_tup h) fun σ H Q ⟨P, W, ρ, w, g⟩ => ⟨P, W, ρ, w, (Go.bind g).mono fun v H1 ⟨P1, W1, a, s1, ⟨w1, d1⟩, k⟩ => by
  obtain ⟨d, ρ1⟩ := a
  cases d with
  | tup ds =>
    unfold Den at d1
    obtain ⟨a, vs, rfl, q, l⟩ := d1
    exact ⟨a, rfl, ⟨vs, same_t w1.same q⟩, k _ P1 W1 H1 (Step.refl P1 W1 H1) ⟨w1, it_tup q l⟩⟩
  | _ => exact k.elim⟩
/-- by arguments -/
theorem ei_arg {t : TA → TI} {f : List D → Option (List D)} (hp : PI X tg e (t (rX X.K X.mg E (VLRel X.K X.mg) (vL As))))
    (ht : ∀ (ta : TA) σ H R, (ta σ H fun vs H1 => ∃ P ds xs, Same P H1 ∧ DenL X.K P ds vs ∧ f ds = some xs ∧ ∀ J, ItOk X.K J P xs → R J H1) → (∀ Q Q' : List V → Hp → Prop, (∀ vs H1, Q vs H1 → Q' vs H1) → ta σ H Q → ta σ H Q') → t ta σ H R) :
    EI X E tg e (iArg f As) := PI.imp hp fun σ H R ⟨P, W, ρ, w, g⟩ => by
  refine ht _ σ H R ⟨P, W, ρ, w, (Go.bind g).mono fun vs H1 ⟨P1, W1, a, s1, ⟨w1, l1⟩, k⟩ => ?_⟩ (fun Q Q' h ⟨P, W, ρ, w, g⟩ => ⟨P, W, ρ, w, g.mono h⟩)
  obtain ⟨xs, e, k⟩ := Go.of k
  exact ⟨P1, a.1, xs, w1.same, l1, e, fun J ok => k J P1 W1 H1 (Step.refl P1 W1 H1) ⟨w1, ok⟩⟩
theorem okI_b {j : Int} (h : okI j = true) : -(2 ^ 62) ≤ j ∧ j < 2 ^ 62 := by
  unfold okI at h
  simp only [Bool.and_eq_true, decide_eq_true_eq] at h
  omega
theorem DenL.iint {K : PySem.W.Frag} {P : Hp} {i : Int} {v : V} (h : Den K P (.int i) v) : v = .int i := by unfold Den at h; exact h
theorem ht_rng1 (ta : TA) (σ : St) (H : Hp) (R : It → Hp → Prop) (h : ta σ H fun vs H1 => ∃ P ds xs, Same P H1 ∧ DenL K P ds vs ∧ rng1 ds = some xs ∧ ∀ J, ItOk K J P xs → R J H1)
    (mo : ∀ Q Q' : List V → Hp → Prop, (∀ vs H1, Q vs H1 → Q' vs H1) → ta σ H Q → ta σ H Q') : iRng1 ta σ H R := by
  refine mo _ _ (fun vs H1 ⟨P, ds, xs, s, l, e, k⟩ => ?_) h
  unfold rng1 at e
  split at e
  · split at e
    · rename_i hj
      cases e
      obtain ⟨v, rfl, dv⟩ := DenL.one l
      rw [DenL.iint dv]
      exact ⟨_, rfl, (okI_b hj).1, (okI_b hj).2, k _ it_range⟩
    · cases e
  · cases e
theorem ht_enum (ta : TA) (σ : St) (H : Hp) (R : It → Hp → Prop) (h : ta σ H fun vs H1 => ∃ P ds xs, Same P H1 ∧ DenL K P ds vs ∧ enu1 ds = some xs ∧ ∀ J, ItOk K J P xs → R J H1)
    (mo : ∀ Q Q' : List V → Hp → Prop, (∀ vs H1, Q vs H1 → Q' vs H1) → ta σ H Q → ta σ H Q') : iEnum K ta σ H R := by
  refine mo _ _ (fun vs H1 ⟨P, ds, xs, s, l, e, k⟩ => ?_) h
  unfold enu1 at e
  split at e
  · obtain ⟨v, rfl, dv⟩ := DenL.one l
    obtain ⟨es, e1, rfl⟩ := Option.map_eq_some_iff.mp e
    obtain ⟨a, ws, rfl, q, l2⟩ := seqD_v dv e1
    exact ⟨a, ws, rfl, same_l s q, k _ (it_enum q l2)⟩
  · cases e
end
/-! ### comprehensions -/
def noX {α : Type} : Res α → Res α
  | .ok a => .ok a
  | _ => .fail
theorem noX_ok {α : Type} (a : α) : noX (.ok a) = .ok a := rfl
def shE : Option T → Option T
  | some (.sh d) => some (.sh d)
  | _ => none
def backE (own : List Nat) (ρ0 ρ : Env) : Env := own.foldl (fun ρ i => ρ.set i (shE (ρ0.getD i none))) ρ
def bTrue : BM := fun ρ => .ok (true, ρ)
def cmpL (own : List Nat) (g : GM) (C : BM) (F : EM) : List D → List D → Env → Res (T × Env)
  | [], acc, ρ => .ok (.lst acc, ρ)
  | x :: xs, acc, ρ => Res.of (g x (wipeE own ρ)) >>= fun ρ1 => noX (C ρ1) >>= fun b => if b.1 then noX (F b.2) >>= fun d => if acc.length < 1000000 then cmpL own g C F xs (acc ++ [d.1]) (backE own ρ d.2) else .fail
    else cmpL own g C F xs acc (backE own ρ b.2)
def tComp (own : List Nat) (g : GM) (I : IM) (C : BM) (F : EM) : OM := fun ρ => I ρ >>= fun a => cmpL own g C F a.1 [] a.2
def E0 : WX := fun _ _ _ _ => False
section
variable {K : PySem.W.Frag} {mg : Str → Option Value} {P P' H H' : Hp} {W W' : Own} {σ σ' : St} {ρ ρ' : Env}
theorem wipeE_len (is : List Nat) : ∀ ρ : Env, (wipeE is ρ).length = ρ.length := by
  induction is with
  | nil => intro ρ; rfl
  | cons i is ih => intro ρ; show (wipeE is (ρ.set i none)).length = _; rw [ih]; simp
theorem wipeE_some (is : List Nat) : ∀ {ρ : Env} {i : Nat} {t : T}, (wipeE is ρ)[i]? = some (some t) → ρ[i]? = some (some t) ∧ i ∉ is := by
  induction is with
  | nil => intro ρ i t h; exact ⟨h, by simp⟩
  | cons k is ih =>
    intro ρ i t h
    obtain ⟨h1, h2⟩ := ih (ρ := ρ.set k none) h
    by_cases e : k = i
    · subst e
      by_cases hl : k < ρ.length
      · rw [List.getElem?_set_self hl] at h1; cases h1
      · rw [List.getElem?_eq_none (by simpa using hl)] at h1; cases h1
    · rw [List.getElem?_set_ne e] at h1
      exact ⟨h1, by simp [h2, Ne.symm e]⟩
theorem Wd.inBlk (w : Wd K mg P W H σ ρ) (own : List Nat) : Wd K mg P W H (L2.wipe σ own) (wipeE own ρ) := by
  refine ⟨w.same, w.own, fun i t e => ?_, by rw [wipeE_len, wipe_length]; exact w.len⟩
  obtain ⟨h1, h2⟩ := wipeE_some own e
  obtain ⟨v, hs, hr⟩ := w.env i t h1
  exact ⟨v, by rw [wipe_out h2]; exact hs, hr⟩
theorem backE_len (own : List Nat) (ρ0 : Env) : ∀ ρ : Env, (backE own ρ0 ρ).length = ρ.length := by
  induction own with
  | nil => intro ρ; rfl
  | cons i is ih => intro ρ; show (backE is ρ0 (ρ.set i _)).length = _; rw [ih]; simp
theorem backE_some (own : List Nat) (ρ0 : Env) : ∀ {ρ : Env} {i : Nat} {t : T}, (backE own ρ0 ρ)[i]? = some (some t) → (ρ[i]? = some (some t) ∧ i ∉ own) ∨ (∃ d, t = .sh d ∧ ρ0[i]? = some (some (.sh d))) := by
  induction own with
  | nil => intro ρ i t h; exact .inl ⟨h, by simp⟩
  | cons k is ih =>
    intro ρ i t h
    rcases ih (ρ := ρ.set k (shE (ρ0.getD k none))) h with ⟨h1, h2⟩ | h1
    · by_cases e : k = i
      · subst e
        by_cases hl : k < ρ.length
        · rw [List.getElem?_set_self hl] at h1
          have h1 := Option.some.inj h1
          rw [List.getD_eq_getElem?_getD] at h1
          cases q : ρ0[k]? with
          | none => rw [q] at h1; cases h1
          | some o =>
            cases o with
            | none => rw [q] at h1; cases h1
            | some t' =>
              rw [q] at h1
              cases t' with
              | sh d => cases h1; exact .inr ⟨d, rfl, rfl⟩
              | _ => cases h1
        · rw [List.getElem?_eq_none (by simpa using hl)] at h1; cases h1
      · rw [List.getElem?_set_ne e] at h1
        exact .inl ⟨h1, by simp [h2, Ne.symm e]⟩
    · exact .inr h1
theorem Wd.outBlk {own : List Nat} {ρ0 : Env} {P0 H0 : Hp} {W0 : Own} (w : Wd K mg P W H σ' ρ) (w0 : Wd K mg P0 W0 H0 σ ρ0) (s : Same P0 P) (hw : L2.wipe σ' own = L2.wipe σ own) : Wd K mg P W H σ (backE own ρ0 ρ) := by
  refine ⟨w.same, w.own, fun i t e => ?_, ?_⟩
  · rcases backE_some own ρ0 e with ⟨h1, h2⟩ | ⟨d, rfl, h1⟩
    · obtain ⟨v, hs, hr⟩ := w.env i t h1
      have q := congrArg (fun l : St => l[i]?) hw
      simp only [wipe_out h2] at q
      exact ⟨v, by rw [← q]; exact hs, hr⟩
    · obtain ⟨v, hs, hr⟩ := w0.env i _ h1
      exact ⟨v, hs, Den.mono s _ _ hr⟩
  · rw [backE_len]
    have q := congrArg List.length hw
    rw [wipe_length, wipe_length] at q
    rw [← q]; exact w.len
/-- an object that nobody owns changes -/
theorem Wd.other {D : Addr} {o : HO} (w : Wd K mg P W H σ ρ) (hp : P D = none) (hw : W D = none) : Wd K mg P W (upd H D o) σ ρ := by
  refine ⟨fun a u e => ?_, fun a r e => ?_, fun i t e => ?_, w.len⟩
  · rw [upd_ne (ne_of_none e hp)]; exact w.same a u e
  · obtain ⟨h1, u, h2⟩ := w.own a r e
    have : a ≠ D := fun z => by subst z; rw [hw] at e; cases e
    exact ⟨h1, u, by rw [upd_ne this]; exact h2⟩
  · obtain ⟨v, hs, hr⟩ := w.env i t e
    refine ⟨v, hs, RT.mono (same_refl P) (fun f x ex => ⟨ex, fun o h => ?_⟩) t v hr⟩
    have : x ≠ D := fun z => by subst z; rw [hw] at ex; cases ex
    rw [upd_ne this]; exact h
/-- an object that nobody owns is taken in hand -/
theorem Wd.adopt {A : Addr} {ds : List D} {vs : List V} (w : Wd K mg P W H σ ρ) (hp : P A = none) (hw : W A = none) (hh : H A = some (.lst vs)) (l : DenL K P ds vs) : Wd K mg P (ownNew W A none) H σ ρ ∧ RT K mg P (ownNew W A none) H none (.lst ds) (.ref A) := by
  refine ⟨⟨w.same, fun a r e => ?_, fun i t e => ?_, w.len⟩, A, vs, rfl, by unfold ownNew; rw [if_pos rfl], hh, l⟩
  · unfold ownNew at e
    by_cases h : a = A
    · subst h; exact ⟨hp, _, hh⟩
    · rw [if_neg h] at e; exact w.own a r e
  · obtain ⟨v, hs, hr⟩ := w.env i t e
    refine ⟨v, hs, RT.mono (same_refl P) (fun f x ex => ⟨?_, fun o h => h⟩) t v hr⟩
    have : x ≠ A := fun z => by subst z; rw [hw] at ex; cases ex
    unfold ownNew; rw [if_neg this]; exact ex
end
section
variable {X : Cx} {E : WX}
theorem go_no {α β γ : Type} {K : PySem.W.Frag} {mg : Str → Option Value} {Rel : Hp → Own → Hp → St → β → γ → Prop} {r : Res α} {k : α → Res β} {P H : Hp} {W : Own} {σ : St} {Q : γ → Hp → Prop} (h : Go K mg E Rel (noX r >>= k) P W H σ Q) : ∃ a, r = .ok a ∧ Go K mg E Rel (k a) P W H σ Q := by
  cases r with
  | ok a => exact ⟨a, rfl, h⟩
  | exc x ρ => exact h.elim
  | fail => exact h.elim
theorem comp_red {own : List Nat} {g : GM} {I : IM} {C : BM} {F : EM} {sl : List Nat} {σ : St} {H : Hp} {Q : VK} {K : PySem.W.Frag} {mg : Str → Option Value} (hsl : ∀ i ∈ sl, i ∈ own)
    (h : rX K mg E (TRel K mg) (tComp own g I C F) σ H Q) : tLc (rX K mg E (IRel K mg) I) (rG K mg sl g) (rB K mg E0 C) (rX K mg E0 (VRel K mg) F) own σ H Q := by
  obtain ⟨P, W, ρ, w, g0⟩ := h
  refine ⟨P, W, ρ, w, (Go.bind g0).mono fun J H1 ⟨P1, W1, a, s1, ⟨w1, ok⟩, k⟩ => fun D hD => ?_⟩
  have wD : W1 D = none := by
    cases q : W1 D with
    | none => rfl
    | some r => obtain ⟨_, u, e⟩ := w1.own D r q; rw [hD] at e; cases e
  have pD : P1 D = none := same_none w1.same hD
  refine ⟨fun i m H2 => m = a.1.length - i ∧ i ≤ a.1.length ∧ ∃ P2 W2 ρ2 acc vacc, Wd K mg P2 W2 H2 σ ρ2 ∧ Step P1 W1 H1 P2 W2 H2 ∧ H2 D = some (.lst vacc) ∧ P2 D = none ∧ W2 D = none ∧ DenL K P2 acc vacc ∧
    Go K mg E (TRel K mg) (cmpL own g C F (a.1.drop i) acc ρ2) P1 W1 H1 σ Q, ⟨a.1.length, by simp, Nat.zero_le _, P1, W1, a.2, [], [], w1.other pD wD, ?_, upd_same, pD, wD, DenL.nil, k⟩, ?_⟩
  · exact ⟨same_refl P1, fun x o hx wx => ⟨by rw [upd_ne (ne_of_none hx hD)]; exact hx, wx, rfl⟩⟩
  · rintro i m H2 ⟨rfl, hi, P2, W2, ρ2, acc, vacc, w2, st, hD2, pD2, wD2, dn, k2⟩
    by_cases hlt : i < a.1.length
    · rw [List.drop_eq_getElem_cons hlt] at k2
      unfold cmpL at k2
      obtain ⟨ρ3, eg, k3⟩ := Go.of k2
      refine .inr ⟨ok.go i P2 H2 st.1 w2.same hlt, fun H3 => ∃ P3 W3 ρ4 acc' vacc', Wd K mg P3 W3 H3 σ ρ4 ∧ Step P1 W1 H1 P3 W3 H3 ∧ H3 D = some (.lst vacc') ∧ P3 D = none ∧ W3 D = none ∧ DenL K P3 acc' vacc' ∧
        Go K mg E (TRel K mg) (cmpL own g C F (a.1.drop (i + 1)) acc' ρ4) P1 W1 H1 σ Q, fun H3 q => ⟨a.1.length - (i + 1), by omega, rfl, hlt, q⟩, fun x H3 y => ?_⟩
      obtain ⟨P3, al, dx⟩ := ok.yld i P2 H2 x H3 _ st.1 w2.same (List.getElem?_eq_getElem hlt) y
      refine ⟨P3, W2, wipeE own ρ2, _, ρ3, (w2.al al).inBlk own, dx, eg, fun σ4 P4 W4 H4 s4 w4 k4 => ?_⟩
      have hw4 : L2.wipe σ4 own = L2.wipe σ own := by
        apply List.ext_getElem?
        intro j
        by_cases hj : j ∈ own
        · have none_of : ∀ τ : St, j ∈ own → τ.length = σ.length → (L2.wipe τ own)[j]? = if j < σ.length then some none else none := fun τ hm hl => by
            cases q : (L2.wipe τ own)[j]? with
            | none =>
              have : (L2.wipe τ own).length ≤ j := List.getElem?_eq_none_iff.mp q
              rw [wipe_length, hl] at this
              rw [if_neg (by omega)]
            | some o =>
              have hl2 : j < (L2.wipe τ own).length := (List.getElem?_eq_some_iff.mp q).1
              rw [wipe_length, hl] at hl2
              rw [if_pos hl2]
              cases o with
              | none => rfl
              | some v => exact absurd hm (wipe_some q).2
          rw [none_of σ4 hj (by have := k4.1; rw [wipe_length] at this; exact this), none_of σ hj rfl]
        · rw [wipe_out hj, wipe_out hj]
          have := k4.2 j (fun z => hj (hsl j z))
          rw [this, wipe_out hj]
      refine ⟨hw4, ?_⟩
      have st4 : Step P2 W2 H2 P4 W4 H4 := (al.step W2).trans s4
      obtain ⟨b, eb, k5⟩ := go_no k3
      refine ⟨P4, W4, ρ3, w4, ?_⟩
      rw [eb]
      refine fun P5 W5 H5 s5 w5 => ?_
      have st5 : Step P2 W2 H2 P5 W5 H5 := st4.trans s5
      have hD5 := st5.2 D _ hD2 wD2
      dsimp only
      by_cases hb : b.1 = true
      · rw [if_pos hb] at k5
        rw [if_pos hb]
        obtain ⟨d, ed, k6⟩ := go_no k5
        refine ⟨P5, W5, b.2, w5, ?_⟩
        rw [ed]
        refine fun v P6 W6 H6 s6 ⟨w6, d6⟩ => ?_
        have st6 : Step P2 W2 H2 P6 W6 H6 := st5.trans s6
        obtain ⟨h1, h2, h3⟩ := st6.2 D _ hD2 wD2
        split at k6
        · rename_i hlen
          refine ⟨vacc, h1, by rw [dn.len]; exact szLt hlen, P6, W6, _, acc ++ [d.1], vacc ++ [v], (w6.outBlk w2 st6.1 hw4).other (h3.trans pD2) h2, ?_, upd_same, h3.trans pD2, h2, DenL.append (DenL.mono st6.1 _ _ dn) (DenL.cons d6 DenL.nil), k6⟩
          have s0 := st.trans st6
          refine ⟨s0.1, fun z o hz wz => ?_⟩
          obtain ⟨a1, a2, a3⟩ := s0.2 z o hz wz
          exact ⟨by rw [upd_ne (ne_of_none hz hD)]; exact a1, a2, a3⟩
        · exact k6.elim
      · rw [if_neg hb] at k5
        rw [if_neg hb]
        obtain ⟨h1, h2, h3⟩ := hD5
        exact ⟨P5, W5, _, acc, vacc, w5.outBlk w2 st5.1 hw4, st.trans st5, h1, h3.trans pD2, h2, DenL.mono st5.1 _ _ dn, k5⟩
    · have e : i = a.1.length := by omega
      subst e
      rw [List.drop_length] at k2
      refine .inl ⟨ok.stop P2 H2 st.1 w2.same, ?_⟩
      obtain ⟨wa, ra⟩ := w2.adopt pD2 wD2 hD2 dn
      refine k2 (.ref D) P2 (ownNew W2 D none) H2 ⟨st.1, fun z o hz wz => ?_⟩ ⟨wa, ra⟩
      obtain ⟨a1, a2, a3⟩ := st.2 z o hz wz
      have : z ≠ D := ne_of_none hz hD
      exact ⟨a1, by unfold ownNew; rw [if_neg this]; exact a2, a3⟩
end
section
variable {X : Cx} {E : WX} {md : List Bool} {elt tg iter : Expr} {ifs : List Expr} {scope : Scope} {own : List (Str × Nat)} {pos : Pos} {g : GM} {I : IM} {C : BM} {F : EM} {sl : List Nat}
theorem PTs.imp {X : Cx} {e : List Expr} {t t' : TT} (h : PTs X e t) (q : ∀ σ H Q, t' σ H Q → t σ H Q) : PTs X e t' := ⟨fun pins s σ H Q I hq => h.run pins s σ H Q I (q σ H Q hq)⟩
def ETs (X : Cx) (E : WX) (e : List Expr) (C : BM) : Prop := PTs X e (rB X.K X.mg E C)
theorem ets_nil {X : Cx} : ETs X E0 [] bTrue := PTs.imp pts_nil fun σ H Q ⟨P, W, ρ, w, g⟩ => g P W H (Step.refl P W H) w
theorem ets_one {X : Cx} {c : Expr} {C : BM} (h : EB X E0 c C) : ETs X E0 [c] C := pts_one h
abbrev Blk (X : Cx) (scope : Scope) (s : Shared) (H : Hp) (C : Addr) (cl : List (Str × Addr)) (fp : List Addr) : Cx := X.blk s H scope (compEnvC scope cl C X.env) fp
theorem et_comp (hc : X.calm = true) (hN : X.N.Nodup) (hi : EI X E tg iter I) (ok : BlkOk X.N X.env.scope scope own) (hsl : ∀ i ∈ sl, i ∈ own.map (·.2))
    (hg : ∀ s H A cl fp, GD (Blk X scope s H A cl fp) sl tg g) (ht : ∀ s H A cl fp, ETs (Blk X scope s H A cl fp) E0 ifs C) (he : ∀ s H A cl fp, EV (Blk X scope s H A cl fp) E0 elt F)
    (hs : ∀ x, foldedSetIterable iter X.env x = pure x := by intro _; rfl) : ET X E (.ListComp elt [⟨tg, iter, ifs, 0⟩] scope pos) (tComp (own.map (·.2)) g I C F) :=
  PE.imp (pe_lc (g := rG X.K X.mg sl g) (tt := rB X.K X.mg E0 C) (te := rX X.K X.mg E0 (VRel X.K X.mg) F) hc hN hi ok hg ht he hs) fun σ H Q h => comp_red hsl h
theorem sd_setC {i : Nat} {y : Str} {py spos : Pos} (hc : X.calm = true) (hN : X.N.Nodup) (hy : X.N[i]? = some y) (hyl : X.env.scope.names.lookup y = some .local)
    (hsw : swapsWith (.ListComp elt [⟨tg, iter, ifs, 0⟩] scope pos) (some (.Name y py)) spos.line X.env = pure true) (hi : EI X E tg iter I) (ok : BlkOk X.N X.env.scope scope own) (hsl : ∀ i ∈ sl, i ∈ own.map (·.2))
    (hg : ∀ s H A cl fp, GD (Blk X scope s H A cl fp) sl tg g) (ht : ∀ s H A cl fp, ETs (Blk X scope s H A cl fp) E0 ifs C) (he : ∀ s H A cl fp, EV (Blk X scope s H A cl fp) E0 elt F)
    (hk : md[i]? ≠ some true) (hs : ∀ x, foldedSetIterable iter X.env x = pure x := by intro _; rfl) : SD X E md (.Assign [.Name y py] (.ListComp elt [⟨tg, iter, ifs, 0⟩] scope pos) spos) (sSet i (tComp (own.map (·.2)) g I C F)) :=
  sd_set (PS.imp (ps_setLc (g := rG X.K X.mg sl g) (tt := rB X.K X.mg E0 C) (te := rX X.K X.mg E0 (VRel X.K X.mg) F) hc hN hy hyl hsw hi ok hg ht he hs) fun D σ H h => comp_red hsl h) hk
end
end Od
namespace Od
open PySem PySem.Spec L2
open PyProof.Rows hiding St
/-! ### defs that are called while no text of a list is in the making -/
structure RoomG (k : Nat) (A : Around) : Prop extends Room k A where
  gd : A.guards = some []
theorem RoomG.mono {j k : Nat} {A : Around} (r : RoomG k A) (h : j ≤ k) : RoomG j A := ⟨r.toRoom.mono h, r.gd⟩
structure FnG (P : Program) (w : World) (K : PySem.W.Frag) (mg : Str → Option Value) (base : Heap) (CX : CXT) (k : Nat) (f : Addr) (fd : FuncData) (ps : List Str) (sp : Sp) : Prop where
  ln : ∀ vs H Q E, sp vs H Q E → vs.length = ps.length
  go : ∀ {A : Around} {outer : List PySem.Env} {s : Shared} {H : Hp} {ar : Args} {us : List Value} {vs : List V} {Q : VK} {E : XK}, RoomG k A → Env0 P w K mg base A outer s H → BindsTo s fd ar (ps.zip us) → Vals vs us → sp vs H Q E → codeAny (model P w) A (.call (.ref f) ar) (CR CX outer P w H s Q E) s
section
variable {P : Program} {w : World} {K : PySem.W.Frag} {mg : Str → Option Value} {base : Heap} {CX : CXT} {j k : Nat} {f : Addr} {fd : FuncData} {ps : List Str} {sp sp' : Sp}
theorem FnG.mono (F : FnG P w K mg base CX j f fd ps sp) (h : j ≤ k) : FnG P w K mg base CX k f fd ps sp := ⟨F.ln, fun hr => F.go (hr.mono h)⟩
theorem FnG.imp (F : FnG P w K mg base CX k f fd ps sp) (h : ∀ vs H Q E, sp' vs H Q E → sp vs H Q E) : FnG P w K mg base CX k f fd ps sp' := ⟨fun vs H Q E q => F.ln vs H Q E (h vs H Q E q), fun hr he hb hv q => F.go hr he hb hv (h _ _ _ _ q)⟩
theorem okG {x qual : Str} {st : Stmt} {N : List Str} (F : Fun K x qual st f fd) (S : FnScope N ps (defScope st)) (len : ∀ vs H Q E, sp vs H Q E → vs.length = ps.length)
    (hbody : ∀ (cdv : Value) (A : Around) (outer : List PySem.Env) (s : Shared) (H : Hp) (vs : List V) (Q : VK) (E : XK), RoomG k (A.deeper (envOfC qual (defScope st) s.heap.objs.size f cdv)) → sp vs H Q E →
      ∃ t, PSs (cxOf (L2.CX P w) P w K mg base N qual (defScope st) f cdv A outer s H E) (defBody st) t ∧ t { nx := fun _ H' => Q .non H', rt := Q } (start N vs) H) : FnG P w K mg base (L2.CX P w) (k + 1) f fd ps sp := by
  obtain ⟨oc, od, kV, doc, pm, an, cdv, ct, osl, rfl, lk, hcd⟩ := F.ex
  refine ⟨len, ?_⟩
  intro A outer s H ar us vs Q E hr e0 hb rv q
  have ln := len _ _ _ _ q
  have all : ∀ b o, base.get? b = some o → s.heap.get? b = some o := fun b o e => (e0.bs b o e).1
  have kin : K.In s.heap := e0.mod.kin.keeps all
  have nol : s.heap.NoLimit := e0.mod.nolimit.keeps all
  refine codeAny_call_function hr.toRoom.depth (kin _ _ lk) rfl S.co S.gen rfl (PySem.W.codeRec_of kin hcd) (hb _ _ _ _ ?_)
  refine wpAny_newFunctionEnv_cells S.kind (fun z hz => ?_) ?_
  · obtain ⟨n, u⟩ := z
    rcases S.par n (List.of_mem_zip hz).1 with g | g
    · exact Or.inl g
    · exact Or.inr ⟨g, PySem.W.cellsFrom_some _ _ _ (Or.inl g)⟩
  intro env he s1 fresh
  subst he
  refine ⟨nol.keeps fresh.toInCall.keep, codeAny_func ?_⟩
  obtain ⟨t, pt, qt⟩ := hbody cdv A outer s H vs Q E ⟨hr.toRoom.deeper _, hr.gd⟩ q
  have I := inv_start (CX := L2.CX P w) (E := E) S hr.hd e0 ln rv fresh
  refine wpAny_mono (pt.run [] s1 (start N vs) H _ I qt) ?_ fun _ _ z => z
  intro fl s2 z
  cases fl with
  | next =>
    obtain ⟨σ2, H2, J, y⟩ := z
    exact ⟨V.non, H2, J.os, J.bare, J.base, J.hok, rfl, y⟩
  | ret u =>
    obtain ⟨v, σ2, H2, J, r2, y⟩ := z
    exact ⟨v, H2, J.os, J.bare, J.base, J.hok, r2, y⟩
  | brk => exact z.elim fun _ z => z.elim fun _ z => z.2.elim
  | cont => exact z.elim fun _ z => z.elim fun _ z => z.2.elim
end
section
variable {X : Cx} {CX : CXT} {k : Nat} {f : Addr} {fd : FuncData} {ps : List Str} {sp : Sp} {E : St → XK} {x : Str} {p pos : Pos} {e : Expr} {es : List Expr} {t : TA}
theorem runG {pins : List (Addr × Obj)} {σ : St} {H : Hp} {s : Shared} {Q : VK} {us : List Value} {vs : List V} (F : FnG X.prog X.w X.K X.mg X.base CX k f fd ps sp) (hr : RoomG k X.A) (hb : Binds X.K fd ps []) (hx : PassesAt CX X σ (E σ))
    (I : Inv X pins σ H s) (rv : Vals vs us) (q : sp vs H Q (E σ)) : wpAny (model X.prog X.w) X.A (call (.ref f) us) (EP X pins σ Q) X.xe s := by
  have ln : us.length = ps.length := by rw [← rv.length]; exact F.ln _ _ _ _ q
  have bt : BindsTo s fd ⟨us, []⟩ (ps.zip us) := by
    have := hb s us I.kIn (by rw [List.append_nil]; exact ln)
    rwa [List.append_nil] at this
  refine wpAny_call (codeAny_mono (F.go hr I.env0 bt rv q) ?_)
  rintro (e | fl) s2 z
  · exact hx pins H s e s2 I z
  · cases fl with
    | ret u => exact I.after z
    | next => exact z.elim
    | brk => exact z.elim
    | cont => exact z.elim
def tCallG (sp : Sp) (E : St → XK) (t : TA) : TE := fun σ H Q => t σ H fun vs H1 => sp vs H1 Q (E σ)
theorem pe_callG (F : FnG X.prog X.w X.K X.mg X.base CX k f fd ps sp) (hr : RoomG k X.A) (hg : Gl X x) (hm : X.mg x = some (.ref f)) (hk : PySem.W.keepIn X.K (.ref f) = true) (hb : Binds X.K fd ps []) (hx : ∀ σ, PassesAt CX X σ (E σ))
    (ha : PA X (e :: es) t) (hdb : (x == ("__debug__" : Str)) = false) (he : starEach (e :: es) X.env = (false, eval e X.env) :: starEach es X.env) (hpl : (backTo pos (starEach es X.env)).any (·.1) = false) :
    PE X (.Call (.Name x p) (e :: es) [] pos) (tCallG sp E t) := by
  constructor
  intro pins s σ H Q I q
  refine wpAny_Call_Name_kw (ld_glob I hg hm ?_ hdb)
  refine PySem.W.callWith_K (h₀ := X.base) I.ok.mod.kin hk (thn (ha.run pos pins s σ H _ I q) ?_) he hpl
  rintro us s1 ⟨vs, H1, J, rv, z⟩
  exact ⟨J.kIn, runG F hr hb (hx σ) J rv z⟩
end
/-! ### defs: what they give, as a function of what they are handed -/
inductive Out where
  | ok (t : T) (os : Env) | exc (x : Exn) (os : Env) | fail
abbrev Fn := List T → Out
def spF (K : PySem.W.Frag) (mg : Str → Option Value) (f : Fn) : Sp := fun vs H Q E => ∃ P W ts, Wd K mg P W H (vs.map some) (ts.map some) ∧ ts.length = vs.length ∧ match f ts with
  | .ok t os => ∀ v P' W' H', Step P W H P' W' H' → Wd K mg P' W' H' (vs.map some) os → RT K mg P' W' H' none t v → Q v H'
  | .exc x os => ∀ c od P' W' H', Step P W H P' W' H' → Wd K mg P' W' H' (vs.map some) os → XR K mg P' H' x c od → E c od H'
  | .fail => False
def maskE : List Bool → Env → Env
  | [], _ => []
  | b :: bs, ρ => (if b then ρ.head?.join else none) :: maskE bs ρ.tail
def fnOf (N n : Nat) (md : List Bool) (B : SM) : Fn := fun ts => if ts.length = n then match B (ts.map some ++ List.replicate (N - n) none) with
  | .ok (.rt t ρ) => .ok t (maskE md ρ)
  | .ok (.nx ρ) => .ok (.sh .non) (maskE md ρ)
  | .exc x ρ => .exc x (maskE md ρ)
  | _ => .fail else .fail
theorem maskE_len : ∀ (md : List Bool) (ρ : Env), (maskE md ρ).length = md.length
  | [], _ => rfl
  | b :: bs, ρ => by show (maskE bs ρ.tail).length + 1 = _; rw [maskE_len bs]; rfl
theorem maskE_some : ∀ {md : List Bool} {ρ : Env} {i : Nat} {t : T}, (maskE md ρ)[i]? = some (some t) → md[i]? = some true ∧ ρ[i]? = some (some t)
  | [], ρ, i, t, h => by simp [maskE] at h
  | b :: bs, ρ, 0, t, h => by
    simp only [maskE, List.getElem?_cons_zero, Option.some.injEq] at h
    split at h
    · rename_i hb
      cases ρ with
      | nil => cases h
      | cons o r => simp at h; subst h; simp [hb]
    · cases h
  | b :: bs, ρ, i + 1, t, h => by
    simp only [maskE, List.getElem?_cons_succ] at h
    obtain ⟨h1, h2⟩ := maskE_some h
    refine ⟨by simpa using h1, ?_⟩
    cases ρ with
    | nil => simp at h2
    | cons o r => simpa using h2
section
variable {P : Program} {w : World} {K : PySem.W.Frag} {mg : Str → Option Value} {base : Heap}
theorem start_get {N : List Str} {vs : List V} {i : Nat} (h : i < vs.length) : (L2.start N vs)[i]? = (vs.map some)[i]? := by
  unfold L2.start
  rw [List.getElem?_append_left (by simpa using h)]
theorem fn_ok {x qual : Str} {st : Stmt} {f : Addr} {fd : FuncData} {N ps : List Str} {k : Nat} {md : List Bool} {B : SM} (F : Fun K x qual st f fd) (S : FnScope N ps (defScope st)) (hmd : md.length ≤ ps.length)
    (hB : ∀ (cdv : Value) (A : Around) (outer : List PySem.Env) (s : Shared) (H : Hp) (E : XK), RoomG k (A.deeper (envOfC qual (defScope st) s.heap.objs.size f cdv)) → SDs (cxOf (L2.CX P w) P w K mg base N qual (defScope st) f cdv A outer s H E) (fun c d _ H => E c d H) md (defBody st) B) :
    FnG P w K mg base (L2.CX P w) (k + 1) f fd ps (spF K mg (fnOf N.length ps.length md B)) := by
  refine okG F S (fun vs H Q E h => ?_) (fun cdv A outer s H vs Q E hr h => ⟨_, hB cdv A outer s H E hr, ?_⟩)
  · obtain ⟨P', W, ts, _, hl, m⟩ := h
    unfold fnOf at m
    by_cases e : ts.length = ps.length
    · rw [← hl]; exact e
    · rw [if_neg e] at m; exact m.elim
  · obtain ⟨P', W, ts, wd, hl, m⟩ := h
    unfold fnOf at m
    by_cases e : ts.length = ps.length
    · rw [if_pos e] at m
      have hvl : vs.length = ps.length := hl.symm.trans e
      have hpl : ps.length ≤ N.length := by have := congrArg List.length S.pre; rw [List.length_take] at this; omega
      have wd0 : Wd K mg P' W H (L2.start N vs) (ts.map some ++ List.replicate (N.length - ps.length) none) := by
        refine ⟨wd.same, wd.own, fun i t ei => ?_, ?_⟩
        · by_cases hi : i < ts.length
          · rw [List.getElem?_append_left (by simpa using hi)] at ei
            obtain ⟨v, hs, hr⟩ := wd.env i t ei
            exact ⟨v, by rw [start_get (by omega)]; exact hs, hr⟩
          · rw [List.getElem?_append_right (by simpa using hi)] at ei
            rw [List.getElem?_replicate] at ei
            split at ei <;> cases ei
        · unfold L2.start
          simp only [List.length_append, List.length_map, List.length_replicate]
          omega
      have back : ∀ {σ' : St} {P2 : Hp} {W2 : Own} {H2 : Hp} {ρ2 : Env}, Wd K mg P2 W2 H2 σ' ρ2 → Kp md (L2.start N vs) σ' → Wd K mg P2 W2 H2 (vs.map some) (maskE md ρ2) := fun {σ' P2 W2 H2 ρ2} w2 kp => by
        refine ⟨w2.same, w2.own, fun i t ei => ?_, by rw [maskE_len]; simp; omega⟩
        obtain ⟨h1, h2⟩ := maskE_some ei
        obtain ⟨v, hs, hr⟩ := w2.env i t h2
        have hi : i < vs.length := by
          have := (List.getElem?_eq_some_iff.mp h1).1
          omega
        rw [kp.2 i h1, start_get hi] at hs
        exact ⟨v, hs, hr⟩
      refine ⟨P', W, _, wd0, ?_⟩
      cases hb : B (ts.map some ++ List.replicate (N.length - ps.length) none) with
      | ok fl =>
        rw [hb] at m
        cases fl with
        | rt t ρ2 => exact fun v σ' P2 W2 H2 st w2 kp rt => m v P2 W2 H2 st (back w2 kp) rt
        | nx ρ2 => exact fun σ' P2 W2 H2 st w2 kp => m .non P2 W2 H2 st (back w2 kp) (show Den K P2 .non .non from dnon)
        | bk ρ2 => exact m.elim
        | ct ρ2 => exact m.elim
      | exc x ρ2 =>
        rw [hb] at m
        exact fun c od σ' P2 W2 H2 st w2 kp xr => m c od P2 W2 H2 st (back w2 kp) xr
      | fail => rw [hb] at m; exact m.elim
    · rw [if_neg e] at m; exact m.elim
end
structure Cal (P : Program) (w : World) (K : PySem.W.Frag) (mg : Str → Option Value) (base : Heap) (k : Nat) (x : Str) (fn : Fn) : Prop where
  ex : ∃ (f : Addr) (fd : FuncData) (ps : List Str), FnG P w K mg base (L2.CX P w) k f fd ps (spF K mg fn) ∧ mg x = some (.ref f) ∧ PySem.W.keepIn K (.ref f) = true ∧ Binds K fd ps []
theorem spF_of {K : PySem.W.Frag} {mg : Str → Option Value} {f g : Fn} (h : ∀ ts, g ts ≠ .fail → f ts = g ts) : ∀ vs H Q E, spF K mg g vs H Q E → spF K mg f vs H Q E := fun vs H Q E ⟨P, W, ts, wd, hl, m⟩ => by
  refine ⟨P, W, ts, wd, hl, ?_⟩
  by_cases e : g ts = .fail
  · rw [e] at m; exact m.elim
  · rw [h ts e]; exact m
/-- the same where the function given is another one that agrees -/
theorem Cal.of {P : Program} {w : World} {K : PySem.W.Frag} {mg : Str → Option Value} {base : Heap} {k : Nat} {x : Str} {f g : Fn} (c : Cal P w K mg base k x f) (h : ∀ ts, g ts ≠ .fail → f ts = g ts) : Cal P w K mg base k x g := by
  obtain ⟨a, fd, ps, F, h1, h2, h3⟩ := c.ex
  exact ⟨a, fd, ps, F.imp (spF_of h), h1, h2, h3⟩
theorem Cal.mono {P : Program} {w : World} {K : PySem.W.Frag} {mg : Str → Option Value} {base : Heap} {k j : Nat} {x : Str} {f : Fn} (c : Cal P w K mg base k x f) (h : k ≤ j) : Cal P w K mg base j x f := by
  obtain ⟨a, fd, ps, F, h1, h2, h3⟩ := c.ex
  exact ⟨a, fd, ps, F.mono h, h1, h2, h3⟩
theorem Cal.mk' {P : Program} {w : World} {K : PySem.W.Frag} {mg : Str → Option Value} {base : Heap} {x qual : Str} {st : Stmt} {f : Addr} {fd : FuncData} {N ps : List Str} {k : Nat} {md : List Bool} {B : SM} (F : Fun K x qual st f fd) (hm : mg x = some (.ref f)) (hb : Binds K fd ps []) (S : FnScope N ps (defScope st)) (hmd : md.length ≤ ps.length)
    (hB : ∀ (cdv : Value) (A : Around) (outer : List PySem.Env) (s : Shared) (H : Hp) (E : XK), RoomG k (A.deeper (envOfC qual (defScope st) s.heap.objs.size f cdv)) → SDs (cxOf (L2.CX P w) P w K mg base N qual (defScope st) f cdv A outer s H E) (fun c d _ H => E c d H) md (defBody st) B) :
    Cal P w K mg base (k + 1) x (fnOf N.length ps.length md B) := ⟨f, fd, ps, fn_ok F S hmd hB, hm, F.kp, hb⟩
/-! ### calls -/
inductive Arg where
  | v (F : EM) | io (i : Nat)
def aL : List Arg → Env → Res (List (Option D) × Env)
  | [], ρ => .ok ([], ρ)
  | .v F :: as, ρ => F ρ >>= fun a => aL as a.2 >>= fun r => .ok (some a.1 :: r.1, r.2)
  | .io i :: as, ρ => match ρ[i]? with
    | some (some _) => aL as ρ >>= fun r => .ok (none :: r.1, r.2)
    | _ => .fail
def mkT : List Arg → List (Option D) → Env → Option (List T)
  | [], [], _ => some []
  | .v _ :: as, some d :: r, ρ => (mkT as r ρ).map (.sh d :: ·)
  | .io i :: as, none :: r, ρ => match ρ[i]? with
    | some (some t) => (mkT as r ρ).map (t :: ·)
    | _ => none
  | _, _, _ => none
def putB : List Arg → Env → Env → Env
  | [], _, ρ => ρ
  | .v _ :: as, os, ρ => putB as os.tail ρ
  | .io i :: as, os, ρ => putB as os.tail (ρ.set i os.head?.join)
def iosOf : List Arg → List Nat
  | [] => []
  | .v _ :: as => iosOf as
  | .io i :: as => i :: iosOf as
def nodupB : List Nat → Bool
  | [] => true
  | i :: is => !is.contains i && nodupB is
def eCall (f : Fn) (As : List Arg) : OM := fun ρ => if nodupB (iosOf As) = true then aL As ρ >>= fun a => Res.of (mkT As a.1 a.2) >>= fun ts => match f ts with
  | .ok t os => .ok (t, putB As os a.2)
  | .exc x os => .exc x (putB As os a.2)
  | .fail => .fail else .fail
section
variable (K : PySem.W.Frag) (mg : Str → Option Value)
def AOk (P : Hp) (σ : St) : List Arg → List (Option D) → List V → Prop
  | [], os, vs => os = [] ∧ vs = []
  | .v _ :: as, os, vs => ∃ d r v s, os = some d :: r ∧ vs = v :: s ∧ Den K P d v ∧ AOk P σ as r s
  | .io i :: as, os, vs => ∃ r v s, os = none :: r ∧ vs = v :: s ∧ σ[i]? = some (some v) ∧ AOk P σ as r s
def ARel (As : List Arg) (P : Hp) (W : Own) (H : Hp) (σ : St) (a : List (Option D) × Env) (vs : List V) : Prop := Wd K mg P W H σ a.2 ∧ AOk K P σ As a.1 vs
end
def EAA (X : Cx) (E : WX) (es : List Expr) (As : List Arg) : Prop := PA X es (rX X.K X.mg E (ARel X.K X.mg As) (aL As))
section
variable {K : PySem.W.Frag} {mg : Str → Option Value} {P P' H H' : Hp} {W W' : Own} {σ : St} {ρ : Env}
theorem AOk.step (s : Same P P') : ∀ {As : List Arg} {os : List (Option D)} {vs : List V}, AOk K P σ As os vs → AOk K P' σ As os vs
  | [], os, vs, h => h
  | .v _ :: as, os, vs, h => by
    obtain ⟨d, r, v, t, e1, e2, h1, h2⟩ := h
    exact ⟨d, r, v, t, e1, e2, Den.mono s _ _ h1, AOk.step s h2⟩
  | .io i :: as, os, vs, h => by
    obtain ⟨r, v, t, e1, e2, h1, h2⟩ := h
    exact ⟨r, v, t, e1, e2, h1, AOk.step s h2⟩
end
section
variable {X : Cx} {E : WX} {e : Expr} {es : List Expr}
theorem eaa_nil : EAA X E [] [] := PA.imp pa_nil fun σ H Q ⟨P, W, ρ, w, g⟩ => g [] P W H (Step.refl P W H) ⟨w, rfl, rfl⟩
theorem eaa_v {A : EM} {As : List Arg} (ha : EV X E e A) (hr : EAA X E es As) (hs : starEach (e :: es) X.env = (false, eval e X.env) :: starEach es X.env := by rfl) : EAA X E (e :: es) (.v A :: As) :=
  PA.imp (pa_cons ha hr hs) fun σ H Q ⟨P, W, ρ, w, g⟩ => ⟨P, W, ρ, w, (Go.bind g).mono fun x H1 ⟨P1, W1, a, s1, ⟨w1, k1⟩, g1⟩ => ⟨P1, W1, a.2, w1, (Go.bind g1).mono fun vs H2 ⟨P2, W2, b, s2, ⟨w2, k2⟩, g2⟩ =>
    g2 (x :: vs) P2 W2 H2 (Step.refl P2 W2 H2) ⟨w2, a.1, b.1, x, vs, rfl, rfl, Den.mono s2.1 _ _ k1, k2⟩⟩⟩
theorem eaa_io {i : Nat} {x : Str} {pos : Pos} {As : List Arg} (hN : X.N[i]? = some x) (hv : Vis X.env.scope x) (hr : EAA X E es As) (hs : starEach (.Name x pos :: es) X.env = (false, eval (.Name x pos) X.env) :: starEach es X.env := by rfl)
    (hd : (x == ("__debug__" : Str)) = false := by decide) (hcd : (x == ("__classdict__" : Str)) = false := by decide) : EAA X E (.Name x pos :: es) (.io i :: As) :=
  PA.imp (pa_cons (pe_var hN hv hd hcd) hr hs) fun σ H Q ⟨P, W, ρ, w, g⟩ => by
    unfold aL at g
    cases e : ρ[i]? with
    | none => rw [e] at g; exact g.elim
    | some o =>
      cases o with
      | none => rw [e] at g; exact g.elim
      | some t =>
        rw [e] at g
        obtain ⟨v, hσ, _⟩ := w.env i t e
        exact ⟨v, hσ, P, W, ρ, w, (Go.bind g).mono fun vs H2 ⟨P2, W2, b, s2, ⟨w2, k2⟩, g2⟩ => g2 (v :: vs) P2 W2 H2 (Step.refl P2 W2 H2) ⟨w2, b.1, v, vs, rfl, rfl, hσ, k2⟩⟩
end
/-! the callee's world -/
def posA : List Arg → Nat → Nat → Option Nat
  | [], _, _ => none
  | .v _ :: as, i, k => posA as i (k + 1)
  | .io j :: as, i, k => if j = i then some k else posA as i (k + 1)
theorem posA_some : ∀ {As : List Arg} {i k m : Nat}, posA As i k = some m → ∃ j, m = k + j ∧ As[j]? = some (.io i)
  | [], _, _, _, h => by cases h
  | .v _ :: as, i, k, m, h => by
    obtain ⟨j, e1, e2⟩ := posA_some (As := as) h
    exact ⟨j + 1, by omega, by simpa using e2⟩
  | .io j0 :: as, i, k, m, h => by
    unfold posA at h
    split at h
    · rename_i e
      cases h
      exact ⟨0, rfl, by rw [e]; rfl⟩
    · obtain ⟨j, e1, e2⟩ := posA_some (As := as) h
      exact ⟨j + 1, by omega, by simpa using e2⟩
theorem mem_ios : ∀ {As : List Arg} {i j : Nat}, As[j]? = some (.io i) → i ∈ iosOf As
  | [], _, _, h => by simp at h
  | .v _ :: as, i, 0, h => by simp at h
  | .v _ :: as, i, j + 1, h => mem_ios (As := as) (by simpa using h)
  | .io j0 :: as, i, 0, h => by simp at h; subst h; exact List.mem_cons_self
  | .io j0 :: as, i, j + 1, h => List.mem_cons_of_mem _ (mem_ios (As := as) (by simpa using h))
theorem posA_of : ∀ {As : List Arg} {i k j : Nat}, nodupB (iosOf As) = true → As[j]? = some (.io i) → posA As i k = some (k + j)
  | [], _, _, _, _, h => by simp at h
  | .v _ :: as, i, k, 0, _, h => by simp at h
  | .v _ :: as, i, k, j + 1, n, h => by
    have := posA_of (As := as) (k := k + 1) n (by simpa using h)
    show posA as i (k + 1) = _
    rw [this]; congr 1; omega
  | .io j0 :: as, i, k, 0, n, h => by simp at h; subst h; unfold posA; rw [if_pos rfl]; rfl
  | .io j0 :: as, i, k, j + 1, n, h => by
    have n' : (!(iosOf as).contains j0 && nodupB (iosOf as)) = true := n
    rw [Bool.and_eq_true] at n'
    have hm : i ∈ iosOf as := mem_ios (j := j) (by simpa using h)
    have ne : ¬ j0 = i := fun z => by
      subst z
      have := n'.1
      simp [hm] at this
    unfold posA
    rw [if_neg ne, posA_of (As := as) (k := k + 1) n'.2 (by simpa using h)]
    congr 1; omega
theorem posA_none {As : List Arg} {i k : Nat} (h : i ∉ iosOf As) : posA As i k = none := by
  cases e : posA As i k with
  | none => rfl
  | some m =>
    obtain ⟨j, _, e2⟩ := posA_some e
    exact absurd (mem_ios e2) h
theorem putB_out : ∀ {As : List Arg} {os ρ : Env} {k : Nat}, k ∉ iosOf As → (putB As os ρ)[k]? = ρ[k]?
  | [], os, ρ, k, _ => rfl
  | .v _ :: as, os, ρ, k, h => putB_out (As := as) h
  | .io j0 :: as, os, ρ, k, h => by
    have h1 : k ≠ j0 := fun z => h (by rw [z]; exact List.mem_cons_self)
    have h2 : k ∉ iosOf as := fun z => h (List.mem_cons_of_mem _ z)
    show (putB as os.tail (ρ.set j0 os.head?.join))[k]? = _
    rw [putB_out h2, List.getElem?_set_ne (Ne.symm h1)]
theorem putB_in : ∀ {As : List Arg} {os ρ : Env} {j k : Nat} {t : T}, nodupB (iosOf As) = true → As[j]? = some (.io k) → (putB As os ρ)[k]? = some (some t) → os[j]? = some (some t)
  | [], _, _, _, _, _, _, h, _ => by simp at h
  | .v _ :: as, os, ρ, 0, k, t, _, h, _ => by simp at h
  | .v _ :: as, os, ρ, j + 1, k, t, n, h, g => by
    have := putB_in (As := as) (os := os.tail) n (by simpa using h) g
    cases os with
    | nil => simp at this
    | cons o r => simpa using this
  | .io j0 :: as, os, ρ, 0, k, t, n, h, g => by
    simp at h
    subst h
    have n' : (!(iosOf as).contains j0 && nodupB (iosOf as)) = true := n
    rw [Bool.and_eq_true] at n'
    have hm : j0 ∉ iosOf as := fun z => by
      have := n'.1
      simp [z] at this
    have g : (putB as os.tail (ρ.set j0 os.head?.join))[j0]? = some (some t) := g
    rw [putB_out hm] at g
    by_cases hl : j0 < ρ.length
    · rw [List.getElem?_set_self hl] at g
      cases os with
      | nil => simp at g
      | cons o r => simpa using g
    · rw [List.getElem?_eq_none (by simpa using hl)] at g; cases g
  | .io j0 :: as, os, ρ, j + 1, k, t, n, h, g => by
    have n' : (!(iosOf as).contains j0 && nodupB (iosOf as)) = true := n
    rw [Bool.and_eq_true] at n'
    have := putB_in (As := as) (os := os.tail) n'.2 (by simpa using h) g
    cases os with
    | nil => simp at this
    | cons o r => simpa using this
theorem putB_len : ∀ (As : List Arg) (os ρ : Env), (putB As os ρ).length = ρ.length
  | [], _, _ => rfl
  | .v _ :: as, os, ρ => putB_len as os.tail ρ
  | .io j0 :: as, os, ρ => by show (putB as os.tail (ρ.set j0 _)).length = _; rw [putB_len]; simp
def ownIn (As : List Arg) (W : Own) : Own := fun a => match W a with
  | some (some i, f) => (match posA As i 0 with | some j => some (some j, f) | none => none)
  | _ => none
def ownBack (As : List Arg) (W W' : Own) : Own := fun a => match W' a with
  | some (some j, f) => (match As[j]? with | some (.io i) => some (some i, f) | _ => none)
  | some (none, f) => some (none, f)
  | none => (match ownIn As W a with | none => W a | some _ => none)
section
variable {K : PySem.W.Frag} {mg : Str → Option Value} {P P' H H' : Hp} {W W' : Own} {σ : St} {ρ os : Env}
theorem ownIn_io {As : List Arg} {a : Addr} {i j : Nat} {f : Option Tx} (n : nodupB (iosOf As) = true) (h : As[j]? = some (.io i)) (e : W a = some (some i, f)) : ownIn As W a = some (some j, f) := by
  unfold ownIn
  simp only [e, posA_of (k := 0) n h, Nat.zero_add]
theorem ownIn_out {As : List Arg} {a : Addr} {i : Nat} {f : Option Tx} (h : i ∉ iosOf As) (e : W a = some (some i, f)) : ownIn As W a = none := by
  unfold ownIn
  simp only [e, posA_none h]
theorem ownIn_some {As : List Arg} {a : Addr} {r} (h : ownIn As W a = some r) : ∃ r', W a = some r' := by
  unfold ownIn at h
  cases e : W a with
  | none => rw [e] at h; cases h
  | some r' => exact ⟨r', rfl⟩
theorem args_env : ∀ {As : List Arg} {os : List (Option D)} {vs : List V} {ts : List T}, AOk K P σ As os vs → mkT As os ρ = some ts → ts.length = vs.length ∧ As.length = vs.length ∧ ∀ (j : Nat) (t : T), ts[j]? = some t → ∃ v, vs[j]? = some v ∧
    ((∃ d, t = .sh d ∧ Den K P d v) ∨ ∃ i, As[j]? = some (.io i) ∧ ρ[i]? = some (some t) ∧ σ[i]? = some (some v))
  | [], os, vs, ts, h, m => by
    obtain ⟨rfl, rfl⟩ := h
    have : ([] : List T) = ts := Option.some.inj m
    subst this
    exact ⟨rfl, rfl, fun j t e => by simp at e⟩
  | .v F :: as, os, vs, ts, h, m => by
    obtain ⟨d, r, v, s, rfl, rfl, h1, h2⟩ := h
    obtain ⟨ts', m', rfl⟩ := Option.map_eq_some_iff.mp (show (mkT as r ρ).map (.sh d :: ·) = some ts from m)
    obtain ⟨l1, l2, ih⟩ := args_env h2 m'
    refine ⟨by simp [l1], by simp [l2], fun j t e => ?_⟩
    cases j with
    | zero => simp at e; subst e; exact ⟨v, rfl, .inl ⟨d, rfl, h1⟩⟩
    | succ j =>
      obtain ⟨u, e1, e2⟩ := ih j t (by simpa using e)
      exact ⟨u, by simpa using e1, by simpa using e2⟩
  | .io i :: as, os, vs, ts, h, m => by
    obtain ⟨r, v, s, rfl, rfl, h1, h2⟩ := h
    unfold mkT at m
    cases e : ρ[i]? with
    | none => rw [e] at m; cases m
    | some o =>
      cases o with
      | none => rw [e] at m; cases m
      | some t0 =>
        rw [e] at m
        obtain ⟨ts', m', rfl⟩ := Option.map_eq_some_iff.mp (show (mkT as r ρ).map (t0 :: ·) = some ts from m)
        obtain ⟨l1, l2, ih⟩ := args_env h2 m'
        refine ⟨by simp [l1], by simp [l2], fun j t e' => ?_⟩
        cases j with
        | zero => simp at e'; subst e'; exact ⟨v, rfl, .inr ⟨i, rfl, e, h1⟩⟩
        | succ j =>
          obtain ⟨u, e1, e2⟩ := ih j t (by simpa using e')
          exact ⟨u, by simpa using e1, by simpa using e2⟩
theorem aok_io : ∀ {As : List Arg} {os : List (Option D)} {vs : List V} {j i : Nat}, AOk K P σ As os vs → As[j]? = some (.io i) → ∃ v, vs[j]? = some v ∧ σ[i]? = some (some v)
  | [], _, _, _, _, _, h => by simp at h
  | .v F :: as, os, vs, 0, i, h, e => by simp at e
  | .v F :: as, os, vs, j + 1, i, h, e => by
    obtain ⟨d, r, v, s, rfl, rfl, h1, h2⟩ := h
    obtain ⟨u, e1, e2⟩ := aok_io h2 (show as[j]? = some (.io i) by simpa using e)
    exact ⟨u, by simpa using e1, e2⟩
  | .io i0 :: as, os, vs, 0, i, h, e => by
    obtain ⟨r, v, s, rfl, rfl, h1, h2⟩ := h
    simp at e; subst e
    exact ⟨v, rfl, h1⟩
  | .io i0 :: as, os, vs, j + 1, i, h, e => by
    obtain ⟨r, v, s, rfl, rfl, h1, h2⟩ := h
    obtain ⟨u, e1, e2⟩ := aok_io h2 (show as[j]? = some (.io i) by simpa using e)
    exact ⟨u, by simpa using e1, e2⟩
theorem Wd.callee {As : List Arg} {os : List (Option D)} {vs : List V} {ts : List T} (w : Wd K mg P W H σ ρ) (n : nodupB (iosOf As) = true) (h : AOk K P σ As os vs) (m : mkT As os ρ = some ts) : Wd K mg P (ownIn As W) H (vs.map some) (ts.map some) := by
  obtain ⟨l1, l2, ae⟩ := args_env h m
  refine ⟨w.same, fun a r e => ?_, fun j t e => ?_, by simp [l1]⟩
  · obtain ⟨r', e'⟩ := ownIn_some e
    exact w.own a r' e'
  · rw [List.getElem?_map] at e
    cases q : ts[j]? with
    | none => rw [q] at e; cases e
    | some t' =>
      rw [q] at e
      cases e
      obtain ⟨v, hv, hh⟩ := ae j t q
      refine ⟨v, by rw [List.getElem?_map, hv]; rfl, ?_⟩
      rcases hh with ⟨d, rfl, dn⟩ | ⟨i, hi, he, hs⟩
      · exact dn
      · obtain ⟨v', hs', hr⟩ := w.env i t he
        rw [hs] at hs'
        cases hs'
        exact RT.mono (same_refl P) (fun f x ex => ⟨ownIn_io n hi ex, fun o h => h⟩) t v hr
theorem Wd.back {As : List Arg} {os0 : List (Option D)} {vs : List V} (w : Wd K mg P W H σ ρ) (n : nodupB (iosOf As) = true) (h : AOk K P σ As os0 vs) (st : Step P (ownIn As W) H P' W' H') (w' : Wd K mg P' W' H' (vs.map some) os) :
    Wd K mg P' (ownBack As W W') H' σ (putB As os ρ) ∧ Step P W H P' (ownBack As W W') H' ∧ ∀ t v, RT K mg P' W' H' none t v → RT K mg P' (ownBack As W W') H' none t v := by
  have keepOwn : ∀ a r, W a = some r → ownIn As W a = none → H' a = H a ∧ W' a = none ∧ P' a = P a := fun a r e1 e2 => by
    obtain ⟨_, o, ho⟩ := w.own a r e1
    obtain ⟨h1, h2, h3⟩ := st.2 a o ho e2
    exact ⟨h1.trans ho.symm, h2, h3⟩
  refine ⟨⟨w'.same, fun a r e => ?_, fun k t e => ?_, by rw [putB_len]; exact w.len⟩, ⟨st.1, fun a o ho wa => ?_⟩, fun t v hr => RT.mono (same_refl P') (fun f x ex => ⟨by unfold ownBack; simp only [ex], fun o h => h⟩) t v hr⟩
  · unfold ownBack at e
    cases q : W' a with
    | some r' => exact w'.own a r' q
    | none =>
      simp only [q] at e
      cases q2 : ownIn As W a with
      | some r2 => simp only [q2] at e; cases e
      | none =>
        simp only [q2] at e
        obtain ⟨h1, o, h2⟩ := w.own a r e
        obtain ⟨k1, k2, k3⟩ := keepOwn a r e q2
        exact ⟨k3.trans h1, o, k1.trans h2⟩
  · by_cases hk : k ∈ iosOf As
    · have : ∃ j : Nat, As[j]? = some (Arg.io k) := by
        have aux : ∀ {As : List Arg}, k ∈ iosOf As → ∃ j : Nat, As[j]? = some (Arg.io k) := by
          intro As
          induction As with
          | nil => intro h; cases h
          | cons x as ih =>
            intro h
            cases x with
            | v F => obtain ⟨j, e⟩ := ih h; exact ⟨j + 1, by simpa using e⟩
            | io i0 =>
              rcases List.mem_cons.mp h with rfl | h
              · exact ⟨0, rfl⟩
              · obtain ⟨j, e⟩ := ih h; exact ⟨j + 1, by simpa using e⟩
        exact aux hk
      obtain ⟨j, hj⟩ := this
      have ho := putB_in n hj e
      obtain ⟨v, hv, hr⟩ := w'.env j t ho
      obtain ⟨v2, hv2, hs2⟩ := aok_io h hj
      rw [List.getElem?_map, hv2] at hv
      have hv : v2 = v := by simpa using hv
      subst hv
      exact ⟨v2, hs2, RT.mono (same_refl P') (fun f x ex => ⟨by unfold ownBack; simp only [ex, hj], fun o h => h⟩) t v2 hr⟩
    · rw [putB_out hk] at e
      obtain ⟨v, hs, hr⟩ := w.env k t e
      refine ⟨v, hs, RT.mono st.1 (fun f x ex => ?_) t v hr⟩
      have q := ownIn_out (As := As) hk ex
      obtain ⟨k1, k2, k3⟩ := keepOwn x _ ex q
      refine ⟨?_, fun o h => by rw [k1]; exact h⟩
      unfold ownBack
      simp only [k2, q]
      exact ex
  · have q : ownIn As W a = none := by unfold ownIn; simp only [wa]
    obtain ⟨h1, h2, h3⟩ := st.2 a o ho q
    exact ⟨h1, by unfold ownBack; simp only [h2, q]; exact wa, h3⟩
end
section
variable {X : Cx} {E : WX} {k : Nat} {x : Str} {fn : Fn} {p pos : Pos} {e : Expr} {es : List Expr} {As : List Arg}
theorem call_red {K : PySem.W.Frag} {mg : Str → Option Value} {σ : St} {H : Hp} {Q : VK} {E : WX} {As : List Arg} (h : rX K mg E (TRel K mg) (eCall fn As) σ H Q) : tCallG (spF K mg fn) (WE E) (rX K mg E (ARel K mg As) (aL As)) σ H Q := by
  obtain ⟨P, W, ρ, w, g⟩ := h
  unfold eCall at g
  by_cases n : nodupB (iosOf As) = true
  · rw [if_pos n] at g
    refine ⟨P, W, ρ, w, (Go.bind g).mono fun vs H1 ⟨P1, W1, a, s1, ⟨w1, k1⟩, g1⟩ => ?_⟩
    obtain ⟨ts, m, g2⟩ := Go.of g1
    refine ⟨P1, ownIn As W1, ts, w1.callee n k1 m, (args_env k1 m).1, ?_⟩
    cases hf : fn ts with
    | ok t os =>
      rw [hf] at g2
      exact fun v P' W' H' st w' rt => by
        obtain ⟨wb, sb, rb⟩ := w1.back n k1 st w'
        exact g2 v P' _ H' sb ⟨wb, rb t v rt⟩
    | exc x os =>
      rw [hf] at g2
      exact fun c od P' W' H' st w' xr => by
        obtain ⟨wb, sb, rb⟩ := w1.back n k1 st w'
        exact g2 c od P' _ H' sb wb xr
    | fail => rw [hf] at g2; exact g2.elim
  · rw [if_neg n] at g; exact g.elim
theorem et_call (C : Cal X.prog X.w X.K X.mg X.base k x fn) (hr : RoomG k X.A) (hg : Gl X x) (tk : Takes X E) (ha : EAA X E (e :: es) As)
    (hdb : (x == ("__debug__" : Str)) = false := by decide) (he : starEach (e :: es) X.env = (false, eval e X.env) :: starEach es X.env := by rfl) (hpl : (backTo pos (starEach es X.env)).any (·.1) = false := by rfl) : ET X E (.Call (.Name x p) (e :: es) [] pos) (eCall fn As) := by
  obtain ⟨f, fd, ps, F, hm, hk, hb⟩ := C.ex
  exact PE.imp (pe_callG F hr hg hm hk hb (fun σ => passAt tk σ) ha hdb he hpl) fun σ H Q h => call_red h
end
/-- the law's own promise -/
def spLaw (K : PySem.W.Frag) : Sp := fun vs H Q _ => ∃ (a : Addr) (ns : List Int), vs = [.ref a] ∧ SqL K H a (ns.map V.int) ∧ ns.length ≤ 63 ∧ ∀ H', Q (.bl true) H'
theorem law_ok {P : Program} {w : World} {K : PySem.W.Frag} {mg : Str → Option Value} {base : Heap} {CX : CXT} {k : Nat} {f : Addr} {fd : FuncData} {ps : List Str} {fn : Fn} (F : FnG P w K mg base CX k f fd ps (spF K mg fn))
    (h : ∀ ns : List Int, ns.length ≤ 63 → ∃ os, fn [.sh (.rol (ns.map .int))] = .ok (.sh (.bl true)) os) : FnG P w K mg base CX k f fd ps (spLaw K) := F.imp fun vs H Q E ⟨a, ns, e, hs, hl, q⟩ => by
  subst e
  obtain ⟨os, ho⟩ := h ns hl
  have sm : Same (fun x => if x = a then H a else none) H := fun x o e => by
    by_cases hx : x = a
    · subst hx; dsimp only at e; rw [if_pos rfl] at e; exact e
    · dsimp only at e; rw [if_neg hx] at e; cases e
  have hq : SqL K (fun x => if x = a then H a else none) a (ns.map V.int) := by
    rcases hs with hs | hs
    · left
      unfold Rd at hs ⊢
      simpa using hs
    · right; exact hs
  refine ⟨fun x => if x = a then H a else none, fun _ => none, [.sh (.rol (ns.map .int))], ⟨sm, fun x r e => (by cases e), fun i t e => ?_, by simp⟩, rfl, ?_⟩
  · cases i with
    | zero =>
      simp at e
      subst e
      exact ⟨.ref a, rfl, a, ns.map V.int, rfl, hq, DenL.of_ints ns⟩
    | succ i => simp at e
  · rw [ho]
    intro v P' W' H' st w' rt
    have rt : Den K P' (.bl true) v := rt
    unfold Den at rt
    rw [rt]
    exact q H'
end Od
/-! list(zip(a, b)) of two lists -/
namespace PySem.W
open PySem PySem.Calls PyProof.Rows PyProof.V PySem.Spec
/-- the zip object after i turns; S the list that is made -/
structure ZlSt (h : Heap) (z TI TO i1 i2 l1 l2 S : Addr) (xs ys : Array Value) (i : Nat) : Prop where
  ti : IsPair h TI (.ref i1) (.ref i2)
  it1 : h.IsListIter i1 l1 i
  it2 : h.IsListIter i2 l2 i
  ls1 : h.IsList l1 xs
  ls2 : h.IsList l2 ys
  z : (i = 0 ∧ IsZip h z TI TO .none ∧ IsPair h TO .none .none) ∨ ∃ T f oT, IsZipHeld h z TI TO T f ∧ h.get? T = some oT ∧ S < T
/-- all parts lie below S -/
structure ZlLow (z TI TO i1 i2 l1 l2 S : Addr) : Prop where
  z : z < S
  TI : TI < S
  TO : TO < S
  i1 : i1 < S
  i2 : i2 < S
  l1 : l1 < S
  l2 : l2 < S
section
variable {h h' : Heap} {z TI TO i1 i2 l1 l2 S : Addr} {xs ys : Array Value} {i : Nat}
theorem ZlSt.keep (st : ZlSt h z TI TO i1 i2 l1 l2 S xs ys i) (L : ZlLow z TI TO i1 i2 l1 l2 S) (k : ∀ b o, b ≠ S → h.get? b = some o → h'.get? b = some o) : ZlSt h' z TI TO i1 i2 l1 l2 S xs ys i where
  ti := k _ _ (Nat.ne_of_lt L.TI) st.ti
  it1 := st.it1.at fun o e => k _ o (Nat.ne_of_lt L.i1) e
  it2 := st.it2.at fun o e => k _ o (Nat.ne_of_lt L.i2) e
  ls1 := st.ls1.at fun o e => k _ o (Nat.ne_of_lt L.l1) e
  ls2 := st.ls2.at fun o e => k _ o (Nat.ne_of_lt L.l2) e
  z := by
    rcases st.z with ⟨e, a, b⟩ | ⟨T, f, oT, a, b, c⟩
    · exact .inl ⟨e, k _ _ (Nat.ne_of_lt L.z) a, k _ _ (Nat.ne_of_lt L.TO) b⟩
    · exact .inr ⟨T, f, oT, k _ _ (Nat.ne_of_lt L.z) a, k _ _ (Nat.ne_of_gt c) b, c⟩
end
section
variable {prog : Program} {w : World} {A : Around} {E : Value → Shared → Prop} {s : Shared} {z TI TO i1 i2 l1 l2 S : Addr} {xs ys : Array Value} {i : Nat}
end
section
variable {prog : Program} {w : World} {A : Around} {s : Shared} {R : Result → Shared → Prop} {z TI TO i1 i2 l1 l2 S : Addr} {xs ys : Array Value}
end
section
variable {prog : Program} {w : World} {A : Around} {E : Value → Shared → Prop} {s : Shared} {z TI TO i1 i2 l1 l2 : Addr} {xs ys : Array Value}
end
end PySem.W
namespace LiZ
open PySem PySem.Spec PyProof.Rows L2
section
variable {X : Cx}
end
end LiZ
namespace Od
open PySem PySem.Spec L2
open PyProof.Rows hiding St
/-! ### built-in functions -/
section
variable {K : PySem.W.Frag} {P H : Hp}
theorem vl1 {d : D} {vs : List V} (h : ViewL K P H [d] vs) : ∃ v, vs = [v] ∧ View K P H d v := by
  obtain ⟨v, r, rfl, h1, h2⟩ := h
  cases h2
  exact ⟨v, rfl, h1⟩
theorem vl2 {d e : D} {vs : List V} (h : ViewL K P H [d, e] vs) : ∃ v w, vs = [v, w] ∧ View K P H d v ∧ View K P H e w := by
  obtain ⟨v, r, rfl, h1, w, r', rfl, h2, h3⟩ := h
  cases h3
  exact ⟨v, w, rfl, h1, h2⟩
end
def allInts : List D → Option (List Int)
  | [] => some []
  | .int i :: ds => (allInts ds).map (i :: ·)
  | _ => none
def allBls : List D → Option (List Bool)
  | [] => some []
  | .bl i :: ds => (allBls ds).map (i :: ·)
  | _ => none
def allStrs : List D → Option (List Tx)
  | [] => some []
  | .str i :: ds => (allStrs ds).map (i :: ·)
  | _ => none
theorem allInts_of : ∀ {ds : List D} {ns : List Int}, allInts ds = some ns → ds = ns.map D.int
  | [], ns, h => by cases h; rfl
  | d :: ds, ns, h => by
    cases d <;> simp only [allInts, Option.map_eq_some_iff] at h <;> try (cases h; done)
    obtain ⟨ms, h1, h2⟩ := h
    subst h2
    rw [allInts_of h1]; rfl
theorem allBls_of : ∀ {ds : List D} {ns : List Bool}, allBls ds = some ns → ds = ns.map D.bl
  | [], ns, h => by cases h; rfl
  | d :: ds, ns, h => by
    cases d <;> simp only [allBls, Option.map_eq_some_iff] at h <;> try (cases h; done)
    obtain ⟨ms, h1, h2⟩ := h
    subst h2
    rw [allBls_of h1]; rfl
theorem allStrs_of : ∀ {ds : List D} {ns : List Tx}, allStrs ds = some ns → ds = ns.map D.str
  | [], ns, h => by cases h; rfl
  | d :: ds, ns, h => by
    cases d <;> simp only [allStrs, Option.map_eq_some_iff] at h <;> try (cases h; done)
    obtain ⟨ms, h1, h2⟩ := h
    subst h2
    rw [allStrs_of h1]; rfl
theorem allBls_map : ∀ ns : List Bool, allBls (ns.map D.bl) = some ns
  | [] => rfl
  | n :: ns => by simp [allBls, allBls_map ns]
theorem allStrs_map : ∀ ns : List Tx, allStrs (ns.map D.str) = some ns
  | [] => rfl
  | n :: ns => by simp [allStrs, allStrs_map ns]
theorem DenL.bls {K : PySem.W.Frag} {P : Hp} : ∀ {ns : List Bool} {vs : List V}, DenL K P (ns.map D.bl) vs → vs = ns.map V.bl
  | [], vs, h => by simpa [DenL] using h
  | n :: ns, vs, h => by
    simp only [List.map_cons] at h
    unfold DenL at h
    obtain ⟨v, r, rfl, h1, h2⟩ := h
    unfold Den at h1
    rw [h1, h2.bls]; rfl
def fLen : List D → Option D
  | [.str s] => if s.length ≤ 1000000 then some (.int s.length) else none
  | [.lst ds] => some (.int ds.length)
  | [.rol ds] => some (.int ds.length)
  | [.tup ds] => some (.int ds.length)
  | [.dct ks _] => some (.int ks.length)
  | _ => none
def rLenA (K : PySem.W.Frag) : List V → Hp → VK → Prop := fun xs H Q => (∃ x n, xs = [x] ∧ LenV K x H n ∧ Q (.int n) H) ∨ ∃ a kvs, xs = [V.ref a] ∧ H a = some (.dK kvs) ∧ Q (.int kvs.length) H
theorem cr_lenA {X : Cx} : CallR X (.builtin "len") (rLenA X.K) := CallR.or call_len call_lenD
theorem f_len {K : PySem.W.Frag} : CbV K (rLenA K) fLen := by
  intro P H vs ds res Q s v hf q
  unfold fLen at hf
  split at hf
  · split at hf
    · cases hf
      rename_i hl
      obtain ⟨v, rfl, h⟩ := vl1 v
      rw [vstr h]
      exact .inl ⟨_, _, rfl, ⟨by rw [sT_len]; exact szOf hl, rfl⟩, by rw [sT_len]; exact q _ P H (Al.refl s) dint⟩
    · cases hf
  · cases hf
    obtain ⟨v, rfl, h⟩ := vl1 v
    obtain ⟨a, vs, rfl, e, l⟩ := vlst h
    exact .inl ⟨_, _, rfl, .inl ⟨vs, SqL.of e, rfl⟩, by rw [l.len]; exact q _ P H (Al.refl s) dint⟩
  · cases hf
    obtain ⟨v, rfl, h⟩ := vl1 v
    obtain ⟨a, vs, rfl, e, l⟩ := vrol s h
    exact .inl ⟨_, _, rfl, .inl ⟨vs, e, rfl⟩, by rw [l.len]; exact q _ P H (Al.refl s) dint⟩
  · cases hf
    obtain ⟨v, rfl, h⟩ := vl1 v
    obtain ⟨a, vs, rfl, e, l⟩ := vtup s h
    exact .inl ⟨_, _, rfl, .inr ⟨vs, e, rfl⟩, by rw [l.len]; exact q _ P H (Al.refl s) dint⟩
  · cases hf
    obtain ⟨v, rfl, h⟩ := vl1 v
    obtain ⟨a, ws, rfl, e, k, l⟩ := h
    refine .inr ⟨a, ws, rfl, e, ?_⟩
    have : ws.length = (ws.map Prod.fst).length := by simp
    rw [this, k, List.length_map]
    exact q _ P H (Al.refl s) dint
  · cases hf
/-- max, min: of two ints, of a list of ints -/
def maxI : List Int → Option Int
  | [] => none
  | x :: xs => some (xs.foldl max x)
theorem foldmax : ∀ (xs : List Int) (x : Int), (xs.foldl max x) ∈ x :: xs ∧ ∀ y ∈ x :: xs, y ≤ xs.foldl max x
  | [], x => by simp
  | y :: ys, x => by
    obtain ⟨h1, h2⟩ := foldmax ys (max x y)
    simp only [List.foldl_cons]
    refine ⟨?_, fun z hz => ?_⟩
    · rcases List.mem_cons.mp h1 with h | h
      · rw [h]
        rcases Int.le_total x y with q | q
        · rw [Int.max_eq_right q]; simp
        · rw [Int.max_eq_left q]; simp
      · exact List.mem_cons_of_mem _ (List.mem_cons_of_mem _ h)
    · have hm := h2 (max x y) List.mem_cons_self
      rcases List.mem_cons.mp hz with rfl | hz
      · omega
      · rcases List.mem_cons.mp hz with rfl | hz
        · omega
        · exact h2 z (List.mem_cons_of_mem _ hz)
theorem maxI_eq {xs : List Int} {m r : Int} (h : m ∈ xs) (h' : ∀ y ∈ xs, y ≤ m) (e : maxI xs = some r) : m = r := by
  cases xs with
  | nil => cases e
  | cons x xs =>
    cases e
    obtain ⟨h1, h2⟩ := foldmax xs x
    have := h2 m h
    have := h' _ h1
    omega
def fMax : List D → Option D
  | [.int i, .int j] => some (.int (max i j))
  | [.lst ds] => (allInts ds).bind fun ns => (maxI ns).map D.int
  | _ => none
def rMaxA (K : PySem.W.Frag) : List V → Hp → VK → Prop := fun xs H Q => (∃ i j, xs = [.int i, .int j] ∧ Q (.int (if j > i then j else i)) H) ∨ rMax K xs H Q
theorem cr_maxA {X : Cx} (hc : X.calm = true) : CallR X (.builtin "max") (rMaxA X.K) := CallR.or (call_max2 hc) (cr_max hc)
theorem f_max {K : PySem.W.Frag} : CbV K (rMaxA K) fMax := by
  intro P H vs ds res Q s v hf q
  unfold fMax at hf
  split at hf
  · cases hf
    rename_i i j
    obtain ⟨v, w, rfl, h1, h2⟩ := vl2 v
    refine .inl ⟨i, j, by rw [vint h1, vint h2], ?_⟩
    have : (if j > i then j else i) = max i j := by split <;> omega
    rw [this]
    exact q _ P H (Al.refl s) dint
  · rename_i es
    obtain ⟨v, rfl, h⟩ := vl1 v
    obtain ⟨a, vs, rfl, e, l⟩ := vlst h
    obtain ⟨ns, h1, h2⟩ := Option.bind_eq_some_iff.mp hf
    obtain ⟨m, h3, rfl⟩ := Option.map_eq_some_iff.mp h2
    have := allInts_of h1
    subst this
    rw [l.ints] at e
    refine .inr ⟨a, ns, rfl, SqL.of e, ?_, fun m' h4 h5 => ?_⟩
    · cases ns with
      | nil => cases h3
      | cons => simp
    · rw [maxI_eq h4 h5 h3]; exact q _ P H (Al.refl s) dint
  · cases hf
def fAll : List D → Option D
  | [.lst ds] => (allBls ds).map fun ns => .bl (ns.all id)
  | _ => none
theorem f_all {K : PySem.W.Frag} : CbV K (rAll K) fAll := by
  intro P H vs ds res Q s v hf q
  unfold fAll at hf
  split at hf
  · rename_i es
    obtain ⟨v, rfl, h⟩ := vl1 v
    obtain ⟨a, vs, rfl, e, l⟩ := vlst h
    obtain ⟨ns, h1, rfl⟩ := Option.map_eq_some_iff.mp hf
    have := allBls_of h1
    subst this
    rw [l.bls] at e
    exact ⟨a, ns, rfl, SqL.of e, q _ P H (Al.refl s) dbl⟩
  · cases hf
def fDivmod : List D → Option D
  | [.int i, .int j] => if 0 < j ∧ j < 1073741824 then some (.tup [.int (i / j), .int (i % j)]) else none
  | _ => none
theorem cdiv_of {i j : Int} (h : 0 < j ∧ j < 1073741824) : CDiv i j := ⟨h.1, by omega⟩
theorem f_divmod {K : PySem.W.Frag} : CbV K (fun xs H Q => ∃ i j, xs = [.int i, .int j] ∧ CDiv i j ∧ ∀ p, H p = none → Q (.ref p) (upd H p (.tup [.int (i / j), .int (i % j)]))) fDivmod := by
  intro P H vs ds res Q s v hf q
  unfold fDivmod at hf
  split at hf
  · split at hf
    · cases hf
      rename_i hj
      obtain ⟨v, w, rfl, h1, h2⟩ := vl2 v
      refine ⟨_, _, by rw [vint h1, vint h2], cdiv_of hj, fun p n => ?_⟩
      obtain ⟨al, dn⟩ := dnewT s n (DenL.cons (K := K) (P := P) dint (DenL.cons dint DenL.nil))
      exact q _ _ _ al dn
    · cases hf
  · cases hf
/-- list(x): a copy -/
def fList : List D → Option (List D)
  | [.lst ds] => some ds
  | [.rol ds] => some ds
  | [.tup ds] => some ds
  | _ => none
theorem f_list {K : PySem.W.Frag} : CbL K (fun xs H Q => ∃ p ys, xs = [.ref p] ∧ (SqL K H p ys ∨ SqT K H p ys) ∧ ∀ l, H l = none → Q (.ref l) (upd H l (.lst ys))) fList := by
  intro P H vs ds res Q s v hf q
  unfold fList at hf
  split at hf
  · cases hf
    obtain ⟨v, rfl, h⟩ := vl1 v
    obtain ⟨a, vs, rfl, e, l⟩ := vlst h
    exact ⟨a, vs, rfl, .inl (SqL.of e), fun p n => q p vs n l⟩
  · cases hf
    obtain ⟨v, rfl, h⟩ := vl1 v
    obtain ⟨a, vs, rfl, e, l⟩ := vrol s h
    exact ⟨a, vs, rfl, .inl e, fun p n => q p vs n l⟩
  · cases hf
    obtain ⟨v, rfl, h⟩ := vl1 v
    obtain ⟨a, vs, rfl, e, l⟩ := vtup s h
    exact ⟨a, vs, rfl, .inr e, fun p n => q p vs n l⟩
  · cases hf
def fTuple : List D → Option D
  | [.lst ds] => some (.tup ds)
  | [.rol ds] => some (.tup ds)
  | [.tup ds] => some (.tup ds)
  | _ => none
/-! ### isinstance -/
inductive Kd where | int | bool | str | list | tuple | dict
def Kd.nm : Kd → String
  | .int => "int" | .bool => "bool" | .str => "str" | .list => "list" | .tuple => "tuple" | .dict => "dict"
def kdOf : Kd → D → Option Bool
  | .int, .int _ => some true
  | .int, .bl _ => some true
  | .bool, .bl _ => some true
  | .str, .str _ => some true
  | .list, .lst _ => some true
  | .tuple, .tup _ => some true
  | .dict, .dct _ _ => some true
  | _, .rol _ => none
  | _, .exn _ _ _ => none
  | _, .obj _ _ _ => none
  | _, .fn _ => none
  | _, _ => some false
def kdAny : List Kd → D → Option Bool
  | [], _ => some false
  | k :: ks, d => (kdOf k d).bind fun b => if b then some true else kdAny ks d
def tyN : D → Option String
  | .non => some "NoneType"
  | .bl _ => some "bool"
  | .int _ => some "int"
  | .str _ => some "str"
  | .tup _ => some "tuple"
  | .lst _ => some "list"
  | .dct _ _ => some "dict"
  | _ => none
theorem kit_tab : ∀ (k : Kd) (n : String), n ∈ ["NoneType", "bool", "int", "str", "tuple", "list", "dict"] → kitB n k.nm = some (decide (n = k.nm) || (decide (n = "bool") && decide (k.nm = "int"))) := by
  intro k n hn
  simp only [List.mem_cons, List.not_mem_nil, or_false] at hn
  rcases hn with rfl | rfl | rfl | rfl | rfl | rfl | rfl <;> cases k <;> decide +kernel
theorem kdOf_kit {k : Kd} {d : D} {b : Bool} {n : String} (h : kdOf k d = some b) (hn : tyN d = some n) : kitB n k.nm = some b := by
  cases d <;> simp only [tyN, Option.some.injEq] at hn <;> try (cases hn; done)
  all_goals
    subst hn
    rw [kit_tab k _ (by simp)]
    cases k <;> cases h <;> rfl
section
variable {K : PySem.W.Frag} {P H : Hp}
theorem tyx_of (s : Same P H) {d : D} {v : V} (h : View K P H d v) {n : String} (hn : tyN d = some n) : TyX K H v (.type n) := by
  cases d <;> simp only [tyN, Option.some.injEq] at hn <;> try (cases hn; done)
  all_goals subst hn
  · rw [vnon h]; exact .base .non
  · rw [vbl h]; exact .base (.bl _)
  · rw [vint h]; exact .base (.int _)
  · rw [vstr h]; exact .base (.str _)
  · obtain ⟨a, vs, rfl, q, l⟩ := vtup s h
    rcases q with (q | ⟨o, q⟩) | ⟨o, its, n, q, qc, _⟩
    · exact .base (.tup q)
    · exact .fTuple q
    · exact .kTuple q qc
  · obtain ⟨a, vs, rfl, q, l⟩ := vlst h
    exact .base (.lst q)
  · obtain ⟨a, ws, rfl, q, _⟩ := h
    exact .base (.dK q)
end
def eIsi (ks : List Kd) (A : HM) : EM := fun ρ => A ρ >>= fun a => Res.of ((getH a.1 a.2).bind (kdAny ks)) >>= fun r => .ok (.bl r, a.2)
theorem kdAny_kit {K : PySem.W.Frag} : ∀ {ks : List Kd} {d : D} {b : Bool} {n : String}, kdAny ks d = some b → tyN d = some n → PySem.W.kitAny K (.type n) (ks.map fun k => Value.type k.nm) = some b
  | [], d, b, n, h, hn => by cases h; exact kitAny_nil
  | k :: ks, d, b, n, h, hn => by
    unfold kdAny at h
    obtain ⟨c, h1, h2⟩ := Option.bind_eq_some_iff.mp h
    refine kitAny_cons (kit_ty (kdOf_kit h1 hn)) (fun e => ?_) (fun e => ?_)
    · subst e
      exact kdAny_kit (by simpa using h2) hn
    · subst e
      simpa using h2.symm
theorem kdAny_ty {ks : List Kd} {d : D} {b : Bool} (h : kdAny ks d = some b) (hk : ks ≠ []) : ∃ n, tyN d = some n := by
  cases ks with
  | nil => exact absurd rfl hk
  | cons k ks =>
    unfold kdAny at h
    obtain ⟨c, h1, h2⟩ := Option.bind_eq_some_iff.mp h
    cases d <;> first | exact ⟨_, rfl⟩ | (cases k <;> cases h1)
section
variable {X : Cx} {E : WX} {e : Expr} {A : HM} {p p2 pos : Pos}
theorem pe_kd (k : Kd) (hg : Gl X k.nm) (hm : X.mg k.nm = none) : PE X (.Name k.nm p2) (tC (.ty k.nm)) :=
  pe_bltn (u := .type k.nm) hg hm (by cases k <;> decide +kernel) rfl (by cases k <;> decide) (by cases k <;> decide)
/-- isinstance(e, T) -/
theorem ev_isi (k : Kd) (hg : Gl X "isinstance") (hm : X.mg "isinstance" = none) (hgk : Gl X k.nm) (hmk : X.mg k.nm = none) (ha : EH X E e A)
    (he : starEach [e, .Name k.nm p2] X.env = (false, eval e X.env) :: starEach [.Name k.nm p2] X.env := by rfl) (he2 : starEach [.Name k.nm p2] X.env = (false, eval (.Name k.nm p2) X.env) :: starEach [] X.env := by rfl) (hpl : (backTo pos (starEach [.Name k.nm p2] X.env)).any (·.1) = false := by rfl) :
    EV X E (.Call (.Name "isinstance" p) [e, .Name k.nm p2] [] pos) (eIsi [k] A) :=
  PE.imp (pe_callB call_isi hg hm (by decide +kernel) (pa_cons ha (pa_cons (pe_kd k hgk hmk) pa_nil he2) he) (by decide) (by decide) he hpl) fun σ H Q ⟨P, W, ρ, w, g⟩ =>
    ⟨P, W, ρ, w, (Go.bind g).mono fun v H1 ⟨P1, W1, a, s1, ⟨w1, k1⟩, g1⟩ => by
      obtain ⟨res, e, g2⟩ := Go.of g1
      obtain ⟨d, hd, hf⟩ := Option.bind_eq_some_iff.mp e
      obtain ⟨n, hn⟩ := kdAny_ty hf (by simp)
      have vw := Hok.view w1 k1 hd
      have h1 : kdOf k d = some res := by
        unfold kdAny kdAny at hf
        obtain ⟨c, h1, h2⟩ := Option.bind_eq_some_iff.mp hf
        cases c <;> simp at h2 <;> subst h2 <;> exact h1
      exact ⟨v, .ty k.nm, .type n, .type k.nm, res, rfl, .ty _, tyx_of w1.same vw hn, kit_ty (kdOf_kit h1 hn), g2 (.bl res) P1 W1 H1 (Step.refl P1 W1 H1) ⟨w1, dbl⟩⟩⟩
/-- isinstance(e, (T1, T2)) -/
theorem ev_isi2 (k k' : Kd) {kk : Nat} {p3 p4 : Pos} (hg : Gl X "isinstance") (hm : X.mg "isinstance" = none) (hgk : Gl X k.nm) (hmk : X.mg k.nm = none) (hgk' : Gl X k'.nm) (hmk' : X.mg k'.nm = none) (ha : EH X E e A)
    (he : starEach [e, .Tuple [.Name k.nm p2, .Name k'.nm p3] kk p4] X.env = (false, eval e X.env) :: starEach [.Tuple [.Name k.nm p2, .Name k'.nm p3] kk p4] X.env := by rfl)
    (he2 : starEach [.Tuple [.Name k.nm p2, .Name k'.nm p3] kk p4] X.env = (false, eval (.Tuple [.Name k.nm p2, .Name k'.nm p3] kk p4) X.env) :: starEach [] X.env := by rfl)
    (he3 : starEach [.Name k.nm p2, .Name k'.nm p3] X.env = (false, eval (.Name k.nm p2) X.env) :: starEach [.Name k'.nm p3] X.env := by rfl) (he4 : starEach [.Name k'.nm p3] X.env = (false, eval (.Name k'.nm p3) X.env) :: starEach [] X.env := by rfl)
    (hpl : (backTo pos (starEach [.Tuple [.Name k.nm p2, .Name k'.nm p3] kk p4] X.env)).any (·.1) = false := by rfl) :
    EV X E (.Call (.Name "isinstance" p) [e, .Tuple [.Name k.nm p2, .Name k'.nm p3] kk p4] [] pos) (eIsi [k, k'] A) :=
  PE.imp (pe_callB call_isiT hg hm (by decide +kernel) (pa_cons ha (pa_cons (pe_tup (pa_cons (pe_kd k hgk hmk) (pa_cons (pe_kd k' hgk' hmk') pa_nil he4) he3)) pa_nil he2) he) (by decide) (by decide) he hpl) fun σ H Q ⟨P, W, ρ, w, g⟩ =>
    ⟨P, W, ρ, w, (Go.bind g).mono fun v H1 ⟨P1, W1, a, s1, ⟨w1, k1⟩, g1⟩ => by
      obtain ⟨res, e, g2⟩ := Go.of g1
      obtain ⟨d, hd, hf⟩ := Option.bind_eq_some_iff.mp e
      obtain ⟨n, hn⟩ := kdAny_ty hf (by simp)
      have vw := Hok.view w1 k1 hd
      refine ⟨by show 2 ≤ sizeLine; decide, fun tp ntp => ?_⟩
      have al := Al.newH (P := P1) (o := .tup [.ty k.nm, .ty k'.nm]) w1.same ntp
      refine ⟨v, tp, [.ty k.nm, .ty k'.nm], .type n, [.type k.nm, .type k'.nm], res, rfl, upd_same, .cons (.ty _) (.cons (.ty _) .nil), ?_, kdAny_kit hf hn, g2 (.bl res) P1 W1 _ (al.step W1) ⟨w1.al al, dbl⟩⟩
      refine tyx_of al.2.2.1 ?_ hn
      · cases d with
        | lst ds => obtain ⟨a, vs, e, q, l⟩ := vw; exact ⟨a, vs, e, al.1 a _ q, l⟩
        | dct ks ds => obtain ⟨a, vs, e, q, l⟩ := vw; exact ⟨a, vs, e, al.1 a _ q, l⟩
        | _ => exact vw⟩
end
end Od
namespace Od
open PySem PySem.Spec L2
open PyProof.Rows hiding St
/-! ### list(zip(a, b)) -/
section
variable {K : PySem.W.Frag}
end
section
variable {X : Cx} {E : WX} {e e2 : Expr} {As : List HM} {p p2 zpos pos : Pos}
end
/-! ### is, of truths -/
/-! ### methods of texts -/
def mSw : D → List D → Option D
  | .str a, [.str b] => some (.bl (b.isPrefixOf a))
  | _, _ => none
def joinT (sep : Tx) : List Tx → Tx
  | [] => []
  | [x] => x
  | x :: y :: r => x ++ sep ++ joinT sep (y :: r)
def mJoin : D → List D → Option D
  | .str a, [.lst ds] => (allStrs ds).bind fun ys => if (ys.map List.length).sum + ys.length * a.length ≤ 1000000 then some (.str (joinT a ys)) else none
  | _, _ => none
theorem sw_eq (a b : Tx) : Txt.startswith (sT a) (sT b) = b.isPrefixOf a := by
  unfold Txt.startswith
  rw [PySem.StrLaws.subAt_eq, sT_cps, sT_cps, sT_len, sT_len]
  rw [Bool.eq_iff_iff]
  simp only [Nat.zero_add, List.drop_zero, Bool.and_eq_true, decide_eq_true_eq, beq_iff_eq, List.isPrefixOf_iff_prefix]
  constructor
  · rintro ⟨_, h⟩
    refine ⟨a.drop b.length, ?_⟩
    conv => lhs; lhs; rw [← h]
    exact List.take_append_drop _ _
  · rintro ⟨t, rfl⟩
    simp
theorem glued_eq (a : Tx) : ∀ ys : List Tx, Txt.join (sT a) (ys.map sT) = sT (joinT a ys)
  | [] => rfl
  | x :: ys => by
    unfold Txt.join Builtin.Str.glued
    simp only [List.map_cons, List.drop_succ_cons, List.drop_zero, List.headD_cons]
    have key : ∀ (ys : List Tx) (x : Tx), (ys.map sT).foldl (fun acc p => acc ++ (sT a).cps ++ p.cps) (sT x).cps = (sT (joinT a (x :: ys))).cps := by
      intro ys
      induction ys with
      | nil => intro x; rfl
      | cons y ys ih =>
        intro x
        simp only [List.map_cons, List.foldl_cons]
        have : (sT x).cps ++ (sT a).cps ++ (sT y).cps = (sT (x ++ a ++ y)).cps := by simp [sT]
        rw [this, ih]
        cases ys with
        | nil => simp [joinT]
        | cons z zs => simp [joinT]
    rw [key]
theorem f_sw {K : PySem.W.Frag} : MtV K (fun x xs H Q => ∃ a b, x = .str a ∧ xs = [.str b] ∧ Q (.bl (Txt.startswith a b)) H) mSw := fun P H x vs d ds res Q s v1 v2 hf q => by
  unfold mSw at hf
  split at hf
  · cases hf
    obtain ⟨v, rfl, h⟩ := vl1 v2
    exact ⟨_, _, vstr v1, by rw [vstr h], by rw [sw_eq]; exact q _ P H (Al.refl s) dbl⟩
  · cases hf
theorem f_join {K : PySem.W.Frag} : MtV K (fun x xs H Q => ∃ a p, ∃ ys : List Str, x = .str a ∧ xs = [.ref p] ∧ (SqL K H p (ys.map V.str) ∨ SqT K H p (ys.map V.str)) ∧
    (ys.map (·.length)).sum + ys.length * a.length ≤ 16777216 ∧ Q (.str (Txt.join a ys)) H) mJoin := fun P H x vs d ds res Q s v1 v2 hf q => by
  unfold mJoin at hf
  split at hf
  · obtain ⟨ys, h1, h2⟩ := Option.bind_eq_some_iff.mp hf
    split at h2
    · rename_i hl
      cases h2
      have := allStrs_of h1
      subst this
      obtain ⟨v, rfl, h⟩ := vl1 v2
      obtain ⟨b, vs, rfl, e, l⟩ := vlst h
      rw [l.strs] at e
      refine ⟨_, b, ys.map sT, vstr v1, rfl, .inl (SqL.of e), ?_, by rw [glued_eq]; exact q _ P H (Al.refl s) dstr⟩
      have : (List.map (fun x => x.length) (List.map sT ys)).sum = (ys.map List.length).sum := by
        rw [List.map_map]; congr 1
      rw [this, List.length_map, sT_len]
      exact Nat.le_trans hl (by decide)
    · cases h2
  · cases hf
end Od
namespace Od
open PySem PySem.Spec L2
open PyProof.Rows hiding St
/-! ### records: a dict of written keys, with its parts -/
def gK (p : Str × V) : Key × V := (.inr p.1, p.2)
def getF : List (Tx × T1) → Tx → Option T1
  | [], _ => none
  | (j, t) :: fs, k => if j = k then some t else getF fs k
def setF : List (Tx × T1) → Tx → T1 → List (Tx × T1)
  | [], _, _ => []
  | (j, u) :: fs, k, t => if j = k then (j, t) :: fs else (j, u) :: setF fs k t
theorem setF_keys : ∀ (fs : List (Tx × T1)) (k : Tx) (t : T1), (setF fs k t).map Prod.fst = fs.map Prod.fst
  | [], _, _ => rfl
  | (j, u) :: fs, k, t => by
    unfold setF
    split
    · rfl
    · simp [setF_keys fs k t]
section
variable {K : PySem.W.Frag} {P P' : Hp} {W W' : Own} {H H' : Hp} {r : Option Nat}
theorem RF.get : ∀ {fs : List (Tx × T1)} {ws : List (Str × V)} {k : Tx} {t : T1}, RF K P W H r fs ws → getF fs k = some t → ∃ v, valV (ws.map gK) (.inr (sT k)) = some v ∧ R1 K P W H r (some k) t v
  | [], ws, k, t, h, e => by cases e
  | (j, u) :: fs, ws, k, t, h, e => by
    obtain ⟨v, w, rfl, h1, h2⟩ := h
    unfold getF at e
    split at e
    · rename_i hj
      cases e
      subst hj
      exact ⟨v, by simp only [List.map_cons]; exact valV_pos (p := gK (sT j, v)) rfl, h1⟩
    · rename_i hj
      obtain ⟨v', h3, h4⟩ := RF.get h2 e
      exact ⟨v', by simp only [List.map_cons]; rw [valV_neg (p := gK (sT j, v)) (fun z => hj (sT_inj (Sum.inr.inj z)))]; exact h3, h4⟩
theorem RF.keys : ∀ {fs : List (Tx × T1)} {ws : List (Str × V)}, RF K P W H r fs ws → ws.map Prod.fst = fs.map fun p => sT p.1
  | [], ws, h => by cases h; rfl
  | (j, u) :: fs, ws, h => by
    obtain ⟨v, w, rfl, h1, h2⟩ := h
    simp [RF.keys h2]
theorem RF.mono' {N : Tx → Prop} (s : Same P P') (w : ∀ f a, N f → W a = some (r, some f) → W' a = some (r, some f) ∧ ∀ o, H a = some o → H' a = some o) : ∀ (fs : List (Tx × T1)) (ws : List (Str × V)), (∀ f ∈ fs.map Prod.fst, N f) → RF K P W H r fs ws → RF K P' W' H' r fs ws
  | [], ws, _, h => h
  | (k, t) :: fs, ws, n, h => by
    obtain ⟨v, q, e, h1, h2⟩ := h
    exact ⟨v, q, e, R1.mono s (fun a => w k a (n k (by simp))) t v h1, RF.mono' s w fs q (fun f hf => n f (by simp at hf ⊢; exact .inr hf)) h2⟩
/-- one part is another one, the rest stays -/
theorem RF.set {k : Tx} {t0 t : T1} {v : V} (s : Same P P') (w : ∀ f a, f ≠ k → W a = some (r, some f) → W' a = some (r, some f) ∧ ∀ o, H a = some o → H' a = some o) (hv : R1 K P' W' H' r (some k) t v) :
    ∀ {fs : List (Tx × T1)} {ws : List (Str × V)}, getF fs k = some t0 → (fs.map Prod.fst).Nodup → RF K P W H r fs ws → ∃ ws', (ws.map gK).map (fun kv => if kv.1 = (.inr (sT k) : Key) then (kv.1, v) else kv) = ws'.map gK ∧ RF K P' W' H' r (setF fs k t) ws'
  | [], ws, e, _, _ => by cases e
  | (j, u) :: fs, ws, e, nd, h => by
    obtain ⟨v', q, rfl, h1, h2⟩ := h
    simp only [List.map_cons, List.nodup_cons] at nd
    unfold getF at e
    unfold setF
    by_cases hj : j = k
    · rw [if_pos hj]
      subst hj
      refine ⟨(sT j, v) :: q, ?_, v, q, rfl, hv, RF.mono' (N := fun f => f ≠ j) s w fs q (fun f hf z => nd.1 (by rw [← z]; exact hf)) h2⟩
      simp only [List.map_cons]
      have e1 : (gK (sT j, v')).1 = (Sum.inr (sT j) : Key) := rfl
      rw [if_pos e1]
      congr 1
      have kk := RF.keys h2
      have : ∀ p ∈ q.map gK, ¬ p.1 = (Sum.inr (sT j) : Key) := fun p hp z => by
        obtain ⟨x, hx, rfl⟩ := List.mem_map.mp hp
        have hx1 : x.1 ∈ q.map Prod.fst := List.mem_map.mpr ⟨x, hx, rfl⟩
        rw [kk] at hx1
        obtain ⟨y, hy, e3⟩ := List.mem_map.mp hx1
        have : sT y.1 = sT j := e3.trans (Sum.inr.inj z)
        exact nd.1 (by rw [← sT_inj this]; exact List.mem_map.mpr ⟨y, hy, rfl⟩)
      conv => rhs; rw [← List.map_id (q.map gK)]
      exact List.map_congr_left fun p hp => by rw [if_neg (this p hp)]; rfl
    · rw [if_neg hj] at e ⊢
      obtain ⟨ws', e2, h3⟩ := RF.set s w hv e nd.2 h2
      refine ⟨(sT j, v') :: ws', ?_, v', ws', rfl, R1.mono s (fun a => w j a hj) u v' h1, h3⟩
      simp only [List.map_cons]
      have e1 : ¬ (gK (sT j, v')).1 = (Sum.inr (sT k) : Key) := fun z => hj (sT_inj (Sum.inr.inj z))
      rw [if_neg e1, e2]
theorem RF.same {k : Tx} {t0 t : T1} {v : V} (s : Same P P') (w : ∀ f a, f ≠ k → W a = some (r, some f) → W' a = some (r, some f) ∧ ∀ o, H a = some o → H' a = some o) (hv : R1 K P' W' H' r (some k) t v) :
    ∀ {fs : List (Tx × T1)} {ws : List (Str × V)}, getF fs k = some t0 → valV (ws.map gK) (.inr (sT k)) = some v → (fs.map Prod.fst).Nodup → RF K P W H r fs ws → RF K P' W' H' r (setF fs k t) ws
  | [], ws, e, _, _, _ => by cases e
  | (j, u) :: fs, ws, e, hw, nd, h => by
    obtain ⟨v', q, rfl, h1, h2⟩ := h
    simp only [List.map_cons, List.nodup_cons] at nd hw
    unfold getF at e
    unfold setF
    by_cases hj : j = k
    · rw [if_pos hj]
      subst hj
      have e1 : valV (gK (sT j, v') :: q.map gK) (Sum.inr (sT j)) = some v' := valV_pos (p := gK (sT j, v')) rfl
      rw [e1] at hw
      have hw := Option.some.inj hw
      subst hw
      exact ⟨v', q, rfl, hv, RF.mono' (N := fun f => f ≠ j) s w fs q (fun f hf z => nd.1 (by rw [← z]; exact hf)) h2⟩
    · rw [if_neg hj] at e ⊢
      rw [valV_neg (p := gK (sT j, v')) (fun z => hj (sT_inj (Sum.inr.inj z)))] at hw
      exact ⟨v', q, rfl, R1.mono s (fun a => w j a hj) u v' h1, RF.same s w hv e hw nd.2 h2⟩
theorem RF.put {k : Tx} {t0 t : T1} {v : V} {fs : List (Tx × T1)} {ws : List (Str × V)} (s : Same P P') (w : ∀ f a, f ≠ k → W a = some (r, some f) → W' a = some (r, some f) ∧ ∀ o, H a = some o → H' a = some o) (hv : R1 K P' W' H' r (some k) t v)
    (e : getF fs k = some t0) (nd : (fs.map Prod.fst).Nodup) (h : RF K P W H r fs ws) : ∃ ws', putK (ws.map gK) (.inr (sT k)) v = ws'.map gK ∧ RF K P' W' H' r (setF fs k t) ws' := by
  obtain ⟨ws', e1, h1⟩ := RF.set s w hv e nd h
  refine ⟨ws', ?_, h1⟩
  obtain ⟨v0, e2, _⟩ := RF.get h e
  unfold putK
  rw [if_pos (by rw [valV_any, e2]; rfl)]
  exact e1
end
def rcdOf (ρ : Env) (i : Nat) : Option (List (Tx × T1)) := match ρ[i]? with
  | some (some (.rcd fs)) => some fs
  | _ => none
theorem rcdOf_some {ρ : Env} {i : Nat} {fs : List (Tx × T1)} (h : rcdOf ρ i = some fs) : ρ[i]? = some (some (.rcd fs)) := by
  unfold rcdOf at h
  split at h
  · rename_i e; cases h; exact e
  · cases h
def fldOf (ρ : Env) (i : Nat) (k : Tx) : Option T1 := (rcdOf ρ i).bind fun fs => getF fs k
section
variable {K : PySem.W.Frag} {mg : Str → Option Value} {P P' H H' : Hp} {W W' : Own} {σ : St} {ρ : Env}
theorem Wd.rcdAt {i : Nat} {fs : List (Tx × T1)} (w : Wd K mg P W H σ ρ) (e : rcdOf ρ i = some fs) : ∃ (a : Addr) (ws : List (Str × V)), σ[i]? = some (some (.ref a)) ∧ W a = some (some i, none) ∧ H a = some (.dK (ws.map gK)) ∧ (fs.map Prod.fst).Nodup ∧ RF K P W H (some i) fs ws ∧ i < ρ.length := by
  have e := rcdOf_some e
  obtain ⟨v, hs, hr⟩ := w.env i _ e
  obtain ⟨a, ws, rfl, hw, hh, nd, l⟩ := hr
  exact ⟨a, ws, hs, hw, hh, nd, l, (List.getElem?_eq_some_iff.mp e).1⟩
theorem Wd.fldAt {i : Nat} {k : Tx} {t : T1} (w : Wd K mg P W H σ ρ) (e : fldOf ρ i k = some t) : ∃ (a : Addr) (ws : List (Str × V)) (v : V), σ[i]? = some (some (.ref a)) ∧ H a = some (.dK (ws.map gK)) ∧ valV (ws.map gK) (.inr (sT k)) = some v ∧ R1 K P W H (some i) (some k) t v := by
  unfold fldOf at e
  obtain ⟨fs, e1, e2⟩ := Option.bind_eq_some_iff.mp e
  obtain ⟨a, ws, hs, hw, hh, nd, l, hi⟩ := w.rcdAt e1
  obtain ⟨v, h1, h2⟩ := RF.get l e2
  exact ⟨a, ws, v, hs, hh, h1, h2⟩
/-- an owned object is another one -/
theorem Wd.mutF {i : Nat} {l : Addr} {f : Option Tx} {o : HO} {t : T} {v : V} (w : Wd K mg P W H σ ρ) (hl : i < ρ.length) (hs : σ[i]? = some (some v)) (hw : W l = some (some i, f)) (ht : RT K mg P W (upd H l o) (some i) t v) :
    Wd K mg P W (upd H l o) σ (ρ.set i (some t)) ∧ Step P W H P W (upd H l o) := by
  have pl := (w.own l _ hw).1
  refine ⟨⟨fun a u e => ?_, fun a r e => ?_, fun j t' ej => ?_, by simpa using w.len⟩, same_refl P, fun a u h wa => ?_⟩
  · rw [upd_ne (ne_of_none e pl)]; exact w.same a u e
  · obtain ⟨h1, u, h2⟩ := w.own a r e
    refine ⟨h1, ?_⟩
    by_cases h : a = l
    · subst h; exact ⟨_, upd_same⟩
    · exact ⟨u, by rw [upd_ne h]; exact h2⟩
  · by_cases hj : j = i
    · subst hj
      rw [List.getElem?_set_self hl] at ej
      cases ej
      exact ⟨_, hs, ht⟩
    · rw [List.getElem?_set_ne (Ne.symm hj)] at ej
      obtain ⟨v, hs', hr⟩ := w.env j t' ej
      refine ⟨v, hs', RT.mono (same_refl P) (fun f x ex => ⟨ex, fun o h => ?_⟩) t' v hr⟩
      have hx : x ≠ l := fun z => by subst z; rw [hw] at ex; cases ex; exact hj rfl
      rw [upd_ne hx]; exact h
  · have ha : a ≠ l := fun z => by subst z; rw [hw] at wa; cases wa
    exact ⟨by rw [upd_ne ha]; exact h, wa, rfl⟩
end
/-- x['k'] -/
def eFld (i : Nat) (k : Tx) : EM := fun ρ => match fldOf ρ i k with
  | some (.sh d) => .ok (d, ρ)
  | _ => .fail
/-- len(x['k']) -/
def eFldLen (i : Nat) (k : Tx) : EM := fun ρ => match fldOf ρ i k with
  | some (.lst ds) => .ok (.int ds.length, ρ)
  | _ => .fail
/-- x['k'][j] -/
def eFldIx (i : Nat) (k : Tx) (j : Nat) : EM := fun ρ => match fldOf ρ i k, ρ[j]? with
  | some (.lst ds), some (some (.sh (.int n))) => match atI ds n with
    | some d => .ok (d, ρ)
    | none => .fail
  | _, _ => .fail
/-- x['k'] = e -/
def sFld (i : Nat) (k : Tx) (F : EM) : SM := fun ρ => F ρ >>= fun a => match rcdOf a.2 i with
  | some fs => match getF fs k with
    | some (.sh _) => if fs.length < 1000 then .ok (.nx (a.2.set i (some (.rcd (setF fs k (.sh a.1)))))) else .fail
    | _ => .fail
  | none => .fail
/-- x['k'][j] as a target -/
def gFldIx (i : Nat) (k : Tx) (j : Nat) : GM := fun d ρ => match rcdOf ρ i, ρ[j]? with
  | some fs, some (some (.sh (.int n))) => match getF fs k with
    | some (.lst ds) => if 0 ≤ n ∧ n < ds.length then some (ρ.set i (some (.rcd (setF fs k (.lst (ds.set n.toNat d)))))) else none
    | _ => none
  | _, _ => none
section
variable {X : Cx} {E : WX} {i j : Nat} {x y ks : Str} {k : Tx} {p1 p2 p3 p4 p5 : Pos} {n : Nat}
theorem ev_fld (hu : X.A.units + 1 < cLine) (hN : X.N[i]? = some x) (hv : Vis X.env.scope x) (hk : ks = sT k) (hd : (x == ("__debug__" : Str)) = false := by decide) (hcd : (x == ("__classdict__" : Str)) = false := by decide) :
    EV X E (.Subscript (.Name x p1) (.Constant (.str ks) n p2) p3) (eFld i k) :=
  PE.imp (pe_ix (ix_A hu) (pe_var hN hv hd hcd) pe_str (fun _ _ => rfl)) fun σ H Q ⟨P, W, ρ, w, g⟩ => by
    unfold eFld at g
    split at g
    · rename_i d e
      obtain ⟨a, ws, v, h1, h2, h3, h4⟩ := w.fldAt e
      refine ⟨_, h1, .inr ⟨a, v, rfl, ?_, g v P W H (Step.refl P W H) ⟨w, h4⟩⟩⟩
      rw [← h3, hk]
      exact DGet.k (k := .inr _) h2
    · exact g.elim
theorem ev_flen (hu : X.A.units + 1 < cLine) (hgl : Gl X "len") (hml : X.mg "len" = none) (hN : X.N[i]? = some x) (hv : Vis X.env.scope x) (hk : ks = sT k) (hd : (x == ("__debug__" : Str)) = false := by decide) (hcd : (x == ("__classdict__" : Str)) = false := by decide)
    (he : starEach [.Subscript (.Name x p1) (.Constant (.str ks) n p2) p3] X.env = (false, eval (.Subscript (.Name x p1) (.Constant (.str ks) n p2) p3) X.env) :: starEach [] X.env := by rfl) (hpl : (backTo p5 (starEach [] X.env)).any (·.1) = false := by rfl) :
    EV X E (.Call (.Name "len" p4) [.Subscript (.Name x p1) (.Constant (.str ks) n p2) p3] [] p5) (eFldLen i k) :=
  PE.imp (pe_callB cr_lenA hgl hml (by decide +kernel) (pa_cons (pe_ix (ix_A hu) (pe_var hN hv hd hcd) pe_str (fun _ _ => rfl)) pa_nil he) (by decide) (by decide) he hpl) fun σ H Q ⟨P, W, ρ, w, g⟩ => by
    unfold eFldLen at g
    split at g
    · rename_i ds e
      obtain ⟨a, ws, v, h1, h2, h3, h4⟩ := w.fldAt e
      obtain ⟨l, vs, rfl, hw, hh, dn⟩ := h4
      refine ⟨_, h1, .inr ⟨a, .ref l, rfl, ?_, .inl ⟨.ref l, vs.length, rfl, .inl ⟨vs, SqL.of hh, rfl⟩, ?_⟩⟩⟩
      · rw [← h3, hk]
        exact DGet.k (k := .inr _) h2
      · rw [dn.len]
        exact g _ P W H (Step.refl P W H) ⟨w, dint⟩
    · exact g.elim
theorem ev_fix (hu : X.A.units + 1 < cLine) (hN : X.N[i]? = some x) (hv : Vis X.env.scope x) (hk : ks = sT k) (hN2 : X.N[j]? = some y) (hv2 : Vis X.env.scope y) (hd : (x == ("__debug__" : Str)) = false := by decide) (hcd : (x == ("__classdict__" : Str)) = false := by decide)
    (hd2 : (y == ("__debug__" : Str)) = false := by decide) (hcd2 : (y == ("__classdict__" : Str)) = false := by decide) :
    EV X E (.Subscript (.Subscript (.Name x p1) (.Constant (.str ks) n p2) p3) (.Name y p4) p5) (eFldIx i k j) :=
  PE.imp (pe_ix (ix_A hu) (pe_ix (ix_A hu) (pe_var hN hv hd hcd) pe_str (fun _ _ => rfl)) (pe_var hN2 hv2 hd2 hcd2) (fun _ _ => rfl)) fun σ H Q ⟨P, W, ρ, w, g⟩ => by
    unfold eFldIx at g
    split at g
    · rename_i ds m e1 e2
      split at g
      · rename_i d e3
        obtain ⟨a, ws, v, h1, h2, h3, h4⟩ := w.fldAt e1
        obtain ⟨l, vs, rfl, hw, hh, dn⟩ := h4
        obtain ⟨v2, h5, h6⟩ := w.env j _ e2
        have h6 : Den X.K P (.int m) v2 := h6
        unfold Den at h6
        subst h6
        obtain ⟨v3, h7, h8⟩ := atI_den dn e3
        refine ⟨_, h1, .inr ⟨a, .ref l, rfl, ?_, _, h5, .inl (.inl ⟨l, vs, m, v3, rfl, rfl, SqL.of hh, h7, g v3 P W H (Step.refl P W H) ⟨w, h8⟩⟩)⟩⟩
        rw [← h3, hk]
        exact DGet.k (k := .inr _) h2
      · exact g.elim
    · exact g.elim
theorem sd_fld {md : List Bool} {value : Expr} {F : EM} {pos : Pos} (hu : X.A.units + 1 < cLine) (hN : X.N[i]? = some x) (hv : Vis X.env.scope x) (hk : ks = sT k) (he : EV X E value F) (hd : (x == ("__debug__" : Str)) = false := by decide) (hcd : (x == ("__classdict__" : Str)) = false := by decide)
    (hs : swapsWith value (some (.Subscript (.Name x p1) (.Constant (.str ks) n p2) p3)) pos.line X.env = pure false := by rfl) :
    SD X E md (.Assign [.Subscript (.Name x p1) (.Constant (.str ks) n p2) p3] value pos) (sFld i k F) :=
  PS.imp (ps_dput hu (pe_var hN hv hd hcd) pe_str he hs) fun D σ H ⟨P, W, ρ, w, g⟩ =>
    ⟨P, W, ρ, w, (GoS.val g).mono fun v H1 ⟨P1, W1, b, s1, ⟨w1, d1⟩, g1⟩ => by
      split at g1
      · rename_i fs e1
        split at g1
        · rename_i d0 e2
          split at g1
          · rename_i hlen
            obtain ⟨a, ws, h1, h2, h3, nd, l, hi⟩ := w1.rcdAt e1
            have hwl : ws.length = fs.length := by
              have := congrArg List.length (RF.keys l)
              simpa using this
            refine ⟨_, h1, a, upd H1 a (.dK (putK (ws.map gK) (.inr (sT k)) v)), rfl, ?_, ?_⟩
            · rw [hk]
              refine DPut.k (k := .inr _) h3 ?_
              rw [List.length_map, hwl]
              exact Nat.lt_of_lt_of_le hlen (by decide)
            · obtain ⟨ws', e3, l'⟩ := RF.put (H' := upd H1 a (.dK (putK (ws.map gK) (.inr (sT k)) v))) (same_refl P1) (fun f b _ hb => ⟨hb, fun o ho => by
                have : b ≠ a := fun z => by subst z; rw [h2] at hb; cases hb
                rw [upd_ne this]; exact ho⟩) (show R1 X.K P1 W1 _ (some i) (some k) (.sh b.1) v from d1) e2 nd l
              obtain ⟨w2, s2⟩ := w1.mutF (mg := X.mg) (o := .dK (putK (ws.map gK) (.inr (sT k)) v)) (t := .rcd (setF fs k (.sh b.1))) hi h1 h2 ⟨a, ws', rfl, h2, by rw [e3]; exact upd_same, by rw [setF_keys]; exact nd, l'⟩
              exact g1 σ P1 W1 _ s2 w2 (Kp.refl md σ)
          · exact g1.elim
        · exact g1.elim
      · exact g1.elim⟩
theorem ixN_of {n : Nat} {k : Int} (h : 0 ≤ k ∧ k < n) : ixN n k = some k.toNat := by
  unfold ixN
  first
    | (simp only [h.1, h.2, if_true, and_self]; done)
    | (split <;> first | rfl | omega)
theorem gd_fix {sl : List Nat} (hu : X.A.units + 1 < cLine) (hN : X.N[i]? = some x) (hv : Vis X.env.scope x) (hk : ks = sT k) (hN2 : X.N[j]? = some y) (hv2 : Vis X.env.scope y) (hd : (x == ("__debug__" : Str)) = false := by decide) (hcd : (x == ("__classdict__" : Str)) = false := by decide)
    (hd2 : (y == ("__debug__" : Str)) = false := by decide) (hcd2 : (y == ("__classdict__" : Str)) = false := by decide) :
    GD X sl (.Subscript (.Subscript (.Name x p1) (.Constant (.str ks) n p2) p3) (.Name y p4) p5) (gFldIx i k j) :=
  PG.imp (pg_sub (pe_ix (ix_A hu) (pe_var hN hv hd hcd) pe_str (fun _ _ => rfl)) (pe_var hN2 hv2 hd2 hcd2) set_list) fun v σ H Q ⟨P, W, ρ, d, ρ', w, dn, e, q⟩ => by
    unfold gFldIx at e
    split at e
    · rename_i fs m e1 e2
      split at e
      · rename_i ds e3
        split at e
        · rename_i hm
          cases e
          obtain ⟨a, ws, h1, h2, h3, nd, l, hi⟩ := w.rcdAt e1
          obtain ⟨v1, h4, h5⟩ := RF.get l e3
          obtain ⟨b, vs, rfl, hw, hh, dl⟩ := h5
          obtain ⟨v2, h6, h7⟩ := w.env j _ e2
          have h7 : Den X.K P (.int m) v2 := h7
          unfold Den at h7
          subst h7
          refine ⟨_, h1, .inr ⟨a, .ref b, rfl, ?_, _, h6, b, vs, m, m.toNat, rfl, rfl, hh, ixN_of (by rw [dl.len]; exact hm), ?_⟩⟩
          · rw [← h4, hk]
            exact DGet.k (k := .inr _) h3
          · have hab : a ≠ b := fun z => by subst z; rw [h2] at hw; cases hw
            have dl' := DenL.set m.toNat dl dn
            have l' := RF.same (v := .ref b) (H' := upd H b (.lst (vs.set m.toNat v))) (same_refl P) (fun f c hf hb => ⟨hb, fun o ho => by
              have : c ≠ b := fun z => by subst z; rw [hw] at hb; cases hb; exact hf rfl
              rw [upd_ne this]; exact ho⟩) (show R1 X.K P W _ (some i) (some k) (.lst (ds.set m.toNat d)) (.ref b) from ⟨b, _, rfl, hw, upd_same, dl'⟩) e3 h4 nd l
            obtain ⟨w2, s2⟩ := w.mutF (mg := X.mg) (o := .lst (vs.set m.toNat v)) (t := .rcd (setF fs k (.lst (ds.set m.toNat d)))) hi h1 hw ⟨a, ws, rfl, h2, by rw [upd_ne hab]; exact h3, by rw [setF_keys]; exact nd, l'⟩
            exact q σ P W _ s2 w2 (Ke.refl sl σ)
        · cases e
      · cases e
    · cases e
end
/-- {'k1': a list of its own, 'k2': e} -/
def tRcd2 (k1 : Tx) (C : OM) (k2 : Tx) (F : EM) : OM := fun ρ => C ρ >>= fun a => match a.1 with
  | .lst ds => F a.2 >>= fun b => if k1 ≠ k2 then .ok (.rcd [(k1, .lst ds), (k2, .sh b.1)], b.2) else .fail
  | _ => .fail
theorem Wd.disown {K : PySem.W.Frag} {mg : Str → Option Value} {P H : Hp} {W : Own} {σ : St} {ρ : Env} {b : Addr} {f : Option Tx} (w : Wd K mg P W H σ ρ) (h : W b = some (none, f)) : Wd K mg P (ownOff W b) H σ ρ := by
  refine ⟨w.same, fun a r e => ?_, fun i t e => ?_, w.len⟩
  · unfold ownOff at e
    split at e
    · cases e
    · exact w.own a r e
  · obtain ⟨v, hs, hr⟩ := w.env i t e
    refine ⟨v, hs, RT.mono (same_refl P) (fun f x ex => ⟨?_, fun _ h => h⟩) t v hr⟩
    unfold ownOff
    rw [if_neg (fun z => by subst z; rw [h] at ex; cases ex)]
    exact ex
section
variable {X : Cx} {E : WX} {a b : Expr} {k1 k2 : Tx} {s1 s2 : Str} {C : OM} {F : EM} {n1 n2 : Nat} {p1 p2 pos : Pos}
theorem et_rcd2 (h1 : s1 = sT k1) (h2 : s2 = sT k2) (ha : ET X E a C) (hb : EV X E b F) : ET X E (.Dict [some (.Constant (.str s1) n1 p1), some (.Constant (.str s2) n2 p2)] [a, b] pos) (tRcd2 k1 C k2 F) :=
  PE.imp (pe_disp (pps_cons pe_str ha (pps_cons pe_str hb pps_nil)) rfl rfl (by simp) (by simp)) fun σ H Q ⟨P, W, ρ, w, g⟩ p hp => by
    have al := Al.newH (P := P) (o := .dK []) w.same hp
    have wp : W p = none := by
      cases e : W p with
      | none => rfl
      | some r => obtain ⟨_, u, h⟩ := w.own p r e; rw [hp] at h; cases h
    refine ⟨P, W, ρ, w.al al, ?_⟩
    unfold tRcd2 at g
    cases hC : C ρ with
    | fail => rw [hC] at g; exact g.elim
    | exc x ρ' => rw [hC] at g; exact fun c od P' W' H' s => g c od P' W' H' ((al.step W).trans s)
    | ok r =>
      rw [hC, ok_bind] at g
      intro v P1 W1 H1 st1 ⟨w1, r1⟩
      obtain ⟨t, ρ1⟩ := r
      cases t with
      | lst ds =>
        simp only at g
        obtain ⟨c, vs, rfl, hw, hh, dl⟩ := r1
        obtain ⟨q1, q2, q3⟩ := st1.2 p _ upd_same wp
        have hcp : c ≠ p := fun z => by subst z; rw [hw] at q2; cases q2
        have pc := (w1.own c _ hw).1
        have w2 := w1.disown hw
        have st2 : Step P1 W1 H1 P1 (ownOff W1 c) H1 := ⟨same_refl P1, fun x o hx wx => ⟨hx, by
          unfold ownOff
          split
          · rfl
          · exact wx, rfl⟩⟩
        refine ⟨P1, ownOff W1 c, ρ1, w2, ?_⟩
        have off : ownOff W1 c c = none := by unfold ownOff; rw [if_pos rfl]
        have offp : ownOff W1 c p = none := by unfold ownOff; rw [if_neg (Ne.symm hcp)]; exact q2
        cases hF : F ρ1 with
        | fail => rw [hF] at g; exact g.elim
        | exc x ρ' => rw [hF] at g; exact fun c' od P' W' H' s => g c' od P' W' H' ((((al.step W).trans st1).trans st2).trans s)
        | ok r2 =>
          rw [hF, ok_bind] at g
          intro v2 P3 W3 H3 st3 ⟨w3, d3⟩
          split at g
          · rename_i hkk
            obtain ⟨c1, c2, c3⟩ := st3.2 c _ hh off
            obtain ⟨e1, e2, e3⟩ := st3.2 p _ q1 offp
            have pp3 : P3 p = none := by rw [e3, q3]; exact same_none w.same hp
            have pc3 : P3 c = none := by rw [c3]; exact pc
            refine ⟨e1, [(.inr (sT k1), .ref c), (.inr (sT k2), v2)], by rw [h1, h2]; rfl, by simp, ?_⟩
            have hm : mergeK [] [((.inr (sT k1) : Key), V.ref c), (.inr (sT k2), v2)] = [(sT k1, V.ref c), (sT k2, v2)].map gK := by
              have : ¬ (Sum.inr (sT k1) : Key) = Sum.inr (sT k2) := fun z => hkk (sT_inj (Sum.inr.inj z))
              simp [mergeK, putK, gK, this]
            rw [hm]
            refine g (.ref p) P3 (fun x => if x = p then some (none, none) else if x = c then some (none, some k1) else W3 x) _ ?_ ⟨⟨fun x o hx => ?_, fun x r hx => ?_, fun i t hi => ?_, w3.len⟩, p, [(sT k1, V.ref c), (sT k2, v2)], rfl, by simp, upd_same, by simpa using hkk, .ref c, [(sT k2, v2)], rfl, ?_, v2, [], rfl, d3, rfl⟩
            · refine ⟨((((al.step W).trans st1).trans st2).trans st3).1, fun x o hx wx => ?_⟩
              have hxp : x ≠ p := ne_of_none hx hp
              obtain ⟨z1, z2, z3⟩ := ((al.step W).trans st1).2 x o hx wx
              have hxc : x ≠ c := fun z => by subst z; rw [hw] at z2; cases z2
              obtain ⟨y1, y2, y3⟩ := ((((al.step W).trans st1).trans st2).trans st3).2 x o hx wx
              exact ⟨by rw [upd_ne hxp]; exact y1, by simp only [if_neg hxp, if_neg hxc]; exact y2, y3⟩
            · rw [upd_ne (ne_of_none hx pp3)]
              exact w3.same x o hx
            · by_cases hxp : x = p
              · subst hxp; exact ⟨pp3, _, upd_same⟩
              · simp only [if_neg hxp] at hx
                rw [upd_ne hxp]
                by_cases hxc : x = c
                · subst hxc; exact ⟨pc3, _, c1⟩
                · rw [if_neg hxc] at hx
                  exact w3.own x r hx
            · obtain ⟨v', hs, hr⟩ := w3.env i t hi
              refine ⟨v', hs, RT.mono (same_refl P3) (fun f x ex => ?_) t v' hr⟩
              have hxp : x ≠ p := fun z => by subst z; rw [e2] at ex; cases ex
              have hxc : x ≠ c := fun z => by subst z; rw [c2] at ex; cases ex
              exact ⟨by simp only [if_neg hxp, if_neg hxc]; exact ex, fun o ho => by rw [upd_ne hxp]; exact ho⟩
            · exact ⟨c, vs, rfl, by simp only [if_neg hcp, if_true], by rw [upd_ne hcp]; exact c1, DenL.mono st3.1 _ _ dl⟩
          · exact g.elim
      | _ => exact g.elim
end
end Od
namespace Od
open PySem PySem.Spec L2
open PyProof.Rows hiding St
/-! ### x, y = a, b: objects in hand wait -/
def rootT : T → Bool
  | .sh _ => true | .lst _ => true | .dct _ _ => true
  | _ => false
def Pend (K : PySem.W.Frag) (P : Hp) (W : Own) (H : Hp) : T → V → Prop
  | .sh d, v => Den K P d v
  | .lst ds, v => ∃ c vs, v = .ref c ∧ W c = none ∧ P c = none ∧ H c = some (.lst vs) ∧ DenL K P ds vs
  | .dct ks ds, v => ∃ c ws, v = .ref c ∧ W c = none ∧ P c = none ∧ H c = some (.dK ws) ∧ ws.map Prod.fst = ks.map kK ∧ DenL K P ds (ws.map Prod.snd)
  | _, _ => False
def RootAt : T → V → Addr → Prop
  | .lst _, v, x => v = .ref x
  | .dct _ _, v, x => v = .ref x
  | _, _, _ => False
section
variable {K : PySem.W.Frag} {mg : Str → Option Value} {P P' H H' : Hp} {W W' : Own} {σ : St} {ρ : Env} {t : T} {v : V}
theorem Wd.pend (w : Wd K mg P W H σ ρ) (h : RT K mg P W H none t v) (g : rootT t = true) : ∃ W', Wd K mg P W' H σ ρ ∧ Step P W H P W' H ∧ Pend K P W' H t v ∧ ∀ x, RootAt t v x → W x ≠ none := by
  have st : ∀ c, Step P W H P (ownOff W c) H := fun c => ⟨same_refl P, fun x o hx wx => ⟨hx, by
    unfold ownOff
    split
    · rfl
    · exact wx, rfl⟩⟩
  cases t with
  | sh d => exact ⟨W, w, Step.refl P W H, h, fun x z => z.elim⟩
  | lst ds =>
    obtain ⟨c, vs, rfl, hw, hh, l⟩ := h
    exact ⟨ownOff W c, w.disown hw, st c, ⟨c, vs, rfl, by unfold ownOff; rw [if_pos rfl], (w.own c _ hw).1, hh, l⟩, fun x z => by cases z; rw [hw]; simp⟩
  | dct ks ds =>
    obtain ⟨c, ws, rfl, hw, hh, k, l⟩ := h
    exact ⟨ownOff W c, w.disown hw, st c, ⟨c, ws, rfl, by unfold ownOff; rw [if_pos rfl], (w.own c _ hw).1, hh, k, l⟩, fun x z => by cases z; rw [hw]; simp⟩
  | _ => cases g
theorem Pend.step (h : Pend K P W H t v) (s : Step P W H P' W' H') : Pend K P' W' H' t v := by
  cases t with
  | sh d => exact Den.mono s.1 d v h
  | lst ds =>
    obtain ⟨c, vs, e, hw, hp, hh, l⟩ := h
    obtain ⟨a1, a2, a3⟩ := s.2 c _ hh hw
    exact ⟨c, vs, e, a2, by rw [a3]; exact hp, a1, DenL.mono s.1 _ _ l⟩
  | dct ks ds =>
    obtain ⟨c, vs, e, hw, hp, hh, k, l⟩ := h
    obtain ⟨a1, a2, a3⟩ := s.2 c _ hh hw
    exact ⟨c, vs, e, a2, by rw [a3]; exact hp, a1, k, DenL.mono s.1 _ _ l⟩
  | _ => exact h
theorem Pend.root {x : Addr} (h : Pend K P W H t v) (r : RootAt t v x) : W x = none ∧ P x = none ∧ ∃ o, H x = some o := by
  cases t with
  | lst ds =>
    obtain ⟨c, vs, e, hw, hp, hh, l⟩ := h
    cases r; cases e
    exact ⟨hw, hp, _, hh⟩
  | dct ks ds =>
    obtain ⟨c, vs, e, hw, hp, hh, k, l⟩ := h
    cases r; cases e
    exact ⟨hw, hp, _, hh⟩
  | _ => exact r.elim
/-- the waiting object goes to a slot -/
theorem Wd.adoptR {i : Nat} (w : Wd K mg P W H σ ρ) (h : Pend K P W H t v) (hi : i < ρ.length) :
    ∃ W', Wd K mg P W' H (σ.set i (some v)) (ρ.set i (some t)) ∧ ∀ x, W x = none → ¬ RootAt t v x → W' x = none := by
  have hσ : i < σ.length := Nat.lt_of_lt_of_le hi w.len
  classical
  refine ⟨fun a => if RootAt t v a then some (some i, none) else match W a with | some (some j, f) => if j = i then some (none, f) else some (some j, f) | o => o,
    ⟨w.same, fun a r ea => ?_, fun j t' ej => ?_, by simpa using w.len⟩, fun x hx nr => by simp only [if_neg nr, hx]⟩
  · by_cases hr : RootAt t v a
    · exact (h.root hr).2
    · simp only [if_neg hr] at ea
      cases q : W a with
      | none => simp only [q] at ea; cases ea
      | some r' => exact w.own a r' q
  · by_cases hj : j = i
    · subst hj
      rw [List.getElem?_set_self hi] at ej
      cases ej
      refine ⟨v, by rw [List.getElem?_set_self hσ], ?_⟩
      cases t with
      | sh d => exact h
      | lst ds =>
        obtain ⟨c, vs, e, hw, hp, hh, l⟩ := h
        exact ⟨c, vs, e, by simp only [if_pos (show RootAt (.lst ds) v c from e)], hh, l⟩
      | dct ks ds =>
        obtain ⟨c, vs, e, hw, hp, hh, k, l⟩ := h
        exact ⟨c, vs, e, by simp only [if_pos (show RootAt (.dct ks ds) v c from e)], hh, k, l⟩
      | _ => exact h.elim
    · rw [List.getElem?_set_ne (Ne.symm hj)] at ej
      obtain ⟨v', hs', hr'⟩ := w.env j t' ej
      refine ⟨v', by rw [List.getElem?_set_ne (Ne.symm hj)]; exact hs', RT.mono (same_refl P) (fun f x ex => ⟨?_, fun _ h => h⟩) t' v' hr'⟩
      have nr : ¬ RootAt t v x := fun z => by rw [(h.root z).1] at ex; cases ex
      simp only [if_neg nr, ex, if_neg hj]
end
def sPar (i : Nat) (A : OM) (j : Nat) (B : OM) : SM := fun ρ => A ρ >>= fun a => if rootT a.1 = true then B a.2 >>= fun b => if rootT b.1 = true ∧ i < b.2.length ∧ j < b.2.length then .ok (.nx ((b.2.set i (some a.1)).set j (some b.1))) else .fail else .fail
section
variable {X : Cx} {E : WX} {md : List Bool} {i j : Nat} {x y : Str} {a b : Expr} {A B : OM} {px py pt pos : Pos} {kt k2 : Nat} {pt2 : Pos}
theorem sd_par (hc : X.calm = true) (hN : X.N.Nodup) (hi : X.N[i]? = some x) (hj : X.N[j]? = some y) (hij : i ≠ j)
    (hx : X.env.scope.names.lookup x = some .local) (hy : X.env.scope.names.lookup y = some .local) (ha : ET X E a A) (hb : ET X E b B) (hk1 : md[i]? ≠ some true) (hk2 : md[j]? ≠ some true)
    (hw : swappedStores [.Tuple [.Name x px, .Name y py] kt pt] (.Tuple [a, b] k2 pt2) X.env = pure (some [x, y]))
    (hs1 : starEach [a, b] X.env = (false, eval a X.env) :: starEach [b] X.env := by rfl) (hs2 : starEach [b] X.env = (false, eval b X.env) :: starEach [] X.env := by rfl)
    (hs : swapsWithSole [.Tuple [.Name x px, .Name y py] kt pt] (.Tuple [a, b] k2 pt2) pos.line X.env = pure false := by rfl) :
    SD X E md (.Assign [.Tuple [.Name x px, .Name y py] kt pt] (.Tuple [a, b] k2 pt2) pos) (sPar i A j B) :=
  PS.imp (ps_par hc hN hi hj hij hx hy (pa_cons ha (pa_cons hb pa_nil hs2) hs1) hw hs) fun D σ H ⟨P, W, ρ, w, g⟩ => by
    refine ⟨P, W, ρ, w, ?_⟩
    unfold sPar at g
    cases hA : A ρ with
    | fail => rw [hA] at g; exact g.elim
    | exc e ρ' => rw [hA] at g; exact fun c od P' W' H' s w' r => g c od σ P' W' H' s w' (Kp.refl md σ) r
    | ok r =>
      rw [hA, ok_bind] at g
      intro v P1 W1 H1 st1 ⟨w1, r1⟩
      by_cases hr : rootT r.1 = true
      · rw [if_pos hr] at g
        obtain ⟨W2, w2, st2, pd, nr⟩ := w1.pend r1 hr
        refine ⟨P1, W2, r.2, w2, ?_⟩
        cases hB : B r.2 with
        | fail => rw [hB] at g; exact g.elim
        | exc e ρ' => rw [hB] at g; exact fun c od P' W' H' s w' r => g c od σ P' W' H' ((st1.trans st2).trans s) w' (Kp.refl md σ) r
        | ok r' =>
          rw [hB, ok_bind] at g
          intro v' P3 W3 H3 st3 ⟨w3, r3⟩
          split at g
          · rename_i hcond
            obtain ⟨g2, g3, g4⟩ := hcond
            have pd3 := pd.step st3
            obtain ⟨W4, w4, st4, pd', nr'⟩ := w3.pend r3 g2
            have pd4 := pd3.step st4
            obtain ⟨W5, w5, n5⟩ := w4.adoptR pd4 g3
            have pd5 : Pend X.K P3 W5 H3 r'.1 v' := by
              have key : ∀ x, RootAt r'.1 v' x → W5 x = none := fun x hx => n5 x (pd'.root hx).1 fun z => by
                have : W3 x = none := (pd3.root z).1
                exact nr' x hx this
              revert pd' key
              cases r'.1 with
              | sh d => exact fun q _ => q
              | lst ds => rintro ⟨c, vs, e, hw, hp, hh, l⟩ key; exact ⟨c, vs, e, key c e, hp, hh, l⟩
              | dct ks ds => rintro ⟨c, vs, e, hw, hp, hh, k, l⟩ key; exact ⟨c, vs, e, key c e, hp, hh, k, l⟩
              | _ => exact fun q _ => q
            obtain ⟨W6, w6, n6⟩ := w5.adoptR (i := j) pd5 (by simpa using g4)
            refine ⟨v, v', rfl, g _ P3 W6 H3 ?_ w6 (Kp.trans (Kp.set hk1) (Kp.set hk2))⟩
            have all := (((st1.trans st2).trans st3).trans st4)
            refine ⟨all.1, fun x o hx wx => ?_⟩
            obtain ⟨a1, a2, a3⟩ := all.2 x o hx wx
            refine ⟨a1, n6 x (n5 x a2 fun z => ?_) fun z => ?_, a3⟩
            · exact nr x z (st1.2 x o hx wx).2.1
            · exact nr' x z (((st1.trans st2).trans st3).2 x o hx wx).2.1
          · exact g.elim
      · rw [if_neg hr] at g; exact g.elim
end
end Od
namespace Od
open PySem PySem.Spec L2
open PyProof.Rows hiding St
theorem hu1 {k : Nat} {A : Around} (hr : RoomG k A) : A.units + 1 < cLine := by have := hr.un; omega
theorem hu65 {k : Nat} {A : Around} (hr : RoomG k A) : A.units + 65 < cLine := by have := hr.un; omega
def blkB (N : List Str) (sc scope : Scope) (own : List (Str × Nat)) : Bool :=
  decide (scope.kind = .function) && decide (∀ y ∈ scope.names, scope.names.lookup y.1 = some y.2) && decide (∀ p ∈ own, N[p.2]? = some p.1) &&
  decide (∀ y ∈ scope.names, y.2 = .free → sc.names.lookup y.1 = some .cell ∨ sc.names.lookup y.1 = some .free) && decide (∀ y ∈ scope.names, y.2 = .local ∨ y.2 = .cell → y.1 ∈ own.map (·.1) ∨ y.1 ∉ N)
theorem blk_ok {N : List Str} {sc scope : Scope} {own : List (Str × Nat)} (h : blkB N sc scope own = true) : BlkOk N sc scope own := by
  unfold blkB at h
  simp only [Bool.and_eq_true, decide_eq_true_eq] at h
  exact ⟨h.1.1.1.1, h.1.1.1.2, h.1.1.2, h.1.2, h.2⟩
theorem gl_ {X : Cx} {x : Str} (h : X.env.kindOf x = some .globalImplicit) : Gl X x := h
/-- a def that is never called -/
theorem Cal.zero {P : Program} {w : World} {K : PySem.W.Frag} {mg : Str → Option Value} {base : Heap} {x qual : Str} {st : Stmt} {f : Addr} {fd : FuncData} {N ps : List Str} (F : Fun K x qual st f fd) (hm : mg x = some (.ref f)) (hb : Binds K fd ps []) (S : FnScope N ps (defScope st)) :
    Cal P w K mg base 1 x (fun _ => .fail) := by
  refine ⟨f, fd, ps, okG (k := 0) F S (fun vs H Q E h => ?_) (fun cdv A outer s H vs Q E hr h => ?_), hm, F.kp, hb⟩
  · obtain ⟨P', W, ts, _, hl, m⟩ := h
    exact m.elim
  · obtain ⟨P', W, ts, _, hl, m⟩ := h
    exact m.elim
end Od
namespace Od
open PySem PySem.Spec L2
open PyProof.Rows hiding St
/-! ### zip of two lists or of two tuples -/
def zip2A : List D → Option (List D)
  | [.tup ds, .tup es] => some (zipD ds es)
  | ds => zip2 ds
section
variable {K : PySem.W.Frag} {P : Hp}
theorem it_zipT {a b : Addr} {ds es : List D} {vs ws : List V} (q : SqT K P a vs) (l : DenL K P ds vs) (q2 : SqT K P b ws) (l2 : DenL K P es ws) : ItOk K (RZ.ItzT K a b) P (zipD ds es) where
  go := fun i P2 H2 s s2 hi => by
    have hi' : i < min ds.length es.length := by simpa [zipD] using hi
    exact ⟨vs, ws, vs[i]'(by rw [l.len]; omega), ws[i]'(by rw [l2.len]; omega), same_t s2 (same_t s q), same_t s2 (same_t s q2), List.getElem?_eq_getElem _, List.getElem?_eq_getElem _⟩
  stop := fun P2 H2 s s2 => by
    have e : (zipD ds es).length = min ds.length es.length := by simp [zipD]
    refine ⟨vs, ws, same_t s2 (same_t s q), same_t s2 (same_t s q2), ?_⟩
    rw [e, l.len, l2.len]
    omega
  yld := fun i P2 H2 x H3 d s s2 hd y => by
    obtain ⟨T, x1, x2, rfl, n, rfl, f1, f2⟩ := y
    obtain ⟨d1, e1', dn1⟩ := l.get' (f1 vs (same_t s2 (same_t s q)))
    obtain ⟨d2, e2', dn2⟩ := l2.get' (f2 ws (same_t s2 (same_t s q2)))
    unfold zipD at hd
    have ez : (ds.zip es)[i]? = some (d1, d2) := List.getElem?_zip_eq_some.mpr ⟨e1', e2'⟩
    rw [List.getElem?_map, ez] at hd
    simp only [Option.map_some, Option.some.injEq] at hd
    rw [← hd]
    exact pair_new s2 n (Den.mono s _ _ dn1) (Den.mono s _ _ dn2)
theorem ht_zipA (ta : TA) (σ : St) (H : Hp) (R : It → Hp → Prop) (h : ta σ H fun vs H1 => ∃ P ds xs, Same P H1 ∧ DenL K P ds vs ∧ zip2A ds = some xs ∧ ∀ J, ItOk K J P xs → R J H1)
    (mo : ∀ Q Q' : List V → Hp → Prop, (∀ vs H1, Q vs H1 → Q' vs H1) → ta σ H Q → ta σ H Q') : RZ.iZipA K ta σ H R := by
  refine mo _ _ (fun vs H1 ⟨P, ds, xs, s, l, e, k⟩ => ?_) h
  unfold zip2A at e
  split at e
  · obtain ⟨v, u, rfl, dv, du⟩ := DenL.two l
    cases e
    unfold Den at dv du
    obtain ⟨a, ws, rfl, q, l2⟩ := dv
    obtain ⟨b, us, rfl, q2, l3⟩ := du
    exact ⟨a, b, ws, us, rfl, .inr ⟨same_t s q, same_t s q2, k _ (it_zipT q l2 q2 l3)⟩⟩
  · unfold zip2 at e
    split at e
    · obtain ⟨v, u, rfl, dv, du⟩ := DenL.two l
      obtain ⟨es, e1, e⟩ := Option.bind_eq_some_iff.mp e
      obtain ⟨fs, e2, rfl⟩ := Option.map_eq_some_iff.mp e
      obtain ⟨a, ws, rfl, q, l2⟩ := seqD_v dv e1
      obtain ⟨b, us, rfl, q2, l3⟩ := seqD_v du e2
      exact ⟨a, b, ws, us, rfl, .inl ⟨same_l s q, same_l s q2, k _ (it_zip q l2 q2 l3)⟩⟩
    · cases e
end
end Od
namespace Od
open PySem PySem.Spec L2
open PyProof.Rows hiding St
/-! ### the mirrors, read forwards: sat r Φ Ψ - it ends as Φ says, or raises as Ψ says -/
def sat {α : Type} (r : Res α) (Φ : α → Prop) (Ψ : Exn → Env → Prop) : Prop := match r with
  | .ok a => Φ a
  | .exc x ρ => Ψ x ρ
  | .fail => False
def satO0 (o : Out) (Φ : T → Env → Prop) (Ψ : Exn → Env → Prop) : Prop := match o with
  | .ok t os => Φ t os
  | .exc x os => Ψ x os
  | .fail => False
structure satO (o : Out) (Φ : T → Env → Prop) (Ψ : Exn → Env → Prop) : Prop where
  un : satO0 o Φ Ψ
theorem eqO {o : Out} {Φ : T → Env → Prop} {Ψ : Exn → Env → Prop} : satO o Φ Ψ = satO0 o Φ Ψ := propext ⟨fun h => h.un, fun h => ⟨h⟩⟩
def ex {α : Type} (o : Option α) (Φ : α → Prop) : Prop := match o with
  | some a => Φ a
  | none => False
section
variable {α β : Type} {Φ : α → Prop} {Φ' : β → Prop} {Ψ : Exn → Env → Prop} {ρ : Env}
theorem sat_ok (a : α) : sat (.ok a) Φ Ψ = Φ a := rfl
theorem sat_exc (x : Exn) : sat (.exc x ρ : Res α) Φ Ψ = Ψ x ρ := rfl
theorem sat_fail : sat (.fail : Res α) Φ Ψ = False := rfl
theorem sat_bind (r : Res β) (f : β → Res α) : sat (r >>= f) Φ Ψ = sat r (fun a => sat (f a) Φ Ψ) Ψ := by cases r <;> rfl
theorem sat_of (o : Option α) : sat (Res.of o) Φ Ψ = ex o Φ := by cases o <;> rfl
theorem ex_some (a : α) : ex (some a) Φ = Φ a := rfl
theorem ex_none : ex (none : Option α) Φ = False := rfl
theorem ex_bind (o : Option β) (f : β → Option α) : ex (o.bind f) Φ = ex o (fun a => ex (f a) Φ) := by cases o <;> rfl
theorem ex_map (o : Option β) (f : β → α) : ex (o.map f) Φ = ex o (fun a => Φ (f a)) := by cases o <;> rfl
theorem ex_ite (c : Prop) [Decidable c] (o : Option α) : ex (if c then o else none) Φ = (c ∧ ex o Φ) := by
  by_cases h : c
  · rw [if_pos h]; simp [h]
  · rw [if_neg h]; simp [h, ex_none]
theorem sat_ite (c : Prop) [Decidable c] (a b : Res α) : sat (if c then a else b) Φ Ψ = ((c → sat a Φ Ψ) ∧ (¬ c → sat b Φ Ψ)) := by
  by_cases h : c
  · rw [if_pos h]; simp [h]
  · rw [if_neg h]; simp [h]
theorem sat_iteF (c : Prop) [Decidable c] (a : Res α) : sat (if c then a else .fail) Φ Ψ = (c ∧ sat a Φ Ψ) := by
  by_cases h : c
  · rw [if_pos h]; simp [h]
  · rw [if_neg h]; simp [h, sat_fail]
theorem sat.mono {r : Res α} {Φ2 : α → Prop} (h : sat r Φ Ψ) (q : ∀ a, Φ a → Φ2 a) : sat r Φ2 Ψ := by
  cases r with
  | ok a => exact q a h
  | exc x ρ => exact h
  | fail => exact h
theorem satO.mono {r : Out} {Φ Φ2 : T → Env → Prop} (h : satO r Φ Ψ) (q : ∀ a os, Φ a os → Φ2 a os) : satO r Φ2 Ψ := by
  rw [eqO] at h ⊢
  cases r with
  | ok a os => exact q a os h
  | exc x ρ => exact h
  | fail => exact h
theorem satO.ex {r : Out} {Φ : T → Env → Prop} (h : satO r Φ (fun _ _ => False)) : ∃ t os, r = .ok t os ∧ Φ t os := by
  rw [eqO] at h
  cases r with
  | ok a os => exact ⟨a, os, rfl, h⟩
  | exc x ρ => exact h.elim
  | fail => exact h.elim
theorem sat.ex {r : Res α} {Φ : α → Prop} (h : sat r Φ (fun _ _ => False)) : ∃ t, r = .ok t ∧ Φ t := by
  cases r with
  | ok a => exact ⟨a, rfl, h⟩
  | exc x ρ => exact h.elim
  | fail => exact h.elim
end
/-! ### reading the environment -/
def lkS (ρ : Env) (i : Nat) : Option D := match ρ[i]? with
  | some (some (.sh d)) => some d
  | _ => none
def lkF (ρ : Env) (i : Nat) : Option D := match ρ[i]? with
  | some (some t) => frzT t
  | _ => none
def lkT (ρ : Env) (i : Nat) : Option T := match ρ[i]? with
  | some (some t) => some t
  | _ => none
def lkL (ρ : Env) (i : Nat) : Option (List D) := match ρ[i]? with
  | some (some (.lst ds)) => some ds
  | _ => none
def atH (ρ : Env) (i : Nat) : Option D := slotD ρ[i]?
section
variable {Ψ : Exn → Env → Prop} {ρ : Env} {Φ : D × Env → Prop} {ΦT : T × Env → Prop} {ΦH : Hd × Env → Prop} {ΦB : Bool × Env → Prop} {ΦS : Fl → Prop}
variable {A B C : HM} {F G : EM} {F' G' : OM} {b b' : BM} {S S' : SM}
theorem s_eC (d : D) : sat (eC d ρ) Φ Ψ = Φ (d, ρ) := rfl
theorem s_eV (i : Nat) : sat (eV i ρ) Φ Ψ = ex (lkS ρ i) (fun d => Φ (d, ρ)) := by
  unfold eV lkS
  generalize ρ[i]? = o
  rcases o with _ | (_ | t)
  · rfl
  · rfl
  · cases t <;> rfl
theorem s_eFv (i : Nat) : sat (eFv i ρ) Φ Ψ = ex (lkF ρ i) (fun d => Φ (d, List.set ρ i (some (.sh d)))) := by
  unfold eFv lkF
  generalize ρ[i]? = o
  rcases o with _ | (_ | t)
  · rfl
  · rfl
  · show sat (match frzT t with | some d => Res.ok (d, List.set ρ i (some (T.sh d))) | none => Res.fail) Φ Ψ = ex (frzT t) _
    generalize frzT t = z
    cases z <;> rfl
theorem s_tMv (i : Nat) : sat (tMv i ρ) ΦT Ψ = ex (lkT ρ i) (fun t => ΦT (t, List.set ρ i none)) := by
  unfold tMv lkT
  generalize ρ[i]? = o
  rcases o with _ | (_ | t) <;> rfl
theorem s_hSc (i : Nat) : sat (hSc i ρ) ΦH Ψ = ex (lkT ρ i) (fun _ => ΦH (.slot i, ρ)) := by
  unfold hSc lkT
  generalize ρ[i]? = o
  rcases o with _ | (_ | t) <;> rfl
theorem s_hV : sat (hV F ρ) ΦH Ψ = sat (F ρ) (fun a => ΦH (.val a.1, a.2)) Ψ := by unfold hV; rw [sat_bind]; rfl
theorem s_eFz : sat (eFz F' ρ) Φ Ψ = sat (F' ρ) (fun a => ex (frzT a.1) fun d => Φ (d, a.2)) Ψ := by
  unfold eFz; rw [sat_bind]
  congr 1; funext a
  cases frzT a.1 <;> rfl
theorem s_tSh : sat (tSh F ρ) ΦT Ψ = sat (F ρ) (fun a => ΦT (.sh a.1, a.2)) Ψ := by unfold tSh; rw [sat_bind]; rfl
theorem s_e1 (f : D → Option D) : sat (e1 f A ρ) Φ Ψ = sat (A ρ) (fun a => ex (getH a.1 a.2) fun d => ex (f d) fun r => Φ (r, a.2)) Ψ := by
  unfold e1; rw [sat_bind]; congr 1; funext a; rw [sat_bind, sat_of, ex_bind]; rfl
theorem s_e2 (f : D → D → Option D) : sat (e2 f A B ρ) Φ Ψ = sat (A ρ) (fun a => sat (B a.2) (fun b => ex (getH a.1 b.2) fun d => ex (getH b.1 b.2) fun e => ex (f d e) fun r => Φ (r, b.2)) Ψ) Ψ := by
  unfold e2; rw [sat_bind]; congr 1; funext a; rw [sat_bind]; congr 1; funext b; rw [sat_bind, sat_of, ex_bind]; congr 1; funext d; rw [ex_bind]; rfl
theorem s_t2 (f : D → D → Option (List D)) : sat (t2 f A B ρ) ΦT Ψ = sat (A ρ) (fun a => sat (B a.2) (fun b => ex (getH a.1 b.2) fun d => ex (getH b.1 b.2) fun e => ex (f d e) fun r => ΦT (.lst r, b.2)) Ψ) Ψ := by
  unfold t2; rw [sat_bind]; congr 1; funext a; rw [sat_bind]; congr 1; funext b; rw [sat_bind, sat_of, ex_bind]; congr 1; funext d; rw [ex_bind]; rfl
theorem s_b2 (f : D → D → Option Bool) : sat (b2 f A B ρ) ΦB Ψ = sat (A ρ) (fun a => sat (B a.2) (fun b => ex (getH a.1 b.2) fun d => ex (getH b.1 b.2) fun e => ex (f d e) fun r => ΦB (r, b.2)) Ψ) Ψ := by
  unfold b2; rw [sat_bind]; congr 1; funext a; rw [sat_bind]; congr 1; funext b; rw [sat_bind, sat_of, ex_bind]; congr 1; funext d; rw [ex_bind]; rfl
theorem ex_blOf (f : D → D → Option Bool) (d e : D) {Φ : D → Prop} : ex (blOf f d e) Φ = ex (f d e) fun b => Φ (.bl b) := by unfold blOf; rw [ex_map]
/-! lists of arguments -/
theorem s_vL0 {Φ : List D × Env → Prop} : sat (vL [] ρ) Φ Ψ = Φ ([], ρ) := rfl
theorem s_vL {Φ : List D × Env → Prop} (Fs : List EM) : sat (vL (F :: Fs) ρ) Φ Ψ = sat (F ρ) (fun a => sat (vL Fs a.2) (fun r => Φ (a.1 :: r.1, r.2)) Ψ) Ψ := by
  show sat (F ρ >>= _) _ _ = _
  rw [sat_bind]; congr 1; funext a; rw [sat_bind]; rfl
theorem s_hL0 {Φ : List Hd × Env → Prop} : sat (hL [] ρ) Φ Ψ = Φ ([], ρ) := rfl
theorem s_hL {Φ : List Hd × Env → Prop} (As : List HM) : sat (hL (A :: As) ρ) Φ Ψ = sat (A ρ) (fun a => sat (hL As a.2) (fun r => Φ (a.1 :: r.1, r.2)) Ψ) Ψ := by
  show sat (A ρ >>= _) _ _ = _
  rw [sat_bind]; congr 1; funext a; rw [sat_bind]; rfl
theorem ex_getL0 {Φ : List D → Prop} : ex (getL [] ρ) Φ = Φ [] := rfl
theorem ex_getL {Φ : List D → Prop} (h : Hd) (hs : List Hd) : ex (getL (h :: hs) ρ) Φ = ex (getH h ρ) fun d => ex (getL hs ρ) fun ds => Φ (d :: ds) := by
  show ex (Option.bind _ _) _ = _
  rw [ex_bind]; congr 1; funext d; rw [ex_bind]; rfl
theorem s_eTup (Fs : List EM) : sat (eTup Fs ρ) Φ Ψ = sat (vL Fs ρ) (fun a => a.1.length ≤ 1000000 ∧ Φ (.tup a.1, a.2)) Ψ := by
  unfold eTup; rw [sat_bind]; congr 1; funext a; rw [sat_iteF]; rfl
theorem s_tLst (Fs : List EM) : sat (tLst Fs ρ) ΦT Ψ = sat (vL Fs ρ) (fun a => a.1.length ≤ 1000000 ∧ ΦT (.lst a.1, a.2)) Ψ := by
  unfold tLst; rw [sat_bind]; congr 1; funext a; rw [sat_iteF]; rfl
theorem s_eCB (f : List D → Option D) (As : List HM) : sat (eCB f As ρ) Φ Ψ = sat (hL As ρ) (fun a => ex (getL a.1 a.2) fun ds => ex (f ds) fun r => Φ (r, a.2)) Ψ := by
  unfold eCB; rw [sat_bind]; congr 1; funext a; rw [sat_bind, sat_of, ex_bind]; rfl
theorem s_tCBL (f : List D → Option (List D)) (As : List HM) : sat (tCBL f As ρ) ΦT Ψ = sat (hL As ρ) (fun a => ex (getL a.1 a.2) fun ds => ex (f ds) fun r => ΦT (.lst r, a.2)) Ψ := by
  unfold tCBL; rw [sat_bind]; congr 1; funext a; rw [sat_bind, sat_of, ex_bind]; rfl
theorem s_eIsi (ks : List Kd) : sat (eIsi ks A ρ) Φ Ψ = sat (A ρ) (fun a => ex (getH a.1 a.2) fun d => ex (kdAny ks d) fun r => Φ (.bl r, a.2)) Ψ := by
  unfold eIsi; rw [sat_bind]; congr 1; funext a; rw [sat_bind, sat_of, ex_bind]; rfl
theorem s_eBM (t : Ty) (f : D → List D → Option D) (As : List HM) : sat (eBM t f A As ρ) Φ Ψ = sat (A ρ) (fun a => ((getH a.1 a.2).map (isTy t)) = some true ∧ sat (hL As a.2) (fun b => ex (getH a.1 b.2) fun d => ex (getL b.1 b.2) fun ds => ex (f d ds) fun r => Φ (r, b.2)) Ψ) Ψ := by
  unfold eBM; rw [sat_bind]; congr 1; funext a; rw [sat_iteF]; congr 1; rw [sat_bind]; congr 1; funext b; rw [sat_bind, sat_of, ex_bind]; congr 1; funext d; rw [ex_bind]; rfl
theorem s_eMut (i : Nat) (m : List D → List D → Option (List D × D)) (Fs : List EM) : sat (eMut i m Fs ρ) Φ Ψ = ex (lkL ρ i) (fun _ => sat (vL Fs ρ) (fun a => ex (lkL a.2 i) fun ds => ex (m ds a.1) fun r => Φ (r.2, List.set a.2 i (some (.lst r.1)))) Ψ) := by
  unfold eMut lkL
  generalize ρ[i]? = o
  rcases o with _ | (_ | t)
  · rfl
  · rfl
  · cases t with
    | lst ds0 =>
      show sat (vL Fs ρ >>= _) _ _ = sat (vL Fs ρ) _ _
      rw [sat_bind]; congr 1; funext a
      generalize a.2[i]? = o2
      rcases o2 with _ | (_ | t)
      · rfl
      · rfl
      · cases t with
        | lst ds =>
          show sat (Res.of (m ds a.1) >>= _) _ _ = ex (m ds a.1) _
          rw [sat_bind, sat_of]; rfl
        | _ => rfl
    | _ => rfl
theorem s_oN {Φ : Option Int × Env → Prop} : sat (oN ρ) Φ Ψ = Φ (none, ρ) := rfl
theorem s_oS {Φ : Option Int × Env → Prop} : sat (oS F ρ) Φ Ψ = sat (F ρ) (fun a => ex (intOf a.1) fun i => Φ (some i, a.2)) Ψ := by
  unfold oS; rw [sat_bind]; congr 1; funext a; rw [sat_bind, sat_of]; rfl
theorem s_eCut (l u : Env → Res (Option Int × Env)) : sat (eCut A l u ρ) Φ Ψ = sat (A ρ) (fun a => sat (l a.2) (fun x => sat (u x.2) (fun y => ex (getH a.1 y.2) fun d => ex (fCut x.1 y.1 d) fun r => Φ (r, y.2)) Ψ) Ψ) Ψ := by
  unfold eCut; rw [sat_bind]; congr 1; funext a; rw [sat_bind]; congr 1; funext x; rw [sat_bind]; congr 1; funext y; rw [sat_bind, sat_of, ex_bind]; rfl
theorem s_tCut (l u : Env → Res (Option Int × Env)) : sat (tCut A l u ρ) ΦT Ψ = sat (A ρ) (fun a => sat (l a.2) (fun x => sat (u x.2) (fun y => ex (getH a.1 y.2) fun d => ex (lCut x.1 y.1 d) fun r => ΦT (.lst r, y.2)) Ψ) Ψ) Ψ := by
  unfold tCut; rw [sat_bind]; congr 1; funext a; rw [sat_bind]; congr 1; funext x; rw [sat_bind]; congr 1; funext y; rw [sat_bind, sat_of, ex_bind]; rfl
def blD : D → Option Bool
  | .bl b => some b
  | _ => none
theorem s_bVal : sat (bVal F ρ) ΦB Ψ = sat (F ρ) (fun a => ex (blD a.1) fun b => ΦB (b, a.2)) Ψ := by
  unfold bVal; rw [sat_bind]; congr 1; funext a; cases a.1 <;> rfl
theorem s_bNot : sat (bNot b ρ) ΦB Ψ = sat (b ρ) (fun a => ΦB (!a.1, a.2)) Ψ := by unfold bNot; rw [sat_bind]; rfl
theorem s_bAnd : sat (bAnd b b' ρ) ΦB Ψ = sat (b ρ) (fun a => (a.1 = true → sat (b' a.2) ΦB Ψ) ∧ (a.1 = false → ΦB (false, a.2))) Ψ := by
  unfold bAnd; rw [sat_bind]; congr 1; funext a
  rw [sat_ite]
  cases a.1 <;> simp [sat_ok]
theorem s_bOr : sat (bOr b b' ρ) ΦB Ψ = sat (b ρ) (fun a => (a.1 = true → ΦB (true, a.2)) ∧ (a.1 = false → sat (b' a.2) ΦB Ψ)) Ψ := by
  unfold bOr; rw [sat_bind]; congr 1; funext a
  rw [sat_ite]
  cases a.1 <;> simp [sat_ok]
theorem s_eIf : sat (eIf b F G ρ) Φ Ψ = sat (b ρ) (fun a => (a.1 = true → sat (F a.2) Φ Ψ) ∧ (a.1 = false → sat (G a.2) Φ Ψ)) Ψ := by
  unfold eIf; rw [sat_bind]; congr 1; funext a
  rw [sat_ite]
  cases a.1 <;> simp
theorem s_eAnd : sat (eAnd F G ρ) Φ Ψ = sat (F ρ) (fun a => ex (blD a.1) fun b => (b = true → sat (G a.2) Φ Ψ) ∧ (b = false → Φ (.bl false, a.2))) Ψ := by
  unfold eAnd; rw [sat_bind]; congr 1; funext a
  cases a.1 <;> first | rfl | skip
  rename_i b
  cases b <;> simp [blD, ex, sat]
theorem s_eOr : sat (eOr F G ρ) Φ Ψ = sat (F ρ) (fun a => ex (blD a.1) fun b => (b = true → Φ (.bl true, a.2)) ∧ (b = false → sat (G a.2) Φ Ψ)) Ψ := by
  unfold eOr; rw [sat_bind]; congr 1; funext a
  cases a.1 <;> first | rfl | skip
  rename_i b
  cases b <;> simp [blD, ex, sat]
theorem s_eNot : sat (eNot F ρ) Φ Ψ = sat (F ρ) (fun a => ex (blD a.1) fun b => Φ (.bl (!b), a.2)) Ψ := by
  unfold eNot; rw [sat_bind]; congr 1; funext a
  cases a.1 <;> rfl
theorem s_eChain (f g : D → D → Option Bool) : sat (eChain f g A B C ρ) Φ Ψ = sat (A ρ) (fun a => sat (B a.2) (fun b => ex (getH a.1 b.2) fun d => ex (getH b.1 b.2) fun e => ex (f d e) fun r =>
    (r = true → sat (C b.2) (fun c => ex (getH b.1 c.2) fun d => ex (getH c.1 c.2) fun e => ex (g d e) fun r2 => Φ (.bl r2, c.2)) Ψ) ∧ (r = false → Φ (.bl false, b.2))) Ψ) Ψ := by
  unfold eChain; rw [sat_bind]; congr 1; funext a; rw [sat_bind]; congr 1; funext b; rw [sat_bind, sat_of, ex_bind]; congr 1; funext d; rw [ex_bind]; congr 1; funext e; congr 1; funext r
  rw [sat_ite]
  have : sat (C b.2 >>= fun c => Res.of ((getH b.1 c.2).bind fun d => (getH c.1 c.2).bind fun e => g d e) >>= fun r2 => Res.ok (D.bl r2, c.2)) Φ Ψ = sat (C b.2) (fun c => ex (getH b.1 c.2) fun d => ex (getH c.1 c.2) fun e => ex (g d e) fun r2 => Φ (.bl r2, c.2)) Ψ := by
    rw [sat_bind]; congr 1; funext c; rw [sat_bind, sat_of, ex_bind]; congr 1; funext d; rw [ex_bind]; rfl
  rw [this]
  cases r <;> simp [sat_ok]
theorem s_bChain (f g : D → D → Option Bool) : sat (bChain f g A B C ρ) ΦB Ψ = sat (eChain f g A B C ρ) (fun a => ex (blD a.1) fun b => ΦB (b, a.2)) Ψ := s_bVal
/-! calls -/
theorem s_aL0 {Φ : List (Option D) × Env → Prop} : sat (aL [] ρ) Φ Ψ = Φ ([], ρ) := rfl
theorem s_aLv {Φ : List (Option D) × Env → Prop} (As : List Arg) : sat (aL (.v F :: As) ρ) Φ Ψ = sat (F ρ) (fun a => sat (aL As a.2) (fun r => Φ (some a.1 :: r.1, r.2)) Ψ) Ψ := by
  show sat (F ρ >>= _) _ _ = _
  rw [sat_bind]; congr 1; funext a; rw [sat_bind]; rfl
theorem s_aLi {Φ : List (Option D) × Env → Prop} (i : Nat) (As : List Arg) : sat (aL (.io i :: As) ρ) Φ Ψ = ex (lkT ρ i) fun _ => sat (aL As ρ) (fun r => Φ (none :: r.1, r.2)) Ψ := by
  unfold lkT
  conv => lhs; unfold aL
  generalize ρ[i]? = o
  rcases o with _ | (_ | t)
  · rfl
  · rfl
  · show sat (aL As ρ >>= _) _ _ = sat (aL As ρ) _ _
    rw [sat_bind]; rfl
theorem ex_mkT0 {Φ : List T → Prop} : ex (mkT [] [] ρ) Φ = Φ [] := rfl
theorem ex_mkTv {Φ : List T → Prop} (As : List Arg) (d : D) (r : List (Option D)) : ex (mkT (.v F :: As) (some d :: r) ρ) Φ = ex (mkT As r ρ) fun ts => Φ (.sh d :: ts) := by
  conv => lhs; unfold mkT
  rw [ex_map]
theorem ex_mkTi {Φ : List T → Prop} (i : Nat) (As : List Arg) (r : List (Option D)) : ex (mkT (.io i :: As) (none :: r) ρ) Φ = ex (lkT ρ i) fun t => ex (mkT As r ρ) fun ts => Φ (t :: ts) := by
  unfold lkT
  conv => lhs; unfold mkT
  generalize ρ[i]? = o
  rcases o with _ | (_ | t)
  · rfl
  · rfl
  · show ex (Option.map _ _) _ = ex (mkT As r ρ) _
    rw [ex_map]
theorem s_eCall (f : Fn) (As : List Arg) : sat (eCall f As ρ) ΦT Ψ = (nodupB (iosOf As) = true ∧ sat (aL As ρ) (fun a => ex (mkT As a.1 a.2) fun ts => satO (f ts) (fun t os => ΦT (t, putB As os a.2)) (fun x os => Ψ x (putB As os a.2))) Ψ) := by
  unfold eCall; rw [sat_iteF]; congr 1; rw [sat_bind]; congr 1; funext a; rw [sat_bind, sat_of]; congr 1; funext ts
  rw [eqO]
  cases f ts <;> rfl
/-! statements -/
theorem s_seq : sat (sSeq S S' ρ) ΦS Ψ = sat (S ρ) (fun f => match f with | .nx ρ1 => sat (S' ρ1) ΦS Ψ | r => ΦS r) Ψ := by
  unfold sSeq
  cases S ρ with
  | ok f => cases f <;> rfl
  | exc x ρ => rfl
  | fail => rfl
theorem s_nil : sat (sNil ρ) ΦS Ψ = ΦS (.nx ρ) := rfl
theorem s_expr : sat (sExpr F ρ) ΦS Ψ = sat (F ρ) (fun a => ΦS (.nx a.2)) Ψ := by unfold sExpr; rw [sat_bind]; rfl
theorem s_ret : sat (sRet F' ρ) ΦS Ψ = sat (F' ρ) (fun a => ΦS (.rt a.1 a.2)) Ψ := by unfold sRet; rw [sat_bind]; rfl
theorem s_retV : sat (sRetV F ρ) ΦS Ψ = sat (F ρ) (fun a => ΦS (.rt (.sh a.1) a.2)) Ψ := by unfold sRetV; rw [sat_bind]; rfl
theorem s_if : sat (sIf b S S' ρ) ΦS Ψ = sat (b ρ) (fun a => (a.1 = true → sat (S a.2) ΦS Ψ) ∧ (a.1 = false → sat (S' a.2) ΦS Ψ)) Ψ := by
  unfold sIf; rw [sat_bind]; congr 1; funext a
  rw [sat_ite]
  cases a.1 <;> simp
theorem ex_putE (i : Nat) (t : T) {Φ : Env → Prop} : ex (putE i t ρ) Φ = (i < ρ.length ∧ Φ (List.set ρ i (some t))) := by unfold putE; rw [ex_ite]; rfl
theorem s_set (i : Nat) : sat (sSet i F' ρ) ΦS Ψ = sat (F' ρ) (fun a => i < a.2.length ∧ ΦS (.nx (List.set a.2 i (some a.1)))) Ψ := by
  unfold sSet; rw [sat_bind]; congr 1; funext a; rw [sat_bind, sat_of, ex_putE]; rfl
theorem s_setV (i : Nat) : sat (sSetV i F ρ) ΦS Ψ = sat (F ρ) (fun a => i < a.2.length ∧ ΦS (.nx (List.set a.2 i (some (.sh a.1))))) Ψ := by
  unfold sSetV; rw [sat_bind]; congr 1; funext a; rw [sat_bind, sat_of, ex_putE]; rfl
theorem s_wipe (is : List Nat) : sat (sWipe is S ρ) ΦS Ψ = sat (S ρ) (fun f => ΦS (wipeF is f)) Ψ := by
  unfold sWipe
  cases S ρ <;> rfl
theorem s_asg (g : GM) : sat (sAsg g F ρ) ΦS Ψ = sat (F ρ) (fun a => ex (g a.1 a.2) fun ρ1 => ΦS (.nx ρ1)) Ψ := by
  unfold sAsg; rw [sat_bind]; congr 1; funext a; rw [sat_bind, sat_of]; rfl
theorem s_par (i j : Nat) : sat (sPar i F' j G' ρ) ΦS Ψ = sat (F' ρ) (fun a => rootT a.1 = true ∧ sat (G' a.2) (fun b => (rootT b.1 = true ∧ i < b.2.length ∧ j < b.2.length) ∧ ΦS (.nx (List.set (List.set b.2 i (some a.1)) j (some b.1)))) Ψ) Ψ := by
  unfold sPar; rw [sat_bind]; congr 1; funext a; rw [sat_iteF, sat_bind]; congr 1; congr 1; funext b; rw [sat_iteF]; rfl
theorem ex_gNm (i : Nat) (d : D) {Φ : Env → Prop} : ex (gNm i d ρ) Φ = (i < ρ.length ∧ Φ (List.set ρ i (some (.sh d)))) := ex_putE i (.sh d)
theorem ex_gTp (gs : List GM) (ds : List D) {Φ : Env → Prop} : ex (gTp gs (.tup ds) ρ) Φ = ex (gEach gs ds ρ) Φ := rfl
theorem ex_gE0 {Φ : Env → Prop} : ex (gEach [] [] ρ) Φ = Φ ρ := rfl
theorem ex_gE (g : GM) (gs : List GM) (d : D) (ds : List D) {Φ : Env → Prop} : ex (gEach (g :: gs) (d :: ds) ρ) Φ = ex (g d ρ) fun ρ1 => ex (gEach gs ds ρ1) Φ := by
  conv => lhs; unfold gEach
  rw [ex_bind]
/-! records -/
theorem s_fld (i : Nat) (k : Tx) : sat (eFld i k ρ) Φ Ψ = ex (rcdOf ρ i) fun fs => ex (getF fs k) fun t => match t with | .sh d => Φ (d, ρ) | _ => False := by
  unfold eFld fldOf
  cases rcdOf ρ i with
  | none => rfl
  | some fs =>
    show sat (match getF fs k with | some (.sh d) => Res.ok (d, ρ) | _ => .fail) _ _ = ex (getF fs k) _
    cases getF fs k with
    | none => rfl
    | some t => cases t <;> rfl
theorem s_flen (i : Nat) (k : Tx) : sat (eFldLen i k ρ) Φ Ψ = ex (rcdOf ρ i) fun fs => ex (getF fs k) fun t => match t with | .lst ds => Φ (.int ds.length, ρ) | _ => False := by
  unfold eFldLen fldOf
  cases rcdOf ρ i with
  | none => rfl
  | some fs =>
    show sat (match getF fs k with | some (.lst ds) => Res.ok (D.int ds.length, ρ) | _ => .fail) _ _ = ex (getF fs k) _
    cases getF fs k with
    | none => rfl
    | some t => cases t <;> rfl
theorem s_fix (i : Nat) (k : Tx) (j : Nat) : sat (eFldIx i k j ρ) Φ Ψ = ex (rcdOf ρ i) fun fs => ex (lkS ρ j) fun n => ex (intOf n) fun n => ex (getF fs k) fun t => match t with | .lst ds => ex (atI ds n) fun d => Φ (d, ρ) | _ => False := by
  unfold eFldIx fldOf lkS
  cases h1 : rcdOf ρ i with
  | none =>
    show sat (match (none : Option T1), ρ[j]? with | _, _ => _) _ _ = False
    rfl
  | some fs =>
    show sat (match getF fs k, ρ[j]? with
      | some (.lst ds), some (some (.sh (.int n))) => (match atI ds n with
        | some d => Res.ok (d, ρ)
        | none => .fail)
      | _, _ => .fail) _ _ = ex (match ρ[j]? with | some (some (.sh d)) => some d | _ => none) fun n => ex (intOf n) fun n => ex (getF fs k) fun t => _
    generalize ρ[j]? = o
    generalize getF fs k = q
    have f : ∀ q : Option T1, ex q (fun _ => False) = False := fun q => by cases q <;> rfl
    rcases o with _ | (_ | t)
    · cases q with
      | none => rfl
      | some t => cases t <;> rfl
    · cases q with
      | none => rfl
      | some t => cases t <;> rfl
    · cases t with
      | sh d =>
        cases d with
        | int n =>
          cases q with
          | none => rfl
          | some t =>
            cases t with
            | lst ds =>
              show sat (match atI ds n with | some d => Res.ok (d, ρ) | none => .fail) _ _ = ex (atI ds n) _
              cases atI ds n <;> rfl
            | _ => rfl
        | _ =>
          cases q with
          | none => rfl
          | some t => cases t <;> rfl
      | _ =>
        cases q with
        | none => rfl
        | some t => cases t <;> rfl
theorem s_sFld (i : Nat) (k : Tx) : sat (sFld i k F ρ) ΦS Ψ = sat (F ρ) (fun a => ex (rcdOf a.2 i) fun fs => ex (getF fs k) fun t => match t with | .sh _ => fs.length < 1000 ∧ ΦS (.nx (List.set a.2 i (some (.rcd (setF fs k (.sh a.1)))))) | _ => False) Ψ := by
  unfold sFld; rw [sat_bind]; congr 1; funext a
  cases rcdOf a.2 i with
  | none => rfl
  | some fs =>
    show sat (match getF fs k with | some (.sh _) => (if fs.length < 1000 then Res.ok (Fl.nx (a.2.set i (some (.rcd (setF fs k (.sh a.1)))))) else .fail) | _ => .fail) _ _ = ex (getF fs k) _
    cases getF fs k with
    | none => rfl
    | some t =>
      cases t with
      | sh d => show sat (if _ then _ else _) _ _ = _; rw [sat_iteF]; rfl
      | _ => rfl
theorem s_gfix (i : Nat) (k : Tx) (j : Nat) (d : D) {Φ : Env → Prop} : ex (gFldIx i k j d ρ) Φ = ex (rcdOf ρ i) fun fs => ex (lkS ρ j) fun n => ex (intOf n) fun n => ex (getF fs k) fun t => match t with | .lst ds => (0 ≤ n ∧ n < ds.length) ∧ Φ (List.set ρ i (some (.rcd (setF fs k (.lst (ds.set n.toNat d)))))) | _ => False := by
  unfold gFldIx lkS
  cases rcdOf ρ i with
  | none => rfl
  | some fs =>
    cases ρ[j]? with
    | none => rfl
    | some o =>
      cases o with
      | none => rfl
      | some t' =>
        cases t' with
        | sh d =>
          cases d with
          | int n =>
            show ex (match getF fs k with | _ => _) _ = ex (getF fs k) _
            cases getF fs k with
            | none => rfl
            | some t =>
              cases t with
              | lst ds => show ex (if _ then _ else _) _ = _; rw [ex_ite]; rfl
              | _ => rfl
          | _ => rfl
        | _ => rfl
theorem s_rcd2 (k1 k2 : Tx) : sat (tRcd2 k1 F' k2 F ρ) ΦT Ψ = sat (F' ρ) (fun a => match a.1 with | .lst ds => sat (F a.2) (fun b => k1 ≠ k2 ∧ ΦT (.rcd [(k1, .lst ds), (k2, .sh b.1)], b.2)) Ψ | _ => False) Ψ := by
  unfold tRcd2; rw [sat_bind]; congr 1; funext a
  cases a.1 with
  | lst ds => show sat (F a.2 >>= _) _ _ = _; rw [sat_bind]; congr 1; funext b; rw [sat_iteF]; rfl
  | _ => rfl
/-! walks -/
theorem s_iArg {Φ : List D × Env → Prop} (f : List D → Option (List D)) (Fs : List EM) : sat (iArg f Fs ρ) Φ Ψ = sat (vL Fs ρ) (fun a => ex (f a.1) fun xs => Φ (xs, a.2)) Ψ := by
  unfold iArg; rw [sat_bind]; congr 1; funext a; rw [sat_bind, sat_of]; rfl
theorem s_iSeq {Φ : List D × Env → Prop} : sat (iSeq F ρ) Φ Ψ = sat (F ρ) (fun a => ex (seqD a.1) fun xs => Φ (xs, a.2)) Ψ := by
  unfold iSeq; rw [sat_bind]; congr 1; funext a; cases a.1 <;> rfl
theorem s_for (g : GM) (I : IM) : sat (sFor g I S ρ) ΦS Ψ = sat (I ρ) (fun a => sat (forL g S a.1 a.2) ΦS Ψ) Ψ := by unfold sFor; rw [sat_bind]
theorem s_comp (own : List Nat) (g : GM) (I : IM) : sat (tComp own g I b F ρ) ΦT Ψ = sat (I ρ) (fun a => sat (cmpL own g b F a.1 [] a.2) ΦT Ψ) Ψ := by unfold tComp; rw [sat_bind]
theorem s_bTrue : sat (bTrue ρ) ΦB Ψ = ΦB (true, ρ) := rfl
end
theorem satO_fn (N n : Nat) (md : List Bool) (B : SM) (ts : List T) {Φ : T → Env → Prop} {Ψ : Exn → Env → Prop} : satO (fnOf N n md B ts) Φ Ψ = (ts.length = n ∧ sat (B (ts.map some ++ List.replicate (N - n) none)) (fun f => match f with | .rt t ρ => Φ t (maskE md ρ) | .nx ρ => Φ (.sh .non) (maskE md ρ) | _ => False) (fun x ρ => Ψ x (maskE md ρ))) := by
  rw [eqO]
  unfold fnOf
  by_cases h : ts.length = n
  · rw [if_pos h]
    simp only [h, true_and]
    cases B (ts.map some ++ List.replicate (N - n) none) with
    | ok f => cases f <;> rfl
    | exc x ρ => rfl
    | fail => rfl
  · rw [if_neg h]; simp [h, satO0]
/-! ### loops by what holds at each turn -/
theorem for_inv {g : GM} {B : SM} {Φ : Fl → Prop} {Ψ : Exn → Env → Prop} (Inv : Nat → Env → Prop) {xs : List D} {ρ : Env} (h0 : Inv 0 ρ)
    (step : ∀ i x ρ, xs[i]? = some x → Inv i ρ → ex (g x ρ) fun ρ1 => sat (B ρ1) (fun f => match f with | .nx ρ2 => Inv (i + 1) ρ2 | .ct ρ2 => Inv (i + 1) ρ2 | .bk ρ2 => Φ (.nx ρ2) | .rt t ρ2 => Φ (.rt t ρ2)) Ψ)
    (hend : ∀ ρ, Inv xs.length ρ → Φ (.nx ρ)) : sat (forL g B xs ρ) Φ Ψ := by
  have key : ∀ (n i : Nat) (ρ : Env), xs.length - i = n → i ≤ xs.length → Inv i ρ → sat (forL g B (xs.drop i) ρ) Φ Ψ := by
    intro n
    induction n with
    | zero =>
      intro i ρ h1 h2 h3
      have : i = xs.length := by omega
      subst this
      rw [List.drop_length]
      exact hend ρ h3
    | succ n ih =>
      intro i ρ h1 h2 h3
      have hlt : i < xs.length := by omega
      rw [List.drop_eq_getElem_cons hlt]
      have st := step i xs[i] ρ (List.getElem?_eq_getElem hlt) h3
      unfold forL
      rw [sat_bind, sat_of]
      cases hg : g xs[i] ρ with
      | none => rw [hg] at st; exact st
      | some ρ1 =>
        rw [hg, ex_some] at st
        rw [ex_some]
        cases hB : B ρ1 with
        | fail => rw [hB] at st; exact st
        | exc x ρ2 => rw [hB] at st; exact st
        | ok f =>
          rw [hB, sat_ok] at st
          cases f with
          | nx ρ2 => exact ih (i + 1) ρ2 (by omega) hlt st
          | ct ρ2 => exact ih (i + 1) ρ2 (by omega) hlt st
          | bk ρ2 => exact st
          | rt t ρ2 => exact st
  have := key xs.length 0 ρ (by omega) (Nat.zero_le _) h0
  simpa using this
theorem cmp_inv {own : List Nat} {g : GM} {C : BM} {F : EM} {Φ : T × Env → Prop} {Ψ : Exn → Env → Prop} (Inv : Nat → List D → Env → Prop) {xs : List D} {ρ : Env} (hl : xs.length ≤ 1000000) (h0 : Inv 0 [] ρ)
    (step : ∀ i x acc ρ, xs[i]? = some x → acc.length ≤ i → Inv i acc ρ → ex (g x (wipeE own ρ)) fun ρ1 => sat (C ρ1) (fun b => (b.1 = true → sat (F b.2) (fun d => Inv (i + 1) (acc ++ [d.1]) (backE own ρ d.2)) (fun _ _ => False)) ∧ (b.1 = false → Inv (i + 1) acc (backE own ρ b.2))) (fun _ _ => False))
    (hend : ∀ acc ρ, acc.length ≤ xs.length → Inv xs.length acc ρ → Φ (.lst acc, ρ)) : sat (cmpL own g C F xs [] ρ) Φ Ψ := by
  have key : ∀ (n i : Nat) (acc : List D) (ρ : Env), xs.length - i = n → i ≤ xs.length → acc.length ≤ i → Inv i acc ρ → sat (cmpL own g C F (xs.drop i) acc ρ) Φ Ψ := by
    intro n
    induction n with
    | zero =>
      intro i acc ρ h1 h2 h4 h3
      have : i = xs.length := by omega
      subst this
      rw [List.drop_length]
      exact hend acc ρ h4 h3
    | succ n ih =>
      intro i acc ρ h1 h2 h4 h3
      have hlt : i < xs.length := by omega
      rw [List.drop_eq_getElem_cons hlt]
      have st := step i xs[i] acc ρ (List.getElem?_eq_getElem hlt) h4 h3
      unfold cmpL
      rw [sat_bind, sat_of]
      cases hg : g xs[i] (wipeE own ρ) with
      | none => rw [hg] at st; exact st
      | some ρ1 =>
        rw [hg, ex_some] at st
        rw [ex_some, sat_bind]
        cases hB : C ρ1 with
        | fail => rw [hB] at st; exact st.elim
        | exc x ρ2 => rw [hB] at st; exact st.elim
        | ok b =>
          rw [hB, sat_ok] at st
          rw [noX_ok, sat_ok]
          cases hb : b.1 with
          | true =>
            have st := st.1 hb
            simp only [if_true]
            rw [sat_bind]
            cases hF : F b.2 with
            | fail => rw [hF] at st; exact st.elim
            | exc x ρ2 => rw [hF] at st; exact st.elim
            | ok d =>
              rw [hF, sat_ok] at st
              rw [noX_ok, sat_ok, if_pos (by omega)]
              exact ih (i + 1) _ _ (by omega) hlt (by simp; omega) st
          | false =>
            have st := st.2 hb
            simp only [Bool.false_eq_true, if_false]
            exact ih (i + 1) _ _ (by omega) hlt (by omega) st
  have := key xs.length 0 [] ρ (by omega) (Nat.zero_le _) (Nat.zero_le _) h0
  simpa using this
theorem wh_inv {C : BM} {B : SM} {Φ : Fl → Prop} {Ψ : Exn → Env → Prop} (Inv : Nat → Env → Prop) :
    ∀ {n m : Nat} {ρ : Env}, m < n → Inv m ρ →
    (∀ m ρ, Inv m ρ → sat (C ρ) (fun b => (b.1 = true → sat (B b.2) (fun f => match f with | .nx ρ2 => ∃ m', m' < m ∧ Inv m' ρ2 | .ct ρ2 => ∃ m', m' < m ∧ Inv m' ρ2 | .bk ρ2 => Φ (.nx ρ2) | .rt t ρ2 => Φ (.rt t ρ2)) Ψ) ∧ (b.1 = false → Φ (.nx b.2))) Ψ) →
    sat (sWhile n C B ρ) Φ Ψ := by
  intro n
  induction n with
  | zero => intro m ρ h; omega
  | succ n ih =>
    intro m ρ h hi step
    have st := step m ρ hi
    unfold sWhile whL
    rw [sat_bind]
    cases hC : C ρ with
    | fail => rw [hC] at st; exact st
    | exc x ρ2 => rw [hC] at st; exact st
    | ok b =>
      rw [hC, sat_ok] at st
      rw [sat_ok]
      cases hb : b.1 with
      | false => simp only [Bool.false_eq_true, if_false]; exact st.2 hb
      | true =>
        have st := st.1 hb
        simp only [if_true]
        cases hB : B b.2 with
        | fail => rw [hB] at st; exact st
        | exc x ρ2 => rw [hB] at st; exact st
        | ok f =>
          rw [hB, sat_ok] at st
          cases f with
          | nx ρ2 => obtain ⟨m', h1, h2⟩ := st; exact ih (by omega) h2 step
          | ct ρ2 => obtain ⟨m', h1, h2⟩ := st; exact ih (by omega) h2 step
          | bk ρ2 => exact st
          | rt t ρ2 => exact st
end Od
namespace Od
open PySem PySem.Spec L2
open PyProof.Rows hiding St
section
variable {Φ : D → Prop} {ΦB : Bool → Prop} {ΦL : List D → Prop} {ΦM : List D × D → Prop} {ΦI : Int → Prop} {ΦT1 : T1 → Prop}
theorem x_addbi (k : Bool) (j : Int) : ex (fAdd (.bl k) (.int j)) Φ = Φ (.int ((if k = true then (1 : Int) else 0) + j)) := rfl
theorem x_addii (i j : Int) : ex (fAdd (.int i) (.int j)) Φ = Φ (.int (i + j)) := rfl
theorem x_addss (a b : Tx) : ex (fAdd (.str a) (.str b)) Φ = (a.length + b.length ≤ 1000000 ∧ Φ (.str (a ++ b))) := by show ex (if _ then _ else _) _ = _; rw [ex_ite]; rfl
theorem x_addtt (a b : List D) : ex (fAdd (.tup a) (.tup b)) Φ = (a.length + b.length ≤ 1000000 ∧ Φ (.tup (a ++ b))) := by show ex (if _ then _ else _) _ = _; rw [ex_ite]; rfl
theorem x_addll (a b : List D) : ex (fAdd (.lst a) (.lst b)) Φ = (a.length + b.length ≤ 1000000 ∧ Φ (.lst (a ++ b))) := by show ex (if _ then _ else _) _ = _; rw [ex_ite]; rfl
theorem x_lAdd (a b : List D) : ex (lAdd (.lst a) (.lst b)) ΦL = (a.length + b.length ≤ 1000000 ∧ ΦL (a ++ b)) := by show ex (if _ then _ else _) _ = _; rw [ex_ite]; rfl
theorem x_sub (i j : Int) : ex (fSub (.int i) (.int j)) Φ = Φ (.int (i - j)) := rfl
theorem x_mul (i j : Int) : ex (fMul (.int i) (.int j)) Φ = (okMul i j = true ∧ Φ (.int (i * j))) := by show ex (if _ then _ else _) _ = _; rw [ex_ite]; rfl
theorem x_fdiv (i j : Int) : ex (fFdiv (.int i) (.int j)) Φ = ((0 < j ∧ j < 1073741824) ∧ Φ (.int (i / j))) := by show ex (if _ then _ else _) _ = _; rw [ex_ite]; rfl
theorem x_mod (i j : Int) : ex (fMod (.int i) (.int j)) Φ = (0 < j ∧ Φ (.int (i % j))) := by show ex (if _ then _ else _) _ = _; rw [ex_ite]; rfl
theorem x_pow (i j : Int) : ex (fPow (.int i) (.int j)) Φ = ((0 ≤ j ∧ j ≤ 1000000 ∧ i.natAbs < 18446744073709551616) ∧ Φ (.int (i ^ j.toNat))) := by show ex (if _ then _ else _) _ = _; rw [ex_ite]; rfl
theorem x_shl (i j : Int) : ex (fShl (.int i) (.int j)) Φ = ((0 ≤ j ∧ j ≤ 1000000 ∧ i.natAbs < 18446744073709551616) ∧ Φ (.int (i * 2 ^ j.toNat))) := by show ex (if _ then _ else _) _ = _; rw [ex_ite]; rfl
theorem x_shr (i j : Int) : ex (fShr (.int i) (.int j)) Φ = (0 ≤ j ∧ Φ (.int (i / 2 ^ j.toNat))) := by show ex (if _ then _ else _) _ = _; rw [ex_ite]; rfl
theorem x_neg (i : Int) : ex (fNeg (.int i)) Φ = Φ (.int (-i)) := rfl
theorem x_eqi (i j : Int) : ex (fEq (.int i) (.int j)) ΦB = ΦB (decide (i = j)) := rfl
theorem x_eqs (i j : Tx) : ex (fEq (.str i) (.str j)) ΦB = ΦB (decide (i = j)) := rfl
theorem x_eqb (i j : Bool) : ex (fEq (.bl i) (.bl j)) ΦB = ΦB (decide (i = j)) := rfl
theorem x_nei (i j : Int) : ex (fNe (.int i) (.int j)) ΦB = ΦB (!decide (i = j)) := rfl
theorem x_nes (i j : Tx) : ex (fNe (.str i) (.str j)) ΦB = ΦB (!decide (i = j)) := rfl
theorem x_neb (i j : Bool) : ex (fNe (.bl i) (.bl j)) ΦB = ΦB (!decide (i = j)) := rfl
theorem x_lt (i j : Int) : ex (cLt (.int i) (.int j)) ΦB = ΦB (decide (i < j)) := rfl
theorem x_lts (i j : Tx) : ex (cLt (.str i) (.str j)) ΦB = ΦB (decide (i < j)) := rfl
theorem x_le (i j : Int) : ex (cLe (.int i) (.int j)) ΦB = ΦB (decide (i ≤ j)) := rfl
theorem x_gt (i j : Int) : ex (cGt (.int i) (.int j)) ΦB = ΦB (decide (j < i)) := rfl
theorem x_ge (i j : Int) : ex (cGe (.int i) (.int j)) ΦB = ΦB (decide (j ≤ i)) := rfl
theorem x_isN0 : ex (cIsN .non .non) ΦB = ΦB true := rfl
theorem x_isNi (i : Int) : ex (cIsN (.int i) .non) ΦB = ΦB false := rfl
theorem x_isNb (i : Bool) : ex (cIsN (.bl i) .non) ΦB = ΦB false := rfl
theorem x_isNs (i : Tx) : ex (cIsN (.str i) .non) ΦB = ΦB false := rfl
theorem x_isNt (i : List D) : ex (cIsN (.tup i) .non) ΦB = ΦB false := rfl
theorem x_isNl (i : List D) : ex (cIsN (.lst i) .non) ΦB = ΦB false := rfl
theorem x_ixl (ds : List D) (i : Int) : ex (fIdx (.lst ds) (.int i)) Φ = ex (atI ds i) Φ := rfl
theorem x_ixt (ds : List D) (i : Int) : ex (fIdx (.tup ds) (.int i)) Φ = ex (atI ds i) Φ := rfl
theorem x_ixr (ds : List D) (i : Int) : ex (fIdx (.rol ds) (.int i)) Φ = ex (atI ds i) Φ := rfl
theorem x_ixs (s : Tx) (i : Int) : ex (fIdx (.str s) (.int i)) Φ = (s.length ≤ 1000000 ∧ ex (atI s i) fun c => Φ (.str [c])) := by
  show ex (if _ then _ else _) _ = _; rw [ex_ite, ex_map]
theorem x_lens (s : Tx) : ex (fLen [.str s]) Φ = (s.length ≤ 1000000 ∧ Φ (.int s.length)) := by show ex (if _ then _ else _) _ = _; rw [ex_ite]; rfl
theorem x_lenl (s : List D) : ex (fLen [.lst s]) Φ = Φ (.int s.length) := rfl
theorem x_lent (s : List D) : ex (fLen [.tup s]) Φ = Φ (.int s.length) := rfl
theorem x_lenr (s : List D) : ex (fLen [.rol s]) Φ = Φ (.int s.length) := rfl
theorem x_max2 (i j : Int) : ex (fMax [.int i, .int j]) Φ = Φ (.int (max i j)) := rfl
theorem x_dm (i j : Int) : ex (fDivmod [.int i, .int j]) Φ = ((0 < j ∧ j < 1073741824) ∧ Φ (.tup [.int (i / j), .int (i % j)])) := by show ex (if _ then _ else _) _ = _; rw [ex_ite]; rfl
theorem x_listl (ds : List D) : ex (fList [.lst ds]) ΦL = ΦL ds := rfl
theorem x_listr (ds : List D) : ex (fList [.rol ds]) ΦL = ΦL ds := rfl
theorem x_listt (ds : List D) : ex (fList [.tup ds]) ΦL = ΦL ds := rfl
theorem x_tupl (ds : List D) : ex (fTuple [.lst ds]) Φ = Φ (.tup ds) := rfl
theorem x_tupt (ds : List D) : ex (fTuple [.tup ds]) Φ = Φ (.tup ds) := rfl
theorem x_cutl (lo hi : Option Int) (ds : List D) : ex (fCut lo hi (.lst ds)) Φ = Φ (.lst (cutD ds lo hi)) := rfl
theorem x_cutt (lo hi : Option Int) (ds : List D) : ex (fCut lo hi (.tup ds)) Φ = Φ (.tup (cutD ds lo hi)) := rfl
theorem x_cutr (lo hi : Option Int) (ds : List D) : ex (fCut lo hi (.rol ds)) Φ = Φ (.lst (cutD ds lo hi)) := rfl
theorem x_cuts (lo hi : Option Int) (s : Tx) : ex (fCut lo hi (.str s)) Φ = (s.length ≤ 1000000 ∧ Φ (.str (cutD s lo hi))) := by show ex (if _ then _ else _) _ = _; rw [ex_ite]; rfl
theorem x_lcutl (lo hi : Option Int) (ds : List D) : ex (lCut lo hi (.lst ds)) ΦL = ΦL (cutD ds lo hi) := rfl
theorem x_lcutr (lo hi : Option Int) (ds : List D) : ex (lCut lo hi (.rol ds)) ΦL = ΦL (cutD ds lo hi) := rfl
theorem x_app (ds : List D) (d : D) : ex (mAppend ds [d]) ΦM = (ds.length < 1000000 ∧ ΦM (ds ++ [d], .non)) := by show ex (if _ then _ else _) _ = _; rw [ex_ite]; rfl
theorem x_sw (a b : Tx) : ex (mSw (.str a) [.str b]) Φ = Φ (.bl (b.isPrefixOf a)) := rfl
theorem x_join (a : Tx) (ds : List D) : ex (mJoin (.str a) [.lst ds]) Φ = ex (allStrs ds) fun ys => ((ys.map List.length).sum + ys.length * a.length ≤ 1000000) ∧ Φ (.str (joinT a ys)) := by
  show ex (Option.bind _ _) _ = _; rw [ex_bind]; congr 1; funext ys; rw [ex_ite]; rfl
theorem x_frs (d : D) : ex (frzT (.sh d)) Φ = Φ d := rfl
theorem x_frl (d : List D) : ex (frzT (.lst d)) Φ = Φ (.lst d) := rfl
theorem x_frd (k : List DK) (d : List D) : ex (frzT (.dct k d)) Φ = Φ (.dct k d) := rfl
theorem x_rng1 (j : Int) : ex (rng1 [.int j]) ΦL = (okI j = true ∧ ΦL (rngD 0 j.toNat)) := by show ex (if _ then _ else _) _ = _; rw [ex_ite]; rfl
theorem x_zip2t (a b : List D) : ex (zip2A [.tup a, .tup b]) ΦL = ΦL (zipD a b) := rfl
theorem x_zip2l (a b : List D) : ex (zip2A [.lst a, .lst b]) ΦL = ΦL (zipD a b) := rfl
theorem x_enu (a : List D) : ex (enu1 [.lst a]) ΦL = ΦL (enumD a) := rfl
theorem x_seql (a : List D) : ex (seqD (.lst a)) ΦL = ΦL a := rfl
theorem x_seqr (a : List D) : ex (seqD (.rol a)) ΦL = ΦL a := rfl
theorem x_int (i : Int) : ex (intOf (.int i)) ΦI = ΦI i := rfl
theorem x_bl (b : Bool) : ex (blD (.bl b)) ΦB = ΦB b := rfl
theorem x_gC (a b : T1) : ex (getF [([99, 101, 108, 108, 115], a), ([116, 117, 114, 110], b)] [99, 101, 108, 108, 115]) ΦT1 = ΦT1 a := rfl
theorem x_gT (a b : T1) : ex (getF [([99, 101, 108, 108, 115], a), ([116, 117, 114, 110], b)] [116, 117, 114, 110]) ΦT1 = ΦT1 b := rfl
end
end Od
namespace Od
open PySem PySem.Spec L2
open PyProof.Rows hiding St
/-! ### a machine of rewrites at the root -/
def cps {α : Type} (a : α) (Φ : α → Prop) : Prop := Φ a
def setE (ρ : Env) (i : Nat) (t : Option T) : Option Env := if i < ρ.length then some (ρ.set i t) else none
def nones : Nat → Env
  | 0 => []
  | N + 1 => none :: nones N
def padE : List T → Nat → Env
  | [], N => nones N
  | t :: ts, N => some t :: padE ts (N - 1)
theorem nones_eq : ∀ N : Nat, List.replicate N none = nones N
  | 0 => rfl
  | N + 1 => by rw [List.replicate_succ, nones_eq N]; rfl
theorem padE_eq : ∀ (ts : List T) (N : Nat), ts.map some ++ List.replicate (N - ts.length) none = padE ts N
  | [], N => nones_eq N
  | t :: ts, N => by
    have := padE_eq ts (N - 1)
    show some t :: (ts.map some ++ List.replicate (N - (ts.length + 1)) none) = some t :: padE ts (N - 1)
    rw [← this, Nat.sub_sub, Nat.add_comm 1]
section
variable {Φ : Env → Prop} {x y : Option T} {ρ ρ0 os : Env} {i : Nat}
theorem c_pad0 : cps (padE [] 0) Φ = Φ [] := rfl
theorem c_padn (N : Nat) : cps (padE [] (N + 1)) Φ = cps (padE [] N) fun r => Φ (none :: r) := rfl
theorem c_pads (t : T) (ts : List T) (N : Nat) : cps (padE (t :: ts) (N + 1)) Φ = cps (padE ts N) fun r => Φ (some t :: r) := rfl
theorem ex_setE : ex (setE ρ i y) Φ = (i < ρ.length ∧ Φ (List.set ρ i y)) := by unfold setE; rw [ex_ite]; rfl
theorem k_set0 : ex (setE (x :: ρ) 0 y) Φ = Φ (y :: ρ) := by rw [ex_setE]; simp
theorem k_sets : ex (setE (x :: ρ) (i + 1) y) Φ = ex (setE ρ i y) fun ρ' => Φ (x :: ρ') := by rw [ex_setE, ex_setE]; simp
theorem c_set0 : cps (List.set (x :: ρ) 0 y) Φ = Φ (y :: ρ) := rfl
theorem c_sets : cps (List.set (x :: ρ) (i + 1) y) Φ = cps (List.set ρ i y) fun ρ' => Φ (x :: ρ') := rfl
theorem c_wipe0 : cps (wipeE [] ρ) Φ = Φ ρ := rfl
theorem c_wipes (is : List Nat) : cps (wipeE (i :: is) ρ) Φ = cps (List.set ρ i none) fun ρ' => cps (wipeE is ρ') Φ := rfl
theorem c_back0 : cps (backE [] ρ0 ρ) Φ = Φ ρ := rfl
theorem c_backs (is : List Nat) : cps (backE (i :: is) ρ0 ρ) Φ = cps (List.getD ρ0 i none) fun y => cps (shE y) fun y => cps (List.set ρ i y) fun ρ' => cps (backE is ρ0 ρ') Φ := rfl
theorem c_mask0 : cps (maskE [] ρ) Φ = Φ [] := by cases ρ <;> rfl
theorem c_maskt (md : List Bool) : cps (maskE (true :: md) (x :: ρ)) Φ = cps (maskE md ρ) fun r => Φ (x :: r) := rfl
theorem c_maskf (md : List Bool) : cps (maskE (false :: md) (x :: ρ)) Φ = cps (maskE md ρ) fun r => Φ (none :: r) := rfl
theorem c_putB0 : cps (putB [] os ρ) Φ = Φ ρ := rfl
theorem c_putBv (F : EM) (As : List Arg) : cps (putB (.v F :: As) (x :: os) ρ) Φ = cps (putB As os ρ) Φ := rfl
theorem c_putBi (As : List Arg) : cps (putB (.io i :: As) (x :: os) ρ) Φ = cps (List.set ρ i x) fun ρ' => cps (putB As os ρ') Φ := rfl
end
section
variable {ΦO : Option T → Prop} {ΦD : D → Prop} {ΦT : T → Prop} {ΦL : List D → Prop} {ΦR : List (Tx × T1) → Prop} {x y : Option T} {ρ : Env} {i : Nat} {d : D} {ds : List D} {ks : List DK}
theorem c_getD0 : cps (List.getD (x :: ρ) 0 y) ΦO = ΦO x := rfl
theorem c_getDs : cps (List.getD (x :: ρ) (i + 1) y) ΦO = cps (List.getD ρ i y) ΦO := rfl
theorem c_shE1 : cps (shE (some (.sh d))) ΦO = ΦO (some (.sh d)) := rfl
theorem c_shE0 : cps (shE none) ΦO = ΦO none := rfl
theorem c_shEl : cps (shE (some (.lst ds))) ΦO = ΦO none := rfl
theorem k_lkS0 : ex (lkS (some (.sh d) :: ρ) 0) ΦD = ΦD d := rfl
theorem k_lkSs : ex (lkS (x :: ρ) (i + 1)) ΦD = ex (lkS ρ i) ΦD := rfl
theorem k_lkF0 : ex (lkF (some (.sh d) :: ρ) 0) ΦD = ΦD d := rfl
theorem k_lkF0l : ex (lkF (some (.lst ds) :: ρ) 0) ΦD = ΦD (.lst ds) := rfl
theorem k_lkFs : ex (lkF (x :: ρ) (i + 1)) ΦD = ex (lkF ρ i) ΦD := rfl
theorem k_lkT0 (t : T) : ex (lkT (some t :: ρ) 0) ΦT = ΦT t := rfl
theorem k_lkTs : ex (lkT (x :: ρ) (i + 1)) ΦT = ex (lkT ρ i) ΦT := rfl
theorem k_lkL0 : ex (lkL (some (.lst ds) :: ρ) 0) ΦL = ΦL ds := rfl
theorem k_lkLs : ex (lkL (x :: ρ) (i + 1)) ΦL = ex (lkL ρ i) ΦL := rfl
theorem k_rcd0 (fs : List (Tx × T1)) : ex (rcdOf (some (.rcd fs) :: ρ) 0) ΦR = ΦR fs := rfl
theorem k_rcds : ex (rcdOf (x :: ρ) (i + 1)) ΦR = ex (rcdOf ρ i) ΦR := rfl
theorem k_atH0 : ex (atH (some (.sh d) :: ρ) 0) ΦD = ΦD d := rfl
theorem k_atH0l : ex (atH (some (.lst ds) :: ρ) 0) ΦD = ΦD (.lst ds) := rfl
theorem k_atH0d : ex (atH (some (.dct ks ds) :: ρ) 0) ΦD = ΦD (.dct ks ds) := rfl
theorem k_atHs : ex (atH (x :: ρ) (i + 1)) ΦD = ex (atH ρ i) ΦD := rfl
theorem k_getHv : ex (getH (.val d) ρ) ΦD = ΦD d := rfl
theorem k_getHs : ex (getH (.slot i) ρ) ΦD = ex (atH ρ i) ΦD := rfl
end
section
variable {Ψ : Exn → Env → Prop} {ρ : Env} {Φ : D × Env → Prop} {ΦT : T × Env → Prop} {ΦS : Fl → Prop} {F : EM} {F' G' : OM} {S : SM}
theorem m_eFv (i : Nat) : sat (eFv i ρ) Φ Ψ = ex (lkF ρ i) (fun d => cps (List.set ρ i (some (.sh d))) fun ρ' => Φ (d, ρ')) := s_eFv i
theorem m_tMv (i : Nat) : sat (tMv i ρ) ΦT Ψ = ex (lkT ρ i) (fun t => cps (List.set ρ i none) fun ρ' => ΦT (t, ρ')) := s_tMv i
theorem m_eMut (i : Nat) (m : List D → List D → Option (List D × D)) (Fs : List EM) : sat (eMut i m Fs ρ) Φ Ψ = ex (lkL ρ i) (fun _ => sat (vL Fs ρ) (fun a => ex (lkL a.2 i) fun ds => ex (m ds a.1) fun r => cps (List.set a.2 i (some (.lst r.1))) fun ρ' => Φ (r.2, ρ')) Ψ) := s_eMut i m Fs
theorem m_eCall (f : Fn) (As : List Arg) : sat (eCall f As ρ) ΦT Ψ = (nodupB (iosOf As) = true ∧ sat (aL As ρ) (fun a => ex (mkT As a.1 a.2) fun ts => satO (f ts) (fun t os => cps (putB As os a.2) fun ρ' => ΦT (t, ρ')) (fun x os => cps (putB As os a.2) fun ρ' => Ψ x ρ')) Ψ) := s_eCall f As
theorem m_set (i : Nat) : sat (sSet i F' ρ) ΦS Ψ = sat (F' ρ) (fun a => ex (setE a.2 i (some a.1)) fun ρ' => ΦS (.nx ρ')) Ψ := by rw [s_set]; congr 1; funext a; rw [ex_setE]
theorem m_setV (i : Nat) : sat (sSetV i F ρ) ΦS Ψ = sat (F ρ) (fun a => ex (setE a.2 i (some (.sh a.1))) fun ρ' => ΦS (.nx ρ')) Ψ := by rw [s_setV]; congr 1; funext a; rw [ex_setE]
theorem m_wipe (is : List Nat) : sat (sWipe is S ρ) ΦS Ψ = sat (S ρ) (fun f => match f with | .nx ρ => cps (wipeE is ρ) fun ρ' => ΦS (.nx ρ') | .bk ρ => cps (wipeE is ρ) fun ρ' => ΦS (.bk ρ') | .ct ρ => cps (wipeE is ρ) fun ρ' => ΦS (.ct ρ') | .rt t ρ => ΦS (.rt t ρ)) Ψ := by
  rw [s_wipe]; congr 1; funext f; cases f <;> rfl
theorem m_par (i j : Nat) : sat (sPar i F' j G' ρ) ΦS Ψ = sat (F' ρ) (fun a => rootT a.1 = true ∧ sat (G' a.2) (fun b => rootT b.1 = true ∧ ex (setE b.2 i (some a.1)) fun ρ1 => ex (setE ρ1 j (some b.1)) fun ρ2 => ΦS (.nx ρ2)) Ψ) Ψ := by
  rw [s_par]; congr 1; funext a; congr 1; congr 1; funext b
  rw [and_assoc, ex_setE, and_assoc]
  congr 1; congr 1
  rw [ex_setE]; simp
theorem m_gNm (i : Nat) (d : D) {Φ : Env → Prop} : ex (gNm i d ρ) Φ = ex (setE ρ i (some (.sh d))) Φ := by rw [ex_gNm, ex_setE]
theorem m_sFld (i : Nat) (k : Tx) : sat (sFld i k F ρ) ΦS Ψ = sat (F ρ) (fun a => ex (rcdOf a.2 i) fun fs => ex (getF fs k) fun t => match t with | .sh _ => fs.length < 1000 ∧ cps (setF fs k (.sh a.1)) fun fs' => cps (List.set a.2 i (some (.rcd fs'))) fun ρ' => ΦS (.nx ρ') | _ => False) Ψ := s_sFld i k
theorem m_gfix (i : Nat) (k : Tx) (j : Nat) (d : D) {Φ : Env → Prop} : ex (gFldIx i k j d ρ) Φ = ex (rcdOf ρ i) fun fs => ex (lkS ρ j) fun n => ex (intOf n) fun n => ex (getF fs k) fun t => match t with | .lst ds => (0 ≤ n ∧ n < ds.length) ∧ cps (setF fs k (.lst (ds.set n.toNat d))) fun fs' => cps (List.set ρ i (some (.rcd fs'))) Φ | _ => False := s_gfix i k j d
theorem m_fn (N n : Nat) (md : List Bool) (B : SM) (ts : List T) {Φ : T → Env → Prop} {Ψ : Exn → Env → Prop} : satO (fnOf N n md B ts) Φ Ψ = (ts.length = n ∧ cps (padE ts N) fun ρ => sat (B ρ) (fun f => match f with | .rt t ρ => cps (maskE md ρ) fun r => Φ t r | .nx ρ => cps (maskE md ρ) fun r => Φ (.sh .non) r | _ => False) (fun x ρ => cps (maskE md ρ) fun r => Ψ x r)) := by
  rw [satO_fn]
  by_cases h : ts.length = n
  · subst h
    rw [padE_eq]; rfl
  · simp [h]
variable {ΦR : List (Tx × T1) → Prop}
theorem c_sFC (a b t : T1) : cps (setF [([99, 101, 108, 108, 115], a), ([116, 117, 114, 110], b)] [99, 101, 108, 108, 115] t) ΦR = ΦR [([99, 101, 108, 108, 115], t), ([116, 117, 114, 110], b)] := rfl
theorem c_sFT (a b t : T1) : cps (setF [([99, 101, 108, 108, 115], a), ([116, 117, 114, 110], b)] [116, 117, 114, 110] t) ΦR = ΦR [([99, 101, 108, 108, 115], a), ([116, 117, 114, 110], t)] := rfl
end
/-- an item of a list at a place that is there -/
theorem atI_ok {α : Type} {xs : List α} {i : Int} (h : 0 ≤ i) (h' : i < xs.length) {Φ : α → Prop} (q : ∀ x, xs[i.toNat]? = some x → Φ x) : ex (atI xs i) Φ := by
  unfold atI ixN
  rw [if_pos h, if_pos h']
  show ex (xs[i.toNat]?) Φ
  rw [List.getElem?_eq_getElem (by omega)]
  exact q _ (List.getElem?_eq_getElem (by omega))
theorem map_true {o : Option D} {f : D → Bool} : (o.map f = some true) = ex o (fun d => f d = true) := by cases o <;> simp [ex]
theorem ex_and {o : Option D} {f : D → Prop} {Q : Prop} : (ex o f ∧ Q) = ex o (fun d => f d ∧ Q) := by cases o <;> simp [ex]
theorem m_eBM {Ψ : Exn → Env → Prop} {ρ : Env} {Φ : D × Env → Prop} {A : HM} (t : Ty) (f : D → List D → Option D) (As : List HM) : sat (eBM t f A As ρ) Φ Ψ = sat (A ρ) (fun a => ex (getH a.1 a.2) fun d0 => isTy t d0 = true ∧ sat (hL As a.2) (fun b => ex (getH a.1 b.2) fun d => ex (getL b.1 b.2) fun ds => ex (f d ds) fun r => Φ (r, b.2)) Ψ) Ψ := by
  rw [s_eBM]; congr 1; funext a; rw [map_true, ex_and]
theorem k_tyS (s : Tx) : (isTy .str (.str s) = true) = True := by simp [isTy]
theorem k_tyL (s : List D) : (isTy .lst (.lst s) = true) = True := by simp [isTy]
theorem k_tyR (s : List D) : (isTy .lst (.rol s) = true) = True := by simp [isTy]
theorem k_tyD (k : List DK) (s : List D) : (isTy .dct (.dct k s) = true) = True := by simp [isTy]
theorem cmp_i {own : List Nat} {g : GM} {C : BM} {F : EM} {Φ : T × Env → Prop} {Ψ : Exn → Env → Prop} (Inv : Nat → List D → Env → Prop) {xs : List D} {ρ : Env} (hl : xs.length ≤ 1000000) (h0 : Inv 0 [] ρ)
    (step : ∀ i x acc ρ, xs[i]? = some x → acc.length ≤ i → Inv i acc ρ → cps (wipeE own ρ) fun ρ0 => ex (g x ρ0) fun ρ1 => sat (C ρ1) (fun b => (b.1 = true → sat (F b.2) (fun d => cps (backE own ρ d.2) fun ρ2 => Inv (i + 1) (acc ++ [d.1]) ρ2) (fun _ _ => False)) ∧ (b.1 = false → cps (backE own ρ b.2) fun ρ2 => Inv (i + 1) acc ρ2)) (fun _ _ => False))
    (hend : ∀ acc ρ, acc.length ≤ xs.length → Inv xs.length acc ρ → Φ (.lst acc, ρ)) : sat (cmpL own g C F xs [] ρ) Φ Ψ := cmp_inv Inv hl h0 step hend
theorem atI_nat' {α : Type} {xs : List α} {k : Nat} (h : k < xs.length) : atI xs (k : Int) = xs[k]? := by
  unfold atI ixN
  rw [if_pos (by omega), if_pos (by omega)]
  show xs[(k : Int).toNat]? = _
  rw [Int.toNat_natCast]
theorem x_at0 {α : Type} (x : α) (l : List α) {Φ : α → Prop} : ex (atI (x :: l) 0) Φ = Φ x := by
  have : atI (x :: l) ((0 : Nat) : Int) = some x := atI_nat' (by simp)
  rw [show (0 : Int) = ((0 : Nat) : Int) from rfl, this]; rfl
theorem x_at1 {α : Type} (x y : α) (l : List α) {Φ : α → Prop} : ex (atI (x :: y :: l) 1) Φ = Φ y := by
  have : atI (x :: y :: l) ((1 : Nat) : Int) = some y := atI_nat' (by simp)
  rw [show (1 : Int) = ((1 : Nat) : Int) from rfl, this]; rfl
theorem x_at2 {α : Type} (x y z : α) (l : List α) {Φ : α → Prop} : ex (atI (x :: y :: z :: l) 2) Φ = Φ z := by
  have : atI (x :: y :: z :: l) ((2 : Nat) : Int) = some z := atI_nat' (by simp)
  rw [show (2 : Int) = ((2 : Nat) : Int) from rfl, this]; rfl
theorem okMul_l {i j : Int} (h : -18446744073709551616 < i) (h' : i < 18446744073709551616) : okMul i j = true := by unfold okMul; simp [h, h']
theorem okMul_r {i j : Int} (h : -18446744073709551616 < j) (h' : j < 18446744073709551616) : okMul i j = true := by unfold okMul; simp [h, h']
end Od
namespace Od
open PySem PySem.Spec L2
open PyProof.Rows hiding St cutD
/-! ### equality of data -/
theorem eqB_refl {d : D} (h : d.ok = true) : D.eqB d d = true := PySem.SeqAt.eqv_refl d.py (py_ok d h).1
def dOk (d : D) : Prop := d.ok = true ∧ d.dep ≤ 60
theorem okCmp_of {d e : D} (h : dOk d) (h' : dOk e) : okCmp d e = true := by unfold okCmp; simp [h.1, h.2, h'.1, h'.2]
theorem fEq_lst {a b : List D} (h : dOk (.lst a)) (h' : dOk (.lst b)) : fEq (.lst a) (.lst b) = some (D.eqB (.lst a) (.lst b)) := by
  show (if okCmp _ _ then _ else _) = _
  rw [okCmp_of h h']; rfl
theorem fNe_lst {a b : List D} (h : dOk (.lst a)) (h' : dOk (.lst b)) : fNe (.lst a) (.lst b) = some (!D.eqB (.lst a) (.lst b)) := by unfold fNe; rw [fEq_lst h h']; rfl
theorem fNe_self {a : List D} (h : dOk (.lst a)) {Φ : Bool → Prop} (q : Φ false) : ex (fNe (.lst a) (.lst a)) Φ := by rw [fNe_lst h h, eqB_refl h.1]; exact q
theorem okL_map {α : Type} {f : α → D} : ∀ {xs : List α}, (∀ x ∈ xs, (f x).ok = true) → D.okL (xs.map f) = true
  | [], _ => rfl
  | x :: xs, h => by
    simp only [List.map_cons]
    unfold D.okL
    rw [h x List.mem_cons_self, okL_map (fun y hy => h y (List.mem_cons_of_mem _ hy))]; rfl
theorem depL_map {α : Type} {f : α → D} {k : Nat} : ∀ {xs : List α}, (∀ x ∈ xs, (f x).dep ≤ k) → D.depL (xs.map f) ≤ k
  | [], _ => Nat.zero_le k
  | x :: xs, h => by
    simp only [List.map_cons]
    unfold D.depL
    have h1 := h x List.mem_cons_self
    have h2 := depL_map (k := k) (fun y hy => h y (List.mem_cons_of_mem _ hy))
    omega
theorem dOk_lst {α : Type} {f : α → D} {xs : List α} {k : Nat} (h : ∀ x ∈ xs, (f x).ok = true) (h' : ∀ x ∈ xs, (f x).dep ≤ k) (hk : k < 60) : dOk (.lst (xs.map f)) := by
  refine ⟨by unfold D.ok; exact okL_map h, ?_⟩
  unfold D.dep
  have := depL_map h'
  omega
theorem ok_str {s : Tx} {n : Nat} (h : ∀ c ∈ s, c ≤ n) (hn : n < 1114112) : (D.str s).ok = true := by
  unfold D.ok
  rw [List.all_eq_true]
  intro c hc
  have := h c hc
  simp; omega
theorem dOk_nil : dOk (.lst []) := ⟨by decide, by decide⟩
theorem fEq_nil {a : List D} (h : dOk (.lst a)) {Φ : Bool → Prop} (q : Φ a.isEmpty) : ex (fEq (.lst a) (.lst [])) Φ := by
  rw [fEq_lst h dOk_nil]
  cases a <;> exact q
section
variable {ΦB : Bool → Prop}
theorem x_isi_int_non : ex (kdAny [.int] .non) ΦB = ΦB false := rfl
theorem x_isi_int_bl (b : Bool) : ex (kdAny [.int] (.bl b)) ΦB = ΦB true := rfl
theorem x_isi_int_int (i : Int) : ex (kdAny [.int] (.int i)) ΦB = ΦB true := rfl
theorem x_isi_int_str (s : Tx) : ex (kdAny [.int] (.str s)) ΦB = ΦB false := rfl
theorem x_isi_int_tup (ds : List D) : ex (kdAny [.int] (.tup ds)) ΦB = ΦB false := rfl
theorem x_isi_int_lst (ds : List D) : ex (kdAny [.int] (.lst ds)) ΦB = ΦB false := rfl
theorem x_isi_int_dct (ks : List DK) (ds : List D) : ex (kdAny [.int] (.dct ks ds)) ΦB = ΦB false := rfl
theorem x_isi_bool_non : ex (kdAny [.bool] .non) ΦB = ΦB false := rfl
theorem x_isi_bool_bl (b : Bool) : ex (kdAny [.bool] (.bl b)) ΦB = ΦB true := rfl
theorem x_isi_bool_int (i : Int) : ex (kdAny [.bool] (.int i)) ΦB = ΦB false := rfl
theorem x_isi_bool_str (s : Tx) : ex (kdAny [.bool] (.str s)) ΦB = ΦB false := rfl
theorem x_isi_bool_tup (ds : List D) : ex (kdAny [.bool] (.tup ds)) ΦB = ΦB false := rfl
theorem x_isi_bool_lst (ds : List D) : ex (kdAny [.bool] (.lst ds)) ΦB = ΦB false := rfl
theorem x_isi_bool_dct (ks : List DK) (ds : List D) : ex (kdAny [.bool] (.dct ks ds)) ΦB = ΦB false := rfl
theorem x_isi_str_non : ex (kdAny [.str] .non) ΦB = ΦB false := rfl
theorem x_isi_str_bl (b : Bool) : ex (kdAny [.str] (.bl b)) ΦB = ΦB false := rfl
theorem x_isi_str_int (i : Int) : ex (kdAny [.str] (.int i)) ΦB = ΦB false := rfl
theorem x_isi_str_str (s : Tx) : ex (kdAny [.str] (.str s)) ΦB = ΦB true := rfl
theorem x_isi_str_tup (ds : List D) : ex (kdAny [.str] (.tup ds)) ΦB = ΦB false := rfl
theorem x_isi_str_lst (ds : List D) : ex (kdAny [.str] (.lst ds)) ΦB = ΦB false := rfl
theorem x_isi_str_dct (ks : List DK) (ds : List D) : ex (kdAny [.str] (.dct ks ds)) ΦB = ΦB false := rfl
theorem x_isi_list_non : ex (kdAny [.list] .non) ΦB = ΦB false := rfl
theorem x_isi_list_bl (b : Bool) : ex (kdAny [.list] (.bl b)) ΦB = ΦB false := rfl
theorem x_isi_list_int (i : Int) : ex (kdAny [.list] (.int i)) ΦB = ΦB false := rfl
theorem x_isi_list_str (s : Tx) : ex (kdAny [.list] (.str s)) ΦB = ΦB false := rfl
theorem x_isi_list_tup (ds : List D) : ex (kdAny [.list] (.tup ds)) ΦB = ΦB false := rfl
theorem x_isi_list_lst (ds : List D) : ex (kdAny [.list] (.lst ds)) ΦB = ΦB true := rfl
theorem x_isi_list_dct (ks : List DK) (ds : List D) : ex (kdAny [.list] (.dct ks ds)) ΦB = ΦB false := rfl
theorem x_isi_tuple_non : ex (kdAny [.tuple] .non) ΦB = ΦB false := rfl
theorem x_isi_tuple_bl (b : Bool) : ex (kdAny [.tuple] (.bl b)) ΦB = ΦB false := rfl
theorem x_isi_tuple_int (i : Int) : ex (kdAny [.tuple] (.int i)) ΦB = ΦB false := rfl
theorem x_isi_tuple_str (s : Tx) : ex (kdAny [.tuple] (.str s)) ΦB = ΦB false := rfl
theorem x_isi_tuple_tup (ds : List D) : ex (kdAny [.tuple] (.tup ds)) ΦB = ΦB true := rfl
theorem x_isi_tuple_lst (ds : List D) : ex (kdAny [.tuple] (.lst ds)) ΦB = ΦB false := rfl
theorem x_isi_tuple_dct (ks : List DK) (ds : List D) : ex (kdAny [.tuple] (.dct ks ds)) ΦB = ΦB false := rfl
theorem x_isi_dict_non : ex (kdAny [.dict] .non) ΦB = ΦB false := rfl
theorem x_isi_dict_bl (b : Bool) : ex (kdAny [.dict] (.bl b)) ΦB = ΦB false := rfl
theorem x_isi_dict_int (i : Int) : ex (kdAny [.dict] (.int i)) ΦB = ΦB false := rfl
theorem x_isi_dict_str (s : Tx) : ex (kdAny [.dict] (.str s)) ΦB = ΦB false := rfl
theorem x_isi_dict_tup (ds : List D) : ex (kdAny [.dict] (.tup ds)) ΦB = ΦB false := rfl
theorem x_isi_dict_lst (ds : List D) : ex (kdAny [.dict] (.lst ds)) ΦB = ΦB false := rfl
theorem x_isi_dict_dct (ks : List DK) (ds : List D) : ex (kdAny [.dict] (.dct ks ds)) ΦB = ΦB true := rfl
theorem x_isi_listtuple_non : ex (kdAny [.list, .tuple] .non) ΦB = ΦB false := rfl
theorem x_isi_listtuple_bl (b : Bool) : ex (kdAny [.list, .tuple] (.bl b)) ΦB = ΦB false := rfl
theorem x_isi_listtuple_int (i : Int) : ex (kdAny [.list, .tuple] (.int i)) ΦB = ΦB false := rfl
theorem x_isi_listtuple_str (s : Tx) : ex (kdAny [.list, .tuple] (.str s)) ΦB = ΦB false := rfl
theorem x_isi_listtuple_tup (ds : List D) : ex (kdAny [.list, .tuple] (.tup ds)) ΦB = ΦB true := rfl
theorem x_isi_listtuple_lst (ds : List D) : ex (kdAny [.list, .tuple] (.lst ds)) ΦB = ΦB true := rfl
theorem x_isi_listtuple_dct (ks : List DK) (ds : List D) : ex (kdAny [.list, .tuple] (.dct ks ds)) ΦB = ΦB false := rfl
end
mutual
def gdD : D → Bool
  | .tup ds => gdL ds
  | .lst ds => gdL ds
  | .rol _ => false
  | .dct _ _ => false
  | .exn _ _ _ => false
  | .obj _ _ _ => false
  | .fn _ => false
  | _ => true
def gdL : List D → Bool
  | [] => true
  | d :: ds => gdD d && gdL ds
end
theorem gdL_mem : ∀ {ds : List D}, gdL ds = true → ∀ d ∈ ds, gdD d = true
  | [], _, d, h => by cases h
  | e :: ds, h, d, hd => by
    unfold gdL at h
    rw [Bool.and_eq_true] at h
    rcases List.mem_cons.mp hd with rfl | hd
    · exact h.1
    · exact gdL_mem h.2 d hd
theorem depL_mem : ∀ {ds : List D}, ∀ d ∈ ds, d.dep ≤ D.depL ds
  | [], d, h => by cases h
  | e :: ds, d, hd => by
    unfold D.depL
    rcases List.mem_cons.mp hd with rfl | hd
    · omega
    · have := depL_mem d hd; omega
mutual
def szD : D → Bool
  | .tup ds => decide (ds.length ≤ 1000000) && szL ds
  | .lst ds => decide (ds.length ≤ 1000000) && szL ds
  | _ => true
def szL : List D → Bool
  | [] => true
  | d :: ds => szD d && szL ds
end
theorem szL_mem : ∀ {ds : List D}, szL ds = true → ∀ d ∈ ds, szD d = true
  | [], _, d, h => by cases h
  | e :: ds, h, d, hd => by
    unfold szL at h
    rw [Bool.and_eq_true] at h
    rcases List.mem_cons.mp hd with rfl | hd
    · exact h.1
    · exact szL_mem h.2 d hd
end Od
namespace Od
open PySem PySem.Spec L2
open PyProof.Rows hiding St cutD
/-! ### x[e] as a target, x a list of the variable's own -/
theorem lkL_some {ρ : Env} {i : Nat} {ds : List D} (h : lkL ρ i = some ds) : ρ[i]? = some (some (.lst ds)) := by
  unfold lkL at h
  split at h
  · rename_i e; cases h; exact e
  · cases h
section
variable {X : Cx} {i : Nat} {x : Str} {p1 pos : Pos} {e : Expr} {B : EM} {sl : List Nat}
end
/-! ### xs[::-1] -/
section
variable {X : Cx} {E : WX} {e : Expr} {A : HM} {k : Nat} {p1 p2 p3 pos : Pos}
end
end Od
namespace Od
open PySem PySem.Spec L2 PySem.W PySem
open PyProof.Rows hiding St cutD
/-! ### min of a list of pairs of ints -/
end Od
namespace Od
open PySem PySem.Spec L2
open PyProof.Rows hiding St cutD
section
variable {Ψ : Exn → Env → Prop} {ρ : Env} {ΦT : T × Env → Prop} {ΦL : List D → Prop} {ΦM : List D × D → Prop} {ΦB : Bool → Prop} {A : HM} {F : EM}
theorem s_iTup {Φ : List D × Env → Prop} : sat (iTupD F ρ) Φ Ψ = sat (F ρ) (fun a => match a.1 with | .tup ds => Φ (ds, a.2) | _ => False) Ψ := by
  unfold iTupD; rw [sat_bind]; congr 1; funext a; cases a.1 <;> rfl
end
theorem inL_strs (s : Tx) (ss : List Tx) : inL (.str s) (ss.map .str) = some (ss.contains s) := by
  unfold inL
  have h : ((D.str s).flat && (ss.map D.str).all D.flat) = true := by simp [D.flat]
  rw [if_pos h]
  congr 1
  induction ss with
  | nil => rfl
  | cons x xs ih =>
    have h2 : ((D.str s).flat && (xs.map D.str).all D.flat) = true := by simp [D.flat]
    simp only [List.map_cons, List.any_cons, List.contains_cons, ih h2]
    congr 1
    simp only [D.flatEq]
    exact BEq.comm
end Od
namespace Od
open PySem PySem.Spec L2
open PyProof.Rows hiding St cutD
/-! ### dict(xs) of a list of pairs of unlike keys -/
def keyD : D → Option DK
  | .int i => some (.inl i)
  | .str s => some (.inr s)
  | _ => none
def pairD : D → Option (DK × D)
  | .tup [k, v] => (keyD k).map fun k => (k, v)
  | _ => none
def pairsD : List D → Option (List (DK × D))
  | [] => some []
  | d :: ds => (pairD d).bind fun p => (pairsD ds).map (p :: ·)
def fDict : List D → Option D
  | [.lst ds] => (pairsD ds).bind fun ps => if (ps.map Prod.fst).Nodup then some (.dct (ps.map Prod.fst) (ps.map Prod.snd)) else none
  | [.fn ds] => (pairsD ds).bind fun ps => if (ps.map Prod.fst).Nodup then some (.dct (ps.map Prod.fst) (ps.map Prod.snd)) else none
  | _ => none
/-- a list, or a tuple whose object is known -/
def SqK (K : PySem.W.Frag) (H : Hp) (a : Addr) (xs : List V) : Prop := SqL K H a xs ∨ ∃ o, H a = some (.frz o (.tup xs)) ∧ o.dict = none
theorem pv_of {h : Heap} : ∀ {ps : List Addr} {prs : List (Key × Value)}, prs.length = ps.length → (∀ (j : Nat) (q : Key × Value), prs[j]? = some q → ∃ (b : Addr) (u : Value), ps[j]? = some b ∧ IsTup h b #[u, q.2] ∧ keyIs q.1 u = true) →
    ∃ pv : List (Value × Value), pv.length = ps.length ∧ ∀ (j : Nat) (k v : Value), pv[j]? = some (k, v) → ∃ (b : Addr) (q : Key × Value), ps[j]? = some b ∧ prs[j]? = some q ∧ q.2 = v ∧ IsTup h b #[k, v] ∧ keyIs q.1 k = true
  | [], prs, hl, _ => ⟨[], rfl, fun j k v e => by simp at e⟩
  | p :: ps, [], hl, _ => by simp at hl
  | p :: ps, q :: prs, hl, hp => by
    obtain ⟨pv, h1, h2⟩ := pv_of (ps := ps) (prs := prs) (by simpa using hl) fun j q e => by
      obtain ⟨b, u, e1, e2⟩ := hp (j + 1) q (by simpa using e)
      exact ⟨b, u, by simpa using e1, e2⟩
    obtain ⟨b, u, e1, e2, e3⟩ := hp 0 q rfl
    refine ⟨(u, q.2) :: pv, by simp [h1], fun j k v e => ?_⟩
    cases j with
    | zero =>
      simp only [List.getElem?_cons_zero, Option.some.injEq, Prod.mk.injEq] at e
      obtain ⟨rfl, rfl⟩ := e
      exact ⟨b, q, e1, rfl, rfl, e2, e3⟩
    | succ j =>
      obtain ⟨b', q', f1, f2, f3⟩ := h2 j k v (by simpa using e)
      exact ⟨b', q', by simpa using f1, by simpa using f2, f3⟩
theorem call_dictQ {X : Cx} (hcalm : X.calm = true) : CallR X (.type "dict") (fun xs H Q => ∃ (a : Addr) (ps : List Addr) (kvs : List (Key × V)), xs = [.ref a] ∧ SqK X.K H a (ps.map V.ref) ∧ Paired (fun p kv => SqT X.K H p [kV kv.1, kv.2]) ps kvs ∧
    ∀ p, H p = none → Q (.ref p) (upd H p (.dK (mergeK [] kvs)))) := by
  intro pins s σ H xs us Q I r q
  obtain ⟨a, ps, kvs, ex, hq, hp, q⟩ := q
  rcases hq with hq | ⟨o, hq, hnd⟩
  · exact call_dictP hcalm pins s σ H xs us Q I r ⟨a, ps, kvs, ex, hq, hp, q⟩
  subst ex
  obtain ⟨u, eu, rx⟩ := vals1 r
  subst eu
  cases rx
  obtain ⟨ho, hz, its, rv, o', ho', hc, n, hdat⟩ := I.hok a _ hq
  rw [ho] at ho'
  cases ho'
  have ei := refs_at rv
  subst ei
  rw [List.length_map] at hz
  obtain ⟨prs, rel, hl, hpr⟩ := pairs_of I hp
  obtain ⟨pv, hv1, hv2⟩ := pv_of hl hpr
  refine PySem.call_dict_pairs (knd := mixKind X.prog X.w) (kvs := prs) (PairArg.tuple a (ps.map Value.ref).toArray (fun j => (ps[j]?).getD 0) pv) (I.ok.hd hcalm) ⟨⟨o, n, ho, hc, hnd, hdat⟩, by simp [hv1], fun j k v e => ?_⟩ ⟨by omega, fun i key v e => ?_⟩ (by omega) fun h' tk hd' k => ?_
  · obtain ⟨b, q', f1, f2, f3, f4, f5⟩ := hv2 j k v e
    refine ⟨by simp [f1], .inl ?_⟩
    show s.heap.IsTuple ((ps[j]?).getD 0) #[k, v]
    rw [f1]
    exact f4
  · obtain ⟨b, q', f1, f2, f3, f4, f5⟩ := hv2 i key v e
    exact ⟨q'.1, by rw [f2, ← f3], f5⟩
  · have hm : (s.heap.objs.size == sysModules) = false := beq_eq_false_iff_ne.mpr (Nat.ne_of_gt I.big)
    have hlen : (mergeK [] kvs).length ≤ sizeLine := by
      refine Nat.le_trans (length_mergeK kvs []) ?_
      rw [List.length_nil, Nat.zero_add, rel.length, hl]
      exact hz
    exact ⟨.ref s.heap.objs.size, upd H s.heap.objs.size (.dK (mergeK [] kvs)), I.laid (t' := tk) (fun b o e => k b o (by simp) e) (Nat.le_refl _) (show ObjOk X.prog X.w _ _ _ (.dK (mergeK [] kvs)) from ⟨hlen, hm, merged [] prs, KV.merge rel .nil, hd'⟩), rfl, q _ (I.hok.fresh (Nat.le_refl _))⟩
section
variable {K : PySem.W.Frag} {P H : Hp}
theorem keyD_den {d : D} {k : DK} {v : V} (h : keyD d = some k) (l : Den K P d v) : v = kV (kK k) := by
  cases d <;> simp only [keyD, Option.some.injEq, reduceCtorEq] at h <;> subst h <;> unfold Den at l <;> exact l
theorem pairsD_den : ∀ {ds : List D} {ps : List (DK × D)} {vs : List V}, Same P H → pairsD ds = some ps → DenL K P ds vs → ∃ (as : List Addr) (kvs : List (Key × V)), vs = as.map V.ref ∧ Paired (fun p kv => SqT K H p [kV kv.1, kv.2]) as kvs ∧ kvs.map Prod.fst = (ps.map Prod.fst).map kK ∧ DenL K P (ps.map Prod.snd) (kvs.map Prod.snd)
  | [], ps, vs, s, h, l => by
    cases h
    cases l
    exact ⟨[], [], rfl, .nil, rfl, rfl⟩
  | d :: ds, ps, vs, s, h, l => by
    obtain ⟨p, h1, h⟩ := Option.bind_eq_some_iff.mp h
    obtain ⟨qs, h2, rfl⟩ := Option.map_eq_some_iff.mp h
    obtain ⟨v, r, rfl, hd, hr⟩ := l
    obtain ⟨as, kvs, rfl, hp, hk, hv⟩ := pairsD_den s h2 hr
    unfold pairD at h1
    split at h1
    · rename_i k w
      obtain ⟨k', hk', rfl⟩ := Option.map_eq_some_iff.mp h1
      unfold Den at hd
      obtain ⟨a, ws, rfl, hs, hl⟩ := hd
      obtain ⟨v1, r1, rfl, d1, hl⟩ := hl
      obtain ⟨v2, r2, rfl, d2, hl⟩ := hl
      cases hl
      have := keyD_den hk' d1
      subst this
      refine ⟨a :: as, (kK k', v2) :: kvs, rfl, .cons (same_t s hs) hp, ?_, ?_⟩
      · simp only [List.map_cons]; rw [hk]
      · exact DenL.cons d2 hv
    · cases h1
theorem putK_new {kvs : List (Key × V)} {k : Key} {v : V} (h : k ∉ kvs.map Prod.fst) : putK kvs k v = kvs ++ [(k, v)] := by
  unfold putK
  rw [if_neg]
  intro z
  obtain ⟨p, hp, e⟩ := List.any_eq_true.mp z
  exact h (List.mem_map.mpr ⟨p, hp, by simpa using e⟩)
theorem mergeK_new : ∀ (more kvs : List (Key × V)), ((kvs ++ more).map Prod.fst).Nodup → mergeK kvs more = kvs ++ more
  | [], kvs, _ => by simp [mergeK]
  | p :: more, kvs, h => by
    show mergeK (putK kvs p.1 p.2) more = _
    have hn : p.1 ∉ kvs.map Prod.fst := fun z => by
      rw [List.map_append, List.nodup_append] at h
      exact h.2.2 _ z _ (by simp) rfl
    rw [putK_new hn, mergeK_new more (kvs ++ [(p.1, p.2)]) (by simpa using h)]
    simp
theorem f_dict : CbV K (fun xs H Q => ∃ (a : Addr) (ps : List Addr) (kvs : List (Key × V)), xs = [.ref a] ∧ SqK K H a (ps.map V.ref) ∧ Paired (fun p kv => SqT K H p [kV kv.1, kv.2]) ps kvs ∧
    ∀ p, H p = none → Q (.ref p) (upd H p (.dK (mergeK [] kvs)))) fDict := by
  intro P H vs ds res Q s v hf q
  have go : ∀ (es : List D) (a : Addr) (vs : List V), SqK K H a vs → DenL K P es vs → ((pairsD es).bind fun ps => if (ps.map Prod.fst).Nodup then some (D.dct (ps.map Prod.fst) (ps.map Prod.snd)) else none) = some res →
      ∃ (b : Addr) (ps : List Addr) (kvs : List (Key × V)), [V.ref a] = [.ref b] ∧ SqK K H b (ps.map V.ref) ∧ Paired (fun p kv => SqT K H p [kV kv.1, kv.2]) ps kvs ∧ ∀ p, H p = none → Q (.ref p) (upd H p (.dK (mergeK [] kvs))) := by
    intro es a vs e l hf
    obtain ⟨ps, h1, hf⟩ := Option.bind_eq_some_iff.mp hf
    split at hf
    · rename_i nd
      cases hf
      obtain ⟨as, kvs, rfl, hp, hk, hv⟩ := pairsD_den s h1 l
      refine ⟨a, as, kvs, rfl, e, hp, fun p n => ?_⟩
      have hm : mergeK [] kvs = kvs := mergeK_new kvs [] (by
        show (kvs.map Prod.fst).Nodup
        rw [hk]
        exact List.Pairwise.map kK (fun _ _ z y => z (kK_inj y)) nd)
      rw [hm]
      have al := Al.new (o := HO.dK kvs) s n
      exact q _ _ _ al (by unfold Den; exact ⟨p, kvs, rfl, upd_same, hk, DenL.mono al.2.1 _ _ hv⟩)
    · cases hf
  unfold fDict at hf
  split at hf
  · rename_i es
    obtain ⟨v, rfl, h⟩ := vl1 v
    obtain ⟨a, vs, rfl, e, l⟩ := vlst h
    exact go es a vs (.inl (SqL.of e)) l hf
  · rename_i es
    obtain ⟨v', rfl, h⟩ := vl1 v
    have h : Den K P (.fn es) v' := h
    unfold Den at h
    obtain ⟨a, vs, rfl, ⟨o, e, n⟩, l⟩ := h
    exact go es a vs (.inr ⟨o, s a _ e, n⟩) l hf
  · cases hf
end
/-! ### a statement that no run comes to -/
/-! ### reading a dict of texts -/
theorem kLook_strs (ns : List Tx) (vs : List D) (s : Tx) : kLook (ns.map .inr) vs (.inr s) = ((ns.zip vs).find? fun p => decide (p.1 = s)).map Prod.snd := by
  unfold kLook
  rw [List.zip_map_left, List.find?_map, Option.map_map]
  congr 1
  refine congrArg (fun f => List.find? f (ns.zip vs)) ?_
  funext p
  simp
end Od
namespace Od
open PySem PySem.Spec L2
open PyProof.Rows hiding St cutD
/-! ### s.startswith(t, at) -/
end Od
namespace Od
open PySem PySem.Spec L2
open PyProof.Rows hiding St cutD
/-! ### exceptions of the program's own classes -/
/-- what the written part says of such a class -/
structure ErrC (K : PySem.W.Frag) (C : Addr) : Prop where
  o : OexC K C
  ga : PySem.W.findIn K (.ref C) "__getattribute__" = some (some (.builtin "BaseException.__getattribute__"))
  gg : PySem.W.findIn K (.ref C) "__getattr__" = some none
  hd : PySem.W.hasDictIn K C = true
  ca : PySem.W.findIn K (.ref C) "__class__" = some (some (.builtin "object.__class__"))
  cm : PySem.W.mroIn K C (.type "object") = some true
structure ObjCls (K : PySem.W.Frag) : Prop where
  cg : PySem.W.specialIn K (.builtin "object.__class__") "__get__" = some (some (.builtin "getset_descriptor.__get__"))
  ct : PySem.W.takesIn K (.builtin "object.__class__") = some true
def subE (x y : Tx) : Bool := decide (x = y) || decide (y = [79, 100, 100, 69, 114, 114, 111, 114]) || decide (y = [86, 97, 108, 117, 101, 69, 114, 114, 111, 114])
/-- the classes that are raised (rs) and asked for (ts) -/
structure Errs (K : PySem.W.Frag) (mg : Str → Option Value) (rs ts fl : List Tx) : Prop where
  at_ : ∀ x ∈ rs, ∃ C, Top K x C ∧ mg (sT x) = some (.ref C) ∧ ErrC K C
  ask : ∀ y ∈ ts, ∃ D, Top K y D ∧ mg (sT y) = some (.ref D) ∧ PySem.W.subIn K (.ref D) (.type "BaseException") = some true ∧ PySem.W.typeIn K (.ref D) = some (.type "type") ∧ PySem.W.hasDictIn K D = true
  sub : ∀ x ∈ rs, ∀ y ∈ ts, ∀ C D, Top K x C → Top K y D → PySem.W.subIn K (.ref C) (.ref D) = some (subE x y)
  ve : ∀ x ∈ rs, ∀ C, Top K x C → PySem.W.subIn K (.ref C) (.type "ValueError") = some true
  nf : ∀ x ∈ rs, ∀ f ∈ fl, ∀ C, Top K x C → PySem.W.findIn K (.ref C) (sT f) = some none
  oc : ObjCls K
theorem top_inj {K : PySem.W.Frag} {x : Tx} {a b : Addr} (h : Top K x a) (h' : Top K x b) : a = b := by
  unfold Top at h h'
  rw [h] at h'
  cases h'; rfl
theorem own_typed {K : PySem.W.Frag} {D : Addr} (h2 : PySem.W.hasDictIn K D = true) (h1 : PySem.W.typeIn K (.ref D) = some (.type "type")) : ((PySem.W.clsIn K D).isSome && PySem.W.typeIn K (.ref D) == some (.type "type")) = true := by
  obtain ⟨cd, hc, _⟩ := PySem.W.any_some h2
  rw [hc, h1]; rfl
theorem Errs.kit {K : PySem.W.Frag} {mg : Str → Option Value} {rs ts fl : List Tx} (S : Errs K mg rs ts fl) {x y : Tx} (hx : x ∈ rs) (hy : y ∈ ts) {C D : Addr} (tx : Top K x C) (ty : Top K y D) : PySem.W.kitOne K (.ref C) (.ref D) = some (subE x y) := by
  have e := S.sub x hx y hy C D tx ty
  unfold PySem.W.kitOne
  by_cases q : (Value.ref C == Value.ref D) = true
  · rw [if_pos q]
    obtain ⟨D', h0, _, h1, h2, h3⟩ := S.ask y hy
    obtain rfl := top_inj h0 ty
    have : C = D' := Value.ref.inj (beq_iff_eq.mp q)
    subst this
    rw [← e]
    obtain ⟨C', g0, _, g⟩ := S.at_ x hx
    obtain rfl := top_inj g0 tx
    obtain ⟨nm, qn, N, bs, bm, sn, sub, ab, col, dd, k0, k1, k2, k3, k5, hC, hbm⟩ := g.o.cls
    have hcl : PySem.W.clsIn K C' = some { name := nm, bases := bs, mro := .ref C' :: bm, ns := N, qualname := qn, hasDict := true, slotNames := sn, subclasses := sub, abstract := ab, collection := col, hasDel := false } := by unfold PySem.W.clsIn; rw [hC] <;> rfl
    show some true = PySem.W.mroIn K C' (.ref C')
    unfold PySem.W.mroIn
    rw [hcl]
    simp
  · rw [if_neg q]
    obtain ⟨D', h0, _, h1, h2, h3⟩ := S.ask y hy
    obtain rfl := top_inj h0 ty
    show (if _ then _ else _) = _
    rw [if_pos (own_typed h3 h2)]
    exact e
theorem Errs.exm {K : PySem.W.Frag} {mg : Str → Option Value} {rs ts fl : List Tx} (S : Errs K mg rs ts fl) {x y : Tx} (hx : x ∈ rs) (hy : y ∈ ts) {C D : Addr} (tx : Top K x C) (ty : Top K y D) : PySem.W.exmOne K (.ref C) (.ref D) = some (subE x y) := by
  obtain ⟨D', h0, _, h1, h2, h3⟩ := S.ask y hy
  obtain rfl := top_inj h0 ty
  unfold PySem.W.exmOne
  rw [if_pos (by rw [h1]; rfl)]
  show (if _ then _ else _) = _
  rw [if_pos (own_typed h3 h2)]
  exact S.sub x hx y hy C D' tx ty
theorem Errs.kitV {K : PySem.W.Frag} {mg : Str → Option Value} {rs ts fl : List Tx} (S : Errs K mg rs ts fl) {x : Tx} (hx : x ∈ rs) {C : Addr} (tx : Top K x C) : PySem.W.kitOne K (.ref C) (.type "ValueError") = some true := by
  unfold PySem.W.kitOne
  by_cases q : (Value.ref C == Value.type "ValueError") = true
  · rw [if_pos q]
  · rw [if_neg q]
    show (if PySem.W.kitMeta "ValueError" = true then PySem.W.subIn K (.ref C) (.type "ValueError") else none) = _
    rw [if_pos (by decide +kernel)]
    exact S.ve x hx C tx
/-! ### OddError.__init__(self, ..), read off the class -/
section
variable {X : Cx} {e : Expr} {es : List Expr} {ta : TA} {x : Str} {O : Addr} {mc : Value} {p1 p2 pos : Pos}
theorem pe_oinit {pl : Sem Bool} (hg : Gl X x) (hm : X.mg x = some (.ref O)) (sg : PySem.W.specialIn X.K (.ref O) "__getattribute__" = some (some (.builtin "type.__getattribute__"))) (rd : PySem.W.readsIn X.K O mc = true)
    (fi : PySem.W.findCls X.K (.ref O) mc "__init__" = some (.val (.builtin "ValueError.__init__"))) (ha : PA X (e :: es) ta)
    (hc : eval (.Call (.Attribute (.Name x p1) "__init__" p2) (e :: es) [] pos) X.env = (do
      let ov ← eval (.Name x p1) X.env
      standAt p2.atName
      let (f, first) ← holding [ov] (getMethod ov "__init__" pl)
      callWith pos f first (backTo pos (starEach (e :: es) X.env)) (backToKw pos (keywordEach [] X.env))) := by rfl)
    (hdb : (x == ("__debug__" : Str)) = false := by decide)
    (he : starEach (e :: es) X.env = (false, eval e X.env) :: starEach es X.env := by rfl) (hpl : (backTo pos (starEach es X.env)).any (·.1) = false := by rfl) :
    PE X (.Call (.Attribute (.Name x p1) "__init__" p2) (e :: es) [] pos) (tVeI X.K ta) := by
  refine ⟨fun pins s σ H Q I h => ?_⟩
  refine PySem.W.methodCall_KW (ld_glob I hg hm ?_ hdb) hc
  refine PySem.W.method_cls I.kIn sg (PySem.W.cls_value I.kIn rd fi (by decide +kernel) ?_)
  show wpAny _ _ (callWith pos (Value.builtin "ValueError.__init__") [] (backTo pos (starEach (e :: es) X.env)) []) _ _ _
  refine PyProof.Rows.callWith_method1 (thn (ha.run pos pins _ σ H _ (I.tok _) h) fun us s1 ⟨vs, H1, I1, r1, a, C, ws, ev, hl, T, ea, q⟩ => ?_) he hpl
  subst ev
  cases r1 with
  | @cons _ u0 _ ur ra rw' =>
    obtain rfl : u0 = Value.ref a := ra
    have hlen : ur.length ≤ sizeLine := by
      rw [← Paired.length rw', sizeLine_eq]
      omega
    exact oinit_ok T I1 ea hlen fun s' J => ⟨.non, H1, J, rfl, q⟩
end
/-- __init__(self, f) of such a class -/
def spInit (K : PySem.W.Frag) (C : Addr) (f : Str) : Sp := fun vs H Q _ => ∃ (a : Addr) (v : V), vs = [.ref a, v] ∧ OexC K C ∧ PySem.W.findIn K (.ref C) f = some none ∧ H a = some (exo a C none) ∧
  ∀ dx, H dx = none → dx ≠ a → Q .non (upd (upd H dx (exd dx [(f, v)])) a (exo a C (some dx)))
/-- a class that is made with its own __init__, its field f -/
structure MkX (P : Program) (w : World) (K : PySem.W.Frag) (mg : Str → Option Value) (base : Heap) (x f : Tx) : Prop where
  ex : ∃ (C fI : Addr) (fd : FuncData) (ps : List Str), mg (sT x) = some (.ref C) ∧ OexC K C ∧ PySem.W.findIn K (.ref C) (sT f) = some none ∧ PySem.W.findIn K (.ref C) "__init__" = some (some (.ref fI)) ∧ PySem.W.typeIn K (.ref fI) = some (.type "function") ∧
    FnOk P w K mg base (L2.CX P w) 1 fI fd ps (spInit K C (sT f)) ∧ Binds K fd ps []
section
variable {P : Program} {w : World} {K : PySem.W.Frag} {mg : Str → Option Value} {base : Heap}
/-- the body: X.__init__(self, '..'); self.f = f -/
def tInit (K : PySem.W.Frag) (m f : Str) : TS := tSeq (tDrop (tVeI K (tCons (tVar 0) (tCons (tC (.str m)) tNil)))) (tOst K f (tVar 0) (tVar 1))
theorem init_fn {qual a m f : Str} {st : Stmt} {fI C : Addr} {fd : FuncData} (F : Fun K "__init__" qual st fI fd) (S : FnScope ["self", a] ["self", a] (defScope st))
    (hB : ∀ (cdv : Value) (A : Around) (outer : List PySem.Env) (s : Shared) (H : Hp) (E : XK), PSs (cxOf (L2.CX P w) P w K mg base ["self", a] qual (defScope st) fI cdv A outer s H E) (defBody st) (tInit K m f)) :
    FnOk P w K mg base (L2.CX P w) 1 fI fd ["self", a] (spInit K C f) := by
  refine F.okX S (fun vs H Q E h => ?_) (fun cdv A outer s H vs Q E hr h => ⟨_, hB cdv A outer s H E, ?_⟩)
  · obtain ⟨b, v, rfl, _⟩ := h; rfl
  · obtain ⟨b, v, rfl, T, hn, hb, q⟩ := h
    refine ⟨_, rfl, ?_⟩
    refine ⟨b, C, [.str m], rfl, by simp, T, hb, ?_⟩
    refine ⟨_, rfl, _, rfl, b, C, rfl, T, hn, .inl ⟨hb, fun dx hd hne => q dx hd hne⟩⟩
theorem MkX.mk' {x f : Tx} {a : Str} {fI C : Addr} {fd : FuncData} (hm : mg (sT x) = some (.ref C)) (o : OexC K C) (hn : PySem.W.findIn K (.ref C) (sT f) = some none) (hi : PySem.W.findIn K (.ref C) "__init__" = some (some (.ref fI))) (ht : PySem.W.typeIn K (.ref fI) = some (.type "function"))
    (F : FnOk P w K mg base (L2.CX P w) 1 fI fd ["self", a] (spInit K C (sT f))) (hb : Binds K fd ["self", a] []) : MkX P w K mg base x f := ⟨C, fI, fd, _, hm, o, hn, hi, ht, F, hb⟩
end
/-- raise X(e) -/
def sRaise1 (x f : Tx) (F : EM) : SM := fun ρ => F ρ >>= fun a => .exc ⟨x, [(f, a.1)]⟩ a.2
/-- raise X('..') -/
def sRaise0 (x : Tx) : SM := fun ρ => .exc ⟨x, []⟩ ρ
section
variable {X : Cx} {E : WX} {md : List Bool} {e : Expr} {F : EM} {x f : Tx} {n : Str} {p pos pos2 : Pos} {k : Nat}
theorem al_xd {P H H2 : Hp} {a d : Addr} {v : V} {f : Str} {C : Addr} (s : Same P H) (na : H a = none) (nd : H d = none) (hne : d ≠ a) (e : H2 = upd (upd (upd H a (exo a C none)) d (exd d [(f, v)])) a (exo a C (some d))) :
    upd (del H2 a) d (.xd [(f, v)]) = upd H d (.xd [(f, v)]) := by
  subst e
  funext b
  by_cases hb : b = d
  · subst hb; rw [upd_same, upd_same]
  · rw [upd_ne hb, upd_ne hb]
    by_cases ha : b = a
    · subst ha; rw [del_same]; exact na.symm
    · rw [del_ne ha, upd_ne ha, upd_ne hb, upd_ne ha]
theorem sd_raise1 (M : MkX X.prog X.w X.K X.mg X.base x f) (hnm : n = sT x) (hr : RoomG 2 X.A) (hc : X.calm = true) (tk : Takes X E) (hg : Gl X n) (ha : EV X E e F)
    (hdb : (n == ("__debug__" : Str)) = false := by decide) (he : starEach [e] X.env = (false, eval e X.env) :: starEach [] X.env := by rfl) (hpl : (backTo pos (starEach [] X.env)).any (·.1) = false := by rfl) :
    SD X E md (.Raise (some (.Call (.Name n p) [e] [] pos)) none pos2) (sRaise1 x f F) := by
  subst hnm
  obtain ⟨C, fI, fd, ps, hm, o, hn, hi, ht, F1, hb⟩ := M.ex
  exact PS.imp (ps_raise hc tk (pmk_oex o hi ht F1 hr.toRoom hb .nil (passes_call (E := fun _ _ _ => False) tk fun _ _ _ _ z => z.elim) hg hm (pa_cons ha pa_nil he) hdb he hpl)) fun D σ H ⟨P, W, ρ, w, g⟩ =>
    ⟨P, W, ρ, w, (GoS.val g).mono fun v H1 ⟨P1, W1, a, s1, ⟨w1, d1⟩, g1⟩ => by
      refine ⟨by simp, fun b nb => ⟨b, v, rfl, o, hn, upd_same, fun dx nd hne => ⟨rfl, dx, [(sT f, v)], upd_same, ?_, ?_, ?_⟩⟩⟩
      · rw [upd_ne hne, upd_same]
      · rw [upd_ne hne] at nd; exact nd
      · rw [upd_ne hne] at nd
        rw [al_xd w1.same nb nd hne rfl]
        have al := Al.new (o := HO.xd [(sT f, v)]) w1.same nd
        exact g1 (.ref C) (some dx) σ _ W1 _ (al.step W1) (w1.al al) (Kp.refl md σ) ⟨C, hm, rfl, .inr ⟨f, a.1, dx, v, rfl, rfl, upd_same, upd_same, Den.mono al.2.1 _ _ d1⟩⟩⟩
/-- a class that is made with words -/
structure Mk0 (K : PySem.W.Frag) (mg : Str → Option Value) (x : Tx) : Prop where
  ex : ∃ C, mg (sT x) = some (.ref C) ∧ PySem.W.excIn K C [.type "ValueError", .type "Exception", .type "BaseException", .type "object"] "ValueError.__new__" = true ∧ PySem.W.keepIn K (.ref C) = true ∧ PySem.W.subIn K (.ref C) (.type "BaseException") = some true ∧ PySem.W.typeIn K (.ref C) = some (.type "type")
theorem sd_raise0 {m : Str} {j : Nat} {p3 : Pos} (M : Mk0 X.K X.mg x) (hnm : n = sT x) (hc : X.calm = true) (tk : Takes X E) (hg : Gl X n) (hdb : (n == ("__debug__" : Str)) = false := by decide) :
    SD X E md (.Raise (some (.Call (.Name n p) [.Constant (.str m) j p3] [] pos)) none pos2) (sRaise0 x) := by
  subst hnm
  obtain ⟨C, gC, q, kC, h1, h2⟩ := M.ex
  exact PS.imp (ps_raise hc tk (pmk_own PySem.F.excBase_ValueError q gC kC (raises_own h1 h2) hg hdb)) fun D σ H ⟨P, W, ρ, w, g⟩ =>
    g (.ref C) none σ P W H (Step.refl P W H) w (Kp.refl md σ) ⟨C, gC, rfl, .inl ⟨rfl, rfl⟩⟩
end
end Od
namespace Od
open PySem PySem.Spec L2
open PyProof.Rows hiding St cutD
/-! ### a caught exception becomes a tracked thing -/
section
variable {X : Cx} {pins : List (Addr × Obj)} {σ : St} {H : Hp} {s sI : Shared} {a : Addr}
theorem adopt {oe : Obj} {us : Array Value} {cls : Value} {d : Option Addr} (hex : X.ex = []) (J : Inv X pins σ H sI) (S : Inv X pins σ H s) (na : H a = none) (ha : s.heap.get? a = some oe) (hd : oe.data = .fields us) (hz : Zc cls d oe) (old : sI.heap.get? a = none) (nL : a ≠ X.env.locals) :
    Inv X pins σ (upd H a (ExnO a cls d)) s := by
  refine ⟨S.ok, S.os, S.bare, ⟨S.base.keep, S.base.slot, fun b o e n hx => ?_, S.base.there, fun b xs e => ?_, fun b o u e => ?_, fun b ps e => ?_⟩, S.loc, S.cell, ?_, fun x c e => ?_, fun p hp => ?_, fun b o e => ?_, S.len⟩
  · have hb : b ≠ a := fun z => by
      subst z
      obtain ⟨o', e'⟩ := J.base.there b o e (by rw [hex]; exact List.not_mem_nil)
      rw [old] at e'; cases e'
    exact (upd_ne hb).trans (S.base.free b o e n hx)
  · have q := S.base.tups b xs e
    exact (upd_ne (ne_of_none q na)).trans q
  · have q := S.base.frzs b o u e
    exact (upd_ne (ne_of_none q na)).trans q
  · obtain ⟨more, q⟩ := S.base.tbls b ps e
    exact ⟨more, (upd_ne (ne_of_none q na)).trans q⟩
  · exact (upd_ne (Ne.symm nL)).trans S.free
  · have hc : c ≠ a := fun z => by
      subst z
      obtain ⟨v, o, e1, e2⟩ := S.cell x c e
      all_goals (rw [ha] at e1; cases e1; rw [hd] at e2; cases e2)
    exact (upd_ne hc).trans (S.freeC x c e)
  · obtain ⟨e1, e2, e3⟩ := S.pin p hp
    have hpa : p.1 ≠ a := fun z => by
      have f1 := (J.pin p hp).1
      rw [z, old] at f1; cases f1
    exact ⟨e1, (upd_ne hpa).trans e2, e3⟩
  · by_cases hb : b = a
    · subst hb
      rw [upd_same] at e
      cases e
      exact ⟨⟨oe, us, ha, hz, hd⟩, ⟨_, ha⟩, fun h1 h2 z k => by
        obtain ⟨o1, u1, q, r⟩ := z
        exact ⟨o1, u1, k _ q, r⟩⟩
    · rw [upd_ne hb] at e
      exact (S.hok b o e).stay (fun c v _ q => q) (fun c q => (upd_ne (ne_of_none q na)).trans q) fun c xs q => (upd_ne (ne_of_none q na)).trans q
theorem to_suite (I : Inv X pins σ H s) : Inv (X.suite a (X.pn ++ pins)) [] σ H s where
  ok := I.ok.suite _ _
  os := I.os
  bare := I.bare
  base := I.base
  loc := I.loc
  cell := I.cell
  free := I.free
  freeC := I.freeC
  pin := fun p hp => I.pin p (by simpa using hp)
  hok := I.hok
  len := I.len
theorem of_suite {pn' : List (Addr × Obj)} (I : Inv (X.suite a (X.pn ++ pins)) pn' σ H s) (ok : X.Ok) : Inv X pins σ H s where
  ok := ok
  os := I.os
  bare := I.bare
  base := I.base
  loc := I.loc
  cell := I.cell
  free := I.free
  freeC := I.freeC
  pin := fun p hp => I.pin p (List.mem_append_left pn' hp)
  hok := I.hok
  len := I.len
/-- what is in the air over this frame lies at an address of its own -/
theorem own_addr {B h : Heap} {cls : Value} {d : Option Addr} (hs : X.stack = X.env :: X.outer) (hf : X.env.frame = some X.env.locals) (nb : ∀ b o, sI.heap.get? b = some o → b ∉ frs X.stack → B.get? b = some o)
    (fl : HandSPX.FlyingZ B (X.env :: X.outer) a (Zc cls d) h) : (∃ oe us, h.get? a = some oe ∧ Zc cls d oe ∧ oe.data = .fields us) ∧ sI.heap.get? a = none ∧ a ≠ X.env.locals ∧ a ∉ X.fs := by
  obtain ⟨_, ground, ff, oe, us, _, _, _, g, z, f, _⟩ := fl
  have out : a ∉ frs (X.env :: X.outer) := fun hm => by
    obtain ⟨_, o', g', nf⟩ := ff.mem hm
    rw [g] at g'; cases g'
    exact nf us f
  refine ⟨⟨oe, us, g, z, f⟩, ?_, fun q => out (List.mem_filterMap.mpr ⟨X.env, List.mem_cons_self, by rw [hf, q]⟩), fun hm => ?_⟩
  · cases q : sI.heap.get? a with
    | none => rfl
    | some o =>
      have w := nb a o q (by rw [hs]; exact out)
      rw [ground] at w; cases w
  · obtain ⟨e, he, q⟩ := List.mem_filterMap.mp hm
    exact out (List.mem_filterMap.mpr ⟨e, List.mem_cons_of_mem _ he, q⟩)
end
/-- what is asked of an exception of the body: the clause takes it -/
def wTk (K : PySem.W.Frag) (c : Value) (i : Nat) (ts : TS) (D : Ends) : WX := fun cls d σ H => PySem.W.exmOne K cls c = some true ∧
  ∀ a, H a = none → ts ⟨fun σ' H' => D.nx (σ'.set i none) H', D.rt, fun σ' H' => D.bk (σ'.set i none) H', fun σ' H' => D.ct (σ'.set i none) H'⟩ (σ.set i (some (.ref a))) (upd H a (ExnO a cls d))
section
variable {X : Cx} {x n : Str} {c : Value} {i : Nat} {body : List Stmt} {b₀ : Stmt} {suite : List Stmt} {np pos pos' : Pos} {tb : WX → TS} {ts : TS}
/-- how a body's end is seen from without -/
theorem sp_untry {pins : List (Addr × Obj)} {D : Ends} {f : Flow} {s1 : Shared} {E : Value → Shared → Prop} {xe : Value → Shared → Prop} (ok : X.Ok) (q : SP (X.tr (X.pn ++ pins) xe) [] D f s1) :
    match (generalizing := false) f with
    | .next => wpAny (model X.prog X.w) X.A (execs [] X.env) (SP X pins D) E s1
    | f => SP X pins D f s1 := by
  cases f with
  | next => obtain ⟨a, b, J, r⟩ := q; exact wpAny_execs_nil ⟨a, b, J.ofTry ok, r⟩
  | brk => obtain ⟨a, b, J, r⟩ := q; exact ⟨a, b, J.ofTry ok, r⟩
  | cont => obtain ⟨a, b, J, r⟩ := q; exact ⟨a, b, J.ofTry ok, r⟩
  | ret u => obtain ⟨v, a, b, J, r⟩ := q; exact ⟨v, a, b, J.ofTry ok, r⟩
theorem ps_tryT (hs : X.stack = X.env :: X.outer) (hf : X.env.frame = some X.env.locals) (hex : X.ex = []) (hN : X.N.Nodup) (hi : X.N[i]? = some n) (hl : X.env.kindOf n = some .local) (hc : Gl X x) (hm : X.mg x = some c) (hdb : (x == ("__debug__" : Str)) = false)
    (hb : ∀ (W : WX) (pn : List (Addr × Obj)) (xe : Value → Shared → Prop), Takes (X.tr pn xe) W → PassesOwn (model X.prog X.w) X.A X.env xe → PSs (X.tr pn xe) body (tb W)) (hsu : ∀ (a : Addr) (pn : List (Addr × Obj)), PSs (X.suite a pn) (b₀ :: suite) ts) :
    PS X (.Try body [.ExceptHandler (some (.Name x np)) (some n) (b₀ :: suite) pos'] [] [] pos) (fun D σ H => tb (wTk X.K c i ts D) D σ H) := ⟨fun pins s σ H D I h => by
  have ok := I.ok
  have hfr : X.A.frames = some (X.env :: X.outer) := ok.frames.trans (by rw [hs])
  refine wpAny_Try_except (wpAny_mono ((hb (wTk X.K c i ts D) (X.pn ++ pins) _ ?tk PassesOwn.looking).run [] s σ H D (I.toTry _) h) (fun f s1 q => sp_untry ok q) (fun _ _ z => z))
  rintro u s' ⟨a, B, sI, ps, σ', H', cls, d, rfl, J', nb, up, sky, na, os, ag, hx, hyes⟩
  have J : Inv X pins σ' H' sI := J'.ofTry ok
  rw [hs] at sky
  refine Sky.land (L := X.env.locals) Zc.steady hfr hf sky fun h3 fl up3 => ?_
  have J3 : Inv X pins σ' H' { s' with heap := h3 } := J.landed nb fl.1 (up.trans up3) os ag
  obtain ⟨⟨oe, us, g, z, fd⟩, old, nL, nF⟩ := own_addr hs hf nb fl
  have S3 := J3.suite g fd na nL nF
  refine wpAny_handleBy_cons (codeAny_handlers_test ?_) (fun q => by cases q)
  refine ld_glob (X := X.suite a ((a, oe) :: (X.pn ++ pins))) S3 hc hm ?_ hdb
  refine (PySem.W.exm_one (M := model X.prog X.w) J3.kIn (fun _ _ _ _ k q => wpAny_typeOf_ref (k _ _ g) (by rw [z.1]; exact q)) hx).here ?_
  refine codeAny_handlers_suite_as (HandSPX.lands_againZ fl fun h4 fl4 up4 => ?_)
  obtain ⟨⟨o4, u4, g4, z4, f4⟩, _⟩ := own_addr hs hf nb fl4
  have L4 : Inv X pins σ' H' { s' with heap := h4 } := J.landed nb fl4.1 (up.trans (up3.trans up4)) os ag
  have T4 := to_suite (a := a) (adopt hex J L4 na g4 f4 z4 old nL)
  refine store_ok (X := X.suite a (X.pn ++ pins)) (v := .ref a) T4 hN hi (.inl hl) rfl (fun s5 S5 => ?_) (.inr hl)
  refine wpAny_mono ((hsu a (X.pn ++ pins)).run [] s5 _ _ _ S5 (hyes a na)) (fun f s6 q => ?_) (fun _ _ z => z.elim)
  cases f with
  | next => obtain ⟨a6, b6, S6, r6⟩ := q; exact gone_ok (of_suite S6 ok) hN hi hl fun s7 J7 => ⟨_, _, J7, r6⟩
  | brk => obtain ⟨a6, b6, S6, r6⟩ := q; exact gone_ok (of_suite S6 ok) hN hi hl fun s7 J7 => ⟨_, _, J7, r6⟩
  | cont => obtain ⟨a6, b6, S6, r6⟩ := q; exact gone_ok (of_suite S6 ok) hN hi hl fun s7 J7 => ⟨_, _, J7, r6⟩
  | ret u => obtain ⟨v6, a6, b6, S6, r6⟩ := q; exact gone_ok (of_suite S6 ok) hN hi hl fun s7 J7 => ⟨_, _, _, J7, r6⟩⟩
end
end Od
namespace Od
open PySem PySem.Spec L2
open PyProof.Rows hiding St cutD
def exnD (x : Exn) : D := .exn x.cls (x.fs.map Prod.fst) (x.fs.map Prod.snd)
/-- try: B except c as i: S -/
def sTry (rs : List Tx) (c : Tx) (i : Nat) (B S : SM) : SM := fun ρ => match B ρ with
  | .exc x ρ1 => if x.cls ∈ rs ∧ subE x.cls c = true ∧ i < ρ1.length then (match S (ρ1.set i (some (.sh (exnD x)))) with
    | .ok f => .ok (wipeF [i] f)
    | _ => .fail) else .fail
  | r => r
section
variable {K : PySem.W.Frag} {mg : Str → Option Value} {P H : Hp} {W : Own} {σ : St} {ρ : Env}
theorem Wd.none {i : Nat} (w : Wd K mg P W H σ ρ) : Wd K mg P W H (σ.set i none) (ρ.set i none) := by
  refine ⟨w.same, w.own, fun j t e => ?_, by simpa using w.len⟩
  by_cases hj : j = i
  · subst hj
    by_cases hlt : j < ρ.length
    · rw [List.getElem?_set_self hlt] at e; cases e
    · rw [List.getElem?_eq_none (by simpa using hlt)] at e; cases e
  · rw [List.getElem?_set_ne (Ne.symm hj)] at e ⊢
    exact w.env j t e
/-- the caught exception as data -/
theorem exn_den {rs ts fl : List Tx} (S : Errs K mg rs ts fl) (s : Same P H) {x : Exn} (hx : x.cls ∈ rs) {c : Value} {od : Option Addr} (xr : XR K mg P H x c od) {a : Addr} (na : H a = none) :
    ∃ C, Top K x.cls C ∧ c = .ref C ∧ Den K (upd P a (ExnO a c od)) (exnD x) (.ref a) := by
  obtain ⟨C, hm, rfl, q⟩ := xr
  obtain ⟨C', t, hm', _⟩ := S.at_ x.cls hx
  rw [hm] at hm'
  cases hm'
  refine ⟨C, t, rfl, ?_⟩
  unfold exnD Den
  rcases q with ⟨e, rfl⟩ | ⟨k, d, dd, v, e, rfl, hH, hP, hd⟩
  · exact ⟨a, C, none, [], rfl, t, upd_same, by rw [e]; rfl, .inl ⟨rfl, rfl⟩, by rw [e]; exact DenL.nil⟩
  · have ne : dd ≠ a := ne_of_none hH na
    have sm : Same P (upd P a (ExnO a (.ref C) (some dd))) := fun b o h => by rw [upd_ne (ne_of_none h (same_none s na))]; exact h
    refine ⟨a, C, some dd, [(sT k, v)], rfl, t, upd_same, by rw [e]; rfl, .inr ⟨dd, rfl, by rw [upd_ne ne]; exact hP⟩, ?_⟩
    rw [e]
    exact DenL.cons (Den.mono sm d v hd) DenL.nil
end
section
variable {X : Cx} {E : WX} {md : List Bool} {x c : Tx} {n : Str} {i : Nat} {body suite : List Stmt} {b₀ : Stmt} {np pos pos' : Pos} {B S : SM} {rs ts fl : List Tx} {cn : Str}
theorem sd_try (R : Errs X.K X.mg rs ts fl) (hct : c ∈ ts) (hcn : cn = sT c) (hs : X.stack = X.env :: X.outer) (hf : X.env.frame = some X.env.locals) (hex : X.ex = []) (hN : X.N.Nodup) (hi : X.N[i]? = some n) (hl : X.env.kindOf n = some .local) (hg : Gl X cn) (hk : md[i]? ≠ some true)
    (hb : ∀ (W : WX) (pn : List (Addr × Obj)) (xe : Value → Shared → Prop), Takes (X.tr pn xe) W → PassesOwn (model X.prog X.w) X.A X.env xe → SDs (X.tr pn xe) W md body B)
    (hsu : ∀ (a : Addr) (pn : List (Addr × Obj)), SDs (X.suite a pn) (fun _ _ _ _ => False) md (b₀ :: suite) S) (hdb : (cn == ("__debug__" : Str)) = false := by decide) :
    SD X E md (.Try body [.ExceptHandler (some (.Name cn np)) (some n) (b₀ :: suite) pos'] [] [] pos) (sTry rs c i B S) := by
  subst hcn
  obtain ⟨Dc, td, hmd, _⟩ := R.ask c hct
  refine PS.imp (ps_tryT (tb := fun W => rS X.K X.mg W md B) (ts := rS X.K X.mg (fun _ _ _ _ => False) md S) hs hf hex hN hi hl hg hmd hdb (fun W pn xe tk po => hb W pn xe tk po) fun a pn => hsu a pn) fun D σ H ⟨P, W, ρ, w, g⟩ => ⟨P, W, ρ, w, ?_⟩
  unfold sTry at g
  cases hB : B ρ with
  | fail => rw [hB] at g; exact g
  | ok f =>
    rw [hB] at g
    cases f with
    | nx r => exact g
    | bk r => exact g
    | ct r => exact g
    | rt t r => exact g
  | exc e ρ1 =>
    rw [hB] at g
    simp only at g
    by_cases hcnd : e.cls ∈ rs ∧ subE e.cls c = true ∧ i < ρ1.length
    · rw [if_pos hcnd] at g
      obtain ⟨h1, h2, h3⟩ := hcnd
      refine fun cv od σ' P' W' H' st wd kp xr => ⟨?_, fun a na => ?_⟩
      · obtain ⟨C, hm, rfl, _⟩ := xr
        obtain ⟨C', t, hm', _⟩ := R.at_ e.cls h1
        rw [hm] at hm'
        cases hm'
        rw [R.exm h1 hct t td, h2]
      · obtain ⟨C, t, rfl, dn⟩ := exn_den R wd.same h1 xr na
        have al := Al.new (o := ExnO a (.ref C) od) wd.same na
        obtain ⟨W2, w2, s2⟩ := (wd.al al).put (i := i) (t := .sh (exnD e)) (v := .ref a) dn h3
        refine ⟨_, W2, _, w2, ?_⟩
        have st2 := (st.trans (al.step W')).trans s2
        have kp2 : Kp md σ (σ'.set i (some (V.ref a))) := kp.trans (Kp.set hk)
        cases hS : S (ρ1.set i (some (.sh (exnD e)))) with
        | fail => rw [hS] at g; exact g
        | exc e2 r => rw [hS] at g; exact g.elim
        | ok f =>
          rw [hS] at g
          cases f with
          | nx r => exact fun σ3 P3 W3 H3 s3 w3 k3 => g _ P3 W3 H3 (st2.trans s3) w3.none ((kp2.trans k3).trans (Kp.set hk))
          | bk r => exact fun σ3 P3 W3 H3 s3 w3 k3 => g _ P3 W3 H3 (st2.trans s3) w3.none ((kp2.trans k3).trans (Kp.set hk))
          | ct r => exact fun σ3 P3 W3 H3 s3 w3 k3 => g _ P3 W3 H3 (st2.trans s3) w3.none ((kp2.trans k3).trans (Kp.set hk))
          | rt t r => exact fun v σ3 P3 W3 H3 s3 w3 k3 rt3 => g v σ3 P3 W3 H3 (st2.trans s3) w3 (kp2.trans k3) rt3
    · rw [if_neg hcnd] at g; exact g.elim
end
/-! ### isinstance(e, X) of an exception, e.f -/
def fIsE (rs cs : List Tx) : D → Option D
  | .exn c _ _ => if c ∈ rs then some (.bl (cs.any (subE c))) else none
  | _ => none
def lkX : List Tx → List D → Tx → Option D
  | k :: ks, d :: ds, f => if k = f then some d else lkX ks ds f
  | _, _, _ => none
def fFldE (rs : List Tx) (f : Tx) : D → Option D
  | .exn c ks ds => if c ∈ rs then lkX ks ds f else none
  | _ => none
end Od
namespace Od
open PySem PySem.Spec L2
open PyProof.Rows hiding St cutD
/-- an exception object as it is tracked -/
def ExnAt (H : Hp) (a D : Addr) (fs : List (Str × V)) : Prop := ∃ d, H a = some (ExnO a (.ref D) d) ∧ ((d = none ∧ fs = []) ∨ ∃ dd, d = some dd ∧ H dd = some (.xd fs))
theorem exn_view {K : PySem.W.Frag} {P H : Hp} {c : Tx} {ks : List Tx} {ds : List D} {v : V} (s : Same P H) (h : View K P H (.exn c ks ds) v) :
    ∃ a C ws, v = .ref a ∧ Top K c C ∧ ExnAt H a C ws ∧ ws.map Prod.fst = ks.map sT ∧ DenL K P ds (ws.map Prod.snd) := by
  have h : Den K P (.exn c ks ds) v := h
  unfold Den at h
  obtain ⟨a, C, d, ws, e, t, q, k, m, l⟩ := h
  exact ⟨a, C, ws, e, t, ⟨d, s a _ q, m.imp id fun ⟨dd, e, q⟩ => ⟨dd, e, s dd _ q⟩⟩, k, l⟩
section
variable {X : Cx} {pins : List (Addr × Obj)} {σ : St} {H : Hp} {s : Shared}
theorem exn_inst {a D : Addr} {fs : List (Str × V)} (I : Inv X pins σ H s) (h : ExnAt H a D fs) : ∃ oe od, PySem.W.InstAt s.heap a oe D od ∧ ((od = none ∧ fs = []) ∨ ∃ (o : Obj) (mA : Str → Option Value), od = some o ∧ (∀ name, PySem.W.lookIn name o = some (mA name)) ∧ ∀ f, RelO (fs.lookup f) (mA f)) := by
  obtain ⟨d, h1, h2⟩ := h
  obtain ⟨⟨oe, us, g, ⟨z1, z2⟩, f⟩, _⟩ := I.hok a _ h1
  have nc : PySem.W.notCls oe = true := by unfold PySem.W.notCls; rw [f]
  rcases h2 with ⟨rfl, rfl⟩ | ⟨dd, rfl, hd⟩
  · exact ⟨oe, none, ⟨g, z1, nc, by rw [z2]; trivial⟩, .inl ⟨rfl, rfl⟩⟩
  · obtain ⟨mA, hns, rel⟩ := (I.hok dd _ hd : ObjOk X.prog X.w H s.heap dd (.xd fs))
    obtain ⟨o, ho, hl⟩ := lookIn_ns hns
    exact ⟨oe, some o, ⟨g, z1, nc, by rw [z2]; exact ho⟩, .inr ⟨o, mA, rfl, hl, rel⟩⟩
/-- isinstance(e, c), isinstance(e, (c, ..)) -/
def rIsX (K : PySem.W.Frag) : List V → Hp → VK → Prop := fun xs H Q => ∃ (a D : Addr) (fs : List (Str × V)) (y : V) (b : Bool), xs = [.ref a, y] ∧ ExnAt H a D fs ∧ ErrC K D ∧ ObjCls K ∧ Q (.bl b) H ∧
  ((∃ u, ClsV y u ∧ PySem.W.kitOne K (.ref D) u = some b) ∨ ∃ tp cs us, y = .ref tp ∧ H tp = some (.tup cs) ∧ Paired ClsV cs us ∧ PySem.W.kitAny K (.ref D) us = some b)
theorem call_isX : CallR X (.builtin "isinstance") (rIsX X.K) := by
  intro pins s σ H xs us Q I r ⟨a, D, fs, y, b, e, h, C, oc, q, m⟩
  subst e
  obtain ⟨u1, u2, rfl, r1, r2⟩ := vals2 r
  cases (show u1 = Value.ref a from r1)
  obtain ⟨oe, od, J, _⟩ := exn_inst I h
  have cl : (PySem.W.clsIn X.K D).isSome = true := by
    obtain ⟨cd, hc, _⟩ := PySem.W.any_some C.hd
    rw [hc]; rfl
  have Z := PySem.W.kitx_exc (x := a) (ox := oe) (od := od) cl C.ga C.gg C.o.exC C.ca oc.cg oc.ct C.cm
  rcases m with ⟨u, k, e⟩ | ⟨tp, cs, ws, rfl, hT, k, e⟩
  · cases k.eq r2
    exact PySem.W.kia_one Z I.kIn J e (fun z => nomatch z) fun tk => ⟨.bl b, H, I.tok tk, rfl, q⟩
  · cases (show u2 = Value.ref tp from r2)
    obtain ⟨_, its, rv, ⟨oc', od', dt, sl⟩, h1, h2, n, h3⟩ := (I.hok tp _ hT : ObjOk X.prog X.w H s.heap tp (.tup cs))
    have e3 := ClsV.all k rv
    subst e3
    simp only at h2 h3
    subst h2 h3
    exact PySem.W.kia_tup Z I.kIn J h1 e (fun z => nomatch z) fun tk => ⟨.bl b, H, I.tok tk, rfl, q⟩
end
/-- a class's name where it is asked for -/
def ClsRef (X : Cx) (rs : List Tx) (y : Tx) (n : Str) (p : Pos) : Prop := ∃ v u, PE X (.Name n p) (tC v) ∧ ClsV v u ∧ ∀ x ∈ rs, ∀ C, Top X.K x C → PySem.W.kitOne X.K (.ref C) u = some (subE x y)
section
variable {X : Cx} {E : WX} {rs ts fl : List Tx} {y : Tx} {n : Str} {ys : List Tx} {es : List Expr} {p p2 p3 pos : Pos} {e : Expr} {A : HM}
theorem cls_own (R : Errs X.K X.mg rs ts fl) (hy : y ∈ ts) (hn : n = sT y) (hg : Gl X n) (hdb : (n == ("__debug__" : Str)) = false := by decide) : ClsRef X rs y n p := by
  subst hn
  obtain ⟨D, t, hm, _⟩ := R.ask y hy
  exact ⟨.ref D, .ref D, pe_glob hg hm rfl hdb, .own D, fun x hx C tC => R.kit hx hy tC t⟩
theorem cls_VE (R : Errs X.K X.mg rs ts fl) (hg : Gl X "ValueError") (hm : X.mg "ValueError" = none) : ClsRef X rs [86, 97, 108, 117, 101, 69, 114, 114, 111, 114] "ValueError" p :=
  ⟨.ty "ValueError", .type "ValueError", pe_bltn hg hm PyProof.Rows.Boot.«ValueError» rfl (by decide) (by decide), .ty _, fun x hx C tC => by rw [R.kitV hx tC]; congr 1; unfold subE; simp⟩
theorem fIsE_some {cs : List Tx} {d r : D} (h : fIsE rs cs d = some r) : ∃ c ks ds, d = .exn c ks ds ∧ c ∈ rs ∧ r = .bl (cs.any (subE c)) := by
  cases d <;> simp only [fIsE, reduceCtorEq] at h
  split at h
  · rename_i hc; cases h; exact ⟨_, _, _, rfl, hc, rfl⟩
  · cases h
theorem ev_isE1 (R : Errs X.K X.mg rs ts fl) (hg : Gl X "isinstance") (hm : X.mg "isinstance" = none) (ha : EH X E e A) (hc : ClsRef X rs y n p2)
    (he : starEach [e, .Name n p2] X.env = (false, eval e X.env) :: starEach [.Name n p2] X.env := by rfl) (he2 : starEach [.Name n p2] X.env = (false, eval (.Name n p2) X.env) :: starEach [] X.env := by rfl) (hpl : (backTo pos (starEach [.Name n p2] X.env)).any (·.1) = false := by rfl) :
    EV X E (.Call (.Name "isinstance" p) [e, .Name n p2] [] pos) (e1 (fIsE rs [y]) A) := by
  obtain ⟨vc, uc, h1, h2, h3⟩ := hc
  refine PE.imp (pe_callB call_isX hg hm (by decide +kernel) (pa_cons ha (pa_cons h1 pa_nil he2) he) (by decide) (by decide) he hpl) fun σ H Q ⟨P, W, ρ, w, g⟩ => ⟨P, W, ρ, w, (Go.bind g).mono fun v H1 ⟨P1, W1, a, s1, ⟨w1, k1⟩, g1⟩ => ?_⟩
  obtain ⟨res, e', g2⟩ := Go.of g1
  obtain ⟨d, hd, hf⟩ := Option.bind_eq_some_iff.mp e'
  obtain ⟨c, ks, ds, rfl, hcr, rfl⟩ := fIsE_some hf
  obtain ⟨b, C, ws, rfl, t, xa, _⟩ := exn_view w1.same (Hok.view w1 k1 hd)
  obtain ⟨C', t', _, ec⟩ := R.at_ c hcr
  obtain rfl := top_inj t t'
  exact ⟨b, C, ws, vc, _, rfl, xa, ec, R.oc, g2 (.bl _) P1 W1 H1 (Step.refl P1 W1 H1) ⟨w1, dbl⟩, .inl ⟨uc, h2, by rw [h3 c hcr C t]; simp⟩⟩
/-- e.f of an exception -/
def tFldX (K : PySem.W.Frag) (f : Str) (te : TE) : TE := fun σ H Q => te σ H fun x H1 => ∃ (a D : Addr) (fs : List (Str × V)) (v : V), x = .ref a ∧ ErrC K D ∧ PySem.W.findIn K (.ref D) f = some none ∧ ExnAt H1 a D fs ∧ fs.lookup f = some v ∧ Q v H1
theorem pe_fldX {te : TE} {f : Str} (h : PE X e te) (hb : attributeBase e f X.env (eval e X.env) = eval e X.env := by rfl) : PE X (.Attribute e f pos) (tFldX X.K f te) := ⟨fun pins s σ H Q I q => by
  refine attr_of hb (thn (h.run pins s σ H _ I q) ?_)
  rintro u s1 ⟨x, H1, I1, r, a, D, fs, v, rfl, C, hn, xa, l, q1⟩
  cases (show u = Value.ref a from r)
  obtain ⟨oe, od, J, m⟩ := exn_inst I1 xa
  rcases m with ⟨_, rfl⟩ | ⟨o, mA, rfl, hl, rel⟩
  · cases l
  · have r2 := rel f
    rw [l] at r2
    obtain ⟨u, hu, ru⟩ := RelO.some_of r2
    exact HandSPX.exc_get I1.kIn J C.ga C.gg C.o.exC (PySem.W.findObj_own C.hd hn rfl (by rw [hl, hu])) (handed_of ru) ⟨v, H1, I1.tok _, ru, q1⟩⟩
theorem lkX_get {K : PySem.W.Frag} {P : Hp} : ∀ {ks : List Tx} {ds : List D} {ws : List (Str × V)} {f : Tx} {d : D}, lkX ks ds f = some d → ws.map Prod.fst = ks.map sT → DenL K P ds (ws.map Prod.snd) → ∃ v, ws.lookup (sT f) = some v ∧ Den K P d v
  | [], ds, ws, f, d, h, _, _ => by cases ds <;> cases h
  | k :: ks, [], ws, f, d, h, _, _ => by cases h
  | k :: ks, e :: ds, [], f, d, h, e1, _ => by cases e1
  | k :: ks, e :: ds, (n, v) :: ws, f, d, h, e1, l => by
    simp only [List.map_cons, List.cons.injEq] at e1
    obtain ⟨rfl, e1⟩ := e1
    obtain ⟨v', r, e2, h1, h2⟩ := l
    simp only [List.map_cons, List.cons.injEq] at e2
    obtain ⟨rfl, rfl⟩ := e2
    unfold lkX at h
    by_cases hk : k = f
    · subst hk
      rw [if_pos rfl] at h
      cases h
      exact ⟨v, by simp [List.lookup], h1⟩
    · rw [if_neg hk] at h
      obtain ⟨w, hw, hd⟩ := lkX_get h e1 h2
      refine ⟨w, ?_, hd⟩
      have : (sT f == sT k) = false := by
        rw [beq_eq_false_iff_ne]
        exact fun z => hk (sT_inj z).symm
      simp [List.lookup, this, hw]
theorem ev_fldE {f : Tx} (R : Errs X.K X.mg rs ts fl) (hf : f ∈ fl) (hn : n = sT f) (ha : EH X E e A) (hb : attributeBase e n X.env (eval e X.env) = eval e X.env := by rfl) :
    EV X E (.Attribute e n pos) (e1 (fFldE rs f) A) := by
 subst hn
 exact PE.imp (pe_fldX ha hb) fun σ H Q ⟨P, W, ρ, w, g⟩ => ⟨P, W, ρ, w, (Go.bind g).mono fun v H1 ⟨P1, W1, a, s1, ⟨w1, k1⟩, g1⟩ => by
  obtain ⟨res, e', g2⟩ := Go.of g1
  obtain ⟨d, hd, hf'⟩ := Option.bind_eq_some_iff.mp e'
  cases d <;> simp only [fFldE, reduceCtorEq] at hf'
  rename_i c ks ds
  split at hf'
  · rename_i hcr
    obtain ⟨b, C, ws, rfl, t, xa, k, l⟩ := exn_view w1.same (Hok.view w1 k1 hd)
    obtain ⟨C', t', _, ec⟩ := R.at_ c hcr
    obtain rfl := top_inj t t'
    obtain ⟨v, hv, dv⟩ := lkX_get hf' k l
    exact ⟨b, C, ws, v, rfl, ec, R.nf c hcr f hf C t, xa, hv, g2 v P1 W1 H1 (Step.refl P1 W1 H1) ⟨w1, dv⟩⟩
  · cases hf'⟩
end
end Od
namespace Od
open PySem PySem.Spec L2
open PyProof.Rows hiding St cutD
section
variable {ΦS : Fl → Prop} {Ψ : Exn → Env → Prop} {ρ : Env} {F : EM} {Φ : D → Prop} {S B : SM}
theorem s_raise1 (x f : Tx) : sat (sRaise1 x f F ρ) ΦS Ψ = sat (F ρ) (fun a => Ψ ⟨x, [(f, a.1)]⟩ a.2) Ψ := by unfold sRaise1; rw [sat_bind]; rfl
theorem s_raise0 (x : Tx) : sat (sRaise0 x ρ) ΦS Ψ = Ψ ⟨x, []⟩ ρ := rfl
theorem s_try (rs : List Tx) (c : Tx) (i : Nat) : sat (sTry rs c i B S ρ) ΦS Ψ = sat (B ρ) ΦS (fun x ρ1 => (x.cls ∈ rs ∧ subE x.cls c = true) ∧ ex (setE ρ1 i (some (.sh (exnD x)))) fun ρ2 => sat (S ρ2) (fun f => match f with
    | .nx ρ => cps (List.set ρ i none) fun ρ' => ΦS (.nx ρ')
    | .bk ρ => cps (List.set ρ i none) fun ρ' => ΦS (.bk ρ')
    | .ct ρ => cps (List.set ρ i none) fun ρ' => ΦS (.ct ρ')
    | .rt t ρ => ΦS (.rt t ρ)) (fun _ _ => False)) := by
  unfold sTry
  cases B ρ with
  | ok f => rfl
  | fail => rfl
  | exc x ρ1 =>
    show sat (if _ then _ else _) ΦS Ψ = _
    rw [sat_iteF, sat_exc, ex_setE]
    apply propext
    constructor
    · rintro ⟨⟨h1, h2, h3⟩, h⟩
      refine ⟨⟨h1, h2⟩, h3, ?_⟩
      revert h
      cases S (ρ1.set i (some (T.sh (exnD x)))) with
      | ok f => cases f <;> exact id
      | exc y r => exact id
      | fail => exact id
    · rintro ⟨⟨h1, h2⟩, h3, h⟩
      refine ⟨⟨h1, h2, h3⟩, ?_⟩
      revert h
      cases S (ρ1.set i (some (T.sh (exnD x)))) with
      | ok f => cases f <;> exact id
      | exc y r => exact id
      | fail => exact id
theorem x_isE (rs cs : List Tx) (c : Tx) (ks : List Tx) (ds : List D) : ex (fIsE rs cs (.exn c ks ds)) Φ = (c ∈ rs ∧ Φ (.bl (cs.any (subE c)))) := by
  show ex (if _ then _ else _) Φ = _
  by_cases h : c ∈ rs
  · rw [if_pos h]; simp [h, ex_some]
  · rw [if_neg h]; simp [h, ex_none]
theorem x_fldE (rs : List Tx) (f c : Tx) (ks : List Tx) (ds : List D) : ex (fFldE rs f (.exn c ks ds)) Φ = (c ∈ rs ∧ ex (lkX ks ds f) Φ) := by
  show ex (if _ then _ else _) Φ = _
  by_cases h : c ∈ rs
  · rw [if_pos h]; simp [h]
  · rw [if_neg h]; simp [h, ex_none]
theorem x_lkX1 (f : Tx) (ks : List Tx) (d : D) (ds : List D) : ex (lkX (f :: ks) (d :: ds) f) Φ = Φ d := by
  unfold lkX
  rw [if_pos rfl, ex_some]
theorem x_exnD1 (c f : Tx) (d : D) : exnD ⟨c, [(f, d)]⟩ = .exn c [f] [d] := rfl
theorem x_exnD0 (c : Tx) : exnD ⟨c, []⟩ = .exn c [] [] := rfl
theorem x_isNe (c : Tx) (ks : List Tx) (ds : List D) {ΦB : Bool → Prop} : ex (cIsN (.exn c ks ds) .non) ΦB = ΦB false := rfl
end
end Od
namespace Od
open PySem PySem.Spec L2
open PyProof.Rows hiding St cutD
/-! ### s[::-1] -/
section
variable {X : Cx} {E : WX} {e : Expr} {te : TE} {A : HM} {k : Nat} {p1 p2 p3 pos : Pos}
end
end Od
namespace Od
open PySem PySem.Spec L2
open PyProof.Rows hiding St cutD
/-! ### x, y = a, b where a tuple is made (a name that an inner block reads) -/
section
variable {K : PySem.W.Frag} {mg : Str → Option Value} {E : WX} {md : List Bool} {P H : Hp} {W : Own} {σ : St} {ρ : Env} {D : Ends} {i j : Nat} {A B : OM}
theorem par_core (hk1 : md[i]? ≠ some true) (hk2 : md[j]? ≠ some true) (w : Wd K mg P W H σ ρ) (g : GoS K mg E md (sPar i A j B ρ) P W H σ D) :
    rX K mg E (TRel K mg) A σ H fun v H1 => rX K mg E (TRel K mg) B σ H1 fun v' H3 => ∃ P6 W6 ρ6, Wd K mg P6 W6 H3 ((σ.set i (some v)).set j (some v')) ρ6 ∧
      ∀ P7 W7 H7, Step P6 W6 H3 P7 W7 H7 → Wd K mg P7 W7 H7 ((σ.set i (some v)).set j (some v')) ρ6 → D.nx ((σ.set i (some v)).set j (some v')) H7 := by
  refine ⟨P, W, ρ, w, ?_⟩
  unfold sPar at g
  cases hA : A ρ with
  | fail => rw [hA] at g; exact g.elim
  | exc e ρ' => rw [hA] at g; exact fun c od P' W' H' s w' r => g c od σ P' W' H' s w' (Kp.refl md σ) r
  | ok r =>
    rw [hA, ok_bind] at g
    intro v P1 W1 H1 st1 ⟨w1, r1⟩
    by_cases hr : rootT r.1 = true
    · rw [if_pos hr] at g
      obtain ⟨W2, w2, st2, pd, nr⟩ := w1.pend r1 hr
      refine ⟨P1, W2, r.2, w2, ?_⟩
      cases hB : B r.2 with
      | fail => rw [hB] at g; exact g.elim
      | exc e ρ' => rw [hB] at g; exact fun c od P' W' H' s w' r => g c od σ P' W' H' ((st1.trans st2).trans s) w' (Kp.refl md σ) r
      | ok r' =>
        rw [hB, ok_bind] at g
        intro v' P3 W3 H3 st3 ⟨w3, r3⟩
        split at g
        · rename_i hcond
          obtain ⟨g2, g3, g4⟩ := hcond
          have pd3 := pd.step st3
          obtain ⟨W4, w4, st4, pd', nr'⟩ := w3.pend r3 g2
          have pd4 := pd3.step st4
          obtain ⟨W5, w5, n5⟩ := w4.adoptR pd4 g3
          have pd5 : Pend K P3 W5 H3 r'.1 v' := by
            have key : ∀ x, RootAt r'.1 v' x → W5 x = none := fun x hx => n5 x (pd'.root hx).1 fun z => by
              have : W3 x = none := (pd3.root z).1
              exact nr' x hx this
            revert pd' key
            cases r'.1 with
            | sh d => exact fun q _ => q
            | lst ds => rintro ⟨c, vs, e, hw, hp, hh, l⟩ key; exact ⟨c, vs, e, key c e, hp, hh, l⟩
            | dct ks ds => rintro ⟨c, vs, e, hw, hp, hh, k, l⟩ key; exact ⟨c, vs, e, key c e, hp, hh, k, l⟩
            | _ => exact fun q _ => q
          obtain ⟨W6, w6, n6⟩ := w5.adoptR (i := j) pd5 (by simpa using g4)
          refine ⟨P3, W6, _, w6, fun P7 W7 H7 s7 w7 => g _ P7 W7 H7 (Step.trans ?_ s7) w7 (Kp.trans (Kp.set hk1) (Kp.set hk2))⟩
          have all := (((st1.trans st2).trans st3).trans st4)
          refine ⟨all.1, fun x o hx wx => ?_⟩
          obtain ⟨a1, a2, a3⟩ := all.2 x o hx wx
          refine ⟨a1, n6 x (n5 x a2 fun z => ?_) fun z => ?_, a3⟩
          · exact nr x z (st1.2 x o hx wx).2.1
          · exact nr' x z (((st1.trans st2).trans st3).2 x o hx wx).2.1
        · exact g.elim
    · rw [if_neg hr] at g; exact g.elim
end
section
variable {X : Cx} {E : WX} {md : List Bool} {i j : Nat} {x y : Str} {a b : Expr} {A B : OM} {px py pt pos : Pos} {kt k2 : Nat} {pt2 : Pos}
theorem sd_parT (hc : X.calm = true) (hN : X.N.Nodup) (hi : X.N[i]? = some x) (hj : X.N[j]? = some y) (hx : Loc X.env.scope x) (hy : Loc X.env.scope y) (ha : ET X E a A) (hb : ET X E b B) (hk1 : md[i]? ≠ some true) (hk2 : md[j]? ≠ some true)
    (hw : swappedStores [.Tuple [.Name x px, .Name y py] kt pt] (.Tuple [a, b] k2 pt2) X.env = pure none)
    (hf1 : X.fn x = true ∨ X.env.scope.names.lookup x = some .local := by first | exact .inl rfl | exact .inr rfl) (hf2 : X.fn y = true ∨ X.env.scope.names.lookup y = some .local := by first | exact .inl rfl | exact .inr rfl)
    (hs1 : starEach [a, b] X.env = (false, eval a X.env) :: starEach [b] X.env := by rfl) (hs2 : starEach [b] X.env = (false, eval b X.env) :: starEach [] X.env := by rfl)
    (hs : swapsWithSole [.Tuple [.Name x px, .Name y py] kt pt] (.Tuple [a, b] k2 pt2) pos.line X.env = pure false := by rfl) :
    SD X E md (.Assign [.Tuple [.Name x px, .Name y py] kt pt] (.Tuple [a, b] k2 pt2) pos) (sPar i A j B) :=
  PS.imp (ps_asg (pe_tup (pa_cons ha (pa_cons hb pa_nil hs2) hs1)) (pg_tup (n := 2) hc (pgs_cons (pg_name hN hi hx hf1) (pgs_cons (pg_name hN hj hy hf2) pgs_nil))) hs hw) fun D σ H ⟨P, W, ρ, w, g⟩ => by
    obtain ⟨P0, W0, ρ0, w0, go⟩ := par_core hk1 hk2 w g
    refine ⟨P0, W0, ρ0, w0, go.mono fun v H1 ⟨P1, W1, ρ1, w1, go1⟩ => ⟨P1, W1, ρ1, w1, go1.mono fun v' H3 ⟨P6, W6, ρ6, w6, fin⟩ => ?_⟩⟩
    refine ⟨by show 2 ≤ sizeLine; decide, fun t nt => ⟨t, [v, v'], rfl, SqT.of upd_same, rfl, v, [v'], rfl, v', [], rfl, rfl, ?_⟩⟩
    have al := Al.newH (P := P6) (o := HO.tup [v, v']) w6.same nt
    exact fin P6 W6 _ (al.step W6) (w6.al al)
end
end Od
namespace Od
open PySem PySem.Spec L2
open PyProof.Rows hiding St cutD
/-! ### x op= e -/
def sAug (i : Nat) (f : D → D → Option D) (F : EM) : SM := fun ρ => eV i ρ >>= fun a => F a.2 >>= fun b => Res.of (f a.1 b.1) >>= fun r => Res.of (putE i (.sh r) b.2) >>= fun ρ1 => .ok (.nx ρ1)
section
variable {X : Cx} {E : WX} {md : List Bool} {i : Nat} {x : Str} {e : Expr} {F : EM} {op : Operator} {pos pos' : Pos} {r : R2} {f : D → D → Option D}
theorem sd_aug (hc : OpR X (inplaceOp op) r) (hf : Op2V X.K r f) (hN : X.N.Nodup) (hi : X.N[i]? = some x) (hx : Loc X.env.scope x) (he : EV X E e F) (hk : md[i]? ≠ some true) (hfn : X.fn x = true ∨ X.env.scope.names.lookup x = some .local := by first | exact .inl rfl | exact .inr rfl) :
    SD X E md (.AugAssign (.Name x pos') op e pos) (sAug i f F) := PS.imp (ps_aug hN hi hx he hc hfn) fun D σ H ⟨P, W, ρ, w, g⟩ => by
  unfold sAug eV at g
  split at g
  · rename_i d hd
    rw [ok_bind] at g
    obtain ⟨v, hs, dv⟩ := w.env i _ hd
    have dv : Den X.K P d v := dv
    refine ⟨v, hs, P, W, ρ, w, ?_⟩
    refine (GoS.val (Rel := VRel X.K X.mg) g).mono fun u H1 ⟨P1, W1, b, s1, ⟨w1, db⟩, g1⟩ => ?_
    obtain ⟨res, hr, g2⟩ := GoS.of g1
    refine hf P1 H1 v u d b.1 res _ w1.same (Den.view w1.same (Den.mono s1.1 _ _ dv)) (Den.view w1.same db) hr fun z P2 H2 al dz => ?_
    obtain ⟨ρ2, e2, g3⟩ := GoS.of g2
    obtain ⟨hi2, rfl⟩ := putE_some e2
    obtain ⟨W2, w2, s2⟩ := (w1.al al).put (t := .sh res) dz hi2
    exact g3 _ P2 W2 H2 ((al.step W1).trans s2) w2 (Kp.set hk)
  · exact g.elim
end
/-! ### xs[e] op= e', xs a list of the variable's own -/
/-! ### int(s) of figures -/
section
variable {ΦS : Fl → Prop} {Ψ : Exn → Env → Prop} {ρ : Env} {F B : EM}
theorem s_aug (i : Nat) (f : D → D → Option D) : sat (sAug i f F ρ) ΦS Ψ = ex (lkS ρ i) fun d => sat (F ρ) (fun b => ex (f d b.1) fun r => ex (setE b.2 i (some (.sh r))) fun ρ' => ΦS (.nx ρ')) Ψ := by
  unfold sAug
  rw [sat_bind, s_eV]
  congr 1; funext d
  rw [sat_bind]; congr 1; funext b
  rw [sat_bind, sat_of]; congr 1; funext r
  rw [sat_bind, sat_of, ex_setE, ex_putE]; rfl
end
/-! ### {} and d[k] = v -/
def putKD (ks : List DK) (vs : List D) (k : DK) (d : D) : List DK × List D := if (ks.any fun x => decide (x = k)) = true then (ks, (ks.zip vs).map fun p => if p.1 = k then d else p.2) else (ks ++ [k], vs ++ [d])
def lkDc (ρ : Env) (i : Nat) : Option (List DK × List D) := match ρ[i]? with
  | some (some (.dct ks vs)) => some (ks, vs)
  | _ => none
def tD0 : OM := fun ρ => .ok (.dct [] [], ρ)
def gDx (i : Nat) (B : EM) : GM := fun d ρ => (lkDc ρ i).bind fun _ => match B ρ with
  | .ok (kd, ρ1) => (keyD kd).bind fun k => (lkDc ρ1 i).bind fun r => if r.1.length < 1000000 then some (ρ1.set i (some (.dct (putKD r.1 r.2 k d).1 (putKD r.1 r.2 k d).2))) else none
  | _ => none
section
variable {K : PySem.W.Frag} {mg : Str → Option Value} {P H : Hp} {W : Own} {σ : St} {ρ : Env}
theorem lkDc_some {i : Nat} {r : List DK × List D} (h : lkDc ρ i = some r) : ρ[i]? = some (some (.dct r.1 r.2)) := by
  unfold lkDc at h
  split at h
  · rename_i e; cases h; exact e
  · cases h
theorem Wd.dctAt {i : Nat} {ks : List DK} {ds : List D} (w : Wd K mg P W H σ ρ) (e : ρ[i]? = some (some (.dct ks ds))) : ∃ l ws, σ[i]? = some (some (.ref l)) ∧ W l = some (some i, Option.none) ∧ H l = some (.dK ws) ∧ ws.map Prod.fst = ks.map kK ∧ DenL K P ds (ws.map Prod.snd) ∧ i < ρ.length := by
  obtain ⟨v, hs, hr⟩ := w.env i _ e
  obtain ⟨a, ws, rfl, hw, hh, k, l⟩ := hr
  exact ⟨a, ws, hs, hw, hh, k, l, (List.getElem?_eq_some_iff.mp e).1⟩
theorem putK_den : ∀ {ks : List DK} {ds : List D} {ws : List (Key × V)} {k : DK} {d : D} {v : V}, ws.map Prod.fst = ks.map kK → DenL K P ds (ws.map Prod.snd) → Den K P d v →
    (putK ws (kK k) v).map Prod.fst = (putKD ks ds k d).1.map kK ∧ DenL K P (putKD ks ds k d).2 ((putK ws (kK k) v).map Prod.snd) := by
  intro ks ds ws k d v h1 h2 hd
  have hany : (ws.any fun kv => decide (kv.1 = kK k)) = (ks.any fun x => decide (x = k)) := by
    have : (ws.any fun kv => decide (kv.1 = kK k)) = ((ws.map Prod.fst).any fun x => decide (x = kK k)) := by rw [List.any_map]; rfl
    rw [this, h1, List.any_map]
    congr 1
    funext x
    simp only [Function.comp]
    by_cases e : x = k
    · subst e; simp
    · rw [decide_eq_false e, decide_eq_false fun z => e (kK_inj z)]
  unfold putK putKD
  by_cases hk : (ks.any fun x => decide (x = k)) = true
  · rw [hany, if_pos hk, if_pos hk]
    clear hany hk
    induction ws generalizing ks ds with
    | nil =>
      cases ks with
      | nil => exact ⟨rfl, by simp only [List.map_nil, List.zip_nil_left]; exact DenL.nil⟩
      | cons a b => cases h1
    | cons p ws ih =>
      cases ks with
      | nil => cases h1
      | cons a ks =>
        simp only [List.map_cons, List.cons.injEq] at h1
        cases ds with
        | nil => unfold DenL at h2; cases h2
        | cons d0 ds =>
          obtain ⟨v0, r, e, q1, q2⟩ := h2
          simp only [List.map_cons, List.cons.injEq] at e
          obtain ⟨rfl, rfl⟩ := e
          obtain ⟨i1, i2⟩ := ih h1.2 q2
          simp only [List.map_cons, List.zip_cons_cons]
          by_cases ha : a = k
          · have e2 : p.1 = kK k := by rw [h1.1, ha]
            rw [if_pos e2, if_pos ha]
            exact ⟨by rw [i1, ← h1.1], DenL.cons hd i2⟩
          · have e2 : ¬ p.1 = kK k := by rw [h1.1]; exact fun z => ha (kK_inj z)
            rw [if_neg e2, if_neg ha]
            exact ⟨by rw [i1, ← h1.1], DenL.cons q1 i2⟩
  · rw [hany, if_neg hk, if_neg hk]
    exact ⟨by simp [h1], by rw [List.map_append]; exact DenL.append h2 (DenL.cons hd DenL.nil)⟩
end
section
variable {X : Cx} {E : WX} {i : Nat} {x : Str} {p1 pos : Pos} {e : Expr} {B : EM} {sl : List Nat}
theorem et_dnew : ET X E (.Dict [] [] pos) tD0 := PE.imp pe_dnewK fun σ H Q ⟨P, W, ρ, w, g⟩ => fun p n => by
  obtain ⟨w2, s2⟩ := w.newT (o := .dK []) n
  exact g (.ref p) P _ _ s2 ⟨w2, p, [], rfl, by simp [ownNew], upd_same, rfl, DenL.nil⟩
theorem gd_dx (hu : X.A.units + 1 < cLine) (hN : X.N[i]? = some x) (hv : Vis X.env.scope x) (hb : EV X E0 e B) (hd : (x == ("__debug__" : Str)) = false := by decide) (hcd : (x == ("__classdict__" : Str)) = false := by decide)
    (ha : ∀ v, assign (.Subscript (.Name x p1) e pos) X.env v = (do
      let ov ← holding [v] (eval (.Name x p1) X.env)
      let iv ← holding [v, ov] (eval e X.env)
      standAt pos
      holding [v, ov, iv] (setItem ov iv v)
      release [v, ov, iv] []) := by intro _; rfl) : GD X sl (.Subscript (.Name x p1) e pos) (gDx i B) :=
  PG.imp (pg_sub (pe_var hN hv hd hcd) hb (set_dict hu) ha) fun v σ H Q ⟨P, W, ρ, d, ρ', w, dn, e, q⟩ => by
    unfold gDx at e
    obtain ⟨r0, e0, e⟩ := Option.bind_eq_some_iff.mp e
    obtain ⟨l, ws0, hs, hw0, hh0, _⟩ := w.dctAt (lkDc_some e0)
    refine ⟨.ref l, hs, P, W, ρ, w, ?_⟩
    cases hB : B ρ with
    | fail => rw [hB] at e; cases e
    | exc y ρ1 => rw [hB] at e; cases e
    | ok rb =>
      obtain ⟨b, ρ1⟩ := rb
      rw [hB] at e
      obtain ⟨k, ek, e⟩ := Option.bind_eq_some_iff.mp e
      obtain ⟨r1, e1, e⟩ := Option.bind_eq_some_iff.mp e
      split at e
      · rename_i hl
        cases e
        intro y P1 W1 H1 st ⟨w1, dy⟩
        obtain ⟨l', ws, hs', hw, hh, hk, dl, hi⟩ := w1.dctAt (lkDc_some e1)
        rw [hs] at hs'
        cases hs'
        obtain rfl := keyD_den ek dy
        have hwl : ws.length = r1.1.length := by have := congrArg List.length hk; simpa using this
        refine ⟨l, _, rfl, DPut.k hh (by rw [hwl]; exact Nat.lt_of_lt_of_le hl (by decide)), ?_⟩
        obtain ⟨g1, g2⟩ := putK_den (k := k) hk dl (Den.mono st.1 _ _ dn)
        obtain ⟨w2, s2⟩ := w1.mut (o := .dK (putK ws (kK k) v)) (t := .dct (putKD r1.1 r1.2 k d).1 (putKD r1.1 r1.2 k d).2) hi hs hw ⟨l, _, rfl, hw, upd_same, g1, g2⟩
        exact q σ P1 W1 _ (st.trans s2) w2 (Ke.refl sl σ)
      · cases e
end
section
variable {Ψ : Exn → Env → Prop} {ρ : Env} {ΦT : T × Env → Prop} {B : EM} {ΦR : List DK × List D → Prop}
theorem s_d0 : sat (tD0 ρ) ΦT Ψ = ΦT (.dct [] [], ρ) := rfl
theorem k_lkDc0 (ks : List DK) (vs : List D) : ex (lkDc (some (.dct ks vs) :: ρ) 0) ΦR = ΦR (ks, vs) := rfl
theorem k_lkDcs (x : Option T) (i : Nat) : ex (lkDc (x :: ρ) (i + 1)) ΦR = ex (lkDc ρ i) ΦR := rfl
theorem m_gDx (i : Nat) (d : D) {Φ : Env → Prop} : ex (gDx i B d ρ) Φ = ex (lkDc ρ i) fun _ => sat (B ρ) (fun a => ex (keyD a.1) fun k => ex (lkDc a.2 i) fun r => r.1.length < 1000000 ∧ cps (List.set a.2 i (some (.dct (putKD r.1 r.2 k d).1 (putKD r.1 r.2 k d).2))) Φ) (fun _ _ => False) := by
  unfold gDx
  rw [ex_bind]; congr 1; funext _
  cases B ρ with
  | fail => rfl
  | exc x ρ => rfl
  | ok r =>
    obtain ⟨b, ρ1⟩ := r
    show ex (Option.bind _ _) _ = ex (keyD b) _
    rw [ex_bind]; congr 1; funext k
    rw [ex_bind]
    show ex (lkDc ρ1 i) _ = ex (lkDc ρ1 i) _
    congr 1; funext r
    rw [ex_ite]; rfl
theorem x_keyi (i : Int) {Φ : DK → Prop} : ex (keyD (.int i)) Φ = Φ (.inl i) := rfl
theorem x_keys (s : Tx) {Φ : DK → Prop} : ex (keyD (.str s)) Φ = Φ (.inr s) := rfl
end
end Od
namespace Od
open PySem PySem.Spec L2
open PyProof.Rows hiding St cutD
def fAddI : D → D → Option D
  | .int i, .int j => some (.int (i + j))
  | _, _ => none
section
variable {K : PySem.W.Frag}
theorem f_addI : Op2V K (rI0 fun i j => .int (i + j)) fAddI := fun P H x y d e res Q s v1 v2 hf q => by
  unfold fAddI at hf
  split at hf
  · cases hf; exact ⟨_, _, vint v1, vint v2, q _ P H (Al.refl s) dint⟩
  · cases hf
end
theorem x_addI (i j : Int) {Φ : D → Prop} : ex (fAddI (.int i) (.int j)) Φ = Φ (.int (i + j)) := rfl
end Od
namespace Od
open PySem PySem.Spec L2
open PyProof.Rows hiding St cutD
/-! ### a, b, .. = x, y, .. of any number -/
abbrev Wt := Nat × T × V
section
variable {K : PySem.W.Frag} {mg : Str → Option Value} {E : WX} {md : List Bool} {P H : Hp} {W W' : Own} {σ : St} {ρ : Env} {D : Ends} {t : T} {v : V}
theorem Pend.own (h : Pend K P W H t v) (k : ∀ x, RootAt t v x → W' x = none) : Pend K P W' H t v := by
  cases t with
  | sh d => exact h
  | lst ds => obtain ⟨c, vs, e, hw, r⟩ := h; exact ⟨c, vs, e, k c e, r⟩
  | dct ks ds => obtain ⟨c, vs, e, hw, r⟩ := h; exact ⟨c, vs, e, k c e, r⟩
  | _ => exact h
end
section
variable {X : Cx} {E : WX} {md : List Bool} {e : Expr} {es : List Expr} {A : OM} {As : List (Nat × OM)} {i : Nat} {is : List Nat} {x : Str} {p pos : Pos}
end
section
variable {ΦS : Fl → Prop} {Ψ : Exn → Env → Prop} {ρ : Env} {A : OM} {i : Nat}
theorem c_app0 {α : Type} (y : α) {Φ : List α → Prop} : cps ([] ++ [y]) Φ = Φ [y] := rfl
theorem c_app1 {α : Type} (a y : α) {Φ : List α → Prop} : cps ([a] ++ [y]) Φ = Φ [a, y] := rfl
theorem c_app2 {α : Type} (a b y : α) {Φ : List α → Prop} : cps ([a, b] ++ [y]) Φ = Φ [a, b, y] := rfl
theorem c_app3 {α : Type} (a b c y : α) {Φ : List α → Prop} : cps ([a, b, c] ++ [y]) Φ = Φ [a, b, c, y] := rfl
end
end Od
namespace Od
open PySem PySem.Spec L2
open PyProof.Rows hiding St cutD
/-! ### s * n -/
end Od
namespace Od
open PySem PySem.Spec L2
open PyProof.Rows hiding St cutD
/-! ### enumerate over a text -/
end Od
namespace Od
open PySem PySem.Spec L2
open PyProof.Rows hiding St cutD
/-! ### sorted(xs) -/
/-- the order that sorted takes -/
def leD (d e : D) : Bool := PySem.W.dataLe false D.py d e
def isTp : D → Bool
  | .tup (_ :: _) => true
  | _ => false
def isAt : D → Bool
  | .int _ => true
  | .str _ => true
  | .bl _ => true
  | _ => false
/-- what sorted takes -/
def srtB (ds : List D) : Bool := (ds.all fun d => ds.all fun e => PySem.W.alike d.py e.py) && (ds.all isTp || ds.all isAt)
def fSorted : List D → Option (List D)
  | [.lst ds] => if srtB ds = true ∧ D.okL ds = true ∧ D.depL ds ≤ 30 ∧ ds.length ≤ 1000000 then some (ds.mergeSort leD) else none
  | _ => none
def rSrtD (K : PySem.W.Frag) : List V → Hp → VK → Prop := fun vs H Q => ∃ (a : Addr) (ys : List V) (ds : List D) (R : V → D → Prop), vs = [V.ref a] ∧ SqL K H a ys ∧ DpAll K H ys (D.pyL ds) ∧ PySem.W.EachIs R ys ds ∧
  srtB ds = true ∧ (∀ d ∈ ds, d.py.depth ≤ 30) ∧ ds.length ≤ sizeLine ∧ ∀ p out, H p = none → PySem.W.EachIs R out (ds.mergeSort leD) → Q (.ref p) (upd H p (.lst out))
theorem each_vals {R : V → D → Prop} : ∀ {ys : List V} {us : List Value} {ds : List D}, Vals ys us → PySem.W.EachIs R ys ds → PySem.W.EachIs (fun u d => ∃ v, RelV v u ∧ R v d) us ds
  | [], [], _, .nil, .nil => .nil
  | _ :: _, _ :: _, _, .cons r rr, .cons h hh => .cons ⟨_, r, h⟩ (each_vals rr hh)
theorem each_back {R : V → D → Prop} : ∀ {us : List Value} {ds : List D}, PySem.W.EachIs (fun u d => ∃ v, RelV v u ∧ R v d) us ds → ∃ ys, Vals ys us ∧ PySem.W.EachIs R ys ds
  | [], [], .nil => ⟨[], .nil, .nil⟩
  | _ :: _, _ :: _, .cons ⟨v, r, h⟩ hh => by
    obtain ⟨ys, a, b⟩ := each_back hh
    exact ⟨v :: ys, .cons r a, .cons h b⟩
theorem each_reads {h : Heap} : ∀ {us : List Value} {ds : List D} {as : List Addr}, ReadsAll h us (D.pyL ds) as → PySem.W.EachIs (fun u d => ∃ as, Reads h u (D.py d) as) us ds
  | _, [], _, r => by cases r; exact .nil
  | _, d :: ds, _, r => by
    cases r with
    | cons a b => exact .cons ⟨_, a⟩ (each_reads b)
theorem isTp_py {d : D} (h : isTp d = true) : ∃ x r, d.py = .tuple (x :: r) := by
  cases d with
  | tup xs =>
    cases xs with
    | nil => cases h
    | cons x xs => exact ⟨x.py, D.pyL xs, rfl⟩
  | _ => cases h
theorem isAt_py {d : D} (h : isAt d = true) : d.py ≠ .none ∧ ∀ xs, d.py ≠ .tuple xs := by
  cases d with
  | int i => exact by constructor <;> intros <;> intro z <;> cases z
  | str s => exact by constructor <;> intros <;> intro z <;> cases z
  | bl b => exact by constructor <;> intros <;> intro z <;> cases z
  | _ => cases h
theorem srtB_ok {ds : List D} (h : srtB ds = true) : PySem.W.AllAlike (ds.map D.py) ∧ PySem.W.Sortable (ds.map D.py) := by
  unfold srtB at h
  rw [Bool.and_eq_true, Bool.or_eq_true] at h
  obtain ⟨h1, h2⟩ := h
  rw [List.all_eq_true] at h1
  constructor
  · intro x hx y hy
    obtain ⟨d, hd, rfl⟩ := List.mem_map.mp hx
    obtain ⟨e, he, rfl⟩ := List.mem_map.mp hy
    exact List.all_eq_true.mp (h1 d hd) e he
  · rcases h2 with h2 | h2
    · refine .inl fun x hx => ?_
      obtain ⟨d, hd, rfl⟩ := List.mem_map.mp hx
      exact isTp_py (List.all_eq_true.mp h2 d hd)
    · refine .inr fun x hx => ?_
      obtain ⟨d, hd, rfl⟩ := List.mem_map.mp hx
      exact isAt_py (List.all_eq_true.mp h2 d hd)
theorem cr_srtD {X : Cx} (hu : X.A.units + 65 < cLine) : CallR X (.builtin "sorted") (rSrtD X.K) := by
  rintro pins s σ H vs us Q I r ⟨a, ys, ds, R, rfl, hs, hd, hr, hb, hdp, hz, q⟩
  obtain ⟨its, rv, hl, _⟩ := I.list hs
  obtain ⟨u, rfl, ru⟩ := vals1 r
  obtain rfl : u = Value.ref a := ru
  obtain ⟨as, ra⟩ := Dp.readsAll I (D.pyL ds) ys its hd rv
  obtain ⟨c1, c2⟩ := srtB_ok hb
  refine PySem.W.sorted_data hl.isList (each_vals rv hr) (each_reads ra) c1 c2 hz (fun d m => ?_) fun out ho eo => ?_
  · have := hdp d m; omega
  · obtain ⟨zs, z1, z2⟩ := each_back eo
    obtain ⟨n, hn⟩ := sortedAll_at s.heap its out.toArray
    refine ⟨.ref (s.heap.objs.size + 1), upd H (s.heap.objs.size + 1) (.lst zs), I.laid (t' := s.toks) (fun _ _ => sortedAll_old) (Nat.le_succ _) ⟨?_, out, n, z1, hn⟩, rfl, q _ zs (I.hok.fresh (Nat.le_succ _)) z2⟩
    rw [z1.length, ho]; exact hz
theorem each_den {K : PySem.W.Frag} {P : Hp} : ∀ {ds : List D} {vs : List V}, DenL K P ds vs → PySem.W.EachIs (fun v d => Den K P d v) vs ds
  | [], vs, h => by
    unfold DenL at h
    subst h; exact .nil
  | d :: ds, vs, h => by
    unfold DenL at h
    obtain ⟨v, r, rfl, a, b⟩ := h
    exact .cons a (each_den b)
theorem den_each {K : PySem.W.Frag} {P : Hp} : ∀ {ds : List D} {vs : List V}, PySem.W.EachIs (fun v d => Den K P d v) vs ds → DenL K P ds vs
  | [], _, .nil => DenL.nil
  | _ :: _, _, .cons a b => DenL.cons a (den_each b)
theorem okL_mem : ∀ {ds : List D} {d : D}, D.okL ds = true → d ∈ ds → d.ok = true
  | e :: ds, d, o, h => by
    unfold D.okL at o
    rw [Bool.and_eq_true] at o
    rcases List.mem_cons.mp h with rfl | h
    · exact o.1
    · exact okL_mem o.2 h
theorem f_sorted {K : PySem.W.Frag} : CbL K (rSrtD K) fSorted := by
  intro P H vs ds res Q s v hf q
  unfold fSorted at hf
  split at hf
  · rename_i ds
    split at hf
    · rename_i c
      obtain ⟨c1, c2, c3, c4⟩ := c
      cases hf
      obtain ⟨v, rfl, h⟩ := vl1 v
      obtain ⟨a, vs, rfl, e, l⟩ := vlst h
      refine ⟨a, vs, ds, fun v d => Den K P d v, rfl, SqL.of e, denL_dp s ds vs c2 l, each_den l, c1, fun d m => ?_, by unfold sizeLine; omega, fun p out hp ho => q p out hp (den_each ho)⟩
      rw [(py_ok d (okL_mem c2 m)).2]
      have := depL_mem d m; omega
    · cases hf
  · cases hf
theorem x_sorted (ds : List D) {ΦL : List D → Prop} : ex (fSorted [.lst ds]) ΦL = ((srtB ds = true ∧ D.okL ds = true ∧ D.depL ds ≤ 30 ∧ ds.length ≤ 1000000) ∧ ΦL (ds.mergeSort leD)) := by
  show ex (if _ then _ else _) _ = _
  rw [ex_ite]; rfl
end Od
namespace Od
open PySem PySem.Spec L2
open PyProof.Rows hiding St cutD
/-! ### an exception that is made and kept -/
section
variable {X : Cx} {E W : WX} {e : Expr} {F : EM} {x f : Tx} {n : Str} {p pos : Pos} {rs ts fl : List Tx}
end
/-! ### constants of the program -/
def GlD (K : PySem.W.Frag) (mg : Str → Option Value) (x : Str) (d : D) : Prop := ∃ v u, mg x = some u ∧ RelV v u ∧ ∀ P, Den K P d v
theorem ev_gl {X : Cx} {E : WX} {d : D} {x : Str} {pos : Pos} (h : GlD X.K X.mg x d) (hg : Gl X x) (hdb : (x == ("__debug__" : Str)) = false := by decide) : EV X E (.Name x pos) (eC d) := by
  obtain ⟨v, u, hm, r, k⟩ := h
  exact ev_glob hg hm r k hdb
section
variable {K : PySem.W.Frag} {mg : Str → Option Value} {x : Str}
theorem gl_str {s : Tx} {t : Tok} (h : mg x = some (.str (sT s) t)) : GlD K mg x (.str s) := ⟨.str (sT s), _, h, ⟨t, rfl⟩, fun P => by unfold Den; rfl⟩
theorem gl_int {i : Int} {t : Tok} (h : mg x = some (.int i t)) : GlD K mg x (.int i) := ⟨.int i, _, h, ⟨t, rfl⟩, fun P => by unfold Den; rfl⟩
theorem gl_tup {a : Addr} {o : Obj} {its : List Value} {n : Nat} {ss : List Tx} (h : mg x = some (.ref a)) (hk : K.lookup a = some o) (hc : o.cls = .type "tuple") (hd : o.data = .seq its.toArray n) (hl : its.length ≤ sizeLine) (hv : Vals (ss.map fun s => V.str (sT s)) its) : GlD K mg x (.tup (ss.map .str)) := by
  refine ⟨.ref a, _, h, rfl, fun P => ?_⟩
  unfold Den
  refine ⟨a, _, rfl, .inr ⟨o, its.toArray, n, hk, hc, hd, by simpa using hl, by simpa using hv⟩, ?_⟩
  clear hv h
  induction ss with
  | nil => exact DenL.nil
  | cons s r ih => exact DenL.cons (by unfold Den; rfl) ih
end
end Od
namespace Od
open PySem PySem.Spec L2
open PyProof.Rows hiding St cutD
/-! ### a, b, .. = a list -/
def gLs (gs : List GM) : GM := fun d ρ => match d with
  | .lst ds => gEach gs ds ρ
  | _ => none
section
variable {X : Cx} {sl : List Nat} {es : List Expr} {gs : List GM} {pos : Pos}
theorem gd_lst {k : Nat} {n : Nat} (hc : X.calm = true) (h : GDs X sl es gs) (hl : gs.length = n) (hn : (assignEach es X.env).length = n := by rfl) (hst : (assignEach es X.env).findIdx? (·.1) = none := by rfl) : GD X sl (.Tuple es k pos) (gLs gs) := by
  refine PG.imp (pg_lst hc h hn hst) ?_
  rintro v σ H Q ⟨P, W, ρ, d, ρ', w, dn, e, q⟩
  cases d with
  | lst ds =>
    unfold Den at dn
    obtain ⟨a, vs, rfl, t, l⟩ := dn
    have e2 : gEach gs ds ρ = some ρ' := e
    refine ⟨a, vs, rfl, same_l w.same (SqL.of t), ?_, P, W, ρ, ds, ρ', w, l, e2, q⟩
    rw [l.len, gEach_len e2, hl]
  | _ => cases e
end
theorem ex_gLs {ρ : Env} (gs : List GM) (ds : List D) {Φ : Env → Prop} : ex (gLs gs (.lst ds) ρ) Φ = ex (gEach gs ds ρ) Φ := rfl
end Od
namespace Od
open PySem PySem.Spec L2
open PyProof.Rows hiding St cutD
/-! ### list(range(..)) -/
section
variable {X : Cx} {E : WX} {e e2 : Expr} {F G : EM} {p p2 q pos : Pos}
end
section
variable {Ψ : Exn → Env → Prop} {ρ : Env} {ΦT : T × Env → Prop} {F G : EM} {ΦL : List D → Prop}
end
end Od
/-! set(xs) of a list of texts -/
namespace StSet
open PySem PySem.Spec PyProof.Rows
/-- the unlike ones, as they are met -/
def add1 (acc : List Str) (x : Str) : List Str := if acc.any (· == x) = true then acc else acc ++ [x]
def met (xs : List Str) : List Str := xs.foldl add1 []
theorem met_snoc (xs : List Str) (x : Str) : met (xs ++ [x]) = add1 (met xs) x := by unfold met; rw [List.foldl_append]; rfl
theorem add1_any (acc : List Str) (x k : Str) : (add1 acc x).any (· == k) = (acc.any (· == k) || decide (k = x)) := by
  unfold add1
  by_cases h : acc.any (· == x) = true
  · rw [if_pos h]
    by_cases e : k = x
    · subst e; rw [h]; rfl
    · rw [decide_eq_false e, Bool.or_false]
  · rw [if_neg h, List.any_append]
    congr 1
    by_cases e : k = x
    · subst e; simp
    · have : (x == k) = false := beq_eq_false_iff_ne.mpr fun z => e z.symm
      simp [this, e]
theorem add1_len (acc : List Str) (x : Str) : (add1 acc x).length = if acc.any (· == x) = true then acc.length else acc.length + 1 := by
  unfold add1; split <;> simp
theorem met_le (xs : List Str) : (met xs).length ≤ xs.length := by
  rw [← List.reverse_reverse xs]
  induction xs.reverse with
  | nil => exact Nat.le_refl 0
  | cons x r ih =>
    rw [List.reverse_cons, met_snoc, add1_len, List.length_append]
    split <;> simp only [List.length_singleton] <;> omega
/-- T is the set of the texts xs -/
def Of (P : Program) (w : World) (h : Heap) (T : Addr) (xs : List Str) : Prop := h.SetOf (strKind P w) T (fun k => (met xs).any (· == k)) (met xs).length
theorem Of.kp {P : Program} {w : World} {h h' : Heap} {T : Addr} {xs : List Str} (q : Of P w h T xs) (k : ∀ o, h.get? T = some o → h'.get? T = some o) : Of P w h' T xs := by
  obtain ⟨o, es, ep, t, ho, r⟩ := q
  exact ⟨o, es, ep, t, k o ho, r⟩
section
variable {P : Program} {w : World} {A : Around} {R : Result → Shared → Prop} {it : Addr} {fp wr : List Addr} {G : Array GenState → Array GenState → Prop} {n : Nat} {V : Nat → Value → Prop} {St : Nat → Shared → Prop}
theorem fill (W : WalksS P w A.in1 it fp wr G n V St) (T : Addr) (hT : T ∉ fp) (xs : List Str) (en : xs.length = n) (small : n < 4000)
    (get : ∀ i v, V i v → ∃ t, v = .str (xs.getD i Str.empty) t) (j : Nat) :
    ∀ (i : Nat) (s : Shared), i + j = n → St i s → Of P w s.heap T (xs.take i) → (∀ s', Moved (T :: wr) G s s' → Of P w s'.heap T xs → R (.ok (.ret .none)) s') →
      codeAny (model P w) A (.builtin "set.update.loop" ⟨[.ref T, .ref it], []⟩) R s := by
  have off : T ∉ wr := fun h => hT (W.sub _ h)
  have wide : ∀ b ∈ wr, b ∈ T :: wr := fun b h => .tail _ h
  induction j with
  | zero =>
    intro i s e at_ of k
    obtain rfl : i = n := e
    rw [← en, List.take_length] at of
    refine codeAny_builtin F.entry_set_update_loop ?_; rw [Around.under_plainId F.plain_set_update_loop _]
    show wpAny _ _ (pyNext (.ref it) >>= _) _ _ _
    refine wpAny_bind (W.done s _ _ at_ fun s1 mv => ?_)
    show wpAny _ _ (ret Value.none) _ _ _
    exact wpAny_pure (k s1 (mv.mono wide) (of.kp fun o g => mv.heap T o off g))
  | succ j ih =>
    intro i s e at_ of k
    have li : i < n := by omega
    refine codeAny_builtin F.entry_set_update_loop ?_; rw [Around.under_plainId F.plain_set_update_loop _]
    show wpAny _ _ (pyNext (.ref it) >>= _) _ _ _
    refine wpAny_bind (W.item i s _ _ li at_ fun v s1 hv at1 mv => ?_)
    obtain ⟨t, rfl⟩ := get i v hv
    have ex : xs.getD i Str.empty = xs[i]'(by omega) := by rw [List.getD_eq_getElem?_getD, List.getElem?_eq_getElem (by omega)]; rfl
    have tk : xs.take (i + 1) = xs.take i ++ [xs.getD i Str.empty] := by rw [ex, List.take_succ, List.getElem?_eq_getElem (by omega)]; rfl
    generalize xs.getD i Str.empty = x at *
    have lm := met_le (xs.take i)
    rw [List.length_take] at lm
    have of1 : Of P w s1.heap T (xs.take i) := of.kp fun o g => mv.heap T o off g
    show wpAny _ _ (holding [Value.str x t] (setAdd T (.str x t)) >>= _) _ _ _
    refine wpAny_bind (wpAny_holding ?_)
    unfold setAdd
    refine wpAny_holding (wpAny_bind ((strKind P w).pyHash (k := x) (strKind_is _ _ _ _) ?_))
    refine wpAny_setAddHashed_of (s := ⟨s1.heap, s1.gens, s1.drawn, s1.toks + 1, s1.os⟩) (strKind_is _ _ _ _) rfl of1 (by unfold scanBound; omega) fun h2 only of2 => ?_
    have of3 : Of P w h2 T (xs.take (i + 1)) := by
      unfold Of
      rw [tk, met_snoc]
      exact SetOf_congr of2 (fun k => (add1_any _ x k).symm) (add1_len _ x).symm
    refine wpAny_pure ⟨plainId_quiet F.plain_set_update_loop _, ih (i + 1) _ (by omega) (W.frame _ s1 _ _ at1 (Nat.le_succ _) fun b hb o g => ?_) of3 fun s3 mv3 of4 => ?_⟩
    · rw [only.2 b fun z => hT (z ▸ hb)]; exact g
    · refine k s3 (Moved.trans W.gtrans ((mv.mono wide).then_heap (Nat.le_succ _) fun b o hb g => ?_) mv3) of4
      rw [only.2 b fun z => hb (z ▸ .head _)]; exact g
end
section
variable {P : Program} {w : World} {A : Around} {E : Value → Shared → Prop} {s : Shared}
/-- a set that is just made -/
abbrev raw (b : Bool) : Obj := { cls := .type "set", dict := none, data := .set #[] 0 (.fresh 0 0 b) }
theorem raw_of {h : Heap} {T : Addr} {b : Bool} (g : h.get? T = some (raw b)) : Of P w h T [] :=
  SetOf_congr ((setObjOf_fresh (knd := strKind P w) b).setOf g (by unfold scanBound; omega)) (fun _ => rfl) rfl
theorem call {l : Addr} {its : Array Value} {xs : List Str} {Q : Value → Shared → Prop} (hh : A.handled = none) (hl : s.heap.IsList l its) (sv : StrsAre its.toList xs) (small : xs.length < 4000)
    (k : ∀ (h2 : Heap) (t : Nat), Of P w h2 s.heap.objs.size xs → (∀ b o, b < s.heap.objs.size → s.heap.get? b = some o → h2.get? b = some o) → Q (.ref s.heap.objs.size) { s with heap := h2, toks := t }) :
    wpAny (model P w) A (PySem.call (.type "set") [.ref l]) Q E s := by
  obtain ⟨_, _, mro_⟩ := PySem.F.called_set.mro
  have a1 := PySem.F.called_set.made; have a2 := PySem.F.called_set.sub; have a3 := PySem.F.called_set.notType; have a4 := PySem.F.called_set.canCreate; have a5 := PySem.F.typeCall_set_1 (.ref l)
  refine wpAny_call (codeAny_of_tree ?_); show wpAny _ _ (callAny (.type "set") _) _ _ _
  refine wpAny_pure ⟨Code.quiet_builtin _ (by decide +kernel), ?_⟩
  refine codeAny_builtin PySem.F.entry_type_call ?_
  rw [Around.under_plain (weight_type_call_type "set" [.ref l] []) rfl]
  repeat (any_goals (first | assumption | wp_step))
  have new : ∀ b : Bool, (s.heap.push (raw b)).get? s.heap.objs.size = some (raw b) := fun b => Heap.get?_push_size _ rfl
  refine codeAny_mono (code_set_new_1 (.ref l) (E := E) (Q₁ := fun v s1 => ∃ b, v = .ref s.heap.objs.size ∧ s1 = { s with heap := s.heap.push (raw b) }) fun b => ⟨b, rfl, rfl⟩) ?_
  rintro (e | f) s1 q1
  · exact q1
  cases f with
  | ret v =>
    obtain ⟨b, rfl, rfl⟩ := q1
    have ty : Shared.TypeIs { s with heap := s.heap.push (raw b) } (.ref s.heap.objs.size) "set" := ⟨_, new b, rfl⟩
    have a6 := PySem.F.called_set.init.lookup; have a7 := PySem.F.called_set.init.bind (.ref s.heap.objs.size)
    repeat (any_goals (first | assumption | wp_step))
    refine codeAny_mono (codeAny_call_builtin (R := wants (fun r s2 => r = .none ∧ ∃ h2 t, s2 = { s with heap := h2, toks := t } ∧ Of P w h2 s.heap.objs.size xs ∧ ∀ b o, b < s.heap.objs.size → s.heap.get? b = some o → h2.get? b = some o) E)
      PySem.F.called_set.init.plain PySem.F.entry_set_init (check_set_init_1 ty ?_)) ?_
    · obtain ⟨⟨oc, od, da, osl⟩, g, rfl, m, rfl⟩ := hl
      have ll : l < s.heap.objs.size := Heap.lt_size g
      have b1 := PySem.F.sub_list_set; have b2 := PySem.F.sub_list_frozenset
      have b3 : (Value.type "list" == Value.type "dict") = false := by decide
      have isl : (s.heap.push (raw b)).IsList l its := ⟨_, Heap.get?_push_of_some _ g, rfl, m, rfl⟩
      have sz : xs.length = its.size := by rw [← StrsAre.len_eq sv, Array.length_toList]
      unfold Builtin.«set.__init__» noKeywords Builtin.Frozenset.updateFrom; generalize hI : pyIter = I_
      wp_walk
      subst hI
      refine wpAny_pyIter_list isl (wpAny_bind (wpAny_runValue ?_))
      have top : (s.heap.push (raw b)).objs.size = s.heap.objs.size + 1 := Heap.size_push _ _
      refine fill ((Walks.list (by simp [hh]) _ l (by rw [top]; exact Nat.ne_of_lt (Nat.lt_succ_of_lt ll)) its).toS) s.heap.objs.size ?_ xs sz (by omega) (fun i v hv => SS.strs_at sv i v (by rw [Array.getElem?_toList]; exact hv)) its.size 0 _ (by omega) ⟨⟨_, Heap.get?_push_size _ rfl, rfl, rfl⟩, isl.push _⟩ ?_ ?_
      · rw [top]
        simp only [List.mem_cons, List.not_mem_nil, or_false, not_or]
        exact ⟨Nat.ne_of_lt (Nat.lt_succ_self _), Nat.ne_of_gt ll⟩
      · rw [List.take_zero]
        exact raw_of (b := b) (Heap.get?_push_of_some _ (new b))
      · rintro ⟨h2, g2, d2, t2, o2⟩ mv of
        obtain rfl : g2 = s.gens := mv.gens
        obtain rfl : d2 = s.drawn := mv.drawn
        obtain rfl : o2 = s.os := mv.os
        show wpAny _ _ _ _ _ _
        refine wpAny_pure ?_
        show wpAny _ _ (ret Value.none) _ _ _
        refine wpAny_pure ⟨rfl, h2, t2, rfl, of, fun c o hc e => mv.heap c o ?_ (Heap.get?_push_of_some _ (Heap.get?_push_of_some _ e))⟩
        rw [top]
        simp only [List.mem_cons, List.not_mem_nil, or_false, not_or]
        exact ⟨Nat.ne_of_lt hc, Nat.ne_of_lt (Nat.lt_succ_of_lt hc)⟩
    · rintro (e | f) s2 q2
      · exact q2
      cases f with
      | ret r =>
        obtain ⟨rfl, h2, t, rfl, of, kp⟩ := q2
        repeat (any_goals (first | assumption | wp_step))
        exact k _ _ of kp
      | _ => exact q2.elim
  | _ => exact q1.elim
end
end StSet
namespace L2
open PySem PySem.Spec PyProof.Rows
section
variable {X : Cx}
/-- len(set(xs)) -/
def tLenSetT (K : PySem.W.Frag) (ta : TE) : TE := fun σ H Q => ta σ H fun x H1 => ∃ (l : Addr) (xs : List Str), x = .ref l ∧ SqL K H1 l (xs.map V.str) ∧ xs.length < 4000 ∧ Q (.int ((StSet.met xs).length : Nat)) H1
theorem pe_lenSetT {e : Expr} {te : TE} {p p2 q pos : Pos} (hc : X.calm = true) (gl : Gl X "len") (ml : X.mg "len" = none) (gs : Gl X "set") (ms : X.mg "set" = none) (he : PE X e te)
    (na : starEach [e] X.env = (false, eval e X.env) :: starEach [] X.env := by rfl) : PE X (.Call (.Name "len" p) [.Call (.Name "set" p2) [e] [] q] [] pos) (tLenSetT X.K te) := ⟨fun pins s σ H Q I h => by
  refine Call_ (ld_blt I gl ml PySem.boot_len (callWith_builtin1 (args_cons (Call_ (ld_blt I gs ms boot_set (callWith_type1 (args_cons (thn (he.run pins s σ H _ I h) ?_) na) na rfl))) rfl) rfl rfl))
  rintro v s1 ⟨x, H1, I1, r1, l, xs, rfl, hs, small, q1⟩
  refine args_nil ?_
  obtain rfl : v = .ref l := r1
  obtain ⟨its, rv, pl, _⟩ := I1.list hs
  refine StSet.call (I1.ok.hd hc) pl.isList (by simpa using strsAre_of rv) small fun h2 t of kp => args_nil ?_
  have le := StSet.met_le xs
  obtain ⟨o, es, ep, tb, ho, hx, hd, _, _, _, hf, hn⟩ := of
  have I2 : Inv X pins σ H1 { s1 with heap := h2, toks := t } := I1.kept fun b o e => kp b o (Heap.lt_size e) e
  exact call_len_set ho hx hd hf (by rw [hn]; omega) ⟨.int ((StSet.met xs).length : Nat), H1, I2.tok _, ⟨_, by rw [hn]⟩, q1⟩⟩
end
end L2
namespace Od
open PySem PySem.Spec L2
open PyProof.Rows hiding St cutD
def nub1 (acc : List Tx) (x : Tx) : List Tx := if acc.any (· == x) = true then acc else acc ++ [x]
def nubT (xs : List Tx) : List Tx := xs.foldl nub1 []
theorem nub_met1 (acc : List Tx) (x : Tx) : StSet.add1 (acc.map sT) (sT x) = (nub1 acc x).map sT := by
  have e : (acc.map sT).any (· == sT x) = acc.any (· == x) := by
    rw [List.any_map]
    congr 1
    funext y
    show (sT y == sT x) = (y == x)
    by_cases z : y = x
    · subst z; simp
    · rw [beq_eq_false_iff_ne.mpr z, beq_eq_false_iff_ne.mpr fun w => z (sT_inj w)]
  unfold StSet.add1 nub1
  rw [e]
  split <;> simp
theorem nub_met (xs : List Tx) : StSet.met (xs.map sT) = (nubT xs).map sT := by
  have : ∀ (xs acc : List Tx), (xs.map sT).foldl StSet.add1 (acc.map sT) = (xs.foldl nub1 acc).map sT := by
    intro xs
    induction xs with
    | nil => intro acc; rfl
    | cons x xs ih => intro acc; rw [List.map_cons, List.foldl_cons, List.foldl_cons, nub_met1, ih]
  exact this xs []
def fLenSet : D → Option D
  | .lst ds => (allStrs ds).bind fun xs => if xs.length < 4000 then some (.int ((nubT xs).length : Nat)) else none
  | _ => none
section
variable {X : Cx} {E : WX} {e : Expr} {A : HM} {p p2 q pos : Pos}
theorem ev_lenSet (hc : X.calm = true) (gl : Gl X "len") (ml : X.mg "len" = none) (gs : Gl X "set") (ms : X.mg "set" = none) (ha : EH X E e A)
    (na : starEach [e] X.env = (false, eval e X.env) :: starEach [] X.env := by rfl) : EV X E (.Call (.Name "len" p) [.Call (.Name "set" p2) [e] [] q] [] pos) (e1 fLenSet A) :=
  PE.imp (pe_lenSetT hc gl ml gs ms ha na) fun σ H Q ⟨P, W, ρ, w, g⟩ => ⟨P, W, ρ, w, (Go.bind g).mono fun v H1 ⟨P1, W1, a, s1, ⟨w1, k1⟩, g1⟩ => by
    obtain ⟨res, e', g2⟩ := Go.of g1
    obtain ⟨d, hd, hf⟩ := Option.bind_eq_some_iff.mp e'
    unfold fLenSet at hf
    split at hf
    · rename_i ds
      obtain ⟨xs, h1, h2⟩ := Option.bind_eq_some_iff.mp hf
      split at h2
      · rename_i small
        cases h2
        obtain rfl := allStrs_of h1
        obtain ⟨b, vs, rfl, hb, l⟩ := vlst (Hok.view w1 k1 hd)
        rw [l.strs] at hb
        refine ⟨b, xs.map sT, rfl, SqL.of hb, by simpa using small, ?_⟩
        rw [nub_met, List.length_map]
        exact g2 _ P1 W1 H1 (Step.refl P1 W1 H1) ⟨w1, dint⟩
      · cases h2
    · cases hf⟩
end
theorem x_lenSet (ds : List D) {Φ : D → Prop} : ex (fLenSet (.lst ds)) Φ = ex (allStrs ds) fun xs => xs.length < 4000 ∧ Φ (.int ((nubT xs).length : Nat)) := by
  show ex (Option.bind _ _) _ = _
  rw [ex_bind]; congr 1; funext xs; rw [ex_ite]; rfl
end Od
namespace Od
open PySem PySem.Spec L2
open PyProof.Rows hiding St cutD
theorem x_and1 (i : Int) {Φ : D → Prop} : ex (fAnd (.int i) (.int 1)) Φ = Φ (.int (i % 2)) := by
  show Φ (.int (Builtin.bitAnd i 1)) = _
  rw [PyProof.Rows.bitAnd_m1]
theorem x_ixdi (ks : List DK) (vs : List D) (i : Int) {Φ : D → Prop} : ex (fIdx (.dct ks vs) (.int i)) Φ = ex (kLook ks vs (.inl i)) Φ := rfl
/-- a key that is new -/
theorem putKD_new {ks : List DK} {vs : List D} {k : DK} {d : D} (h : k ∉ ks) : putKD ks vs k d = (ks ++ [k], vs ++ [d]) := by
  unfold putKD
  rw [if_neg]
  intro z
  obtain ⟨x, hx, e⟩ := List.any_eq_true.mp z
  exact h (of_decide_eq_true e ▸ hx)
theorem kLook_some {ks : List DK} {vs : List D} {k : DK} (hl : ks.length = vs.length) (h : k ∈ ks) : ∃ v, kLook ks vs k = some v ∧ v ∈ vs := by
  unfold kLook
  obtain ⟨i, hi, rfl⟩ := List.getElem_of_mem h
  have hm : (ks[i], vs[i]'(by omega)) ∈ ks.zip vs := by
    rw [List.mem_iff_getElem]
    exact ⟨i, by rw [List.length_zip]; omega, by rw [List.getElem_zip]⟩
  cases hf : (ks.zip vs).find? fun p => decide (p.1 = ks[i]) with
  | none =>
    have := List.find?_eq_none.mp hf _ hm
    simp at this
  | some p =>
    refine ⟨p.2, rfl, ?_⟩
    have := List.mem_of_find?_eq_some hf
    exact (List.of_mem_zip this).2
/-! ### the order of sorted -/
theorem leD_tot : PySem.W.TotalLe leD := by unfold leD PySem.W.dataLe; exact PySem.W.sortLe_total _ _ _
def enP (q : Nat × Nat) : D := .tup [.int (q.1 : Nat), .int (q.2 : Nat)]
def srtP (qs : List (Nat × Nat)) : List (Nat × Nat) := qs.mergeSort fun a b => leD (enP a) (enP b)
theorem leD_pair {l i l' i' : Int} (h : leD (.tup [.int l, .int i]) (.tup [.int l', .int i']) = true) : l ≤ l' := by
  have h : (!PyProof.Rows.lexLt PyProof.Rows.itemOrd [.inl 1, .inl l', .inl 1, .inl i', .inl 0] [.inl 1, .inl l, .inl 1, .inl i, .inl 0]) = true := h
  rw [PyProof.Rows.lex_cons, PyProof.Rows.lex_cons] at h
  apply Decidable.byContradiction
  intro z
  have e1 : PyProof.Rows.itemOrd.blt (.inl l') (.inl l) = true := decide_eq_true (by omega)
  have e2 : PyProof.Rows.itemOrd.blt (.inl (1 : Int)) (.inl (1 : Int)) = false := rfl
  rw [e1, e2] at h
  simp at h
theorem srtP_map (qs : List (Nat × Nat)) : (qs.map enP).mergeSort leD = (srtP qs).map enP := (List.map_mergeSort (r := fun a b => leD (enP a) (enP b)) (s := leD) (f := enP) (l := qs) (fun _ _ _ _ => rfl)).symm
theorem srtP_perm (qs : List (Nat × Nat)) : (srtP qs).Perm qs := List.mergeSort_perm _ _
theorem srtP_sorted (qs : List (Nat × Nat)) : (srtP qs).Pairwise fun a b => a.1 ≤ b.1 := by
  have := List.pairwise_mergeSort (le := fun a b => leD (enP a) (enP b)) (fun a b c => leD_tot.trans _ _ _) (fun a b => by rw [Bool.or_eq_true]; exact leD_tot.total _ _) qs
  refine this.imp fun {a b} h => ?_
  have := leD_pair h
  omega
theorem srtB_pairs (qs : List (Nat × Nat)) : srtB (qs.map enP) = true := by
  unfold srtB
  rw [Bool.and_eq_true, Bool.or_eq_true]
  refine ⟨?_, .inl ?_⟩
  · rw [List.all_eq_true]
    intro d hd
    obtain ⟨q, _, rfl⟩ := List.mem_map.mp hd
    rw [List.all_eq_true]
    intro e he
    obtain ⟨r, _, rfl⟩ := List.mem_map.mp he
    rfl
  · rw [List.all_eq_true]
    intro d hd
    obtain ⟨q, _, rfl⟩ := List.mem_map.mp hd
    rfl
theorem okL_pairs (qs : List (Nat × Nat)) : D.okL (qs.map enP) = true := okL_map fun q _ => by simp [enP, D.ok, D.okL]
theorem depL_pairs (qs : List (Nat × Nat)) : D.depL (qs.map enP) ≤ 30 := Nat.le_trans (depL_map (k := 1) fun q _ => by simp [enP, D.dep, D.depL]) (by decide)
theorem sorted_ok {qs : List (Nat × Nat)} {ΦL : List D → Prop} (hl : qs.length ≤ 1000000) (q : ΦL ((srtP qs).map enP)) : ex (fSorted [.lst (qs.map enP)]) ΦL := by
  rw [x_sorted, srtP_map]
  exact ⟨⟨srtB_pairs qs, okL_pairs qs, depL_pairs qs, by simpa using hl⟩, q⟩
end Od
namespace Od
open PySem PySem.Spec L2
open PyProof.Rows hiding St cutD
/-! ### try: B except c: S -/
section
variable {X : Cx} {E : WX} {md : List Bool} {c : Tx} {body suite : List Stmt} {b₀ : Stmt} {np pos pos' : Pos} {B S : SM} {rs ts fl : List Tx} {cn : Str}
end
section
variable {ΦS : Fl → Prop} {Ψ : Exn → Env → Prop} {ρ : Env} {S B : SM}
end
end Od
namespace Od
open PySem PySem.Spec L2
open PyProof.Rows hiding St cutD
/-! ### a comprehension over a list of a variable's own: the variable is out of reach meanwhile -/
section
variable {K : PySem.W.Frag} {mg : Str → Option Value} {P H : Hp} {W : Own} {σ : St} {ρ : Env} {i : Nat} {A : Addr}
end
section
variable {X : Cx} {E : WX}
end
section
variable {X : Cx} {E : WX} {md : List Bool} {elt tg : Expr} {ifs : List Expr} {scope : Scope} {own : List (Str × Nat)} {pos np : Pos} {g : GM} {C : BM} {F : EM} {sl : List Nat} {i : Nat} {x : Str}
end
section
variable {Ψ : Exn → Env → Prop} {ρ : Env} {ΦT : T × Env → Prop} {C : BM} {F : EM}
end
end Od
namespace Od
open PySem PySem.Spec L2 PySem.W PySem
open PyProof.Rows hiding St cutD
/-! ### the law's call, where no text of a list is in the making -/
section
variable {P : Program} {w : World} {K : PySem.W.Frag} {mg mb : Str → Option Value} {CX : CXT} {k : Nat} {fa a : Addr} {fd : FuncData} {x : Str} {sp : Sp} {s : Shared} {vs : List Value} {ns : List Int}
/-- H tracks nothing but the script -/
structure Lone (K : PySem.W.Frag) (H : Hp) (a : Addr) : Prop where
  only : Only H
  at_ : ∀ b, b ≠ a → H b = none
  own : K.lookup a = none ∨ H a = none
theorem lone_go {H : Hp} (L : Lone K H a) (kin : K.In s.heap) (nm : s.heap.Ns mainGlobals mg) (nb : s.heap.Ns builtinsNs mb) (bb : ∀ x : Str, x ≠ "__name__" → mb x = bootBuiltins x) (nl : s.heap.NoLimit) (gn : s.gens = #[])
    (ga : s.heap.get? a = some { cls := .type "list", data := .seq vs.toArray }) (hr : RoomG k callerA) (ok : HOk P w H s.heap)
    (F : ∀ base : Heap, K.In base → base.Ns mainGlobals mg → FnG P w K mg base CX k fa fd [x] sp) (bt : ∀ (s : Shared) (u : Value), BindsTo s fd ⟨[u], []⟩ [(x, u)])
    (hsp : sp [.ref a] H (fun v _ => v = .bl true) fun _ _ _ => False) (hCX : ∀ e t, CX [] H s (fun _ _ _ => False) e t → False) :
    codeAny (model P w) callerA (.call (.ref fa) ⟨[.ref a], []⟩) (fun r t => r = .ok (.ret (.bool true)) ∧ OldK s.heap t.heap ∧ t.os = s.os ∧ AllBare t.gens) s := by
  have dicts : ∀ {b : Addr} {o : Obj} {es : Array DictEntry} {ep : Nat}, s.heap.get? b = some o → o.data = .dict es ep → (hidT s.heap H).get? b = some o := by
    intro b o es ep e d
    refine hidT_get e ?_
    by_cases hb : b = a
    · subst hb
      rw [ga] at e
      obtain rfl := Option.some.inj e
      exact absurd d (by intro z; cases z)
    · exact L.at_ b hb
  have spaces : ∀ {b : Addr} {m : Str → Option Value}, s.heap.Ns b m → (hidT s.heap H).Ns b m := by
    rintro b m ⟨o, es, ep, e, d, r⟩
    exact ⟨o, es, ep, dicts e d, d, r⟩
  have kb : K.In (hidT s.heap H) := by
    intro b o e
    refine hidT_get (kin b o e) ?_
    by_cases hb : b = a
    · subst hb
      rcases L.own with z | z
      · rw [z] at e; cases e
      · exact z
    · exact L.at_ b hb
  have md : Mod K mg (hidT s.heap H) := by
    obtain ⟨mc, u1, u2⟩ := nl
    exact ⟨kb, spaces nm, ⟨mb, spaces nb, bb⟩, ⟨mc, spaces u1, u2⟩⟩
  have e0 : Env0 P w K mg (hidT s.heap H) callerA [] s H := by
    refine ⟨rfl, md, fun b o e => of_hidT e, Nat.le_of_eq (hidT_size _ _), trivial, ?_, ok, .of_eq gn⟩
    intro b hb
    exact absurd hb List.not_mem_nil
  refine codeAny_mono ((F _ kb (spaces nm)).go (us := [.ref a]) hr e0 (bt s (.ref a)) (.cons (show RelV (.ref a) (.ref a) from rfl) .nil) hsp) ?_
  rintro (e | fl) t z
  · exact (hCX e t z).elim
  · cases fl with
    | next => exact z.elim
    | brk => exact z.elim
    | cont => exact z.elim
    | ret u =>
      obtain ⟨v, H2, os, bare, un, ok2, rv, qv⟩ := z
      have qv : v = .bl true := qv
      subst qv
      have rv : u = Value.bool true := rv
      subst rv
      refine ⟨rfl, OldK.of_keep ?_, os, bare⟩
      intro b o e
      rcases L.only b with n | ⟨ob, xs, n⟩
      · exact un.keep b o e n (fun z => absurd z List.not_mem_nil) (by simp)
      · obtain ⟨e1, _⟩ := ok b _ n
        obtain ⟨e2, _⟩ := ok2 b _ (un.frzs b ob _ n)
        rw [e] at e1
        obtain rfl := Option.some.inj e1
        exact e2
theorem law_callG (kin : K.In s.heap) (nm : s.heap.Ns mainGlobals mg) (nb : s.heap.Ns builtinsNs mb) (bb : ∀ x : Str, x ≠ "__name__" → mb x = bootBuiltins x) (nl : s.heap.NoLimit) (gn : s.gens = #[])
    (ga : s.heap.get? a = some { cls := .type "list", data := .seq vs.toArray }) (hi : IntsAre vs ns) (hl : ns.length ≤ sizeLine) (hr : RoomG k callerA)
    (F : ∀ base : Heap, K.In base → base.Ns mainGlobals mg → FnG P w K mg base CX k fa fd [x] sp) (bt : ∀ (s : Shared) (u : Value), BindsTo s fd ⟨[u], []⟩ [(x, u)])
    (hsp : ∀ H : Hp, Only H → SqL K H a (ns.map V.int) → sp [.ref a] H (fun v _ => v = .bl true) fun _ _ _ => False) (hCX : ∀ H e t, CX [] H s (fun _ _ _ => False) e t → False) :
    codeAny (model P w) callerA (.call (.ref fa) ⟨[.ref a], []⟩) (fun r t => r = .ok (.ret (.bool true)) ∧ OldK s.heap t.heap ∧ t.os = s.os ∧ AllBare t.gens) s := by
  have rv := vals_ints hi
  have ln := hi.length
  cases hk : K.lookup a with
  | some o =>
    have e := kin a o hk
    rw [ga] at e
    obtain rfl := Option.some.inj e
    have L : Lone K (fun _ => none) a := ⟨fun _ => Or.inl rfl, fun _ _ => rfl, Or.inr rfl⟩
    refine lone_go L kin nm nb bb nl gn ga hr (fun b u z => by cases z) F bt (hsp _ L.only (Or.inr ⟨_, vs.toArray, _, hk, rfl, rfl, rfl, ?_, ?_⟩)) (hCX _)
    · rw [List.size_toArray, ln]; exact hl
    · simpa using rv
  | none =>
    let H : Hp := fun b => if b = a then some (.frz { cls := .type "list", data := .seq vs.toArray } (.lst (ns.map V.int))) else none
    have ha : H a = some (.frz { cls := .type "list", data := .seq vs.toArray } (.lst (ns.map V.int))) := if_pos rfl
    have hn : ∀ b, b ≠ a → H b = none := fun b z => if_neg z
    have L : Lone K H a := by
      refine ⟨fun b => ?_, hn, Or.inl hk⟩
      by_cases hb : b = a
      · subst hb; exact Or.inr ⟨_, _, ha⟩
      · exact Or.inl (hn b hb)
    refine lone_go L kin nm nb bb nl gn ga hr (fun b u z => ?_) F bt (hsp H L.only (Or.inl (Or.inr ⟨_, ha⟩))) (hCX _)
    by_cases hb : b = a
    · subst hb
      rw [ha] at z
      obtain rfl := Option.some.inj z
      exact ⟨ga, by rw [List.length_map]; exact hl, vs, _, rv, ga⟩
    · rw [hn b hb] at z; cases z
end
theorem walkG {l : PySem.W.OpenLaw} {n k : Nat} {q : Program} {loose : List Str} {XP : (Str → Option Value) → Heap → Prop} {YP : World → Heap → Prop} {d : DefRec} {K : Params → PySem.W.Frag} {CX : World → CXT} {sp : World → Sp} {x : Str}
    (hn : l.most = some n) (hn2 : n ≤ sizeLine) (hdf : d.params.defaults = []) (hr : RoomG k callerA) (hY : ∀ (w : World) (h : Heap), YP w h → (K w.params).In h)
    (F : ∀ (w : World) (mg : Str → Option Value) (fa : Addr) (h : Heap), (K w.params).In h → h.Ns mainGlobals mg → mg d.name = some (.ref fa) → ∃ fd : FuncData, (∀ (s : Shared) (u : Value), BindsTo s fd ⟨[u], []⟩ [(x, u)]) ∧
      ∀ base : Heap, (K w.params).In base → base.Ns mainGlobals mg → FnG l.prog w (K w.params) mg base (CX w) k fa fd [x] (sp w))
    (hsp : ∀ (w : World) (H : Hp) (a : Addr) (ns : List Int), ns.length ≤ n → Only H → SqL (K w.params) H a (ns.map V.int) → sp w [.ref a] H (fun v _ => v = .bl true) fun _ _ _ => False)
    (hCX : ∀ (w : World) (H : Hp) (s : Shared) (e : Value) (t : Shared), CX w [] H s (fun _ _ _ => False) e t → False) : PySem.W.WalkO q loose XP YP l.row.toRowW d [] (fun f vs => PySem.call f vs) := by
  refine Att.attach_call hn hdf ?_
  intro w s₀ s mg mb fa o pm cd doc a vs ns G Y ho hd hcd hmg hx hy hz hw
  obtain ⟨fd, bt, Fb⟩ := F w mg fa _ (hY w _ Y) G.T.g hmg
  exact law_callG (hY w _ Y) G.T.g G.T.b G.T.builtins G.T.nolimit hw hx hy (Nat.le_trans hz hn2) hr Fb bt (fun H on S => hsp w H a ns hz on S) fun H e t => hCX w H s e t
end Od
namespace Od
open PySem PySem.Spec L2 PySem.W PySem
open PyProof.Rows hiding St cutD
/-! ### str(x) -/
mutual
/-- a bound of the text's length -/
def D.shW : D → Nat
  | .int i => if i.natAbs < 10 ^ 30 then 31 else 20000000
  | .str s => 10 * s.length + 2
  | .tup ds => D.shWL ds + 3
  | .lst ds => D.shWL ds + 3
  | .rol ds => D.shWL ds + 3
  | _ => 5
def D.shWL : List D → Nat
  | [] => 0
  | d :: ds => D.shW d + 2 + D.shWL ds
end
theorem sizeS : sizeLine = 16777216 := rfl
end Od
namespace Od
open PySem PySem.Spec L2 PySem.W PySem
open PyProof.Rows hiding St cutD
/-! ### text.strip(signs) -/
def stripL (b a : Tx) : Tx := (Txt.stripChars (sT a) (sT b)).cps.toList
def mStrip : D → List D → Option D
  | .str a, [.str b] => if a.length ≤ 1000000 then some (.str (stripL b a)) else none
  | _, _ => none
theorem f_strip {K : PySem.W.Frag} : MtV K (fun x xs H Q => ∃ a b, x = .str a ∧ xs = [.str b] ∧ a.length ≤ sizeLine ∧ Q (.str (Txt.stripChars a b)) H) mStrip := fun P H x vs d ds res Q s v1 v2 hf q => by
  unfold mStrip at hf
  split at hf
  · rename_i a b
    split at hf
    · rename_i ha
      cases hf
      obtain ⟨v, rfl, h⟩ := vl1 v2
      refine ⟨_, _, vstr v1, by rw [vstr h], by rw [sT_len, sizeS]; omega, q _ P H (Al.refl s) ?_⟩
      show Den K P (.str (stripL b a)) _
      unfold Den stripL
      rw [sT_of]
    · cases hf
  · cases hf
theorem x_strip (a b : Tx) {Φ : D → Prop} : ex (mStrip (.str a) [.str b]) Φ = (a.length ≤ 1000000 ∧ Φ (.str (stripL b a))) := by show ex (if _ then _ else _) _ = _; rw [ex_ite]; rfl
theorem has_sT (b : Tx) (c : Nat) : (sT b).cps.contains c = b.contains c := by simp [sT]
theorem getD_sT (a : Tx) (k : Nat) : (sT a).cps.getD k 0 = a.getD k 0 := by rw [← getD_list, sT_cps]
theorem stripL_nil (b a : Tx) : stripL b a = [] ↔ ∀ c ∈ a, c ∈ b := by
  obtain ⟨l1, l2, l3⟩ := lo_facts (sT b).cps.contains (sT a)
  obtain ⟨h1, h2, h3, h4⟩ := hi_facts (sT b).cps.contains (sT a) _ l1
  unfold stripL Txt.stripChars
  rw [PyProof.Rows.stripBy_eq, strSub_mk]
  rw [sT_len] at l1 l3 h2 h3
  generalize stripHi _ _ _ _ = hi at *
  generalize stripLo _ _ _ = lo at *
  simp only [getD_sT, has_sT] at l2 l3 h3 h4
  have mem : ∀ k, k < a.length → a.getD k 0 ∈ a := by
    intro k hk
    rw [List.getD_eq_getElem?_getD, List.getElem?_eq_getElem hk]
    exact List.getElem_mem hk
  have len : (List.take (hi - lo) (List.drop lo (sT a).cps.toList)).length = hi - lo := by
    rw [List.length_take, List.length_drop, sT_cps]
    omega
  constructor
  · intro z c hc
    have zl : hi - lo = 0 := by rw [← len]; simpa using congrArg List.length z
    obtain ⟨k, hk, rfl⟩ := List.getElem_of_mem hc
    have g : b.contains (a.getD k 0) = true := by
      by_cases hkl : k < lo
      · exact l2 k hkl
      · exact h3 k (by omega) hk
    rw [List.getD_eq_getElem?_getD, List.getElem?_eq_getElem hk] at g
    simpa using g
  · intro al
    have go : ∀ k, k < a.length → b.contains (a.getD k 0) = true := by
      intro k hk
      simpa using al _ (mem k hk)
    have : lo = a.length := by
      rcases l3 with z | z
      · exact z
      · by_cases hl : lo < a.length
        · rw [go lo hl] at z; cases z
        · omega
    have z0 : hi - lo = 0 := by omega
    rw [z0] at *
    simp
end Od
namespace Od
open PySem PySem.Spec L2 PySem.W PySem
open PyProof.Rows hiding St cutD
/-! ### text.upper() -/
/-! ### {k: e, ..}, the keys written -/
def tDsp (ks : List DK) (Fs : List EM) : OM := fun ρ => vL Fs ρ >>= fun r => if ks.Nodup ∧ ks.length = r.1.length ∧ ks.length ≤ 15 then .ok (.dct ks r.1, r.2) else .fail
def EKV (X : Cx) (E : WX) (pos : Pos) (keys : List (Option Expr)) (vals : List Expr) (ks : List DK) (Fs : List EM) : Prop := ∃ trs, PPs X pos keys vals trs ∧ ∀ σ H (Q : List (V × V) → Hp → Prop),
  rX X.K X.mg E (VLRel X.K X.mg) (vL Fs) σ H (fun vs H' => Q ((ks.map fun k => kV (kK k)).zip vs) H') → tPairs trs σ H Q
section
variable {X : Cx} {E : WX} {e : Expr} {pos : Pos} {keys : List (Option Expr)} {vals : List Expr} {ks : List DK} {Fs : List EM} {F : EM}
theorem ekv_nil : EKV X E pos [] [] [] [] := ⟨[], pps_nil, fun σ H Q ⟨P, W, ρ, w, g⟩ => g [] P W H (Step.refl P W H) ⟨w, DenL.nil⟩⟩
theorem ekv_go {ke : Expr} {k : DK} (hk : PE X ke (tC (kV (kK k)))) (he : EV X E e F) (hr : EKV X E pos keys vals ks Fs) : EKV X E pos (some ke :: keys) (e :: vals) (k :: ks) (F :: Fs) := by
  obtain ⟨trs, h1, h2⟩ := hr
  refine ⟨_, pps_cons hk he h1, fun σ H Q ⟨P, W, ρ, w, g⟩ => ?_⟩
  show rX X.K X.mg E (VRel X.K X.mg) F σ H fun y H2 => tPairs trs σ H2 fun ps H3 => Q ((kV (kK k), y) :: ps) H3
  refine ⟨P, W, ρ, w, (Go.bind g).mono fun x H1 ⟨P1, W1, a, s1, ⟨w1, k1⟩, g1⟩ => h2 σ H1 _ ⟨P1, W1, a.2, w1, (Go.bind g1).mono fun vs H2 ⟨P2, W2, b, s2, ⟨w2, k2⟩, g2⟩ => ?_⟩⟩
  exact g2 (x :: vs) P2 W2 H2 (Step.refl P2 W2 H2) ⟨w2, DenL.cons (Den.mono s2.1 _ _ k1) k2⟩
theorem ekv_s {s : Str} {k : Tx} {n : Nat} {p : Pos} (hs : s = sT k) (he : EV X E e F) (hr : EKV X E pos keys vals ks Fs) : EKV X E pos (some (.Constant (.str s) n p) :: keys) (e :: vals) (.inr k :: ks) (F :: Fs) := by
  subst hs
  exact ekv_go pe_str he hr
theorem zip_kv : ∀ {ks : List DK} {vs : List V}, ks.length = vs.length → (ks.map fun k => kV (kK k)).zip vs = ((ks.map kK).zip vs).map fun kv => (kV kv.1, kv.2)
  | [], [], _ => rfl
  | k :: ks, v :: vs, h => by
    simp only [List.map_cons, List.zip_cons_cons, List.cons.injEq, true_and]
    exact zip_kv (by simpa using h)
  | [], _ :: _, h => by simp at h
  | _ :: _, [], h => by simp at h
theorem et_dsp (h : EKV X E pos keys vals ks Fs) (hall : keys.all (·.isSome) = true) (hl : keys.length = vals.length) (h0 : keys ≠ []) (h15 : keys.length ≤ 15) : ET X E (.Dict keys vals pos) (tDsp ks Fs) := by
  obtain ⟨trs, h1, h2⟩ := h
  refine PE.imp (pe_disp h1 hall hl h0 h15) fun σ H Q ⟨P, W, ρ, w, g⟩ p hp => ?_
  have al := Al.newH (P := P) (o := .dK []) w.same hp
  have wp : W p = none := by
    cases e : W p with
    | none => rfl
    | some r => obtain ⟨_, u, h⟩ := w.own p r e; rw [hp] at h; cases h
  refine h2 σ _ _ ⟨P, W, ρ, w.al al, ?_⟩
  unfold tDsp at g
  cases hv : vL Fs ρ with
  | fail => rw [hv] at g; exact g.elim
  | exc x ρ' => rw [hv] at g; exact fun c od P' W' H' s => g c od P' W' H' ((al.step W).trans s)
  | ok a =>
  rw [hv, ok_bind] at g
  intro vs P1 W1 H1 s1 ⟨w1, k1⟩
  split at g
  · rename_i hc
    obtain ⟨nd, hlen, hn⟩ := hc
    obtain ⟨e1, e2, e3⟩ := s1.2 p _ upd_same wp
    have hvl : ks.length = vs.length := by rw [hlen, k1.len]
    refine ⟨e1, (ks.map kK).zip vs, zip_kv hvl, by rw [List.length_zip, List.length_map]; omega, ?_⟩
    have hf : ((ks.map kK).zip vs).map Prod.fst = ks.map kK := List.map_fst_zip (by rw [List.length_map]; omega)
    have hs : ((ks.map kK).zip vs).map Prod.snd = vs := List.map_snd_zip (by rw [List.length_map]; omega)
    have hm : mergeK [] ((ks.map kK).zip vs) = (ks.map kK).zip vs := mergeK_new _ [] (by
      rw [List.nil_append, hf, List.nodup_iff_pairwise_ne, List.pairwise_map]
      exact (List.nodup_iff_pairwise_ne.mp nd).imp fun h z => h (kK_inj z))
    rw [hm]
    have pp1 : P1 p = none := by rw [e3]; exact same_none w.same hp
    have w2 : Wd X.K X.mg P1 (ownNew W1 p none) (upd H1 p (.dK ((ks.map kK).zip vs))) σ a.2 := by
      refine ⟨fun x o hx => by rw [upd_ne (ne_of_none hx pp1)]; exact w1.same x o hx, fun x r hx => ?_, fun i t hi => ?_, w1.len⟩
      · unfold ownNew at hx
        by_cases hxp : x = p
        · subst hxp; exact ⟨pp1, _, upd_same⟩
        · rw [if_neg hxp] at hx
          rw [upd_ne hxp]
          exact w1.own x r hx
      · obtain ⟨v', hs', hr⟩ := w1.env i t hi
        refine ⟨v', hs', RT.mono (same_refl P1) (fun f x ex => ?_) t v' hr⟩
        have hxp : x ≠ p := fun z => by subst z; rw [e2] at ex; cases ex
        exact ⟨by unfold ownNew; rw [if_neg hxp]; exact ex, fun o ho => by rw [upd_ne hxp]; exact ho⟩
    refine g (.ref p) P1 (ownNew W1 p none) _ ⟨((al.step W).trans s1).1, fun x o hx wx => ?_⟩ ⟨w2, p, _, rfl, by simp [ownNew], upd_same, hf, by rw [hs]; exact k1⟩
    have hxp : x ≠ p := ne_of_none hx hp
    obtain ⟨z1, z2, z3⟩ := ((al.step W).trans s1).2 x o hx wx
    exact ⟨by rw [upd_ne hxp]; exact z1, by unfold ownNew; rw [if_neg hxp]; exact z2, z3⟩
  · exact g.elim
end
section
variable {ΦT : T × Env → Prop} {Ψ : Exn → Env → Prop} {ρ : Env}
theorem s_tDsp (ks : List DK) (Fs : List EM) : sat (tDsp ks Fs ρ) ΦT Ψ = sat (vL Fs ρ) (fun a => (ks.Nodup ∧ ks.length = a.1.length ∧ ks.length ≤ 15) ∧ ΦT (.dct ks a.1, a.2)) Ψ := by
  unfold tDsp; rw [sat_bind]; congr 1; funext a; rw [sat_iteF]; rfl
end
theorem atI_k {α : Type} {xs : List α} {x : α} {i : Int} (k : Nat) (hi : i = (k : Int)) (h : xs[k]? = some x) : atI xs i = some x := by
  subst hi
  rw [atI_nat' (List.getElem?_eq_some_iff.mp h).1, h]
section
variable {α : Type} {x y z w : α} {r : List α} {Φ : α → Prop}
theorem k_at0 : ex (atI (x :: r) 0) Φ = Φ x := by rw [atI_k (i := 0) 0 rfl rfl]; rfl
theorem k_at1 : ex (atI (x :: y :: r) 1) Φ = Φ y := by rw [atI_k (i := 1) 1 rfl rfl]; rfl
theorem k_at2 : ex (atI (x :: y :: z :: r) 2) Φ = Φ z := by rw [atI_k (i := 2) 2 rfl rfl]; rfl
theorem k_at3 : ex (atI (x :: y :: z :: w :: r) 3) Φ = Φ w := by rw [atI_k (i := 3) 3 rfl rfl]; rfl
end
theorem in_tups (s : Tx) (ss : List Tx) {ΦB : Bool → Prop} : ex (cIn (.str s) (.tup (ss.map .str))) ΦB = ΦB (ss.contains s) := by
  have := inL_strs s ss
  have h : ((D.str s).flat && (ss.map D.str).all D.flat) = true := by simp [D.flat]
  unfold inL at this
  rw [if_pos h] at this
  have e : cIn (.str s) (.tup (ss.map .str)) = some (ss.contains s) := by
    show (if _ then _ else _) = _
    rw [if_pos h]; exact this
  rw [e]; rfl
theorem x_in2 (s a b : Tx) {ΦB : Bool → Prop} : ex (cIn (.str s) (.tup [.str a, .str b])) ΦB = ΦB (decide (s = a ∨ s = b)) := by
  rw [show [D.str a, .str b] = [a, b].map .str from rfl, in_tups]
  congr 1
  rw [Bool.eq_iff_iff]; simp
end Od
namespace Od
open PySem PySem.Spec L2
open PyProof.Rows hiding St cutD
/-! ### instances of own classes: their fields, made by C(e, ..) -/
structure ClsI (K : PySem.W.Frag) (mg : Str → Option Value) (C : Tx) (fl : List Tx) : Prop where
  ex : ∃ c, Top K C c ∧ mg (sT C) = some (.ref c) ∧ Cls K c ∧ ∀ f ∈ fl, NoAttr K c (sT f)
/-- a field of a shared one -/
def fFldO (C f : Tx) : D → Option D
  | .obj c ks vs => if c = C then lkX ks vs f else none
  | _ => none
def insOf (ρ : Env) (i : Nat) (C : Tx) : Option (List (Tx × T1)) := match ρ[i]? with
  | some (some (.ins c fs)) => if c = C then some fs else none
  | _ => none
theorem insOf_some {ρ : Env} {i : Nat} {C : Tx} {fs : List (Tx × T1)} (h : insOf ρ i C = some fs) : ρ[i]? = some (some (.ins C fs)) := by
  unfold insOf at h
  split at h
  · rename_i c fs' e
    split at h
    · rename_i hc; subst hc; cases h; exact e
    · cases h
  · cases h
def putT : List (Tx × T1) → Tx → T1 → List (Tx × T1)
  | [], k, t => [(k, t)]
  | (j, u) :: fs, k, t => if j = k then (j, t) :: fs else (j, u) :: putT fs k t
theorem putT_mem : ∀ {fs : List (Tx × T1)} {k x : Tx} {t : T1}, x ∈ (putT fs k t).map Prod.fst → x = k ∨ x ∈ fs.map Prod.fst
  | [], k, x, t, h => by simp [putT] at h; exact .inl h
  | (j, u) :: fs, k, x, t, h => by
    unfold putT at h
    split at h
    · exact .inr h
    · simp only [List.map_cons, List.mem_cons] at h ⊢
      rcases h with rfl | h
      · exact .inr (.inl rfl)
      · rcases putT_mem h with e | e
        · exact .inl e
        · exact .inr (.inr e)
theorem putT_nd : ∀ {fs : List (Tx × T1)} {k : Tx} {t : T1}, (fs.map Prod.fst).Nodup → ((putT fs k t).map Prod.fst).Nodup
  | [], k, t, _ => by simp [putT]
  | (j, u) :: fs, k, t, h => by
    unfold putT
    split
    · exact h
    · rename_i hj
      simp only [List.map_cons, List.nodup_cons] at h ⊢
      refine ⟨fun z => ?_, putT_nd h.2⟩
      rcases putT_mem z with e | e
      · exact hj e
      · exact h.1 e
section
variable {K : PySem.W.Frag} {mg : Str → Option Value} {P P' : Hp} {W W' : Own} {H H' : Hp} {r : Option Nat} {σ : St} {ρ : Env}
theorem RF.putT {k : Tx} {t : T1} {v : V} (hv : R1 K P W H r (some k) t v) : ∀ {fs : List (Tx × T1)} {ws : List (Str × V)}, RF K P W H r fs ws → RF K P W H r (Od.putT fs k t) (putF (sT k) v ws)
  | [], ws, h => by
    cases h
    exact ⟨v, [], rfl, hv, rfl⟩
  | (j, u) :: fs, ws, h => by
    obtain ⟨v', w, rfl, h1, h2⟩ := h
    unfold Od.putT putF
    by_cases hj : j = k
    · subst hj
      rw [if_pos rfl, if_pos rfl]
      exact ⟨v, w, rfl, hv, h2⟩
    · rw [if_neg hj, if_neg (fun z => hj (sT_inj z))]
      exact ⟨v', _, rfl, h1, RF.putT hv h2⟩
theorem RF.len : ∀ {fs : List (Tx × T1)} {ws : List (Str × V)}, RF K P W H r fs ws → ws.length = fs.length
  | [], ws, h => by cases h; rfl
  | (j, u) :: fs, ws, h => by
    obtain ⟨v', w, rfl, h1, h2⟩ := h
    simp [RF.len h2]
theorem Wd.insAt {i : Nat} {C : Tx} {fs : List (Tx × T1)} (w : Wd K mg P W H σ ρ) (e : insOf ρ i C = some fs) : ∃ (a c dx : Addr) (ws : List (Str × V)), σ[i]? = some (some (.ref a)) ∧ W a = some (some i, Option.none) ∧ (mg (sT C) = some (.ref c) ∧ Top K C c) ∧ H a = some (.ins c dx ws) ∧ (fs.map Prod.fst).Nodup ∧ RF K P W H (some i) fs ws ∧ i < ρ.length := by
  have e := insOf_some e
  obtain ⟨v, hs, hr⟩ := w.env i _ e
  obtain ⟨a, c, dx, ws, rfl, hw, hc, hh, nd, l⟩ := hr
  exact ⟨a, c, dx, ws, hs, hw, hc, hh, nd, l, (List.getElem?_eq_some_iff.mp e).1⟩
end
/-- x.f = e -/
def sFldI (C : Tx) (i : Nat) (f : Tx) (F : EM) : SM := fun ρ => F ρ >>= fun a => Res.of ((insOf a.2 i C).bind fun fs => if fs.length < 900 then some (a.2.set i (some (.ins C (putT fs f (.sh a.1))))) else none) >>= fun ρ1 => .ok (.nx ρ1)
section
variable {X : Cx} {E : WX} {C f : Tx} {fl : List Tx} {i : Nat} {x n : Str} {pos pos' p1 : Pos} {e : Expr} {A : HM} {F : EM} {md : List Bool}
theorem ev_fldO (R : ClsI X.K X.mg C fl) (hf : f ∈ fl) (hn : n = sT f) (ha : EH X E e A) (hb : attributeBase e n X.env (eval e X.env) = eval e X.env := by rfl) : EV X E (.Attribute e n pos) (e1 (fFldO C f) A) := by
  subst hn
  exact PE.imp (pe_fld ha hb) fun σ H Q ⟨P, W, ρ, w, g⟩ => ⟨P, W, ρ, w, (Go.bind g).mono fun v H1 ⟨P1, W1, a, s1, ⟨w1, k1⟩, g1⟩ => by
    obtain ⟨res, e', g2⟩ := Go.of g1
    obtain ⟨d, hd, hf'⟩ := Option.bind_eq_some_iff.mp e'
    cases d <;> simp only [fFldO, reduceCtorEq] at hf'
    rename_i c ks ds
    split at hf'
    · rename_i hcr
      subst hcr
      have vw : Den X.K P1 (.obj c ks ds) v := Hok.view w1 k1 hd
      unfold Den at vw
      obtain ⟨b, C, dx, ws, rfl, t, xa, k, l⟩ := vw
      obtain ⟨C', t', _, ec, hna⟩ := R.ex
      obtain rfl := top_inj t t'
      obtain ⟨v, hv, dv⟩ := lkX_get hf' k l
      exact ⟨b, C, dx, ws, v, rfl, w1.same b _ xa, ec, hna f hf, hv, g2 v P1 W1 H1 (Step.refl P1 W1 H1) ⟨w1, dv⟩⟩
    · cases hf'⟩
theorem sd_fldI (R : ClsI X.K X.mg C fl) (hf : f ∈ fl) (hn : n = sT f) (hN : X.N[i]? = some x) (hv : Vis X.env.scope x) (he : EV X E e F) (hd : (x == ("__debug__" : Str)) = false := by decide) (hcd : (x == ("__classdict__" : Str)) = false := by decide)
    (hs : swapsWith e (some (.Attribute (.Name x p1) n pos')) pos.line X.env = pure false := by rfl) : SD X E md (.Assign [.Attribute (.Name x p1) n pos'] e pos) (sFldI C i f F) := by
  subst hn
  refine PS.imp (ps_fld (pe_var hN hv hd hcd) he hs) fun D σ H ⟨P, W, ρ, w, g⟩ => ?_
  unfold sFldI at g
  refine ⟨P, W, ρ, w, (GoS.val (Rel := VRel X.K X.mg) g).mono fun u H1 ⟨P1, W1, b, s1, ⟨w1, db⟩, g1⟩ => ?_⟩
  obtain ⟨ρ2, e2, g2⟩ := GoS.of g1
  obtain ⟨fs, e3, e4⟩ := Option.bind_eq_some_iff.mp e2
  split at e4
  · rename_i hlen
    cases e4
    obtain ⟨a, c, dx, ws, h1, h2, h3, h4, nd, l, hi⟩ := w1.insAt e3
    obtain ⟨c', t', _, ec, hna⟩ := R.ex
    obtain rfl := top_inj h3.2 t'
    refine ⟨_, h1, a, c, dx, ws, rfl, h4, ec, hna f hf, by rw [RF.len l]; omega, ?_⟩
    have l2 := RF.putT (k := f) (t := .sh b.1) (v := u) db l
    have l3 : RF X.K P1 W1 (upd H1 a (.ins c dx (putF (sT f) u ws))) (some i) (putT fs f (.sh b.1)) (putF (sT f) u ws) := RF.mono (same_refl P1) (fun g y hy => ⟨hy, fun o ho => by
      have : y ≠ a := fun z => by subst z; rw [h2] at hy; cases hy
      rw [upd_ne this]; exact ho⟩) _ _ l2
    obtain ⟨w2, s2⟩ := w1.mutF (mg := X.mg) (o := .ins c dx (putF (sT f) u ws)) (t := .ins C (putT fs f (.sh b.1))) hi h1 h2 ⟨a, c, dx, _, rfl, h2, h3, upd_same, putT_nd nd, l3⟩
    exact g2 σ P1 W1 _ s2 w2 (Kp.refl md σ)
  · cases e4
end
end Od
namespace Od
open PySem PySem.Spec L2
open PyProof.Rows hiding St cutD
/-! ### C(e, ..): a new instance, then __init__ -/
section
variable {X : Cx} {CX : CXT} {k : Nat} {f C : Addr} {fd : FuncData} {ps : List Str} {sp : Sp} {E : St → XK} {x : Str} {p pos : Pos} {e : Expr} {es : List Expr} {t : TA}
theorem RoomG.make' {A : Around} (hr : RoomG (k + 1) A) (C : Addr) (us : List Value) (kw : List (Str × Value)) : RoomG k (A.under (.builtin "type.__call__" ⟨.ref C :: us, kw⟩)) := ⟨hr.toRoom.make C us kw, hr.gd⟩
theorem runMakeG {pins : List (Addr × Obj)} {σ : St} {H : Hp} {s : Shared} {Q : VK} {us : List Value} {vs : List V} (M : Mk X.K C f) (F : FnG X.prog X.w X.K X.mg X.base CX k f fd ps sp) (hr : RoomG (k + 1) X.A) (hb : Binds X.K fd ps [])
    (hx : PassesAt CX X σ (E σ)) (I : Inv X pins σ H s) (r : Vals vs us)
    (h : ∀ x dx, H x = none → H dx = none → dx ≠ x → sp (.ref x :: vs) (upd (upd H dx (.own x)) x (.ins C dx [])) (fun v H2 => v = .non ∧ Q (.ref x) H2) (E σ)) :
    wpAny (model X.prog X.w) X.A (call (.ref C) us) (EP X pins σ Q) X.xe s := by
  have hq := h (s.heap.objs.size + 1) s.heap.objs.size (I.hok.fresh (Nat.le_succ _)) (I.hok.fresh (Nat.le_refl _)) (Nat.ne_of_lt (Nat.lt_succ_self _))
  have I2 := Inv.made (C := C) I
  have r2 : Vals (V.ref (s.heap.objs.size + 1) :: vs) (Value.ref (s.heap.objs.size + 1) :: us) := .cons rfl r
  have hl : (Value.ref (s.heap.objs.size + 1) :: us).length = ps.length := by
    have e := r2.length
    rw [F.ln _ _ _ _ hq] at e
    exact e.symm
  refine wpAny_call (make_map (f := f) I.kIn M.makes M.init (beq_iff_eq.mp M.fn) (codeAny_mono (F.go (RoomG.make' hr C us []) (I2.env0.make C us []) (ar := ⟨Value.ref (s.heap.objs.size + 1) :: us, []⟩) (us := Value.ref (s.heap.objs.size + 1) :: us) ?_ r2 hq) fun r s' hq' => ?_))
  · have := hb _ (Value.ref (s.heap.objs.size + 1) :: us) I2.kIn (by rw [List.append_nil]; exact hl)
    rwa [List.append_nil] at this
  cases r with
  | error e => exact hx pins _ _ e s' I2 hq'
  | ok fl =>
    cases fl with
    | ret u =>
      obtain ⟨v, H', I3, rv, ev, q3⟩ := I2.after hq'
      subst ev
      exact ⟨rv, ⟨V.ref (s.heap.objs.size + 1), H', I3, rfl, q3⟩⟩
    | next => exact False.elim hq'
    | brk => exact False.elim hq'
    | cont => exact False.elim hq'
def tMakeG (C : Addr) (sp : Sp) (E : St → XK) (t : TA) : TE := fun σ H Q => t σ H fun vs H1 => ∀ x dx, H1 x = none → H1 dx = none → dx ≠ x → sp (.ref x :: vs) (upd (upd H1 dx (.own x)) x (.ins C dx [])) (fun v H2 => v = .non ∧ Q (.ref x) H2) (E σ)
theorem pe_makeG (M : Mk X.K C f) (F : FnG X.prog X.w X.K X.mg X.base CX k f fd ps sp) (hr : RoomG (k + 1) X.A) (hg : Gl X x) (hm : X.mg x = some (.ref C)) (hb : Binds X.K fd ps []) (hx : ∀ σ, PassesAt CX X σ (E σ))
    (ha : PA X (e :: es) t) (hdb : (x == ("__debug__" : Str)) = false) (he : starEach (e :: es) X.env = (false, eval e X.env) :: starEach es X.env) (hpl : (backTo pos (starEach es X.env)).any (·.1) = false) :
    PE X (.Call (.Name x p) (e :: es) [] pos) (tMakeG C sp E t) := by
  refine ⟨fun pins s σ H Q I h => ?_⟩
  refine wpAny_Call_Name_kw (ld_glob I hg hm ?_ hdb)
  refine PySem.W.callWith_K (h₀ := X.base) I.ok.mod.kin M.kp (thn (ha.run pos pins s σ H _ I h) fun us s1 ⟨vs, H1, I1, r, q⟩ => ⟨I1.kIn, ?_⟩) he hpl
  exact runMakeG M F hr hb (hx σ) I1 r q
end
/-- a class with its own __init__ -/
structure Ini (P : Program) (w : World) (K : PySem.W.Frag) (mg : Str → Option Value) (base : Heap) (k : Nat) (C : Tx) (fn : Fn) : Prop where
  ex : ∃ (c f : Addr) (fd : FuncData) (ps : List Str), Top K C c ∧ mg (sT C) = some (.ref c) ∧ Mk K c f ∧ FnG P w K mg base (L2.CX P w) k f fd ps (spF K mg fn) ∧ Binds K fd ps []
theorem Ini.mono {P : Program} {w : World} {K : PySem.W.Frag} {mg : Str → Option Value} {base : Heap} {k j : Nat} {C : Tx} {fn : Fn} (h : Ini P w K mg base k C fn) (hk : k ≤ j) : Ini P w K mg base j C fn := by
  obtain ⟨c, f, fd, ps, h1, h2, h3, h4, h5⟩ := h.ex
  exact ⟨c, f, fd, ps, h1, h2, h3, h4.mono hk, h5⟩
def newR (C : Tx) (ρ : Env) : Out → Res (T × Env)
  | .ok (.sh .non) (some (.ins c fs) :: _) => if c = C then .ok (.ins C fs, ρ) else .fail
  | .exc x _ => .exc x ρ
  | _ => .fail
def eNew (C : Tx) (fn : Fn) (Fs : List EM) : OM := fun ρ => vL Fs ρ >>= fun a => newR C a.2 (fn (.ins C [] :: a.1.map .sh))
section
variable {K : PySem.W.Frag} {mg : Str → Option Value} {P P' H H' : Hp} {W W' : Own} {σ : St} {ρ os : Env}
theorem wd_init {C : Tx} {c x dx : Addr} {ds : List D} {vs : List V} (w : Wd K mg P W H σ ρ) (hc : mg (sT C) = some (.ref c) ∧ Top K C c) (nx : H x = none) (ndx : H dx = none) (ne : dx ≠ x) (l : DenL K P ds vs) :
    Wd K mg P (fun a => if a = x then some (some 0, none) else none) (upd (upd H dx (.own x)) x (.ins c dx [])) ((V.ref x :: vs).map some) ((T.ins C [] :: ds.map .sh).map some) := by
  refine ⟨fun a o e => ?_, fun a r e => ?_, fun i t e => ?_, by simp [l.len]⟩
  · have h1 : a ≠ x := ne_of_none e (same_none w.same nx)
    have h2 : a ≠ dx := ne_of_none e (same_none w.same ndx)
    rw [upd_ne h1, upd_ne h2]
    exact w.same a o e
  · by_cases h : a = x
    · subst h
      exact ⟨same_none w.same nx, _, upd_same⟩
    · simp [h] at e
  · cases i with
    | zero =>
      simp only [List.map_cons, List.getElem?_cons_zero, Option.some.injEq] at e
      subst e
      exact ⟨.ref x, rfl, x, c, dx, [], rfl, by simp, hc, upd_same, by simp, rfl⟩
    | succ i =>
      simp only [List.map_cons, List.getElem?_cons_succ, List.getElem?_map] at e ⊢
      cases q : ds[i]? with
      | none => rw [q] at e; cases e
      | some d =>
        rw [q] at e
        cases e
        obtain ⟨v, hv, dv⟩ := DenL.get l q
        exact ⟨v, by rw [hv]; rfl, dv⟩
theorem wd_made {x dx : Addr} {o1 o2 : HO} {vs : List (Option V)} (w : Wd K mg P W H σ ρ) (nx : H x = none) (ndx : H dx = none) (st : Step P (fun a => if a = x then some (some 0, none) else none) (upd (upd H dx o1) x o2) P' W' H') (w' : Wd K mg P' W' H' vs os) :
    ∃ W2, Wd K mg P' W2 H' σ ρ ∧ Step P W H P' W2 H' ∧ ∀ t v, RT K mg P' W' H' (some 0) t v → RT K mg P' W2 H' none t v := by
  have old : ∀ a o, H a = some o → H' a = some o ∧ W' a = none ∧ P' a = P a := fun a o e => by
    have h1 : a ≠ x := ne_of_none e nx
    have h2 : a ≠ dx := ne_of_none e ndx
    exact st.2 a o (by rw [upd_ne h1, upd_ne h2]; exact e) (by simp [h1])
  refine ⟨fun a => match W a with
    | some r => some r
    | none => (match W' a with | some (some 0, f) => some (none, f) | _ => none), ⟨w'.same, fun a r e => ?_, fun i t e => ?_, w.len⟩, ⟨st.1, fun a o ho wa => ?_⟩, fun t v hr => ?_⟩
  · cases q : W a with
    | some r' =>
      obtain ⟨h1, o, h2⟩ := w.own a r' q
      obtain ⟨k1, k2, k3⟩ := old a o h2
      exact ⟨k3.trans h1, o, k1⟩
    | none =>
      simp only [q] at e
      split at e
      · rename_i f q2
        exact w'.own a _ q2
      · cases e
  · obtain ⟨v, hs, hr⟩ := w.env i t e
    refine ⟨v, hs, RT.mono st.1 (fun f a ea => ?_) t v hr⟩
    obtain ⟨h1, o, h2⟩ := w.own a _ ea
    obtain ⟨k1, k2, k3⟩ := old a o h2
    exact ⟨by simp only [ea], fun u hu => by rw [h2] at hu; cases hu; exact k1⟩
  · obtain ⟨k1, k2, k3⟩ := old a o ho
    exact ⟨k1, by simp only [wa, k2], k3⟩
  · refine RT.mono (same_refl P') (fun f a ea => ⟨?_, fun _ h => h⟩) t v hr
    cases q : W a with
    | some r' =>
      obtain ⟨h1, o, h2⟩ := w.own a r' q
      obtain ⟨k1, k2, k3⟩ := old a o h2
      rw [k2] at ea
      cases ea
    | none => simp only [ea]
end
section
variable {X : Cx} {E : WX} {C : Tx} {k : Nat} {x : Str} {fn : Fn} {p pos : Pos} {e : Expr} {es : List Expr} {Fs : List EM}
theorem et_new (R : Ini X.prog X.w X.K X.mg X.base k C fn) (hx : x = sT C) (hr : RoomG (k + 1) X.A) (hg : Gl X x) (tk : Takes X E) (ha : EAV X E (e :: es) Fs)
    (hdb : (x == ("__debug__" : Str)) = false := by decide) (he : starEach (e :: es) X.env = (false, eval e X.env) :: starEach es X.env := by rfl) (hpl : (backTo pos (starEach es X.env)).any (·.1) = false := by rfl) : ET X E (.Call (.Name x p) (e :: es) [] pos) (eNew C fn Fs) := by
  subst hx
  obtain ⟨c, f, fd, ps, hT, hm, M, F, hb⟩ := R.ex
  refine PE.imp (pe_makeG (E := WE E) M F hr hg hm hb (fun σ => passAt tk σ) ha hdb he hpl) fun σ H Q ⟨P, W, ρ, w, g⟩ => ?_
  unfold eNew at g
  refine ⟨P, W, ρ, w, (Go.bind g).mono fun vs H1 ⟨P1, W1, a, s1, ⟨w1, k1⟩, g1⟩ => ?_⟩
  intro x dx nx ndx ne
  refine ⟨P1, _, T.ins C [] :: a.1.map .sh, wd_init w1 ⟨hm, hT⟩ nx ndx ne k1, by simp [k1.len], ?_⟩
  cases hf : fn (T.ins C [] :: a.1.map .sh) with
  | fail => rw [hf] at g1; exact g1.elim
  | exc y os =>
    rw [hf] at g1
    intro c' od P' W' H' st w' xr
    obtain ⟨W2, w2, s2, _⟩ := wd_made w1 nx ndx st w'
    exact g1 c' od P' W2 H' s2 w2 xr
  | ok t os =>
    rw [hf] at g1
    intro v P' W' H' st w' rt
    obtain ⟨W2, w2, s2, r2⟩ := wd_made w1 nx ndx st w'
    unfold newR at g1
    split at g1
    · rename_i c0 fs tl q
      cases q
      split at g1
      · rename_i hc
        subst hc
        obtain ⟨v0, hv0, hr0⟩ := w'.env 0 (.ins c0 fs) rfl
        simp only [List.map_cons, List.getElem?_cons_zero, Option.some.injEq] at hv0
        subst hv0
        refine ⟨rt, g1 (.ref x) P' W2 H' s2 ⟨w2, r2 _ _ hr0⟩⟩
      · exact g1.elim
    · rename_i q; cases q
    · exact g1.elim
end
section
variable {Φ : T × Env → Prop} {Ψ : Exn → Env → Prop} {ρ : Env} {ΦD : D × Env → Prop} {ΦS : Fl → Prop} {ΦO : D → Prop} {F : EM}
def newP (C : Tx) (Φ : T × Env → Prop) (ρ : Env) (t : T) (os : Env) : Prop := match t, os with
  | .sh .non, some (.ins c fs) :: _ => c = C ∧ Φ (.ins C fs, ρ)
  | _, _ => False
theorem s_eNew (C : Tx) (fn : Fn) (Fs : List EM) : sat (eNew C fn Fs ρ) Φ Ψ = sat (vL Fs ρ) (fun a => satO (fn (.ins C [] :: a.1.map .sh)) (newP C Φ a.2) (fun x _ => Ψ x a.2)) Ψ := by
  unfold eNew
  rw [sat_bind]
  congr 1; funext a
  rw [eqO]
  generalize fn (T.ins C [] :: a.1.map .sh) = o
  cases o with
  | fail => rfl
  | exc x os => rfl
  | ok t os =>
    show sat (newR C a.2 (.ok t os)) Φ Ψ = newP C Φ a.2 t os
    unfold newR newP
    split
    · rename_i c fs tl q
      cases q
      by_cases hc : c = C
      · rw [if_pos hc]; simp [hc]; rfl
      · rw [if_neg hc]; simp [hc, sat_fail]
    · rename_i q; cases q
    · rename_i h1 h2
      split
      · rename_i c fs tl
        exact absurd rfl (h1 c fs tl)
      · rfl
theorem x_newP (C : Tx) (fs : List (Tx × T1)) (r : Env) (ρ : Env) : newP C Φ ρ (.sh .non) (some (.ins C fs) :: r) = Φ (.ins C fs, ρ) := by simp [newP]
end
end Od
namespace Od
open PySem PySem.Spec L2
open PyProof.Rows hiding St cutD
/-! ### x.m(e, ..), x an instance of the variable's own -/
section
variable {X : Cx} {CX : CXT} {k : Nat} {f C : Addr} {fd : FuncData} {ps : List Str} {sp : Sp} {E : St → XK} {m : Str} {apos pos : Pos} {o e : Expr} {es : List Expr} {ta : TE} {t : TA}
end
structure CalM (P : Program) (w : World) (K : PySem.W.Frag) (mg : Str → Option Value) (base : Heap) (k : Nat) (C m : Tx) (fn : Fn) : Prop where
  ex : ∃ (c f : Addr) (fd : FuncData) (ps : List Str), Top K C c ∧ Cls K c ∧ Meth K c (sT m) f ∧ FnG P w K mg base (L2.CX P w) k f fd ps (spF K mg fn) ∧ Binds K fd ps []
theorem CalM.mono {P : Program} {w : World} {K : PySem.W.Frag} {mg : Str → Option Value} {base : Heap} {k j : Nat} {C m : Tx} {fn : Fn} (h : CalM P w K mg base k C m fn) (hk : k ≤ j) : CalM P w K mg base j C m fn := by
  obtain ⟨c, f, fd, ps, h1, h2, h3, h4, h5⟩ := h.ex
  exact ⟨c, f, fd, ps, h1, h2, h3, h4.mono hk, h5⟩
section
variable {K : PySem.W.Frag} {mg : Str → Option Value} {P P' H H' : Hp} {W W' : Own} {r : Option Nat}
end
section
variable {X : Cx} {E : WX} {C m f : Tx} {fl : List Tx} {i k : Nat} {x n : Str} {fn : Fn} {p1 apos pos pos' : Pos} {e : Expr} {es : List Expr} {As : List Arg} {F : EM} {md : List Bool}
end
section
variable {Φ : T × Env → Prop} {ΦD : D × Env → Prop} {Ψ : Exn → Env → Prop} {ρ : Env} {ΦS : Fl → Prop} {F : EM} {x : Option T} {ΦF : List (Tx × T1) → Prop} {ΦT1 : T1 → Prop} {i : Nat} {C : Tx} {ΦO : D → Prop}
theorem k_ins0 (fs : List (Tx × T1)) : ex (insOf (some (.ins C fs) :: ρ) 0 C) ΦF = ΦF fs := by show ex (if C = C then some fs else none) ΦF = _; rw [if_pos rfl]; rfl
theorem k_inss : ex (insOf (x :: ρ) (i + 1) C) ΦF = ex (insOf ρ i C) ΦF := rfl
/-- a part, by its name -/
def getS (fs : List (Tx × T1)) (f : Tx) : Option D := match getF fs f with
  | some (.sh d) => some d
  | _ => none
theorem k_getS1 (f : Tx) (d : D) (fs : List (Tx × T1)) : ex (getS ((f, .sh d) :: fs) f) ΦO = ΦO d := by unfold getS getF; rw [if_pos rfl]; rfl
theorem k_getS2 (f g : Tx) (t : T1) (fs : List (Tx × T1)) (h : decide (g = f) = false) : ex (getS ((g, t) :: fs) f) ΦO = ex (getS fs f) ΦO := by unfold getS; rw [show getF ((g, t) :: fs) f = getF fs f from by rw [getF, if_neg (of_decide_eq_false h)]]
theorem s_sFldI (C : Tx) (i : Nat) (f : Tx) : sat (sFldI C i f F ρ) ΦS Ψ = sat (F ρ) (fun a => ex (insOf a.2 i C) fun fs => fs.length < 900 ∧ cps (List.set a.2 i (some (.ins C (putT fs f (.sh a.1))))) fun r => ΦS (.nx r)) Ψ := by
  unfold sFldI
  rw [sat_bind]; congr 1; funext a
  rw [sat_bind, sat_of, ex_bind]; congr 1; funext fs
  rw [ex_ite]; rfl
theorem x_fldO (C f : Tx) (ks : List Tx) (vs : List D) : ex (fFldO C f (.obj C ks vs)) ΦO = ex (lkX ks vs f) ΦO := by show ex (if C = C then lkX ks vs f else none) ΦO = _; rw [if_pos rfl]
end
end Od
namespace Od
open PySem PySem.Spec L2
open PyProof.Rows hiding St cutD
/-! ### xs.remove(e), flat things -/
section
variable {X : Cx}
end
theorem findIdx_some {α : Type} {p : α → Bool} : ∀ {xs : List α} {j : Nat}, xs.findIdx? p = some j → (∃ x, xs[j]? = some x ∧ p x = true) ∧ ∀ m x, m < j → xs[m]? = some x → p x = false
  | [], j, h => by simp at h
  | x :: xs, j, h => by
    rw [List.findIdx?_cons] at h
    split at h
    · rename_i hx
      cases h
      exact ⟨⟨x, rfl, hx⟩, fun m y hm _ => by omega⟩
    · rename_i hx
      obtain ⟨k, hk, rfl⟩ := Option.map_eq_some_iff.mp h
      obtain ⟨⟨y, h1, h2⟩, h3⟩ := findIdx_some hk
      refine ⟨⟨y, by simpa using h1, h2⟩, fun m z hm hz => ?_⟩
      cases m with
      | zero => simp at hz; subst hz; simpa using hx
      | succ m => exact h3 m z (by omega) (by simpa using hz)
section
variable {K : PySem.W.Frag} {P : Hp}
theorem flat_find {d : D} {y : V} {ds : List D} {vs : List V} {j : Nat} (f : d.flat = true) (g : ds.all D.flat = true) (dy : Den K P d y) (dn : DenL K P ds vs) (h : ds.findIdx? (fun z => D.flatEq z d) = some j) :
    flatV y = true ∧ vs.all flatV = true ∧ ∃ z, vs[j]? = some z ∧ eqV z y = true ∧ ∀ (m : Nat) (z' : V), m < j → vs[m]? = some z' → eqV z' y = false := by
  obtain ⟨⟨e, h1, h2⟩, h3⟩ := findIdx_some h
  obtain ⟨z, hz, dz⟩ := dn.get h1
  have gm : ∀ x ∈ ds, x.flat = true := List.all_eq_true.mp g
  refine ⟨dflat f dy, flatL g dn, z, hz, by rw [dflatEq (gm e (List.mem_of_getElem? h1)) f dz dy]; exact h2, fun m z' hm hz' => ?_⟩
  obtain ⟨e', he', dz'⟩ := dn.get' hz'
  rw [dflatEq (gm e' (List.mem_of_getElem? he')) f dz' dy]
  exact h3 m e' hm he'
end
/-! ### xs.index(e), flat things; t.index(e) of texts -/
def mIndexL : D → List D → Option D
  | .lst ds, [d] => if d.flat && ds.all D.flat then (ds.findIdx? fun z => D.flatEq z d).map fun j => .int (j : Nat) else none
  | _, _ => none
theorem f_indexL {K : PySem.W.Frag} : MtV K (rIndex K) mIndexL := fun P H x vs d ds res Q s v1 v2 hf q => by
  unfold mIndexL at hf
  split at hf
  · rename_i es d0
    split at hf
    · rename_i hc
      rw [Bool.and_eq_true] at hc
      obtain ⟨j, hj, rfl⟩ := Option.map_eq_some_iff.mp hf
      obtain ⟨v, rfl, h⟩ := vl1 v2
      obtain ⟨l, ws, rfl, hh, dl⟩ := vlst v1
      have dv : Den K P d0 v := by
        cases d0 <;> simp [D.flat] at hc <;> exact h
      obtain ⟨f1, f2, z, hz, hzj, hno⟩ := flat_find hc.1 hc.2 dv dl hj
      exact ⟨l, ws, v, j, z, rfl, rfl, SqL.of hh, f1, f2, hz, hzj, hno, q _ P H (Al.refl s) dint⟩
    · cases hf
  · cases hf
/-! ### xs.count(e), flat things -/
section
variable {X : Cx}
def rCntF (K : PySem.W.Frag) : V → List V → Hp → VK → Prop := fun x xs H Q => ∃ (a : Addr) (ys : List V) (y : V), x = .ref a ∧ xs = [y] ∧ SqL K H a ys ∧ flatV y = true ∧ ys.all flatV = true ∧ Q (.int ((ys.countP fun z => eqV z y : Nat) : Int)) H
theorem count_vals {y : V} : ∀ {ys : List V} {us : List Value}, Vals ys us → ys.all flatV = true → us.countP (eqU y) = ys.countP fun z => eqV z y
  | _, _, .nil, _ => rfl
  | _, _, .cons r t, f => by
    rw [List.all_cons, Bool.and_eq_true] at f
    rw [List.countP_cons, List.countP_cons, count_vals t f.2, eqU_of r f.1]
theorem mt_countF : MtR X "list.count" (rCntF X.K) := by
  intro pins s σ H x xs v us Q I rx rxs h
  obtain ⟨a, ys, y, rfl, rfl, hs, fy, fys, q⟩ := h
  cases rx
  cases rxs with
  | cons ry rt =>
    rename_i uy ut
    cases rt
    obtain ⟨its, rv, ⟨⟨cls, dd, data, sl⟩, n, ho, hc, hdn, hd⟩, hlen⟩ := I.list hs
    simp only at hc hd
    subst hc hd
    refine call_meets PySem.F.slot_list_count ⟨_, ho, rfl⟩ PySem.F.entry_list_count (PySem.F.args_list_count_2 _ _)
      (PySem.SeqAt.list_countAt a its.toArray n dd sl uy (eqU y)) ⟨ho, fun u' hu' => mem_eqAt ry fy rv fys u' (by simpa using hu'), ?_⟩
    rw [show its.toArray.toList = its from rfl, count_vals rv fys]
    exact ⟨.int _, H, I.tok _, ⟨_, rfl⟩, q⟩
end
def mCount : D → List D → Option D
  | .lst ds, [d] => if d.flat && ds.all D.flat then some (.int ((ds.countP fun z => D.flatEq z d : Nat) : Int)) else none
  | _, _ => none
theorem count_den {K : PySem.W.Frag} {P : Hp} {d : D} {y : V} (f : d.flat = true) (dy : Den K P d y) : ∀ {ds : List D} {vs : List V}, ds.all D.flat = true → DenL K P ds vs → (vs.countP fun z => eqV z y) = ds.countP fun z => D.flatEq z d
  | [], vs, _, h => by unfold DenL at h; subst h; rfl
  | e :: ds, vs, g, h => by
    unfold DenL at h
    obtain ⟨v, r, rfl, h1, h2⟩ := h
    rw [List.all_cons, Bool.and_eq_true] at g
    rw [List.countP_cons, List.countP_cons, count_den f dy g.2 h2, dflatEq g.1 f h1 dy]
theorem f_count {K : PySem.W.Frag} : MtV K (rCntF K) mCount := fun P H x vs d ds res Q s v1 v2 hf q => by
  unfold mCount at hf
  split at hf
  · rename_i es d0
    split at hf
    · rename_i hc
      rw [Bool.and_eq_true] at hc
      cases hf
      obtain ⟨v, rfl, h⟩ := vl1 v2
      obtain ⟨l, ws, rfl, hh, dl⟩ := vlst v1
      have dv : Den K P d0 v := by
        cases d0 <;> simp [D.flat] at hc <;> exact h
      exact ⟨l, ws, v, rfl, rfl, SqL.of hh, dflat hc.1 dv, flatL hc.2 dl, by rw [count_den hc.1 dv hc.2 dl]; exact q _ P H (Al.refl s) dint⟩
    · cases hf
  · cases hf
/-! ### s.split(sep) -/
section
variable {Φ : D → Prop} {ΦL : List D → Prop}
end
end Od
namespace Od
open PySem PySem.Spec L2
open PyProof.Rows hiding St cutD
/-! ### range(i, j, 2) -/
def rngP : List D → Option (List D)
  | [.int i, .int j, .int c] => if okI i && okI j && decide (c = 2) then some (rngC i 2 ((j - i + 1) / 2).toNat) else none
  | _ => none
theorem size2 (i j : Int) : Builtin.Range.rangeSize i j 2 = (((j - i + 1) / 2).toNat : Int) := by
  unfold Builtin.Range.rangeSize
  rw [if_pos (by decide)]
  split <;> omega
theorem RgC_two {i j : Int} (h1 : okI i = true) (h2 : okI j = true) : RgC i j 2 ((j - i + 1) / 2).toNat := by
  unfold okI at h1 h2
  simp only [Bool.and_eq_true, decide_eq_true_eq] at h1 h2
  refine ⟨by decide, by decide, ?_, size2 i j⟩
  unfold Builtin.Range.small
  rw [size2]
  simp only [Builtin.Range.rangeFitsLong, Bool.and_eq_true, Bool.or_eq_true, decide_eq_true_eq, beq_iff_eq, show (2 : Int) > 0 by decide, if_true]
  omega
theorem ht_rngP {K : PySem.W.Frag} (ta : TA) (σ : St) (H : Hp) (R : It → Hp → Prop) (h : ta σ H fun vs H1 => ∃ P ds xs, Same P H1 ∧ DenL K P ds vs ∧ rngP ds = some xs ∧ ∀ J, ItOk K J P xs → R J H1)
    (mo : ∀ Q Q' : List V → Hp → Prop, (∀ vs H1, Q vs H1 → Q' vs H1) → ta σ H Q → ta σ H Q') : iRng3 ta σ H R := by
  refine mo _ _ (fun vs H1 ⟨P, ds, xs, s, l, e, k⟩ => ?_) h
  unfold rngP at e
  split at e
  · split at e
    · rename_i hj
      cases e
      unfold DenL at l
      obtain ⟨v, r, rfl, dv, l⟩ := l
      obtain ⟨u, t, rfl, du, dt⟩ := DenL.two l
      rw [DenL.iint dv, DenL.iint du, DenL.iint dt]
      simp only [Bool.and_eq_true, decide_eq_true_eq] at hj
      obtain ⟨⟨h1, h2⟩, rfl⟩ := hj
      exact ⟨_, _, 2, _, rfl, RgC_two h1 h2, k _ it_rangeC⟩
    · cases e
  · cases e
theorem x_rngP (i j : Int) {ΦL : List D → Prop} : ex (rngP [.int i, .int j, .int 2]) ΦL = ((okI i && okI j) = true ∧ ΦL (rngC i 2 ((j - i + 1) / 2).toNat)) := by
  show ex (if _ then _ else _) _ = _
  rw [ex_ite, show decide ((2 : Int) = 2) = true from rfl, Bool.and_true]
  rfl
/-! ### the order of numbers -/
end Od
namespace Od
open PySem PySem.Spec L2
open PyProof.Rows hiding St cutD
/-! ### for a look all that is owned is lent: the value is a scalar, and all comes back -/
section
variable {K : PySem.W.Frag} {mg : Str → Option Value} {P P' H H' : Hp} {W W' : Own} {σ : St} {ρ : Env}
end
section
variable {X : Cx} {E : WX} {e : Expr}
end
section
variable {ρ : Env} {Φ : D × Env → Prop} {ΦB : Bool × Env → Prop} {Ψ : Exn → Env → Prop} {ΦE : Env → Prop} {ΦO : Option T → Prop}
end
end Od
namespace Od
open PySem PySem.Spec L2
open PyProof.Rows hiding St cutD
/-! ### xs[e] += e', xs a list of the variable's own, numbers -/
def augA (i : Nat) (b : D × Env) : Option (Int × Int) := (lkL b.2 i).bind fun ds => (intOf b.1).bind fun n => if 0 ≤ n ∧ n < ds.length ∧ n < 1000000 then (ds[n.toNat]?).bind fun d => (intOf d).bind fun k => some (n, k) else none
def augB (i : Nat) (n k : Int) (c : D × Env) : Option Env := (intOf c.1).bind fun j => (lkL c.2 i).bind fun ds => if 0 ≤ n ∧ n < ds.length then some (List.set c.2 i (some (.lst (ds.set n.toNat (.int (k + j)))))) else none
def sAugX (i : Nat) (B F : EM) : SM := fun ρ => Res.of (lkL ρ i) >>= fun _ => B ρ >>= fun b => Res.of (augA i b) >>= fun k => F b.2 >>= fun c => Res.of (augB i k.1 k.2 c) >>= fun r => .ok (.nx r)
def rGetL : V → V → Hp → VK → Prop := fun o i H Q => ∃ p xs k z, o = V.ref p ∧ i = V.int k ∧ H p = some (.lst xs) ∧ (0 ≤ k ∧ k < 1000000) ∧ xs[k.toNat]? = some z ∧ Q z H
section
variable {X : Cx}
theorem get_lst : PGet X rGetL := by
  intro pins s σ H o i ov iv Q I ro ri h
  obtain ⟨p, xs, k, z, rfl, rfl, hp, hk, hz, q⟩ := h
  cases ro
  obtain ⟨t, rfl⟩ := ri
  obtain ⟨its, r, pl, _⟩ := I.list (SqL.of hp)
  obtain ⟨w, ew, rw'⟩ := r.get hz
  exact wpAny_getItem_list pl.isList hk.1 (by omega) (by simpa using ew) ⟨z, H, I, rw', q⟩
end
section
variable {X : Cx} {E : WX} {md : List Bool} {i : Nat} {x : Str} {e e2 : Expr} {B F : EM} {pos p1 p2 : Pos}
theorem intOf_eq {d : D} {n : Int} (h : intOf d = some n) : d = .int n := by
  revert h
  cases d <;> intro z <;> first | (cases z; rfl) | cases z
theorem sd_augX (hN : X.N[i]? = some x) (hv : Vis X.env.scope x) (hb : EV X E e B) (he : EV X E e2 F) (hd : (x == ("__debug__" : Str)) = false := by decide) (hcd : (x == ("__classdict__" : Str)) = false := by decide)
    (ha : ∀ ov iv new, augStore e ov iv new = (do holding [new, ov, iv] (setItem ov iv new); release [new, ov, iv] []; pure .next) := by intros; rfl) :
    SD X E md (.AugAssign (.Subscript (.Name x p1) e p2) .Add e2 pos) (sAugX i B F) := PS.imp (ps_augS (pe_var hN hv hd hcd) hb get_lst he ip_add set_list ha) fun D σ H ⟨P, W, ρ, w, g⟩ => by
  unfold sAugX at g
  obtain ⟨ds0, e0, g⟩ := GoS.of g
  obtain ⟨l, vs0, hs, hw0, hh0, dn0, hi0⟩ := w.lstAt (lkL_some e0)
  refine ⟨.ref l, hs, P, W, ρ, w, (GoS.val (Rel := VRel X.K X.mg) g).mono fun n H1 ⟨P1, W1, b, s1, ⟨w1, db⟩, g1⟩ => ?_⟩
  obtain ⟨kk, e1, g2⟩ := GoS.of g1
  obtain ⟨ds1, e1a, e1⟩ := Option.bind_eq_some_iff.mp e1
  obtain ⟨m, e1b, e1⟩ := Option.bind_eq_some_iff.mp e1
  rw [intOf_eq e1b] at db
  unfold Den at db
  split at e1
  · rename_i hm
    obtain ⟨d, hd1, e1⟩ := Option.bind_eq_some_iff.mp e1
    obtain ⟨k, hdk, e1⟩ := Option.bind_eq_some_iff.mp e1
    cases e1
    obtain rfl := intOf_eq hdk
    obtain ⟨l1, vs1, hs1, hw1, hh1, dn1, hi1⟩ := w1.lstAt (lkL_some e1a)
    rw [hs] at hs1
    cases hs1
    obtain ⟨z, hz, dz⟩ := dn1.get hd1
    unfold Den at dz
    refine ⟨l, vs1, m, z, rfl, db, hh1, ⟨hm.1, hm.2.2⟩, hz, P1, W1, b.2, w1, (GoS.val (Rel := VRel X.K X.mg) g2).mono fun y H2 ⟨P2, W2, c, s2, ⟨w2, dc⟩, g3⟩ => ?_⟩
    obtain ⟨r, e3, g4⟩ := GoS.of g3
    obtain ⟨j, e3a, e3⟩ := Option.bind_eq_some_iff.mp e3
    obtain ⟨ds2, e3b, e3⟩ := Option.bind_eq_some_iff.mp e3
    rw [intOf_eq e3a] at dc
    unfold Den at dc
    split at e3
    · rename_i hm2
      cases e3
      obtain ⟨l2, vs2, hs2, hw2, hh2, dn2, hi2⟩ := w2.lstAt (lkL_some e3b)
      rw [hs] at hs2
      cases hs2
      refine ⟨k, j, dz, dc, l, vs2, m, m.toNat, rfl, db, hh2, ixN_of (by rw [dn2.len]; exact hm2), ?_⟩
      obtain ⟨w3, s3⟩ := w2.mut (o := .lst (vs2.set m.toNat (.int (k + j)))) (t := .lst (ds2.set m.toNat (.int (k + j)))) hi2 hs hw2 ⟨l, _, rfl, hw2, upd_same, DenL.set m.toNat dn2 (show Den X.K P2 _ _ from by unfold Den; rfl)⟩
      exact g4 σ P2 W2 _ s3 w3 (Kp.refl md σ)
    · cases e3
  · cases e1
end
section
variable {ΦS : Fl → Prop} {Ψ : Exn → Env → Prop} {ρ : Env} {F B : EM}
theorem s_augX (i : Nat) : sat (sAugX i B F ρ) ΦS Ψ = ex (lkL ρ i) fun _ => sat (B ρ) (fun b => ex (lkL b.2 i) fun ds => ex (intOf b.1) fun n => (0 ≤ n ∧ n < ds.length ∧ n < 1000000) ∧ ex (ds[n.toNat]?) fun d => ex (intOf d) fun k =>
    sat (F b.2) (fun c => ex (intOf c.1) fun j => ex (lkL c.2 i) fun es => (0 ≤ n ∧ n < es.length) ∧ cps (List.set c.2 i (some (.lst (es.set n.toNat (.int (k + j)))))) fun r => ΦS (.nx r)) Ψ) Ψ := by
  unfold sAugX
  rw [sat_bind, sat_of]; congr 1; funext _
  rw [sat_bind]; congr 1; funext b
  rw [sat_bind, sat_of]
  unfold augA
  rw [ex_bind]; congr 1; funext ds
  rw [ex_bind]; congr 1; funext n
  rw [ex_ite]
  congr 1
  rw [ex_bind]; congr 1; funext d
  rw [ex_bind]; congr 1; funext k
  show sat (F b.2 >>= _) ΦS Ψ = _
  rw [sat_bind]; congr 1; funext c
  rw [sat_bind, sat_of]
  unfold augB
  rw [ex_bind]; congr 1; funext j
  rw [ex_bind]; congr 1; funext es
  rw [ex_ite]; rfl
end
end Od
/-! sorted(t) of a tuple -/
namespace PySem.W
open PySem PySem.Calls PyProof.Rows PyProof.V PySem.Spec
section
variable {prog : Program} {w : World} {A : Around} {E : Value → Shared → Prop} {s : Shared}
theorem collectT {l : Addr} {vs : List Value} {Q : List Value → Shared → Prop} (hl : s.heap.IsTuple l vs.toArray) (hz : vs.length ≤ sizeLine)
    (k : Q vs { s with heap := (s.heap.push (seqObj "list" #[] 0)).update s.heap.objs.size (Obj.mapSeq (· ++ vs.toArray)) }) : wpAny (model prog w) A (collect (.ref l)) Q E s := by
  obtain ⟨o, ho, hc, n, hd⟩ := id hl
  have top : (s.heap.push (seqObj "list" #[] 0)).get? s.heap.objs.size = some (seqObj "list" #[] 0) := Heap.get?_push_size _ rfl
  have low : (s.heap.push (seqObj "list" #[] 0)).get? l = some o := Heap.get?_push_of_some _ ho
  unfold collect
  refine wpAny_bind (wpAny_runValue (codeAny_builtin entry_proto_collect' ?_))
  show wpAny _ _ (newList [] >>= fun z => again (.builtin "list.__iadd__" ⟨[z, .ref l], []⟩)) _ _ s
  refine wpAny_bind (wpAny_newList (wpAny_pure ⟨Code.quiet_builtin _ (by decide +kernel), codeAny_builtin entry_list_iadd' ?_⟩))
  show wpAny _ _ (Builtin.List.listExtendWith (.ref s.heap.objs.size) (.ref l) (.ref s.heap.objs.size)) _ _ _
  unfold Builtin.List.listExtendWith
  refine wpAny_bind (wpAny_typeOf (T := "tuple") ⟨o, low, hc⟩ ?_)
  have e1 : (Value.type "tuple" == Value.type "tuple") = true := by rfl
  rw [if_pos (by rw [e1]; simp)]
  refine wpAny_bind (listItems_at low hd ?_)
  refine wpAny_bind (listItems_at (xs := #[]) (n := 0) top rfl ?_)
  rw [if_neg (by simp)]
  refine wpAny_bind (listUpdate_at (xs := #[]) (n := 0) top rfl ?_ (Nat.zero_le _) (by show (#[] ++ vs.toArray).size ≤ sizeLine + 1; simp; omega))
  refine wpAny_pure ?_
  show wpAny (model prog w) A (load s.heap.objs.size >>= _) _ _ _
  refine wpAny_bind (wpAny_load (get?_update_seq top _) ?_)
  show wpAny _ _ (pure ((#[] : Array Value) ++ vs.toArray).toList) _ _ _
  rw [show ((#[] : Array Value) ++ vs.toArray).toList = vs by simp]
  exact wpAny_pure k
/-- sorted(t, ..) is list.sort(..) on a new list -/
theorem sorted_ofT {l : Addr} {vs : List Value} {Q : Value → Shared → Prop} (hl : s.heap.IsTuple l vs.toArray) (hL : vs.length ≤ sizeLine)
    (body : ∀ E' : Value → Shared → Prop, wpAny (model prog w) A.in1.in1 (Builtin.«list.sort» ⟨[.ref (s.heap.objs.size + 1)], []⟩) (fun f s' => f = .done (.ret .none) ∧ Q (.ref (s.heap.objs.size + 1)) s') E' { s with heap := copyHeap s.heap vs }) :
    wpAny (model prog w) A (call (.builtin "sorted") [.ref l]) Q E s := by
  refine call_function_entry_kw kind_sorted plain_sorted entry_sorted (args_sorted1 _) ?_
  unfold Builtin.«sorted»
  refine wpAny_bind (m := checkCount "sorted" 1 1 _) (wpAny_pure ?_)
  refine wpAny_bind (collectT hl hL ?_)
  refine wpAny_bind (wpAny_newList ?_ hL)
  have z1 : ((s.heap.push (seqObj "list" #[] 0)).update s.heap.objs.size (Obj.mapSeq (· ++ vs.toArray))).objs.size = s.heap.objs.size + 1 := by rw [Heap.size_update, size_push']
  show wpAny _ _ _ _ _ { s with heap := copyHeap s.heap vs }
  rw [z1]
  refine wpAny_bind (wpAny_holding (wpAny_call_entry_kw slot_list_sort ⟨_, copyHeap_at s.heap vs, rfl⟩ entry_list_sort ?b (args_list_sort _)))
  case b =>
    refine wpAny_mono (body _) (fun f s' h => ?_) fun _ _ x => x
    obtain ⟨rfl, q⟩ := h
    exact ⟨_, rfl, wpAny_pure ⟨_, rfl, q⟩⟩
theorem sortedT_data {β : Type} {R : Value → β → Prop} {enc : β → PyData} {bs : List β} {l : Addr} {vs : List Value} {Q : Value → Shared → Prop} (hl : s.heap.IsTuple l vs.toArray) (e : EachIs R vs bs)
    (er : EachIs (fun v b => ∃ as, Reads s.heap v (enc b) as) vs bs) (c1 : AllAlike (bs.map enc)) (c2 : Sortable (bs.map enc)) (hL : bs.length ≤ sizeLine) (hu : ∀ b, b ∈ bs → A.units + 2 + (enc b).depth < cLine)
    (q : ∀ out, out.length = bs.length → EachIs R out (bs.mergeSort (dataLe false enc)) → Q (.ref (s.heap.objs.size + 1)) { s with heap := sortedAll s.heap vs (List.toArray out) }) :
    wpAny (model prog w) A (call (.builtin "sorted") [.ref l]) Q E s := by
  have hz : vs.length ≤ sizeLine := by rw [e.length]; exact hL
  have er2 : EachIs (fun v b => ∃ as, Reads (sortingHeap (copyHeap s.heap vs) (s.heap.objs.size + 1) vs) v (enc b) as) vs bs := er.mono fun _ _ ⟨as, r⟩ => ⟨as, PyProof.Rows.Reads.keeps (fun _ _ => sorting_copy_old) r⟩
  have S := SortsAt.data (prog := prog) (w := w) (A := A.in1.in1) (s := { s with heap := sortingHeap (copyHeap s.heap vs) (s.heap.objs.size + 1) vs }) (each_map (R := fun v d => ∃ as, Reads (sortingHeap (copyHeap s.heap vs) (s.heap.objs.size + 1) vs) v d as) enc er2) c1 c2 (bound_map hu)
  refine sorted_ofT hl hz fun E2 => ?_
  exact list_sort_vals (s := { s with heap := copyHeap s.heap vs }) (copyHeap_at s.heap vs) S hz ⟨rfl, q _ ((sortVals_length false rfl).trans e.length) (sortVals_data false e er2 c1)⟩
end
end PySem.W
namespace Od
open PySem PySem.Spec L2
open PyProof.Rows hiding St cutD
def fSortedT : List D → Option (List D)
  | [.tup ds] => if srtB ds = true ∧ D.okL ds = true ∧ D.depL ds ≤ 30 ∧ ds.length ≤ 1000000 then some (ds.mergeSort leD) else none
  | _ => none
def rSrtT (K : PySem.W.Frag) : List V → Hp → VK → Prop := fun vs H Q => ∃ (a : Addr) (ys : List V) (ds : List D) (R : V → D → Prop), vs = [V.ref a] ∧ SqT K H a ys ∧ DpAll K H ys (D.pyL ds) ∧ PySem.W.EachIs R ys ds ∧
  srtB ds = true ∧ (∀ d ∈ ds, d.py.depth ≤ 30) ∧ ds.length ≤ sizeLine ∧ ∀ p out, H p = none → PySem.W.EachIs R out (ds.mergeSort leD) → Q (.ref p) (upd H p (.lst out))
theorem cr_srtT {X : Cx} (hu : X.A.units + 65 < cLine) : CallR X (.builtin "sorted") (rSrtT X.K) := by
  rintro pins s σ H vs us Q I r ⟨a, ys, ds, R, rfl, hs, hd, hr, hb, hdp, hz, q⟩
  obtain ⟨its, rv, hl, _⟩ := I.tuple hs
  obtain ⟨u, rfl, ru⟩ := vals1 r
  obtain rfl : u = Value.ref a := ru
  obtain ⟨as, ra⟩ := Dp.readsAll I (D.pyL ds) ys its hd rv
  obtain ⟨c1, c2⟩ := srtB_ok hb
  refine PySem.W.sortedT_data hl (each_vals rv hr) (each_reads ra) c1 c2 hz (fun d m => ?_) fun out ho eo => ?_
  · have := hdp d m; omega
  · obtain ⟨zs, z1, z2⟩ := each_back eo
    obtain ⟨n, hn⟩ := sortedAll_at s.heap its out.toArray
    refine ⟨.ref (s.heap.objs.size + 1), upd H (s.heap.objs.size + 1) (.lst zs), I.laid (t' := s.toks) (fun _ _ => sortedAll_old) (Nat.le_succ _) ⟨?_, out, n, z1, hn⟩, rfl, q _ zs (I.hok.fresh (Nat.le_succ _)) z2⟩
    rw [z1.length, ho]; exact hz
theorem f_sortedT {K : PySem.W.Frag} : CbL K (rSrtT K) fSortedT := by
  intro P H vs ds res Q s v hf q
  unfold fSortedT at hf
  split at hf
  · rename_i ds
    split at hf
    · rename_i c
      obtain ⟨c1, c2, c3, c4⟩ := c
      cases hf
      obtain ⟨v, rfl, h⟩ := vl1 v
      obtain ⟨a, vs, rfl, e, l⟩ := vtup s h
      refine ⟨a, vs, ds, fun v d => Den K P d v, rfl, e, denL_dp s ds vs c2 l, each_den l, c1, fun d m => ?_, by unfold sizeLine; omega, fun p out hp ho => q p out hp (den_each ho)⟩
      rw [(py_ok d (okL_mem c2 m)).2]
      have := depL_mem d m; omega
    · cases hf
  · cases hf
theorem x_sortedT (ds : List D) {ΦL : List D → Prop} : ex (fSortedT [.tup ds]) ΦL = ((srtB ds = true ∧ D.okL ds = true ∧ D.depL ds ≤ 30 ∧ ds.length ≤ 1000000) ∧ ΦL (ds.mergeSort leD)) := by
  show ex (if _ then _ else _) _ = _
  rw [ex_ite]; rfl
/-! ### x += y, numbers or texts -/
/-! ### s.index(y) -/
end Od
namespace Od
open PySem PySem.Spec L2
open PyProof.Rows hiding St cutD
/-! ### constants: tuples of tuples of texts -/
section
variable {K : PySem.W.Frag} {mg : Str → Option Value} {x : Str}
theorem denL_strs (P : Hp) : ∀ ss : List Tx, DenL K P (ss.map .str) (ss.map fun s => V.str (sT s))
  | [] => DenL.nil
  | s :: r => DenL.cons (by unfold Den; rfl) (denL_strs P r)
theorem den_ktup {a : Addr} {o : Obj} {its : List Value} {n : Nat} {ss : List Tx} (hk : K.lookup a = some o) (hc : o.cls = .type "tuple") (hd : o.data = .seq its.toArray n) (hl : its.length ≤ sizeLine) (hv : Vals (ss.map fun s => V.str (sT s)) its) : ∀ P, Den K P (.tup (ss.map .str)) (.ref a) := fun P => by
  unfold Den
  exact ⟨a, _, rfl, .inr ⟨o, its.toArray, n, hk, hc, hd, by simpa using hl, by simpa using hv⟩, denL_strs P ss⟩
theorem gl_tupT {a : Addr} {o : Obj} {its : List Value} {n : Nat} {ds : List D} {vs : List V} (h : mg x = some (.ref a)) (hk : K.lookup a = some o) (hc : o.cls = .type "tuple") (hd : o.data = .seq its.toArray n) (hl : its.length ≤ sizeLine) (hv : Vals vs its) (hds : ∀ P, DenL K P ds vs) : GlD K mg x (.tup ds) := by
  refine ⟨.ref a, _, h, rfl, fun P => ?_⟩
  unfold Den
  exact ⟨a, vs, rfl, .inr ⟨o, its.toArray, n, hk, hc, hd, by simpa using hl, by simpa using hv⟩, hds P⟩
end
end Od
namespace Od
open PySem PySem.Spec L2
open PyProof.Rows hiding St cutD
/-! ### own lists and tuples with own parts -/
def upT : T1 → T
  | .sh d => .sh d
  | .lst ds => .lst ds
  | .dct ks ds => .dct ks ds
def toT1 : T → Option T1
  | .sh d => some (.sh d)
  | .lst ds => some (.lst ds)
  | .dct ks ds => some (.dct ks ds)
  | _ => Option.none
def seqM (b : Bool) : List OM → List T1 → OM
  | [], q, ρ => if q.length ≤ 1000000 then .ok (.seq b q, ρ) else .fail
  | A :: r, q, ρ => A ρ >>= fun a => Res.of (toT1 a.1) >>= fun t => seqM b r (q ++ [t]) a.2
def tSeq (b : Bool) (As : List OM) : OM := seqM b As []
section
variable {K : PySem.W.Frag} {mg : Str → Option Value} {E : WX} {P P' H H' : Hp} {W W' : Own} {σ : St} {ρ : Env} {t : T} {v : V} {r : Option Nat}
theorem Pend.r1 {u : T1} {f : Option Tx} (h : Pend K P W H (upT u) v) (k : ∀ x, RootAt (upT u) v x → W' x = some (r, f)) : R1 K P W' H r f u v := by
  cases u with
  | sh d => exact h
  | lst ds =>
    obtain ⟨c, vs, e, hw, hp, hh, l⟩ := h
    exact ⟨c, vs, e, k c e, hh, l⟩
  | dct ks ds =>
    obtain ⟨c, ws, e, hw, hp, hh, kk, l⟩ := h
    exact ⟨c, ws, e, k c e, hh, kk, l⟩
theorem R1.pend {u : T1} {f : Option Tx} (w : Wd K mg P W H σ ρ) (h : R1 K P W H r f u v) (k : ∀ x, W x = some (r, f) → W' x = none) : Pend K P W' H (upT u) v := by
  cases u with
  | sh d => exact h
  | lst ds =>
    obtain ⟨c, vs, e, hw, hh, l⟩ := h
    exact ⟨c, vs, e, k c hw, (w.own c _ hw).1, hh, l⟩
  | dct ks ds =>
    obtain ⟨c, ws, e, hw, hh, kk, l⟩ := h
    exact ⟨c, ws, e, k c hw, (w.own c _ hw).1, hh, kk, l⟩
theorem adoptI : ∀ (q : List (T1 × V)) (n : Nat) {W : Own}, Wd K mg P W H σ ρ → (∀ p ∈ q, Pend K P W H (upT p.1) p.2) → q.Pairwise (fun a b => ∀ x, RootAt (upT a.1) a.2 x → ¬ RootAt (upT b.1) b.2 x) →
    ∃ W', Wd K mg P W' H σ ρ ∧ RI K P W' H none n (q.map Prod.fst) (q.map Prod.snd) ∧ (∀ x, W x = none → (∀ p ∈ q, ¬ RootAt (upT p.1) p.2 x) → W' x = none) ∧ ∀ x r, W x = some r → W' x = some r
  | [], n, W, w, _, _ => ⟨W, w, rfl, fun x h _ => h, fun x r h => h⟩
  | p :: q, n, W, w, hp, hd => by
    rw [List.pairwise_cons] at hd
    have h1 := hp p List.mem_cons_self
    classical
    let W1 : Own := fun a => if RootAt (upT p.1) p.2 a then some (none, some [n]) else W a
    have w1 : Wd K mg P W1 H σ ρ := ⟨w.same, fun a r e => by
      by_cases hr : RootAt (upT p.1) p.2 a
      · exact (h1.root hr).2
      · simp only [W1, if_neg hr] at e
        exact w.own a r e, fun j t' ej => by
      obtain ⟨v', hs', hr'⟩ := w.env j t' ej
      refine ⟨v', hs', RT.mono (same_refl P) (fun f x ex => ⟨?_, fun _ h => h⟩) t' v' hr'⟩
      have nr : ¬ RootAt (upT p.1) p.2 x := fun z => by rw [(h1.root z).1] at ex; cases ex
      simp only [W1, if_neg nr, ex], w.len⟩
    obtain ⟨W2, w2, ri, n2, k2⟩ := adoptI q (n + 1) w1 (fun p' hp' => (hp p' (List.mem_cons_of_mem p hp')).own fun x hx => by
      have nr : ¬ RootAt (upT p.1) p.2 x := fun z => hd.1 p' hp' x z hx
      simp only [W1, if_neg nr]
      exact ((hp p' (List.mem_cons_of_mem p hp')).root hx).1) hd.2
    refine ⟨W2, w2, ⟨p.2, q.map Prod.snd, rfl, h1.r1 fun x hx => k2 x _ (by simp only [W1, if_pos hx]), ri⟩, fun x hx hn => n2 x (by
      have nr := hn p List.mem_cons_self
      simp only [W1, if_neg nr]
      exact hx) fun p' hp' => hn p' (List.mem_cons_of_mem p hp'), fun x r hx => k2 x r ?_⟩
    have nr : ¬ RootAt (upT p.1) p.2 x := fun z => by rw [(h1.root z).1] at hx; cases hx
    simp only [W1, if_neg nr, hx]
/-- the parts one by one -/
def rOM (K : PySem.W.Frag) (mg : Str → Option Value) (E : WX) : List OM → St → Hp → (List V → Hp → Prop) → Prop
  | [], σ, H, Q => Q [] H
  | A :: r, σ, H, Q => rX K mg E (TRel K mg) A σ H fun v H1 => rOM K mg E r σ H1 fun vs H2 => Q (v :: vs) H2
theorem rOM.mono : ∀ (Bs : List OM) {H : Hp} {Q Q' : List V → Hp → Prop}, rOM K mg E Bs σ H Q → (∀ vs H2, Q vs H2 → Q' vs H2) → rOM K mg E Bs σ H Q'
  | [], H, Q, Q', h, q => q _ _ h
  | b :: Bs, H, Q, Q', ⟨P1, W1, ρ1, w1, go⟩, q => ⟨P1, W1, ρ1, w1, go.mono fun v H1 h => rOM.mono Bs h fun vs H2 => q (v :: vs) H2⟩
theorem RI.len : ∀ {n : Nat} {ts : List T1} {vs : List V}, RI K P W H r n ts vs → vs.length = ts.length
  | n, [], vs, h => by cases h; rfl
  | n, t :: ts, vs, h => by
    obtain ⟨v, q, rfl, h1, h2⟩ := h
    simp [RI.len h2]
theorem RI.pend (w : Wd K mg P W H σ ρ) (k : ∀ f x, W x = some (r, f) → W' x = none) : ∀ {n : Nat} {ts : List T1} {vs : List V}, RI K P W H r n ts vs → ∀ p ∈ (ts.map upT).zip vs, Pend K P W' H p.1 p.2
  | n, [], vs, h => fun p hp => by cases hp
  | n, t :: ts, vs, h => by
    obtain ⟨v, q, rfl, h1, h2⟩ := h
    intro p hp
    simp only [List.map_cons, List.zip_cons_cons, List.mem_cons] at hp
    rcases hp with rfl | hp
    · exact R1.pend w h1 (k _)
    · exact RI.pend w k h2 p hp
end
section
variable {X : Cx} {E : WX} {md : List Bool} {e : Expr} {es : List Expr} {A F : OM} {As : List OM} {pos : Pos}
end
/-! ### x, y, .. = e: the parts go to the names -/
section
variable {X : Cx} {E : WX} {md : List Bool} {e : Expr} {ts : List Expr} {F : OM} {is : List Nat} {pos pt : Pos}
end
section
variable {ΦT : T × Env → Prop} {ΦS : Fl → Prop} {Ψ : Exn → Env → Prop} {ρ : Env} {A F : OM} {b : Bool}
theorem s_tseq (As : List OM) : sat (tSeq b As ρ) ΦT Ψ = sat (seqM b As [] ρ) ΦT Ψ := rfl
theorem s_seqMc (r : List OM) (q : List T1) : sat (seqM b (A :: r) q ρ) ΦT Ψ = sat (A ρ) (fun a => ex (toT1 a.1) fun t => cps (q ++ [t]) fun q' => sat (seqM b r q' a.2) ΦT Ψ) Ψ := by
  show sat (A ρ >>= fun a => Res.of (toT1 a.1) >>= fun t => seqM b r (q ++ [t]) a.2) _ _ = _
  rw [sat_bind]; congr 1; funext a; rw [sat_bind, sat_of]; rfl
theorem s_seqMn (q : List T1) : sat (seqM b [] q ρ) ΦT Ψ = (q.length ≤ 1000000 ∧ ΦT (.seq b q, ρ)) := by
  show sat (if _ then _ else _) _ _ = _
  rw [sat_iteF]; rfl
theorem x_t1s {d : D} {Φ : T1 → Prop} : ex (toT1 (.sh d)) Φ = Φ (.sh d) := rfl
theorem x_t1l {d : List D} {Φ : T1 → Prop} : ex (toT1 (.lst d)) Φ = Φ (.lst d) := rfl
theorem x_t1d {ks : List DK} {d : List D} {Φ : T1 → Prop} : ex (toT1 (.dct ks d)) Φ = Φ (.dct ks d) := rfl
end
end Od
namespace Od
open PySem PySem.Spec L2
open PyProof.Rows hiding St cutD
/-! ### for x in s: the parts of an own list one by one, changed on the way -/
theorem set_same {α : Type} {xs : List α} {i : Nat} {v : α} (h : xs[i]? = some v) : xs.set i v = xs := by
  apply List.ext_getElem?
  intro j
  by_cases hj : j = i
  · subst hj; rw [List.getElem?_set_self (List.getElem?_eq_some_iff.mp h).1, h]
  · rw [List.getElem?_set_ne (Ne.symm hj)]
structure QSt (K : PySem.W.Frag) (mg : Str → Option Value) (P : Hp) (W : Own) (H : Hp) (σ : St) (ρ : Env) (i : Nat) (a : Addr) (q : List (T1 × V)) : Prop where
  w : Wd K mg P W H σ ρ
  s : σ[i]? = some (some (.ref a))
  wa : W a = Option.none
  pa : P a = Option.none
  ha : H a = some (.lst (q.map Prod.snd))
  pd : ∀ p ∈ q, Pend K P W H (upT p.1) p.2 ∧ ¬ RootAt (upT p.1) p.2 a
  ap : q.Pairwise fun a b => ∀ x, RootAt (upT a.1) a.2 x → ¬ RootAt (upT b.1) b.2 x
section
variable {K : PySem.W.Frag} {mg : Str → Option Value} {P P' H H' : Hp} {W W' : Own} {σ σ' : St} {ρ ρ' : Env} {i x : Nat} {a : Addr} {q : List (T1 × V)}
/-- and comes back -/
theorem QSt.back (h : QSt K mg P W H σ ρ i a q) (hi : i < ρ.length) : ∃ W', Wd K mg P W' H σ (ρ.set i (some (.seq false (q.map Prod.fst)))) ∧ ∀ x, W x = Option.none → x ≠ a → (∀ p ∈ q, ¬ RootAt (upT p.1) p.2 x) → W' x = Option.none := by
  let W1 : Own := fun x => if x = a then some (Option.none, Option.none) else W x
  have k1 : ∀ x, x ≠ a → W1 x = W x := fun x h => by simp only [W1, if_neg h]
  have ka : W1 a = some (Option.none, Option.none) := by simp only [W1, if_true]
  have w1 : Wd K mg P W1 H σ ρ := ⟨h.w.same, fun x r e => by
    by_cases hx : x = a
    · subst hx; exact ⟨h.pa, _, h.ha⟩
    · rw [k1 x hx] at e; exact h.w.own x r e, fun j t' ej => by
    obtain ⟨v', hs', hr'⟩ := h.w.env j t' ej
    refine ⟨v', hs', RT.mono (same_refl P) (fun f x ex => ⟨?_, fun _ h => h⟩) t' v' hr'⟩
    rw [k1 x (fun z => by subst z; rw [h.wa] at ex; cases ex)]; exact ex, h.w.len⟩
  obtain ⟨W2, w2, ri, n2, k2⟩ := adoptI q 0 w1 (fun p hp => (h.pd p hp).1.own fun x hx => by
    rw [k1 x (fun z => by subst z; exact (h.pd p hp).2 hx)]
    exact ((h.pd p hp).1.root hx).1) h.ap
  obtain ⟨W3, w3, s3⟩ := w2.put (i := i) (t := .seq false (q.map Prod.fst)) (v := .ref a) ⟨a, _, rfl, k2 a _ ka, h.ha, ri⟩ hi
  rw [set_same h.s] at w3
  refine ⟨W3, w3, fun x hx hxa hn => ?_⟩
  have h2 : W2 x = Option.none := n2 x (by rw [k1 x hxa]; exact hx) hn
  cases hH : H x with
  | some o => exact (s3.2 x o hH h2).2.1
  | none =>
    cases h3 : W3 x with
    | none => rfl
    | some r => obtain ⟨_, o, ho⟩ := w3.own x r h3; rw [hH] at ho; cases ho
end
section
variable {X : Cx} {E : WX} {md md' : List Bool} {i x : Nat} {s y : Str} {ps py pos : Pos} {body : List Stmt} {B : SM}
end
end Od
namespace Od
open PySem PySem.Spec L2
open PyProof.Rows hiding St cutD
/-! ### an own list with own parts: clear, append; a flat list made while all is lent -/
section
variable {K : PySem.W.Frag} {mg : Str → Option Value} {P P' H H' : Hp} {W W' : Own} {σ : St} {ρ : Env} {i : Nat} {u : T1} {v : V}
end
section
variable {X : Cx} {E : WX} {e : Expr} {F : OM} {i : Nat}
end
section
variable {Φ : D × Env → Prop} {ΦT : T × Env → Prop} {ΦS : Fl → Prop} {ΦQ : List T1 → Prop} {Ψ : Exn → Env → Prop} {ρ : Env} {A F : OM} {i x : Nat} {B : SM} {o : Option T}
end
end Od
namespace Od
open PySem PySem.Spec L2
open PyProof.Rows hiding St cutD
/-! ### all is lent for an expression whose object holds no list of another one -/
section
variable {K : PySem.W.Frag} {mg : Str → Option Value} {P P' P2 H H' : Hp} {W W' W2 : Own} {σ : St} {ρ ρ1 : Env}
end
section
variable {X : Cx} {E : WX} {e : Expr}
end
section
variable {ΦT : T × Env → Prop} {ΦO : Option T → Prop} {ΦE : Env → Prop} {Ψ : Exn → Env → Prop} {ρ : Env} {F : OM}
theorem k_frzQ (ts : List T1) {ΦD : D → Prop} : ex (frzT (.seq false ts)) ΦD = ΦD (.lst (ts.map d1)) := rfl
theorem k_frzQT (ts : List T1) {ΦD : D → Prop} : ex (frzT (.seq true ts)) ΦD = ΦD (.tup (ts.map d1)) := rfl
end
end Od
namespace Od
open PySem PySem.Spec L2
open PyProof.Rows hiding St cutD
/-! ### isinstance(x, C): x an exception or None -/
section
variable {X : Cx} {E : WX} {rs ts fl : List Tx} {y : Tx} {n : Str} {ys : List Tx} {es : List Expr} {p p2 p3 pos : Pos} {e : Expr} {A : HM}
end
section
variable {Φ : D → Prop}
end
end Od
namespace Od
open PySem PySem.Spec L2
open PyProof.Rows hiding St cutD
/-! ### tuple(xs) whose object is known; dict(xs) of one's own -/
theorem call_tupleK {X : Cx} : CallR X (.type "tuple") (fun xs H Q => ∃ p ys, xs = [.ref p] ∧ ((SqL X.K H p ys ∧ ∀ (l : Addr) (o : Obj), H l = none → o.dict = none → Q (.ref l) (upd H l (.frz o (.tup ys)))) ∨ (SqT X.K H p ys ∧ Q (.ref p) H))) := by
  intro pins s σ H xs us Q I r h
  obtain ⟨p, ys, rfl, h⟩ := h
  obtain ⟨u, rfl, rx⟩ := vals1 r
  cases rx
  rcases h with ⟨hq, q⟩ | ⟨hq, q⟩
  · obtain ⟨its, r', pl, hz⟩ := I.list hq
    have hlen := r'.length
    refine call_tuple_list pl.isList (fun h' kp => ?_) (by simp only [List.size_toArray] <;> omega)
    have I1 : Inv X pins σ H { s with heap := h' } := I.kept (t' := s.toks) kp
    have I2 : Inv X pins σ (upd H h'.objs.size (.frz { cls := .type "tuple", data := .seq its.toArray } (.tup ys))) { s with heap := h'.push { cls := .type "tuple", data := .seq its.toArray } } :=
      I1.laid (t' := s.toks) (fun b o e => Heap.get?_push_of_some _ e) (Nat.le_refl _) (show ObjOk X.prog X.w _ _ _ (.frz _ (.tup ys)) from ⟨Heap.get?_push_size _ rfl, hz, its, r', IsTup.new _ _⟩)
    exact ⟨.ref h'.objs.size, _, I2, rfl, q _ _ (I1.hok.fresh (Nat.le_refl _)) rfl⟩
  · obtain ⟨its, r', pl, hz⟩ := I.tuple hq
    exact call_tuple_same pl ⟨.ref p, H, I, rfl, q⟩
def fTupK : List D → Option D
  | [.lst ds] => some (.fn ds)
  | [.rol ds] => some (.fn ds)
  | [.fn ds] => some (.fn ds)
  | _ => none
theorem f_tupK {K : PySem.W.Frag} : CbV K (fun xs H Q => ∃ p ys, xs = [.ref p] ∧ ((SqL K H p ys ∧ ∀ (l : Addr) (o : Obj), H l = none → o.dict = none → Q (.ref l) (upd H l (.frz o (.tup ys)))) ∨ (SqT K H p ys ∧ Q (.ref p) H))) fTupK := by
  intro P H vs ds res Q s v hf q
  have mk : ∀ (ds : List D) (ys : List V), DenL K P ds ys → (∀ v P' H', Al P H P' H' → Den K P' (.fn ds) v → Q v H') → ∀ (l : Addr) (o : Obj), H l = none → o.dict = none → Q (.ref l) (upd H l (.frz o (.tup ys))) := fun ds ys l q p o n nd => by
    have al := Al.new (o := HO.frz o (.tup ys)) s n
    exact q _ _ _ al (by unfold Den; exact ⟨p, ys, rfl, ⟨o, upd_same, nd⟩, DenL.mono al.2.1 _ _ l⟩)
  unfold fTupK at hf
  split at hf
  · cases hf
    obtain ⟨v, rfl, h⟩ := vl1 v
    obtain ⟨a, vs, rfl, e, l⟩ := vlst h
    exact ⟨a, vs, rfl, .inl ⟨SqL.of e, mk _ _ l q⟩⟩
  · cases hf
    obtain ⟨v, rfl, h⟩ := vl1 v
    obtain ⟨a, vs, rfl, e, l⟩ := vrol s h
    exact ⟨a, vs, rfl, .inl ⟨e, mk _ _ l q⟩⟩
  · cases hf
    obtain ⟨v', rfl, h⟩ := vl1 v
    have h : Den K P (.fn _) v' := h
    have h' := h
    unfold Den at h
    obtain ⟨a, vs, rfl, ⟨o, e, n⟩, l⟩ := h
    exact ⟨a, vs, rfl, .inr ⟨.inl (.inr ⟨o, s a _ e⟩), q _ P H (Al.refl s) h'⟩⟩
  · cases hf
/-- a known tuple read as any tuple -/
def fWk : D → D
  | .fn ds => .tup ds
  | d => d
def eWk (F : EM) : EM := fun ρ => F ρ >>= fun a => .ok (fWk a.1, a.2)
theorem den_wk {K : PySem.W.Frag} {P : Hp} {d : D} {v : V} (h : Den K P d v) : Den K P (fWk d) v := by
  cases d with
  | fn ds =>
    show Den K P (.tup ds) v
    unfold Den at h ⊢
    obtain ⟨a, vs, rfl, ⟨o, e, n⟩, l⟩ := h
    exact ⟨a, vs, rfl, .inl (.inr ⟨o, e⟩), l⟩
  | _ => exact h
def CbD (K : PySem.W.Frag) (r : List V → Hp → VK → Prop) (f : List D → Option (List DK × List D)) : Prop := ∀ (P H : Hp) (vs : List V) (ds : List D) (res : List DK × List D) (Q : VK), Same P H → ViewL K P H ds vs → f ds = some res → (∀ p ws, H p = none → ws.map Prod.fst = res.1.map kK → DenL K P res.2 (ws.map Prod.snd) → Q (.ref p) (upd H p (.dK ws))) → r vs H Q
def tCBD (f : List D → Option (List DK × List D)) (As : List HM) : OM := fun ρ => hL As ρ >>= fun a => Res.of ((getL a.1 a.2).bind f) >>= fun r => .ok (.dct r.1 r.2, a.2)
def fDictO : List D → Option (List DK × List D)
  | [.lst ds] => (pairsD ds).bind fun ps => if (ps.map Prod.fst).Nodup then some (ps.map Prod.fst, ps.map Prod.snd) else none
  | [.fn ds] => (pairsD ds).bind fun ps => if (ps.map Prod.fst).Nodup then some (ps.map Prod.fst, ps.map Prod.snd) else none
  | _ => none
section
variable {X : Cx} {E : WX} {e : Expr} {As : List HM} {r : List V → Hp → VK → Prop} {F : EM}
theorem ev_wk (h : EV X E e F) : EV X E e (eWk F) := PE.imp h fun σ H Q ⟨P, W, ρ, w, g⟩ =>
  ⟨P, W, ρ, w, (Go.bind g).mono fun v H1 ⟨P1, W1, a, s1, ⟨w1, dv⟩, g1⟩ => g1 v P1 W1 H1 (Step.refl P1 W1 H1) ⟨w1, den_wk dv⟩⟩
theorem et_cbD {f : List D → Option (List DK × List D)} (hf : CbD X.K r f) (hp : PE X e (L2.tCB r (rX X.K X.mg E (HLRel X.K X.mg) (hL As)))) : ET X E e (tCBD f As) := PE.imp hp fun σ H Q ⟨P, W, ρ, w, g⟩ =>
  ⟨P, W, ρ, w, (Go.bind g).mono fun vs H1 ⟨P1, W1, a, s1, ⟨w1, k1⟩, g1⟩ => by
    obtain ⟨res, e, g2⟩ := Go.of g1
    obtain ⟨ds, hd, hfe⟩ := optL e
    exact hf P1 H1 vs ds res Q w1.same (HokL.view w1 k1 hd) hfe fun p ws n hk l => by
      obtain ⟨w2, s2⟩ := w1.newT (o := .dK ws) n
      exact g2 (.ref p) P1 _ _ s2 ⟨w2, p, ws, rfl, by simp [ownNew], upd_same, hk, l⟩⟩
theorem f_dictO {K : PySem.W.Frag} : CbD K (fun xs H Q => ∃ (a : Addr) (ps : List Addr) (kvs : List (Key × V)), xs = [.ref a] ∧ SqK K H a (ps.map V.ref) ∧ Paired (fun p kv => SqT K H p [kV kv.1, kv.2]) ps kvs ∧
    ∀ p, H p = none → Q (.ref p) (upd H p (.dK (mergeK [] kvs)))) fDictO := by
  intro P H vs ds res Q s v hf q
  have go : ∀ (es : List D) (a : Addr) (vs : List V), SqK K H a vs → DenL K P es vs → ((pairsD es).bind fun ps => if (ps.map Prod.fst).Nodup then some (ps.map Prod.fst, ps.map Prod.snd) else none) = some res →
      ∃ (b : Addr) (ps : List Addr) (kvs : List (Key × V)), [V.ref a] = [.ref b] ∧ SqK K H b (ps.map V.ref) ∧ Paired (fun p kv => SqT K H p [kV kv.1, kv.2]) ps kvs ∧ ∀ p, H p = none → Q (.ref p) (upd H p (.dK (mergeK [] kvs))) := by
    intro es a vs e l hf
    obtain ⟨ps, h1, hf⟩ := Option.bind_eq_some_iff.mp hf
    split at hf
    · rename_i nd
      cases hf
      obtain ⟨as, kvs, rfl, hp, hk, hv⟩ := pairsD_den s h1 l
      refine ⟨a, as, kvs, rfl, e, hp, fun p n => ?_⟩
      have hm : mergeK [] kvs = kvs := mergeK_new kvs [] (by
        show (kvs.map Prod.fst).Nodup
        rw [hk]
        exact List.Pairwise.map kK (fun _ _ z y => z (kK_inj y)) nd)
      rw [hm]
      exact q p kvs n hk hv
    · cases hf
  unfold fDictO at hf
  split at hf
  · rename_i es
    obtain ⟨v, rfl, h⟩ := vl1 v
    obtain ⟨a, vs, rfl, e, l⟩ := vlst h
    exact go es a vs (.inl (SqL.of e)) l hf
  · rename_i es
    obtain ⟨v', rfl, h⟩ := vl1 v
    have h : Den K P (.fn es) v' := h
    unfold Den at h
    obtain ⟨a, vs, rfl, ⟨o, e, n⟩, l⟩ := h
    exact go es a vs (.inr ⟨o, s a _ e, n⟩) l hf
  · cases hf
end
section
variable {Φ : D × Env → Prop} {ΦT : T × Env → Prop} {ΦO : D → Prop} {Ψ : Exn → Env → Prop} {ρ : Env} {F : EM} {As : List HM}
theorem s_wk : sat (eWk F ρ) Φ Ψ = sat (F ρ) (fun a => cps (fWk a.1) fun d => Φ (d, a.2)) Ψ := by
  unfold eWk; rw [sat_bind]; rfl
theorem k_wkf (ds : List D) : cps (fWk (.fn ds)) ΦO = ΦO (.tup ds) := rfl
theorem k_wki (i : Int) : cps (fWk (.int i)) ΦO = ΦO (.int i) := rfl
theorem s_tcbD (f : List D → Option (List DK × List D)) : sat (tCBD f As ρ) ΦT Ψ = sat (hL As ρ) (fun a => ex (getL a.1 a.2) fun ds => ex (f ds) fun r => ΦT (.dct r.1 r.2, a.2)) Ψ := by
  unfold tCBD; rw [sat_bind]; congr 1; funext a; rw [sat_bind, sat_of]
  cases getL a.1 a.2 <;> rfl
theorem x_tupKl (ds : List D) : ex (fTupK [.lst ds]) ΦO = ΦO (.fn ds) := rfl
theorem x_tupKr (ds : List D) : ex (fTupK [.rol ds]) ΦO = ΦO (.fn ds) := rfl
theorem x_tupKf (ds : List D) : ex (fTupK [.fn ds]) ΦO = ΦO (.fn ds) := rfl
end
end Od
namespace L2
open PySem PySem.Spec PyProof.Rows
/-! any(xs) of a list of numbers -/
end L2
namespace Od
open PySem PySem.Spec L2
open PyProof.Rows hiding St cutD
section
variable {X : Cx} {E : WX} {e : Expr} {A : HM} {p p2 q pos : Pos}
end
end Od
namespace L2
open PySem PySem.Spec PyProof.Rows
end L2
namespace Od
open PySem PySem.Spec L2
open PyProof.Rows hiding St cutD
section
variable {ΦP : List DK × List D → Prop}
end
end Od
namespace Od
open PySem PySem.Spec L2
open PyProof.Rows hiding St cutD
/-! ### x[k].clear(), x[k].reverse(): a part of an own tuple or list is changed -/
section
variable {K : PySem.W.Frag} {mg : Str → Option Value} {P P' H H' : Hp} {W W' : Own} {σ : St} {ρ : Env} {i : Nat}
end
section
variable {X : Cx} {E : WX} {i k : Nat} {e : Expr}
end
section
variable {Φ : D × Env → Prop} {ΦP : Bool × List T1 × List D → Prop} {Ψ : Exn → Env → Prop} {ρ : Env} {i k : Nat} {o : Option T} {f : List D → List D}
end
end Od
namespace Od
open PySem PySem.Spec L2
open PyProof.Rows hiding St cutD
/-! ### the parts of an own tuple or list are read -/
section
variable {K : PySem.W.Frag} {mg : Str → Option Value} {P P' H H' : Hp} {W W' : Own} {σ : St} {ρ : Env} {i : Nat}
theorem RI.at {r : Option Nat} : ∀ {n : Nat} {ts : List T1} {vs : List V} {k : Nat} {u : T1}, RI K P W H r n ts vs → ts[k]? = some u → ∃ v, vs[k]? = some v ∧ R1 K P W H r (some [n + k]) u v
  | n, [], vs, k, u, h, e => by simp at e
  | n, t :: ts, vs, 0, u, h, e => by
    obtain ⟨v, q, rfl, h1, h2⟩ := h
    simp only [List.getElem?_cons_zero, Option.some.injEq] at e
    subst e
    exact ⟨v, rfl, h1⟩
  | n, t :: ts, vs, k + 1, u, h, e => by
    obtain ⟨v, q, rfl, h1, h2⟩ := h
    rw [List.getElem?_cons_succ] at e
    obtain ⟨v', e1, e2⟩ := RI.at h2 e
    rw [show n + 1 + k = n + (k + 1) by omega] at e2
    exact ⟨v', by rw [List.getElem?_cons_succ]; exact e1, e2⟩
end
section
variable {X : Cx} {E : WX} {i k : Nat} {e : Expr}
end
section
variable {Φ : D × Env → Prop} {ΦT : T × Env → Prop} {ΦU : T1 → Prop} {ΦD : D → Prop} {ΦL : List D → Prop} {Ψ : Exn → Env → Prop} {ρ : Env} {i k : Nat} {o : Option T}
theorem k_uat0 (u : T1) (ts : List T1) : ex ((u :: ts)[0]?) ΦU = ΦU u := rfl
theorem k_uats (u : T1) (ts : List T1) : ex ((u :: ts)[k + 1]?) ΦU = ex (ts[k]?) ΦU := rfl
end
end Od
/-! ### dict(zip(a, b)) of two lists, the keys numbers or texts -/
namespace LiZ
open PySem PySem.Spec PyProof.Rows L2
end LiZ
namespace Od
open PySem PySem.Spec L2
open PyProof.Rows hiding St cutD
section
variable {K : PySem.W.Frag} {P H : Hp}
end
section
variable {X : Cx} {E : WX} {e : Expr} {As : List HM}
end
section
variable {ΦP : List DK × List D → Prop}
end
end Od
namespace Od
open PySem PySem.Spec L2
open PyProof.Rows hiding St cutD
/-! ### for k, x in enumerate(s): the parts of an own list one by one, changed on the way -/
section
variable {K : PySem.W.Frag} {mg : Str → Option Value} {P P' H H' : Hp} {W W' : Own} {σ σ' : St} {ρ ρ' : Env} {i x : Nat} {a T : Addr} {o : HO} {q : List (T1 × V)}
theorem Wd.free (w : Wd K mg P W H σ ρ) (hT : H T = Option.none) : Wd K mg P W (upd H T o) σ ρ ∧ Step P W H P W (upd H T o) := by
  have ne : ∀ {b : Addr} {u : HO}, H b = some u → b ≠ T := fun h z => by subst z; rw [hT] at h; cases h
  refine ⟨⟨fun b u e => ?_, fun b r e => ?_, fun j t ej => ?_, w.len⟩, same_refl P, fun b u h wb => ⟨by rw [upd_ne (ne h)]; exact h, wb, rfl⟩⟩
  · have := w.same b u e
    rw [upd_ne (ne this)]; exact this
  · obtain ⟨h1, u, h2⟩ := w.own b r e
    exact ⟨h1, u, by rw [upd_ne (ne h2)]; exact h2⟩
  · obtain ⟨v, hs, hr⟩ := w.env j t ej
    exact ⟨v, hs, RT.mono (same_refl P) (fun f y ey => ⟨ey, fun u h => by rw [upd_ne (ne h)]; exact h⟩) t v hr⟩
theorem QSt.free (h : QSt K mg P W H σ ρ i a q) (hT : H T = Option.none) : QSt K mg P W (upd H T o) σ ρ i a q := by
  obtain ⟨w, st⟩ := h.w.free (o := o) hT
  exact ⟨w, h.s, h.wa, h.pa, by rw [upd_ne (fun z => by subst z; rw [h.ha] at hT; cases hT)]; exact h.ha, fun p hp => ⟨(h.pd p hp).1.step st, (h.pd p hp).2⟩, h.ap⟩
theorem QSt.forget (h : QSt K mg P W H σ ρ i a q) (j : Nat) : QSt K mg P W H σ (ρ.set j Option.none) i a q :=
  ⟨⟨h.w.same, h.w.own, fun j' t' ej => by
    by_cases hj : j' = j
    · subst hj
      by_cases hl : j' < ρ.length
      · rw [List.getElem?_set_self hl] at ej; cases ej
      · rw [List.getElem?_eq_none (by simpa using hl)] at ej; cases ej
    · rw [List.getElem?_set_ne (Ne.symm hj)] at ej
      exact h.w.env j' t' ej, by simpa using h.w.len⟩, h.s, h.wa, h.pa, h.ha, h.pd, h.ap⟩
end
section
variable {X : Cx} {E : WX} {md md' : List Bool} {i xk x : Nat} {s y yk : Str} {ps py pk pt pe pe2 pos : Pos} {k0 : Nat} {body : List Stmt} {B : SM}
end
end Od
namespace Od
open PySem PySem.Spec L2
open PyProof.Rows hiding St cutD
/-! ### x = s[-1] and two statements that read x: the last part of an own list goes to a name for a while -/
section
variable {K : PySem.W.Frag} {mg : Str → Option Value} {P P' H H' : Hp} {W W' : Own} {σ σ' : St} {ρ ρ' : Env} {i x : Nat} {a T : Addr} {o : HO} {q : List (T1 × V)}
end
section
variable {X : Cx} {E : WX} {md md' : List Bool} {i x : Nat} {st0 b1 b2 : Stmt} {rest : List Stmt} {F1 F2 G : SM} {tm : TE} {e : Expr}
end
/-! ### the rules of the mirror -/
section
variable {Φ : D × Env → Prop} {ΦT : T × Env → Prop} {ΦS : Fl → Prop} {Ψ : Exn → Env → Prop} {ρ : Env} {i x xk : Nat} {B : SM}
end
end Od
namespace Od
open PySem PySem.Spec L2
open PyProof.Rows hiding St cutD
/-! ### s[::-1] of an own list with own parts, told: the name is told nothing of behind -/
section
variable {X : Cx} {E : WX} {i k : Nat} {e : Expr} {p1 p2 p3 pos : Pos}
end
section
variable {ΦT : T × Env → Prop} {Ψ : Exn → Env → Prop} {ρ : Env} {i : Nat}
end
end Od
namespace Od
open PySem PySem.Spec L2
open PyProof.Rows hiding St cutD
/-! ### f(s[k], y): a part of an own list is handed in and comes back changed -/
section
variable {K : PySem.W.Frag} {mg : Str → Option Value} {P P' H H' : Hp} {W W' : Own} {σ : St} {ρ : Env} {i : Nat}
end
section
variable {X : Cx} {E : WX} {i j k n : Nat} {x : Str} {p pos : Pos} {e e2 : Expr} {fn : Fn}
end
/-! ### x, y = a, b where both are told as own lists or tuples with own parts -/
structure PendQ (K : PySem.W.Frag) (P : Hp) (W : Own) (H : Hp) (b : Bool) (q : List (T1 × V)) (c : Addr) : Prop where
  wa : W c = Option.none
  pa : P c = Option.none
  ha : H c = some (sqO b (q.map Prod.snd))
  pd : ∀ p ∈ q, Pend K P W H (upT p.1) p.2 ∧ ¬ RootAt (upT p.1) p.2 c
  ap : q.Pairwise fun a b => ∀ x, RootAt (upT a.1) a.2 x → ¬ RootAt (upT b.1) b.2 x
section
variable {K : PySem.W.Frag} {mg : Str → Option Value} {P P' H H' : Hp} {W W' : Own} {σ : St} {ρ : Env} {i : Nat} {b : Bool} {c : Addr} {v : V} {q : List (T1 × V)} {ts : List T1}
theorem PendQ.step (h : PendQ K P W H b q c) (s : Step P W H P' W' H') : PendQ K P' W' H' b q c := by
  obtain ⟨a1, a2, a3⟩ := s.2 c _ h.ha h.wa
  exact ⟨a2, a3.trans h.pa, a1, fun p hp => ⟨(h.pd p hp).1.step s, (h.pd p hp).2⟩, h.ap⟩
theorem PendQ.own (h : PendQ K P W H b q c) (k : W' c = Option.none) (k2 : ∀ p ∈ q, ∀ x, RootAt (upT p.1) p.2 x → W' x = Option.none) : PendQ K P W' H b q c :=
  ⟨k, h.pa, h.ha, fun p hp => ⟨(h.pd p hp).1.own (k2 p hp), (h.pd p hp).2⟩, h.ap⟩
theorem PendQ.put (h : PendQ K P W H b q c) (w : Wd K mg P W H σ ρ) (hi : i < ρ.length) : ∃ W', Wd K mg P W' H (σ.set i (some (.ref c))) (ρ.set i (some (.seq b (q.map Prod.fst)))) ∧ ∀ x, W x = Option.none → x ≠ c → (∀ p ∈ q, ¬ RootAt (upT p.1) p.2 x) → W' x = Option.none := by
  let W1 : Own := fun x => if x = c then some (Option.none, Option.none) else W x
  have k1 : ∀ x, x ≠ c → W1 x = W x := fun x h => by simp only [W1, if_neg h]
  have ka : W1 c = some (Option.none, Option.none) := by simp only [W1, if_true]
  have w1 : Wd K mg P W1 H σ ρ := ⟨w.same, fun x r e => by
    by_cases hx : x = c
    · subst hx; exact ⟨h.pa, _, h.ha⟩
    · rw [k1 x hx] at e; exact w.own x r e, fun j t' ej => by
    obtain ⟨v', hs', hr'⟩ := w.env j t' ej
    refine ⟨v', hs', RT.mono (same_refl P) (fun f x ex => ⟨?_, fun _ h => h⟩) t' v' hr'⟩
    rw [k1 x (fun z => by subst z; rw [h.wa] at ex; cases ex)]; exact ex, w.len⟩
  obtain ⟨W2, w2, ri, n2, k2⟩ := adoptI q 0 w1 (fun p hp => (h.pd p hp).1.own fun x hx => by
    rw [k1 x (fun z => by subst z; exact (h.pd p hp).2 hx)]
    exact ((h.pd p hp).1.root hx).1) h.ap
  obtain ⟨W3, w3, s3⟩ := w2.put (i := i) (t := .seq b (q.map Prod.fst)) (v := .ref c) ⟨c, _, rfl, k2 c _ ka, h.ha, ri⟩ hi
  refine ⟨W3, w3, fun x hx hxa hn => ?_⟩
  have h2 : W2 x = Option.none := n2 x (by rw [k1 x hxa]; exact hx) hn
  cases hH : H x with
  | some o => exact (s3.2 x o hH h2).2.1
  | none =>
    cases h3 : W3 x with
    | none => rfl
    | some r => obtain ⟨_, o, ho⟩ := w3.own x r h3; rw [hH] at ho; cases ho
end
section
variable {X : Cx} {E : WX} {md : List Bool} {i j : Nat} {x y : Str} {a b : Expr} {A B : OM} {px py pt pos : Pos} {kt k2 : Nat} {pt2 : Pos}
end
section
variable {Φ : D × Env → Prop} {ΦS : Fl → Prop} {ΦL : List D → Prop} {Ψ : Exn → Env → Prop} {ρ : Env} {i j k : Nat} {f : Fn} {A B : OM}
end
end Od
/-! ### list(zip(text, list)) -/
namespace PySem.W
open PySem PySem.Calls PyProof.Rows PyProof.V PySem.Spec
section
variable {prog : Program} {w : World} {A : Around} {E : Value → Shared → Prop} {s : Shared} {z TI TO T i1 i2 : Addr} {fp1 fp2 : List Addr} {n1 n2 i : Nat} {P1 P2 : Nat → Value → Prop} {St1 St2 : Nat → Heap → Prop}
end
/-- the zip object after i turns; S the list that is made -/
structure ZdSt (h : Heap) (z TI TO i1 i2 S : Addr) (St1 St2 : Nat → Heap → Prop) (i : Nat) : Prop where
  ti : IsPair h TI (.ref i1) (.ref i2)
  s1 : St1 i h
  s2 : St2 i h
  z : (i = 0 ∧ IsZip h z TI TO .none ∧ IsPair h TO .none .none) ∨ ∃ T f oT, IsZipHeld h z TI TO T f ∧ h.get? T = some oT ∧ S < T
structure ZdLow (z TI TO : Addr) (fp1 fp2 : List Addr) (S : Addr) : Prop where
  z : z < S
  TI : TI < S
  TO : TO < S
  f1 : ∀ b ∈ fp1, b < S
  f2 : ∀ b ∈ fp2, b < S
section
variable {prog : Program} {w : World} {A : Around} {E : Value → Shared → Prop} {s : Shared} {z TI TO i1 i2 S : Addr} {fp1 fp2 : List Addr} {n1 n2 i : Nat} {P1 P2 : Nat → Value → Prop} {St1 St2 : Nat → Heap → Prop} {h h' : Heap}
theorem ZdSt.keep (D1 : Draws prog w A i1 fp1 n1 P1 St1) (D2 : Draws prog w A i2 fp2 n2 P2 St2) (st : ZdSt h z TI TO i1 i2 S St1 St2 i) (L : ZdLow z TI TO fp1 fp2 S) (k : ∀ b o, b ≠ S → h.get? b = some o → h'.get? b = some o) : ZdSt h' z TI TO i1 i2 S St1 St2 i where
  ti := k _ _ (Nat.ne_of_lt L.TI) st.ti
  s1 := D1.frame _ _ _ st.s1 fun b hb o e => k _ o (Nat.ne_of_lt (L.f1 b hb)) e
  s2 := D2.frame _ _ _ st.s2 fun b hb o e => k _ o (Nat.ne_of_lt (L.f2 b hb)) e
  z := by
    rcases st.z with ⟨e, a, b⟩ | ⟨T, f, oT, a, b, c⟩
    · exact .inl ⟨e, k _ _ (Nat.ne_of_lt L.z) a, k _ _ (Nat.ne_of_lt L.TO) b⟩
    · exact .inr ⟨T, f, oT, k _ _ (Nat.ne_of_lt L.z) a, k _ _ (Nat.ne_of_gt c) b, c⟩
end
section
variable {prog : Program} {w : World} {A : Around} {s : Shared} {R : Result → Shared → Prop} {z TI TO i1 i2 S : Addr} {fp1 fp2 : List Addr} {n1 n2 : Nat} {P1 P2 : Nat → Value → Prop} {St1 St2 : Nat → Heap → Prop}
end
section
variable {prog : Program} {w : World} {A : Around} {E : Value → Shared → Prop} {s : Shared} {z TI TO i1 i2 : Addr} {fp1 fp2 : List Addr} {n1 n2 : Nat} {P1 P2 : Nat → Value → Prop} {St1 St2 : Nat → Heap → Prop}
end
end PySem.W
namespace LiZ
open PySem PySem.Spec PyProof.Rows L2
section
variable {X : Cx}
end
end LiZ
namespace Od
open PySem PySem.Spec L2
open PyProof.Rows hiding St cutD
section
variable {K : PySem.W.Frag} {P H : Hp}
end
section
variable {X : Cx} {E : WX} {e e2 : Expr} {As : List HM} {p p2 zpos pos : Pos}
end
end Od
/-! ### list(d.items()) -/
namespace Od
open PySem PySem.Spec L2
open PyProof.Rows hiding St cutD
section
variable {K : PySem.W.Frag} {P H : Hp}
end
section
variable {X : Cx} {E : WX} {e : Expr} {A : HM} {p apos cpos pos : Pos}
end
section
variable {ρ : Env} {ΦT : T × Env → Prop} {Ψ : Exn → Env → Prop}
end
end Od
/-! ### a dict of the module, texts by texts: D[e] -/
namespace Od
open PySem PySem.Spec L2
open PyProof.Rows hiding St cutD
section
variable {X : Cx} {E : WX} {b : Expr} {B : HM} {x : Str} {p0 pos : Pos} {tab : List (Tx × Tx)}
end
end Od
namespace Od
open PySem PySem.Spec L2
open PyProof.Rows hiding St
/-! ### T.index(e), T a tuple of texts that the program has as a constant -/
section
variable {X : Cx} {E : WX} {e : Expr} {x : Str} {p1 apos cpos : Pos} {F : EM} {ss : List Tx}
end
/-! ### d.get(k), d.get(k, x) -/
section
variable {Φ : D → Prop}
end
end Od
namespace Od
open PySem PySem.Spec L2
open PyProof.Rows hiding St
end Od
namespace Od
open PySem PySem.Spec L2
open PyProof.Rows hiding St cutD
section
variable {K : PySem.W.Frag} {X : Cx} {E : WX} {tg e : Expr} {F : EM}
end
section
variable {Ψ : Exn → Env → Prop} {ρ : Env} {F : EM} {ΦL : List D → Prop}
end
end Od
namespace Od
open PySem PySem.Spec L2
open PyProof.Rows hiding St cutD
/-! ### sorted(set(xs)) of a list of numbers, of any length -/
section
variable {P : Program} {w : World} {A : Around} {E : Value → Shared → Prop} {s : Shared}
end
section
variable {X : Cx}
end
section
variable {X : Cx} {E : WX} {e : Expr} {As : List HM} {p p2 q pos : Pos}
end
end Od
namespace Od
open PySem PySem.Spec L2
open PyProof.Rows hiding St cutD
/-! ### xs.index(e), data of any kind -/
end Od
namespace Od
open PySem PySem.Spec L2
open PyProof.Rows hiding St cutD
/-! ### a comprehension over the keys of a dict of a variable's own: it is locked, and out of reach, meanwhile -/
section
variable {K : PySem.W.Frag} {mg : Str → Option Value} {P H : Hp} {W : Own} {σ : St} {ρ : Env} {i : Nat} {A : Addr}
end
section
variable {X : Cx} {E : WX}
end
section
variable {X : Cx} {E : WX} {md : List Bool} {elt tg : Expr} {ifs : List Expr} {scope : Scope} {own : List (Str × Nat)} {pos np : Pos} {g : GM} {C : BM} {F : EM} {sl : List Nat} {i : Nat} {x : Str}
end
section
variable {Ψ : Exn → Env → Prop} {ρ : Env} {ΦT : T × Env → Prop} {C : BM} {F : EM}
end
end Od
namespace Od
open PySem PySem.Spec L2 PySem.W PySem
open PyProof.Rows hiding St cutD
/-! ### {k: e}, the key any int or text -/
section
variable {X : Cx} {E : WX} {ke e : Expr} {pos : Pos} {G F : EM}
end
section
variable {ΦT : T × Env → Prop} {Ψ : Exn → Env → Prop} {ρ : Env}
end
end Od
namespace Od
open PySem PySem.Spec L2
open PyProof.Rows hiding St cutD
/-! ### instances whose fields are lists and dicts of their own -/
section
variable {K : PySem.W.Frag} {mg : Str → Option Value} {P P' P2 H H' : Hp} {W W' W2 : Own} {σ : St} {ρ ρ1 : Env} {r : Option Nat}
end
section
variable {X : Cx} {E : WX} {e : Expr}
end
/-! ### x.f = e, the value a list or dict of the field's own -/
def give (W : Own) (l : Addr) (o : Option Nat × Option Tx) : Own := fun x => if x = l then some o else W x
section
variable {K : PySem.W.Frag} {mg : Str → Option Value} {P H : Hp} {W : Own} {σ : St} {ρ : Env}
end
section
variable {X : Cx} {E : WX} {C f : Tx} {fl : List Tx} {i : Nat} {x n : Str} {pos pos' p1 : Pos} {e : Expr} {F : OM} {md : List Bool}
end
end Od
namespace Od
open PySem PySem.Spec L2
open PyProof.Rows hiding St cutD
/-! ### x.f.m(e, ..) that changes the list of a field, x.f[e] = v; what stands in them is asked while all is lent -/
def getL1 (fs : List (Tx × T1)) (f : Tx) : Option (List D) := match getF fs f with
  | some (.lst ds) => some ds
  | _ => none
section
variable {K : PySem.W.Frag} {mg : Str → Option Value} {P P' P2 H H' : Hp} {W W' W2 : Own} {σ : St} {ρ ρ1 : Env} {r : Option Nat}
end
section
variable {X : Cx} {E : WX} {C f : Tx} {fl : List Tx} {i : Nat} {e : Expr} {As : List EM} {n : Str} {r : V → List V → Hp → VK → Prop}
end
section
variable {X : Cx} {C f : Tx} {fl : List Tx} {i : Nat} {x n : Str} {p1 p2 pos : Pos} {e : Expr} {B : EM} {sl : List Nat}
end
/-! ### x.m(e, ..), x a shared instance -/
def eCallMS (C m : Tx) (fn : Fn) (i : Nat) (As : List Arg) : OM := fun ρ => match ρ[i]? with
  | some (some (.sh (.obj c ks vs))) => if c = C ∧ m ∉ ks then eCall fn (.io i :: As) ρ else .fail
  | _ => .fail
section
variable {X : Cx} {E : WX} {C m f : Tx} {fl : List Tx} {i k : Nat} {x n : Str} {fn : Fn} {p1 apos pos pos' : Pos} {e : Expr} {es : List Expr} {As : List Arg} {F : EM} {md : List Bool}
end
end Od
namespace Od
open PySem PySem.Spec L2
open PyProof.Rows hiding St cutD
/-! ### how Od83's and Od84's are read -/
section
variable {ρ : Env} {Φ : D × Env → Prop} {ΦB : Bool × Env → Prop} {ΦT : T × Env → Prop} {Ψ : Exn → Env → Prop} {ΦE : Env → Prop} {ΦO : Option T → Prop} {ΦS : Fl → Prop} {ΦL : List D → Prop} {ΦD : D → Prop}
/-- a part of a lent one -/
def getD1 (fs : List (Tx × T1)) (f : Tx) : Option D := (getF fs f).map d1
theorem lkX_get1 : ∀ (fs : List (Tx × T1)) (f : Tx), lkX (fs.map Prod.fst) (fs.map fun p => d1 p.2) f = getD1 fs f
  | [], f => rfl
  | (k, t) :: fs, f => by
    show (if k = f then some (d1 t) else lkX (fs.map Prod.fst) (fs.map fun p => d1 p.2) f) = ((if k = f then some t else getF fs f) : Option T1).map d1
    rw [lkX_get1 fs f]
    split <;> rfl
theorem x_lkXD (fs : List (Tx × T1)) (f : Tx) : ex (lkX (fs.map Prod.fst) (fs.map fun p => d1 p.2) f) ΦD = ex (getD1 fs f) ΦD := by rw [lkX_get1]
theorem k_getD11 (f : Tx) (t : T1) (fs : List (Tx × T1)) : ex (getD1 ((f, t) :: fs) f) ΦD = ΦD (d1 t) := by unfold getD1 getF; rw [if_pos rfl]; rfl
theorem k_getD12 (f g : Tx) (t : T1) (fs : List (Tx × T1)) (h : decide (g = f) = false) : ex (getD1 ((g, t) :: fs) f) ΦD = ex (getD1 fs f) ΦD := by unfold getD1; rw [show getF ((g, t) :: fs) f = getF fs f from by rw [getF, if_neg (of_decide_eq_false h)]]
variable {ΦP : List (Tx × T1) × List D → Prop} {x : Option T} {i : Nat} {C f : Tx}
theorem k_getL11 (f : Tx) (ds : List D) (fs : List (Tx × T1)) : ex (getL1 ((f, .lst ds) :: fs) f) ΦL = ΦL ds := by unfold getL1 getF; rw [if_pos rfl]; rfl
theorem k_getL12 (f g : Tx) (t : T1) (fs : List (Tx × T1)) (h : decide (g = f) = false) : ex (getL1 ((g, t) :: fs) f) ΦL = ex (getL1 fs f) ΦL := by unfold getL1; rw [show getF ((g, t) :: fs) f = getF fs f from by rw [getF, if_neg (of_decide_eq_false h)]]
variable {Φ1 : T1 → Prop}
theorem s_eCallMS (C m : Tx) (fn : Fn) (i : Nat) (As : List Arg) {c : Tx} {ks : List Tx} {vs : List D} (h : ρ[i]? = some (some (.sh (.obj c ks vs)))) : sat (eCallMS C m fn i As ρ) ΦT Ψ = ((c = C ∧ m ∉ ks) ∧ sat (eCall fn (.io i :: As) ρ) ΦT Ψ) := by
  unfold eCallMS
  rw [h]
  show sat (if c = C ∧ m ∉ ks then _ else .fail) ΦT Ψ = _
  rw [sat_iteF]
end
end Od
namespace Od
open PySem PySem.Spec L2
open PyProof.Rows hiding St cutD
/-! ### x.f[k] = v, the field a dict of its own -/
def getD2 (fs : List (Tx × T1)) (f : Tx) : Option (List DK × List D) := match getF fs f with
  | some (.dct ks ds) => some (ks, ds)
  | _ => none
section
variable {K : PySem.W.Frag} {mg : Str → Option Value} {P P' P2 H H' : Hp} {W W' W2 : Own} {σ : St} {ρ ρ1 : Env} {r : Option Nat}
end
section
variable {X : Cx} {C f : Tx} {fl : List Tx} {i : Nat} {x n : Str} {p1 p2 pos : Pos} {e : Expr} {B : EM} {sl : List Nat}
end
section
variable {ρ : Env} {ΦE : Env → Prop} {ΦQ : List (Tx × T1) × (List DK × List D) → Prop} {ΦR : List DK × List D → Prop} {x : Option T} {i : Nat} {C f : Tx}
theorem k_getD21 (f : Tx) (ks : List DK) (ds : List D) (fs : List (Tx × T1)) : ex (getD2 ((f, .dct ks ds) :: fs) f) ΦR = ΦR (ks, ds) := by unfold getD2 getF; rw [if_pos rfl]; rfl
theorem k_getD22 (f g : Tx) (t : T1) (fs : List (Tx × T1)) (h : decide (g = f) = false) : ex (getD2 ((g, t) :: fs) f) ΦR = ex (getD2 fs f) ΦR := by unfold getD2; rw [show getF ((g, t) :: fs) f = getF fs f from by rw [getF, if_neg (of_decide_eq_false h)]]
end
end Od
/-! ### list(d) of a dict -/
namespace Od
open PySem PySem.Spec L2
open PyProof.Rows hiding St cutD
theorem x_lendct (ks : List DK) (ds : List D) {Φ : D → Prop} : ex (fLen [.dct ks ds]) Φ = Φ (.int ks.length) := rfl
end Od
/-! ### equality of two views of one and the same data, dicts among its parts -/
namespace PySem.SeqAt
open AutoSeq1 (wpAny_loadPart')
open MeetsSeq MeetsSeq2 MeetsSeq3 SeqRoads2
section
variable {prog : Program} {w : World}
/-- (..) != (..) of two tuples whose items are equal -/
theorem tup_ne0 (l b : Addr) (xs ys : Array Value) (n n2 : Nat) (dd dd2 : Option Addr) (sl sl2 : Array (Option Value)) (hsz : xs.size = ys.size) :
    MeetsIn prog w (Builtin.«tuple.__ne__» ⟨[.ref l, .ref b], []⟩)
      (fun A R s => s.heap.get? l = some { cls := .type "tuple", dict := dd, data := .seq xs n, slots := sl } ∧ s.heap.get? b = some { cls := .type "tuple", dict := dd2, data := .seq ys n2, slots := sl2 } ∧
        (∀ j (h1 : j < xs.size) (h2 : j < ys.size), EqIn prog w A.in1 s xs[j] ys[j] true) ∧ R (.ok (.ret (.bool false))) s) :=
  .of_wp fun A R s h => by
    obtain ⟨hp, g, d, tk, os⟩ := s; obtain ⟨hl, hb, he, h⟩ := h
    have f2 := AutoSeq1.sub_tuple_tuple
    wp_walk using wpAny_loadPart' hl, wpAny_loadPart' hb, wpAny_forIn_list _ (fun rest b s' => b.1 = none ∧ s' = ⟨hp, g, d, tk, os⟩ ∧ ∃ i, rest = (xs.toList.zip ys.toList).drop i ∧ R (.ok (.ret (.bool false))) ⟨hp, g, d, tk, os⟩) _
    case turn =>
      rintro ⟨y, x⟩ rest b s' ⟨hb', rfl, i, hz, hR⟩
      have hlt : i < (xs.toList.zip ys.toList).length := by
        rcases Nat.lt_or_ge i (xs.toList.zip ys.toList).length with h' | h'
        · exact h'
        · rw [List.drop_of_length_le h'] at hz; cases hz
      have hlt' := hlt
      rw [List.length_zip, Array.length_toList, Array.length_toList] at hlt'
      have h1 : i < xs.size := by omega
      have h2 : i < ys.size := by omega
      rw [List.drop_eq_getElem_cons hlt] at hz
      injection hz with hyx hrest
      have hy : y = xs[i] := by have := congrArg Prod.fst hyx; simpa using this
      have hx : x = ys[i] := by have := congrArg Prod.snd hyx; simpa using this
      subst hy hx
      refine wpAny_bind (he i h1 h2 _ _ ?_)
      wp_walk
      exact ⟨rfl, rfl, i + 1, hrest, hR⟩
    case fin =>
      rintro ⟨b1, b2⟩ s' ⟨hb', rfl, i, hz, hR⟩
      simp only at hb'
      subst hb'
      wp_walk
      exact ⟨_, rfl, by simpa [Builtin.Tuple.tupleCompareSizes, hsz] using hR⟩
    case h =>
      exact ⟨rfl, rfl, 0, rfl, h⟩
variable {A : Around} {s : Shared}
theorem ne_tup0 {E : Value → Shared → Prop} {l b : Addr} {xs ys : Array Value} {Q : Value → Shared → Prop} (hl : s.heap.IsTuple l xs) (hb : s.heap.IsTuple b ys) (hu : A.units < cLine) (hsz : xs.size = ys.size)
    (he : ∀ j (h1 : j < xs.size) (h2 : j < ys.size), EqIn prog w A.in1 s xs[j] ys[j] true) (h : Q (.bool false) s) : wpAny (model prog w) A (richCompare .NotEq (.ref l) (.ref b)) Q E s := by
  obtain ⟨⟨cls, dd, data, sl⟩, ho, hc, n, hd⟩ := id hl
  obtain ⟨⟨cls2, dd2, data2, sl2⟩, ho2, hc2, n2, hd2⟩ := id hb
  simp only at hc hd hc2 hd2
  subst hc hd hc2 hd2
  exact wpAny_richCompare_same_room (T := "tuple") (op := .NotEq) ⟨_, ho, rfl⟩ ⟨_, ho2, rfl⟩ F.slot_tuple_ne (call_meetsIn F.slot_tuple_ne ⟨_, ho, rfl⟩ F.entry_tuple_ne (F.args_tuple_ne_2 _ _) (tup_ne0 l b xs ys n n2 dd dd2 sl sl2 hsz)
    ⟨ho, ho2, he, show Value.bool false ≠ Value.notImplemented ∧ Q (.bool false) s from ⟨(fun x => nomatch x), h⟩⟩) hu
end
end PySem.SeqAt
namespace Od
open PySem PySem.Spec L2
open PyProof.Rows hiding St cutD
mutual
def D.nice : D → Bool
  | .tup ds => D.niceL ds
  | .lst ds => D.niceL ds
  | .dct _ ds => D.niceL ds
  | .rol _ => false
  | .exn _ _ _ => false
  | .obj _ _ _ => false
  | .fn _ => false
  | _ => true
def D.niceL : List D → Bool
  | [] => true
  | d :: ds => D.nice d && D.niceL ds
end
mutual
def D.hgt : D → Nat
  | .tup ds => D.hgtL ds + 1
  | .lst ds => D.hgtL ds + 1
  | .dct _ ds => D.hgtL ds + 1
  | _ => 0
def D.hgtL : List D → Nat
  | [] => 0
  | d :: ds => max (D.hgt d) (D.hgtL ds)
end
theorem kv_vals {ws : List (Key × V)} {va : List (Key × Value)} (h : KV ws va) : Vals (ws.map Prod.snd) (va.map Prod.snd) ∧ ws.map Prod.fst = va.map Prod.fst := by
  induction h with
  | nil => exact ⟨.nil, rfl⟩
  | cons h _ ih => exact ⟨.cons h.2 ih.1, by rw [List.map_cons, List.map_cons, h.1, ih.2]⟩
section
variable {X : Cx} {pins : List (Addr × Obj)} {σ : St} {H : Hp} {s : Shared}
mutual
theorem smTree (I : Inv X pins σ H s) : ∀ (d : D) (n : Nat) (x y : V) (v u : Value), d.nice = true → d.hgt ≤ n → Den X.K H d x → Den X.K H d y → RelV x v → RelV y u → PySem.W.EqTree X.prog X.w s n v u true
  | .non, n, x, y, v, u, _, _, dx, dy, rx, ry => by
    unfold Den at dx dy; subst dx dy; cases rx; cases ry; exact .same
  | .bl b, n, x, y, v, u, _, _, dx, dy, rx, ry => by
    unfold Den at dx dy; subst dx dy; cases rx; cases ry; exact .same
  | .int i, n, x, y, v, u, _, _, dx, dy, rx, ry => by
    unfold Den at dx dy; subst dx dy
    obtain ⟨t, rfl⟩ := rx; obtain ⟨t', rfl⟩ := ry
    have := fun A (_ : A.units + n < cLine) => SeqAt.EqAt.int_int (A := A) (s := s) i t i t'
    rw [beq_self_eq_true] at this
    exact .leaf this
  | .str i, n, x, y, v, u, _, _, dx, dy, rx, ry => by
    unfold Den at dx dy; subst dx dy
    obtain ⟨t, rfl⟩ := rx; obtain ⟨t', rfl⟩ := ry
    have := fun A (_ : A.units + n < cLine) => SeqAt.EqAt.str_str (A := A) (s := s) (sT i) t (sT i) t'
    rw [beq_self_eq_true] at this
    exact .leaf this
  | .tup ds, 0, x, y, v, u, o, h, dx, dy, rx, ry => by unfold D.hgt at h; omega
  | .tup ds, n + 1, x, y, v, u, o, h, dx, dy, rx, ry => by
    unfold Den at dx dy; unfold D.nice at o; unfold D.hgt at h
    obtain ⟨a, vs, rfl, q, l⟩ := dx
    obtain ⟨b, ws, rfl, q', l'⟩ := dy
    cases rx; cases ry
    by_cases e : a = b
    · subst e; exact .same
    obtain ⟨its, rv, ht, _⟩ := I.tuple q
    obtain ⟨its', rv', ht', _⟩ := I.tuple q'
    obtain ⟨hl, hj⟩ := smTreeL I ds n vs ws its its' o (by omega) l l' rv rv'
    have t := PySem.W.EqTree.tuples (prog := X.prog) (w := X.w) (e := fun _ => true) e ht ht' (fun j h1 h2 => hj j (by simpa using h1) (by simpa using h2))
    have e2 : ((List.range (min its.toArray.size its'.toArray.size)).all (fun _ => true) && its.toArray.size == its'.toArray.size) = true := by simp [hl]
    rw [e2] at t
    exact t
  | .lst ds, 0, x, y, v, u, o, h, dx, dy, rx, ry => by unfold D.hgt at h; omega
  | .lst ds, n + 1, x, y, v, u, o, h, dx, dy, rx, ry => by
    unfold Den at dx dy; unfold D.nice at o; unfold D.hgt at h
    obtain ⟨a, vs, rfl, q, l⟩ := dx
    obtain ⟨b, ws, rfl, q', l'⟩ := dy
    cases rx; cases ry
    by_cases e : a = b
    · subst e; exact .same
    obtain ⟨its, rv, ⟨ob, m, ho, hc, _, hd⟩, _⟩ := I.list (SqL.of q)
    obtain ⟨its', rv', ⟨ob', m', ho', hc', _, hd'⟩, _⟩ := I.list (SqL.of q')
    obtain ⟨hl, hj⟩ := smTreeL I ds n vs ws its its' o (by omega) l l' rv rv'
    have t := PySem.W.EqTree.lists (prog := X.prog) (w := X.w) (vs := its.toArray) (vs' := its'.toArray) (e := fun _ => true) e ⟨ob, ho, hc, _, hd⟩ ⟨ob', ho', hc', _, hd'⟩ (by simpa using hl) (fun j h1 h2 => hj j (by simpa using h1) (by simpa using h2))
    have e2 : ((List.range its.toArray.size).all (fun _ => true)) = true := by simp
    rw [e2] at t
    exact t
  | .dct ks ds, 0, x, y, v, u, o, h, dx, dy, rx, ry => by unfold D.hgt at h; omega
  | .dct ks ds, n + 1, x, y, v, u, o, h, dx, dy, rx, ry => by
    unfold Den at dx dy; unfold D.nice at o; unfold D.hgt at h
    obtain ⟨a, vs, rfl, q, k1, l⟩ := dx
    obtain ⟨b, ws, rfl, q', k2, l'⟩ := dy
    cases rx; cases ry
    by_cases e : a = b
    · subst e; exact .same
    obtain ⟨_, ya, va, ra, da⟩ := (show ObjOk X.prog X.w H s.heap a (.dK vs) from I.hok a _ q)
    obtain ⟨_, yb, vb, rb, db⟩ := (show ObjOk X.prog X.w H s.heap b (.dK ws) from I.hok b _ q')
    obtain ⟨r1, f1⟩ := kv_vals ra
    obtain ⟨r2, f2⟩ := kv_vals rb
    obtain ⟨hl, hj⟩ := smTreeL I ds n _ _ _ _ o (by omega) l l' r1 r2
    have ek : va.map Prod.fst = vb.map Prod.fst := by rw [← f1, ← f2, k1, k2]
    have nb : (vb.map (·.1)).Nodup := by
      obtain ⟨_, _, _, _, _, _, _, _, z⟩ := db
      exact z
    have t := PySem.W.EqTree.dicts (prog := X.prog) (w := X.w) (knd := mixKind X.prog X.w) (n := n) (e := fun _ => true) e ya yb da db (fun k v y hm hv => by
      obtain ⟨i, hi, ei⟩ := List.getElem_of_mem hm
      have hlen : va.length = vb.length := by have := congrArg List.length ek; simpa using this
      have hi' : i < vb.length := by omega
      have k3 : vb[i].1 = k := by
        have : (va.map Prod.fst)[i]? = (vb.map Prod.fst)[i]? := by rw [ek]
        rw [List.getElem?_map, List.getElem?_map, List.getElem?_eq_getElem hi, List.getElem?_eq_getElem hi', ei] at this
        simpa using this.symm
      have hm2 : (k, vb[i].2) ∈ vb := by
        have := List.getElem_mem hi'
        rwa [show vb[i] = (k, vb[i].2) from Prod.ext k3 rfl] at this
      rw [valueAt_of_mem nb hm2] at hv
      cases hv
      have := hj i (by rw [List.length_map]; exact hi) (by rw [List.length_map]; exact hi')
      rw [List.getElem_map, List.getElem_map, ei] at this
      exact this)
    have e2 : (va.length == vb.length && va.all fun p => (valueAt vb p.1).isSome && true) = true := by
      have hlen : va.length = vb.length := by have := congrArg List.length ek; simpa using this
      rw [Bool.and_eq_true, List.all_eq_true]
      refine ⟨by simp [hlen], fun p hp => ?_⟩
      rw [Bool.and_true, valueAt_isSome]
      have : p.1 ∈ va.map Prod.fst := List.mem_map_of_mem hp
      rw [ek] at this
      exact this
    rw [e2] at t
    exact t
  | .rol _, _, _, _, _, _, o, _, _, _, _, _ => by cases o
  | .exn _ _ _, _, _, _, _, _, o, _, _, _, _, _ => by cases o
  | .obj _ _ _, _, _, _, _, _, o, _, _, _, _, _ => by cases o
  | .fn _, _, _, _, _, _, o, _, _, _, _, _ => by cases o
theorem smTreeL (I : Inv X pins σ H s) : ∀ (ds : List D) (n : Nat) (vs ws : List V) (its its' : List Value), D.niceL ds = true → D.hgtL ds ≤ n → DenL X.K H ds vs → DenL X.K H ds ws → Vals vs its → Vals ws its' →
    its.length = its'.length ∧ ∀ j (h1 : j < its.length) (h2 : j < its'.length), PySem.W.EqTree X.prog X.w s n its[j] its'[j] true
  | [], n, vs, ws, its, its', _, _, d1, d2, r1, r2 => by
    unfold DenL at d1 d2; subst d1 d2; cases r1; cases r2
    exact ⟨rfl, fun j h1 => absurd h1 (Nat.not_lt_zero _)⟩
  | d :: ds, n, vs, ws, its, its', o, h, d1, d2, r1, r2 => by
    unfold DenL at d1 d2
    obtain ⟨v, vr, rfl, a1, b1⟩ := d1
    obtain ⟨w, wr, rfl, a2, b2⟩ := d2
    unfold D.niceL at o
    rw [Bool.and_eq_true] at o
    unfold D.hgtL at h
    cases r1 with
    | cons c1 e1 =>
      cases r2 with
      | cons c2 e2 =>
        obtain ⟨hl, hj⟩ := smTreeL I ds n _ _ _ _ o.2 (by omega) b1 b2 e1 e2
        have t := smTree I d n _ _ _ _ o.1 (by omega) a1 a2 c1 c2
        refine ⟨by simp [hl], fun j h1 h2 => ?_⟩
        cases j with
        | zero => exact t
        | succ j => exact hj j (by simpa using h1) (by simpa using h2)
end
/-- two views of one tuple -/
def rNeS (K : PySem.W.Frag) : R2 := fun x y H Q => ∃ ds, D.niceL ds = true ∧ D.hgtL ds ≤ 60 ∧ Den K H (.tup ds) x ∧ Den K H (.tup ds) y ∧ Q (.bl false) H
theorem op_neS (hu : X.A.units + 64 < cLine) : OpR X (compareOp .NotEq) (rNeS X.K) := by
  intro pins s σ H x y v u Q I rx ry h
  obtain ⟨ds, o, hh, dx, dy, q⟩ := h
  unfold Den at dx dy
  obtain ⟨a, vs, rfl, q1, l⟩ := dx
  obtain ⟨b, ws, rfl, q2, l'⟩ := dy
  obtain rfl : v = Value.ref a := rx
  obtain rfl : u = Value.ref b := ry
  obtain ⟨its, rv, ht, _⟩ := I.tuple q1
  obtain ⟨its', rv', ht', _⟩ := I.tuple q2
  obtain ⟨hl, hj⟩ := smTreeL I ds 60 vs ws its its' o hh l l' rv rv'
  exact SeqAt.ne_tup0 ht ht' (by omega) (by simpa using hl) (fun j h1 h2 => (hj j (by simpa using h1) (by simpa using h2)).at X.A.in1 (by show X.A.units + 1 + _ < cLine; omega)) (fin_bl I q rfl)
end
mutual
def D.same : D → D → Bool
  | .non, .non => true
  | .bl a, .bl b => a == b
  | .int a, .int b => decide (a = b)
  | .str a, .str b => decide (a = b)
  | .tup a, .tup b => D.sameL a b
  | .lst a, .lst b => D.sameL a b
  | .dct ks a, .dct ls b => decide (ks = ls) && D.sameL a b
  | _, _ => false
def D.sameL : List D → List D → Bool
  | [], [] => true
  | a :: as, b :: bs => D.same a b && D.sameL as bs
  | _, _ => false
end
mutual
theorem smD_eq : ∀ (d e : D), D.same d e = true → d = e
  | .non, e, h => by cases e <;> simp [D.same] at h ⊢
  | .bl a, e, h => by cases e <;> simp [D.same] at h ⊢; exact h
  | .int a, e, h => by cases e <;> simp [D.same] at h ⊢; exact h
  | .str a, e, h => by cases e <;> simp [D.same] at h ⊢; exact h
  | .tup a, e, h => by cases e <;> simp [D.same] at h ⊢; exact smL_eq _ _ h
  | .lst a, e, h => by cases e <;> simp [D.same] at h ⊢; exact smL_eq _ _ h
  | .dct ks a, e, h => by cases e <;> simp [D.same] at h ⊢; exact ⟨h.1, smL_eq _ _ h.2⟩
  | .rol a, e, h => by cases e <;> simp [D.same] at h
  | .exn _ _ _, e, h => by cases e <;> simp [D.same] at h
  | .obj _ _ _, e, h => by cases e <;> simp [D.same] at h
  | .fn _, e, h => by cases e <;> simp [D.same] at h
theorem smL_eq : ∀ (d e : List D), D.sameL d e = true → d = e
  | [], [], _ => rfl
  | [], _ :: _, h => by simp [D.sameL] at h
  | _ :: _, [], h => by simp [D.sameL] at h
  | a :: as, b :: bs, h => by
    unfold D.sameL at h
    rw [Bool.and_eq_true] at h
    rw [smD_eq a b h.1, smL_eq as bs h.2]
end
mutual
theorem smD_refl : ∀ (d : D), d.nice = true → D.same d d = true
  | .non, h => rfl
  | .bl a, h => by simp [D.same]
  | .int a, h => by simp [D.same]
  | .str a, h => by simp [D.same]
  | .tup a, h => by unfold D.nice at h; unfold D.same; exact smL_refl a h
  | .lst a, h => by unfold D.nice at h; unfold D.same; exact smL_refl a h
  | .dct ks a, h => by unfold D.nice at h; unfold D.same; rw [smL_refl a h]; simp
  | .rol a, h => by cases h
  | .exn _ _ _, h => by cases h
  | .obj _ _ _, h => by cases h
  | .fn _, h => by cases h
theorem smL_refl : ∀ (d : List D), D.niceL d = true → D.sameL d d = true
  | [], _ => rfl
  | a :: as, h => by
    unfold D.niceL at h
    rw [Bool.and_eq_true] at h
    unfold D.sameL
    rw [smD_refl a h.1, smL_refl as h.2]; rfl
end
/-- != of a tuple and one like it -/
def fNeS : D → D → Option Bool
  | .tup a, .tup b => if D.niceL a && D.sameL a b && decide (D.hgtL a ≤ 60) then some false else none
  | _, _ => none
theorem f_neS {K : PySem.W.Frag} : Op2B K (rNeS K) fNeS := fun P H x y d e res Q s v1 v2 hf q => by
  unfold fNeS at hf
  split at hf
  · rename_i a b
    split at hf
    · rename_i hc
      simp only [Bool.and_eq_true, decide_eq_true_eq] at hc
      obtain ⟨⟨h1, h2⟩, h3⟩ := hc
      have := smL_eq _ _ h2
      subst this
      cases hf
      exact ⟨a, h1, h3, Den.mono s _ _ v1, Den.mono s _ _ v2, q⟩
    · cases hf
  · cases hf
theorem x_neS {ds : List D} {Φ : Bool → Prop} (h1 : D.niceL ds = true) (h2 : D.hgtL ds ≤ 60) (q : Φ false) : ex (fNeS (.tup ds) (.tup ds)) Φ := by
  have : fNeS (.tup ds) (.tup ds) = some false := by
    show (if _ then _ else _) = _
    rw [h1, smL_refl ds h1, decide_eq_true h2]; rfl
  rw [this]; exact q
end Od

namespace OdW
open PySem PySem.Spec L2 Od
open PyProof.Rows hiding St
def topS (i : Nat) : Stmt := PySem.Challenge.pw_oddlong_k78_forms_refused.main.body.getD i (.Pass ⟨0, 0, 0, 0⟩)
abbrev rs_ : List Tx := [[78, 111, 70, 111, 114, 109], [84, 111, 111, 70, 117, 108, 108]]
abbrev ts_ : List Tx := [[66, 97, 100, 82, 111, 119], [66, 97, 100, 84, 101, 120, 116], [78, 111, 70, 111, 114, 109], [78, 111, 78, 97, 109, 101], [78, 111, 80, 108, 97, 99, 101], [78, 111, 84, 97, 114, 103, 101, 116], [79, 100, 100, 69, 114, 114, 111, 114], [84, 111, 111, 70, 97, 114], [84, 111, 111, 70, 117, 108, 108]]
abbrev fl_ : List Tx := [[112, 108, 97, 99, 101], [114, 111, 119], [119, 104, 121]]
abbrev s__NoForm : Stmt := inClass (topS 6) 0
theorem sc__NoForm : FnScope ["self", "why"] ["self", "why"] (defScope s__NoForm) := ⟨rfl, rfl, rfl, by decide +kernel, rfl, by decide +kernel, by decide +kernel⟩
abbrev s__law_begin : Stmt := topS 55
theorem sc__law_begin : FnScope ["_law_script", "_law_cells"] ["_law_script"] (defScope s__law_begin) := ⟨rfl, rfl, rfl, by decide +kernel, rfl, by decide +kernel, by decide +kernel⟩
def B__law_begin : SM :=
  sSeq (sSet 1 (tCBL fList [hV (eFz (tCut (hSc 0) oN (oS (eC (.int 63)))))])) <|
    sSeq (sIf (b2 fEq (hSc 1) (hV (eFz (tLst [])))) (sSet 1 (tLst [eC (.int 19)])) sNil) <|
    sRet (tRcd2 [99, 101, 108, 108, 115] (tMv 1) [116, 117, 114, 110] (eC (.int 0)))
def f__law_begin : Fn := fnOf 2 1 [false] B__law_begin
abbrev s__law_take : Stmt := topS 56
theorem sc__law_take : FnScope ["_law_box", "_law_many_here", "_law_turn", "_law_place", "_law_cell", "_law_digit", "_law_prime", "_law_mixed"] ["_law_box", "_law_many_here"] (defScope s__law_take) := ⟨rfl, rfl, rfl, by decide +kernel, rfl, by decide +kernel, by decide +kernel⟩
def B__law_take : SM :=
  sSeq (sSetV 2 (e2 fAdd (hV (eFld 0 [116, 117, 114, 110])) (hV (eC (.int 1))))) <|
    sSeq (sFld 0 [116, 117, 114, 110] (eV 2)) <|
    sSeq (sSetV 3 (e2 fMod (hSc 2) (hV (eFldLen 0 [99, 101, 108, 108, 115])))) <|
    sSeq (sSetV 4 (eFldIx 0 [99, 101, 108, 108, 115] 3)) <|
    sSeq (sIf (b2 cGe (hSc 4) (hV (e2 fPow (hV (eC (.int 10))) (hV (eC (.int 18)))))) (sSeq (sAsg (gTp [gFldIx 0 [99, 101, 108, 108, 115] 3, gNm 5]) (eCB fDivmod [hSc 4, hSc 1])) <|
    sRetV (eV 5)) sNil) <|
    sSeq (sSetV 6 (e2 fIdx (hV (eFz (tLst [eC (.int 2147483647), eC (.int 2147483629), eC (.int 2147483587), eC (.int 2147483579), eC (.int 2147483563), eC (.int 2147483549), eC (.int 2147483543)]))) (hV (e2 fMod (hSc 2) (hV (eC (.int 7))))))) <|
    sSeq (sSetV 7 (e2 fMod (hV (e2 fMul (hV (e2 fAdd (hV (e2 fAdd (hV (e2 fMod (hSc 4) (hSc 6))) (hV (e2 fMul (hV (e2 fMul (hSc 2) (hSc 2))) (hV (eC (.int 7919))))))) (hV (eC (.int 11))))) (hV (eC (.int 48271))))) (hSc 6))) <|
    sSeq (sSetV 7 (e2 fMod (hV (e2 fMul (hV (e2 fMod (hV (e2 fPow (hSc 7) (hV (eC (.int 5))))) (hSc 6))) (hV (e2 fAdd (hV (eC (.int 39373))) (hSc 2))))) (hV (eC (.int 1999999973))))) <|
    sRetV (e2 fMod (hV (e2 fFdiv (hSc 7) (hV (eC (.int 64))))) (hSc 1))
def f__law_take : Fn := fnOf 8 2 [true, false] B__law_take
abbrev s__law_number : Stmt := topS 59
theorem sc__law_number : FnScope ["_law_box"] ["_law_box"] (defScope s__law_number) := ⟨rfl, rfl, rfl, by decide +kernel, rfl, by decide +kernel, by decide +kernel⟩
def B__law_number : SM :=
  sSeq (sIf (b2 fEq (hV (eFz (eCall f__law_take [.io 0, .v (eC (.int 2))]))) (hV (eC (.int 0)))) (sRet (eCall f__law_take [.io 0, .v (eC (.int 256))])) sNil) <|
    sRetV (e2 fIdx (hV (eFz (tLst [eC (.int 0), eC (.int 1), eC (.int 2), eC (.int 127), eC (.int 128), eC (.int 255)]))) (hV (eFz (eCall f__law_take [.io 0, .v (eC (.int 6))]))))
def f__law_number : Fn := fnOf 1 1 [true] B__law_number
abbrev s__law_row : Stmt := topS 60
theorem sc__law_row : FnScope ["_law_box", "_law_many_here", "_law_way", "_law_spot", "_law_other", "_law_at"] ["_law_box", "_law_many_here"] (defScope s__law_row) := ⟨rfl, rfl, rfl, by decide +kernel, rfl, by decide +kernel, by decide +kernel⟩
def B__law_row : SM :=
  sSeq (sSetV 2 (eFz (eCall f__law_take [.io 0, .v (eC (.int 10))]))) <|
    sSeq (sPar 3 (tSh (e2 fIdx (hV (eC (.str [97, 98, 99, 100]))) (hV (eFz (eCall f__law_take [.io 0, .v (eC (.int 4))]))))) 4 (tSh (e2 fIdx (hV (eC (.str [97, 98, 99, 100]))) (hV (eFz (eCall f__law_take [.io 0, .v (eC (.int 4))])))))) <|
    sSeq (sSetV 5 (eFz (eCall f__law_take [.io 0, .v (e2 fAdd (hSc 1) (hV (eC (.int 1))))]))) <|
    sSeq (sIf (b2 cLt (hSc 2) (hV (eC (.int 2)))) (sRetV (eTup [eC (.str [115, 101, 116]), eV 3, eFz (eCall f__law_number [.io 0])])) sNil) <|
    sSeq (sIf (b2 cLt (hSc 2) (hV (eC (.int 4)))) (sRetV (eTup [e2 fIdx (hV (eFz (tLst [eC (.str [97, 100, 100]), eC (.str [116, 97, 107, 101])]))) (hV (e2 fSub (hSc 2) (hV (eC (.int 2))))), eV 3, eV 4])) sNil) <|
    sSeq (sIf (b2 cLt (hSc 2) (hV (eC (.int 6)))) (sRetV (eTup [e2 fIdx (hV (eFz (tLst [eC (.str [116, 101, 108, 108]), eC (.str [97, 115, 107])]))) (hV (e2 fSub (hSc 2) (hV (eC (.int 4))))), eV 3])) sNil) <|
    sSeq (sIf (bAnd (b2 fEq (hSc 2) (hV (eC (.int 6)))) (b2 fEq (hV (eFz (eCall f__law_take [.io 0, .v (eC (.int 3))]))) (hV (eC (.int 0))))) (sRetV (eTup [eC (.str [115, 116, 111, 112])])) sNil) <|
    sRetV (eIf (b2 fEq (hSc 2) (hV (eC (.int 7)))) (eTup [eC (.str [106, 117, 109, 112]), eV 5]) (eTup [eC (.str [122, 101, 114, 111]), eV 3, eV 5]))
def f__law_row : Fn := fnOf 6 2 [true, false] B__law_row
abbrev s__law_program : Stmt := topS 61
theorem sc__law_program : FnScope ["_law_box", "_law_many_here", "_law_k"] ["_law_box", "_law_many_here"] (defScope s__law_program) := ⟨rfl, rfl, rfl, by decide +kernel, rfl, by decide +kernel, by decide +kernel⟩
def B__law_program : SM :=
  sRet (tComp [2] (gNm 2) (iArg rng1 [eV 1]) bTrue (eFz (eCall f__law_row [.io 0, .v (eV 1)])))
def f__law_program : Fn := fnOf 3 2 [true, false] B__law_program
abbrev s_code_of : Stmt := topS 34
theorem sc_code_of : FnScope ["book", "name"] ["book", "name"] (defScope s_code_of) := ⟨rfl, rfl, rfl, by decide +kernel, rfl, by decide +kernel, by decide +kernel⟩
def B_code_of : SM :=
  sRetV (e2 fIdx (hV (eCB fDict [hSc 0])) (hSc 1))
def f_code_of : Fn := fnOf 2 2 [false, false] B_code_of
abbrev s_far_is_shorter : Stmt := topS 35
theorem sc_far_is_shorter : FnScope ["kinds", "near", "far", "one", "other"] ["kinds", "near", "far"] (defScope s_far_is_shorter) := ⟨rfl, rfl, rfl, by decide +kernel, rfl, by decide +kernel, by decide +kernel⟩
def B_far_is_shorter : SM :=
  sSeq (sFor (gTp [gNm 3, gNm 4]) (iTupD (eC (.tup [.tup [.str [106, 117, 109, 112], .str [102, 97, 114, 106, 117, 109, 112]], .tup [.str [122, 101, 114, 111], .str [102, 97, 114, 122, 101, 114, 111]]]))) (sWipe [3, 4] (sIf (b2 cLt (hV (e2 fAdd (hV (eCB fLen [hV (eFz (eCall f_code_of [.v (eV 0), .v (eV 4)]))])) (hSc 2))) (hV (e2 fAdd (hV (eCB fLen [hV (eFz (eCall f_code_of [.v (eV 0), .v (eV 3)]))])) (hSc 1)))) (sRetV (eC (.bl true))) sNil))) <|
    sRetV (eC (.bl false))
def f_far_is_shorter : Fn := fnOf 5 3 [false, false, false] B_far_is_shorter
abbrev s_is_name : Stmt := topS 16
theorem sc_is_name : FnScope ["thing"] ["thing"] (defScope s_is_name) := ⟨rfl, rfl, rfl, by decide +kernel, rfl, by decide +kernel, by decide +kernel⟩
def B_is_name : SM :=
  sRetV (eAnd (eIsi [.str] (hSc 0)) (eAnd (eChain cLe cLe (hV (eC (.int 1))) (hV (eCB fLen [hSc 0])) (hV (eC (.int 8)))) (e2 (blOf fEq) (hV (eBM .str mStrip (hSc 0) [hV (eC (.str [97, 98, 99, 100, 101, 102, 103, 104, 105, 106, 107, 108, 109, 110, 111, 112, 113, 114, 115, 116, 117, 118, 119, 120, 121, 122]))])) (hV (eC (.str []))))))
def f_is_name : Fn := fnOf 1 1 [false] B_is_name
abbrev s_is_signs : Stmt := topS 15
theorem sc_is_signs : FnScope ["thing"] ["thing"] (defScope s_is_signs) := ⟨rfl, rfl, rfl, by decide +kernel, rfl, by decide +kernel, by decide +kernel⟩
def B_is_signs : SM :=
  sRetV (eAnd (eIsi [.str] (hSc 0)) (eAnd (e2 (blOf fNe) (hSc 0) (hV (eC (.str [])))) (e2 (blOf fEq) (hV (eBM .str mStrip (hSc 0) [hV (eC (.str [48, 49]))])) (hV (eC (.str []))))))
def f_is_signs : Fn := fnOf 1 1 [false] B_is_signs
abbrev s_is_entry : Stmt := topS 18
theorem sc_is_entry : FnScope ["thing"] ["thing"] (defScope s_is_entry) := ⟨rfl, rfl, rfl, by decide +kernel, rfl, by decide +kernel, by decide +kernel⟩
def B_is_entry : SM :=
  sRetV (eAnd (eIsi [.tuple] (hSc 0)) (eAnd (e2 (blOf fEq) (hV (eCB fLen [hSc 0])) (hV (eC (.int 2)))) (eAnd (eFz (eCall f_is_name [.v (e2 fIdx (hSc 0) (hV (eC (.int 0))))])) (eFz (eCall f_is_signs [.v (e2 fIdx (hSc 0) (hV (eC (.int 1))))])))))
def f_is_entry : Fn := fnOf 1 1 [false] B_is_entry
abbrev s_is_book : Stmt := topS 19
theorem sc_is_book : FnScope ["thing", "one", "name", "code"] ["thing"] (defScope s_is_book) := ⟨rfl, rfl, rfl, by decide +kernel, rfl, by decide +kernel, by decide +kernel⟩
def B_is_book : SM :=
  sSeq (sIf (bOr (bNot (bVal (eIsi [.list] (hSc 0)))) (bOr (b2 fEq (hV (eCB fLen [hSc 0])) (hV (eC (.int 0)))) (bNot (bVal (eCB fAll [hV (eFz (tComp [1] (gNm 1) (iSeq (eV 0)) bTrue (eFz (eCall f_is_entry [.v (eV 1)]))))]))))) (sRetV (eC (.bl false))) sNil) <|
    sRetV (e2 (blOf fEq) (hV (e1 fLenSet (hV (eFz (tComp [2, 3] (gTp [gNm 2, gNm 3]) (iSeq (eV 0)) bTrue (eV 2)))))) (hV (eCB fLen [hSc 0])))
def f_is_book : Fn := fnOf 4 1 [false] B_is_book
abbrev s_begins : Stmt := topS 20
theorem sc_begins : FnScope ["one", "other"] ["one", "other"] (defScope s_begins) := ⟨rfl, rfl, rfl, by decide +kernel, rfl, by decide +kernel, by decide +kernel⟩
def B_begins : SM :=
  sRetV (eOr (eBM .str mSw (hSc 0) [hSc 1]) (eBM .str mSw (hSc 1) [hSc 0]))
def f_begins : Fn := fnOf 2 2 [false, false] B_begins
abbrev s_clash : Stmt := topS 21
theorem sc_clash : FnScope ["book", "place", "name", "code", "ahead", "other"] ["book"] (defScope s_clash) := ⟨rfl, rfl, rfl, by decide +kernel, rfl, by decide +kernel, by decide +kernel⟩
def B_clash : SM :=
  sSeq (sFor (gTp [gNm 1, gTp [gNm 2, gNm 3]]) (iArg enu1 [eV 0]) (sWipe [1, 2, 3, 4, 5] (sFor (gTp [gNm 4, gNm 5]) (iSeq (eFz (tCut (hSc 0) oN (oS (eV 1))))) (sWipe [4, 5] (sIf (bVal (eFz (eCall f_begins [.v (eV 3), .v (eV 5)]))) (sRetV (eTup [eV 4, eV 2])) sNil))))) <|
    sRetV (eC .non)
def f_clash : Fn := fnOf 6 1 [false] B_clash
abbrev s_free : Stmt := topS 22
theorem sc_free : FnScope ["book"] ["book"] (defScope s_free) := ⟨rfl, rfl, rfl, by decide +kernel, rfl, by decide +kernel, by decide +kernel⟩
def B_free : SM :=
  sRetV (e2 (blOf cIsN) (hV (eFz (eCall f_clash [.v (eV 0)]))) (hV (eC .non)))
def f_free : Fn := fnOf 1 1 [false] B_free
abbrev s_is_book_of : Stmt := topS 33
theorem sc_is_book_of : FnScope ["thing", "names", "name", "code"] ["thing", "names"] (defScope s_is_book_of) := ⟨rfl, rfl, rfl, by decide +kernel, rfl, by decide +kernel, by decide +kernel⟩
def B_is_book_of : SM :=
  sSeq (sIf (bOr (bNot (bVal (eIsi [.list, .tuple] (hSc 0)))) (bOr (bNot (bVal (eFz (eCall f_is_book [.v (eFz (tCBL fList [hSc 0]))])))) (bNot (bVal (eFz (eCall f_free [.v (eFz (tCBL fList [hSc 0]))])))))) (sRetV (eC (.bl false))) sNil) <|
    sRetV (e2 (blOf fEq) (hV (eFz (tCBL fSorted [hV (eFz (tComp [2, 3] (gTp [gNm 2, gNm 3]) (iSeq (eV 0)) bTrue (eV 2)))]))) (hV (eFz (tCBL fSortedT [hSc 1]))))
def f_is_book_of : Fn := fnOf 4 2 [false, false] B_is_book_of
abbrev s_is_number : Stmt := topS 14
theorem sc_is_number : FnScope ["thing"] ["thing"] (defScope s_is_number) := ⟨rfl, rfl, rfl, by decide +kernel, rfl, by decide +kernel, by decide +kernel⟩
def B_is_number : SM :=
  sRetV (eAnd (eIsi [.int] (hSc 0)) (eNot (eIsi [.bool] (hSc 0))))
def f_is_number : Fn := fnOf 1 1 [false] B_is_number
abbrev s_Form____init__ : Stmt := inClass (topS 36) 0
theorem sc_Form____init__ : FnScope ["self", "kinds", "spots", "sizes", "near", "far", "why", "book", "names"] ["self", "kinds", "spots", "sizes", "near", "far"] (defScope s_Form____init__) := ⟨rfl, rfl, rfl, by decide +kernel, rfl, by decide +kernel, by decide +kernel⟩
def B_Form____init__ : SM :=
  sSeq (sFor (gTp [gNm 6, gNm 7, gNm 8]) (iSeq (eFz (tLst [eTup [eC (.str [107, 105, 110, 100, 115]), eV 1, eC (.tup [.str [115, 101, 116], .str [97, 100, 100], .str [116, 97, 107, 101], .str [116, 101, 108, 108], .str [97, 115, 107], .str [106, 117, 109, 112], .str [122, 101, 114, 111], .str [115, 116, 111, 112], .str [102, 97, 114, 106, 117, 109, 112], .str [102, 97, 114, 122, 101, 114, 111], .str [115, 107, 105, 112]])], eTup [eC (.str [115, 112, 111, 116, 115]), eV 2, eC (.tup [.str [97], .str [98], .str [99], .str [100]])], eTup [eC (.str [115, 105, 122, 101, 115]), eV 3, eC (.tup [.str [110, 111, 110, 101], .str [111, 110, 101], .str [116, 119, 111], .str [116, 104, 114, 101, 101], .str [102, 111, 117, 114], .str [102, 105, 118, 101], .str [115, 105, 120], .str [115, 101, 118, 101, 110], .str [101, 105, 103, 104, 116]])]]))) (sWipe [6, 7, 8] (sIf (bNot (bVal (eFz (eCall f_is_book_of [.v (eV 7), .v (eV 8)])))) (sRaise1 [78, 111, 70, 111, 114, 109] [119, 104, 121] (eV 6)) sNil))) <|
    sSeq (sIf (bOr (bNot (bVal (eFz (eCall f_is_number [.v (eV 4)])))) (bNot (bChain cLe cLe (hV (eC (.int 2))) (hSc 4) (hV (eC (.int 8)))))) (sRaise1 [78, 111, 70, 111, 114, 109] [119, 104, 121] (eC (.str [110, 101, 97, 114]))) sNil) <|
    sSeq (sIf (bOr (bNot (bVal (eFz (eCall f_is_number [.v (eV 5)])))) (bOr (bNot (bChain cLt cLe (hSc 4) (hSc 5) (hV (eC (.int 16))))) (bVal (eFz (eCall f_far_is_shorter [.v (eV 1), .v (eV 4), .v (eV 5)]))))) (sRaise1 [78, 111, 70, 111, 114, 109] [119, 104, 121] (eC (.str [102, 97, 114]))) sNil) <|
    sSeq (sFldI [70, 111, 114, 109] 0 [107, 105, 110, 100, 115] (eCB fTupK [hSc 1])) <|
    sSeq (sFldI [70, 111, 114, 109] 0 [115, 112, 111, 116, 115] (eCB fTupK [hSc 2])) <|
    sSeq (sFldI [70, 111, 114, 109] 0 [115, 105, 122, 101, 115] (eCB fTupK [hSc 3])) <|
    sSeq (sFldI [70, 111, 114, 109] 0 [110, 101, 97, 114] (eV 4)) <|
    sFldI [70, 111, 114, 109] 0 [102, 97, 114] (eV 5)
def f_Form____init__ : Fn := fnOf 9 6 [true, false, false, false, false, false] B_Form____init__
abbrev s_look_room : Stmt := topS 38
theorem sc_look_room : FnScope ["uses", "most"] ["uses", "most"] (defScope s_look_room) := ⟨rfl, rfl, rfl, by decide +kernel, rfl, by decide +kernel, by decide +kernel⟩
def B_look_room : SM :=
  sIf (b2 cGt (hV (eCB fLen [hSc 0])) (hV (e2 fShl (hV (eC (.int 1))) (hSc 1)))) (sRaise0 [84, 111, 111, 70, 117, 108, 108]) sNil
def f_look_room : Fn := fnOf 2 2 [false, false] B_look_room
abbrev s_figures : Stmt := topS 23
theorem sc_figures : FnScope ["number", "many", "place"] ["number", "many"] (defScope s_figures) := ⟨rfl, rfl, rfl, by decide +kernel, rfl, by decide +kernel, by decide +kernel⟩
def B_figures : SM :=
  sRetV (eBM .str mJoin (hV (eC (.str []))) [hV (eFz (tComp [2] (gNm 2) (iArg rng1 [eV 1]) bTrue (e2 fIdx (hV (eC (.str [48, 49]))) (hV (e2 fAnd (hV (e2 fShr (hSc 0) (hV (e2 fSub (hV (e2 fSub (hSc 1) (hV (eC (.int 1))))) (hSc 2))))) (hV (eC (.int 1))))))))])
def f_figures : Fn := fnOf 3 2 [false, false] B_figures
abbrev s_codes_by : Stmt := topS 24
theorem sc_codes_by : FnScope ["lengths", "codes", "number", "size", "length", "place", "name"] ["lengths"] (defScope s_codes_by) := ⟨rfl, rfl, rfl, by decide +kernel, rfl, by decide +kernel, by decide +kernel⟩
def B_codes_by : SM :=
  sSeq (sSet 1 tD0) <|
    sSeq (sSetV 2 (eC (.int 0))) <|
    sSeq (sSetV 3 (eC (.int 0))) <|
    sSeq (sFor (gTp [gNm 4, gNm 5]) (iSeq (eFz (tCBL fSorted [hV (eFz (tComp [5, 6, 4] (gTp [gNm 5, gTp [gNm 6, gNm 4]]) (iArg enu1 [eV 0]) bTrue (eTup [eV 4, eV 5])))]))) (sWipe [4] (sSeq (sAug 2 fShl (e2 fSub (hSc 4) (hSc 3))) <|
    sSeq (sSetV 3 (eV 4)) <|
    sSeq (sIf (b2 cGe (hSc 2) (hV (e2 fShl (hV (eC (.int 1))) (hSc 3)))) (sRaise0 [84, 111, 111, 70, 117, 108, 108]) sNil) <|
    sSeq (sAsg (gDx 1 (eV 5)) (eFz (eCall f_figures [.v (eV 2), .v (eV 3)]))) <|
    sAug 2 fAddI (eC (.int 1))))) <|
    sRet (tComp [5, 6, 4] (gTp [gNm 5, gTp [gNm 6, gNm 4]]) (iArg enu1 [eV 0]) bTrue (eTup [eV 6, e2 fIdx (hSc 1) (hSc 5)]))
def f_codes_by : Fn := fnOf 7 1 [false] B_codes_by
abbrev s_taken : Stmt := topS 39
theorem sc_taken : FnScope ["uses"] ["uses"] (defScope s_taken) := ⟨rfl, rfl, rfl, by decide +kernel, rfl, by decide +kernel, by decide +kernel⟩
def B_taken : SM :=
  sRetV (eCB fMax [hV (eC (.int 1)), hV (e2 fSub (hV (e2 fMul (hV (eC (.int 2))) (hV (eCB fLen [hSc 0])))) (hV (eC (.int 2))))])
def f_taken : Fn := fnOf 1 1 [false] B_taken
abbrev s_places_paired : Stmt := topS 40
theorem sc_places_paired : FnScope ["row", "found", "place", "one", "other"] ["row"] (defScope s_places_paired) := ⟨rfl, rfl, rfl, by decide +kernel, rfl, by decide +kernel, by decide +kernel⟩
def B_places_paired : SM :=
  sSeq (sSet 1 (tLst [])) <|
    sSeq (sFor (gNm 2) (iArg rngP [eC (.int 0), e2 fSub (hV (eCB fLen [hSc 0])) (hV (eC (.int 1))), eC (.int 2)]) (sWipe [2, 3, 4] (sSeq (sPar 3 (tSh (e2 fIdx (hSc 0) (hSc 2))) 4 (tSh (e2 fIdx (hSc 0) (hV (e2 fAdd (hSc 2) (hV (eC (.int 1)))))))) <|
    sExpr (eMut 1 mAppend [eTup [e2 fAdd (hV (e2 fIdx (hSc 3) (hV (eC (.int 0))))) (hV (e2 fIdx (hSc 4) (hV (eC (.int 0))))), eFz (t2 lAdd (hV (e2 fIdx (hSc 3) (hV (eC (.int 1))))) (hV (e2 fIdx (hSc 4) (hV (eC (.int 1))))))]])))) <|
    sRet (tMv 1)
def f_places_paired : Fn := fnOf 5 1 [false] B_places_paired
abbrev s_lengths_by : Stmt := topS 41
theorem sc_lengths_by : FnScope ["uses", "most", "own", "row", "turn", "lengths", "number", "places", "place", "name", "use"] ["uses", "most"] (defScope s_lengths_by) := ⟨rfl, rfl, rfl, by decide +kernel, rfl, by decide +kernel, by decide +kernel⟩
def B_lengths_by : SM :=
  sSeq (sSet 2 (tComp [8, 9, 10] (gTp [gNm 8, gTp [gNm 9, gNm 10]]) (iArg enu1 [eV 0]) bTrue (eTup [eV 10, eFz (tLst [eV 8])]))) <|
    sSeq (sSetV 3 (eFz (tCBL fSorted [hSc 2]))) <|
    sSeq (sFor (gNm 4) (iArg rng1 [e2 fSub (hSc 1) (hV (eC (.int 1)))]) (sWipe [4] (sSetV 3 (eFz (tCBL fSorted [hV (eFz (t2 lAdd (hSc 2) (hV (eFz (eCall f_places_paired [.v (eV 3)])))))]))))) <|
    sSeq (sSet 5 (tComp [9] (gNm 9) (iSeq (eV 0)) bTrue (eC (.int 0)))) <|
    sSeq (sFor (gTp [gNm 6, gNm 7]) (iSeq (eFz (tCut (hSc 3) oN (oS (eFz (eCall f_taken [.v (eV 0)])))))) (sWipe [6, 7, 8] (sFor (gNm 8) (iSeq (eV 7)) (sWipe [8] (sAugX 5 (eV 8) (eC (.int 1))))))) <|
    sRet (tMv 5)
def f_lengths_by : Fn := fnOf 11 2 [false, false] B_lengths_by
abbrev s_least_book : Stmt := topS 42
theorem sc_least_book : FnScope ["uses", "most", "name", "use", "length"] ["uses", "most"] (defScope s_least_book) := ⟨rfl, rfl, rfl, by decide +kernel, rfl, by decide +kernel, by decide +kernel⟩
def B_least_book : SM :=
  sSeq (sExpr (eFz (eCall f_look_room [.v (eV 0), .v (eV 1)]))) <|
    sRet (eCall f_codes_by [.v (eFz (tComp [2, 3, 4] (gTp [gTp [gNm 2, gNm 3], gNm 4]) (iArg zip2A [eV 0, eFz (eCall f_lengths_by [.v (eV 0), .v (eV 1)])]) bTrue (eTup [eV 2, eV 4])))])
def f_least_book : Fn := fnOf 5 2 [false, false] B_least_book
abbrev s_far_behind : Stmt := topS 52
theorem sc_far_behind : FnScope ["book", "codes", "kind", "other", "name", "code"] ["book"] (defScope s_far_behind) := ⟨rfl, rfl, rfl, by decide +kernel, rfl, by decide +kernel, by decide +kernel⟩
def B_far_behind : SM :=
  sSeq (sSet 1 (tCBD fDictO [hSc 0])) <|
    sSeq (sFor (gNm 2) (iTupD (eTup [eC (.str [106, 117, 109, 112]), eC (.str [122, 101, 114, 111])])) (sWipe [2, 3] (sSeq (sSetV 3 (e2 fAdd (hV (eC (.str [102, 97, 114]))) (hSc 2))) <|
    sIf (b2 cLt (hV (eCB fLen [hV (e2 fIdx (hSc 1) (hSc 3))])) (hV (eCB fLen [hV (e2 fIdx (hSc 1) (hSc 2))]))) (sAsg (gTp [gDx 1 (eV 2), gDx 1 (eV 3)]) (eTup [e2 fIdx (hSc 1) (hSc 3), e2 fIdx (hSc 1) (hSc 2)])) sNil))) <|
    sRet (tComp [4, 5] (gTp [gNm 4, gNm 5]) (iSeq (eV 0)) bTrue (eTup [eV 4, e2 fIdx (hSc 1) (hSc 4)]))
def f_far_behind : Fn := fnOf 6 1 [false] B_far_behind
abbrev s_counted : Stmt := topS 50
theorem sc_counted : FnScope ["names", "some", "name"] ["names", "some"] (defScope s_counted) := ⟨rfl, rfl, rfl, by decide +kernel, rfl, by decide +kernel, by decide +kernel⟩
def B_counted : SM :=
  sRet (tComp [2] (gNm 2) (iTupD (eV 0)) bTrue (eTup [eV 2, eBM .lst mCount (hSc 1) [hSc 2]]))
def f_counted : Fn := fnOf 3 2 [false, false] B_counted
abbrev s_spots_in : Stmt := topS 49
theorem sc_spots_in : FnScope ["row", "part"] ["row"] (defScope s_spots_in) := ⟨rfl, rfl, rfl, by decide +kernel, rfl, by decide +kernel, by decide +kernel⟩
def B_spots_in : SM :=
  sRet (tComp [1] (gNm 1) (iTupD (eCut (hSc 0) (oS (eC (.int 1))) oN)) (b2 cIn (hSc 1) (hV (eC (.tup [.str [97], .str [98], .str [99], .str [100]])))) (eV 1))
def f_spots_in : Fn := fnOf 2 1 [false] B_spots_in
abbrev s_figures_of : Stmt := topS 48
theorem sc_figures_of : FnScope ["number", "many"] ["number"] (defScope s_figures_of) := ⟨rfl, rfl, rfl, by decide +kernel, rfl, by decide +kernel, by decide +kernel⟩
def B_figures_of : SM :=
  sSeq (sSetV 1 (eC (.int 0))) <|
    sSeq (sWhile 1000000 (b2 cGt (hV (e2 fShr (hSc 0) (hSc 1))) (hV (eC (.int 0)))) (sAug 1 fAddI (eC (.int 1)))) <|
    sRetV (eV 1)
def f_figures_of : Fn := fnOf 2 1 [false] B_figures_of
abbrev s_uses_of : Stmt := topS 51
theorem sc_uses_of : FnScope ["program", "kinds", "spots", "sizes", "row"] ["program"] (defScope s_uses_of) := ⟨rfl, rfl, rfl, by decide +kernel, rfl, by decide +kernel, by decide +kernel⟩
def B_uses_of : SM :=
  sSeq (sSet 1 (tLst [])) <|
    sSeq (sSet 2 (tLst [])) <|
    sSeq (sSet 3 (tLst [])) <|
    sSeq (sFor (gNm 4) (iSeq (eV 0)) (sWipe [4] (sSeq (sExpr (eMut 1 mAppend [e2 fIdx (hSc 4) (hV (eC (.int 0)))])) <|
    sSeq (sExpr (eMut 2 mExtend [eFz (eCall f_spots_in [.v (eV 4)])])) <|
    sIf (b2 fEq (hV (e2 fIdx (hSc 4) (hV (eC (.int 0))))) (hV (eC (.str [115, 101, 116])))) (sExpr (eMut 3 mAppend [e2 fIdx (hV (eC (.tup [.str [110, 111, 110, 101], .str [111, 110, 101], .str [116, 119, 111], .str [116, 104, 114, 101, 101], .str [102, 111, 117, 114], .str [102, 105, 118, 101], .str [115, 105, 120], .str [115, 101, 118, 101, 110], .str [101, 105, 103, 104, 116]]))) (hV (eFz (eCall f_figures_of [.v (e2 fIdx (hSc 4) (hV (eC (.int 2))))])))])) sNil))) <|
    sRetV (eTup [eFz (eCall f_counted [.v (eC (.tup [.str [115, 101, 116], .str [97, 100, 100], .str [116, 97, 107, 101], .str [116, 101, 108, 108], .str [97, 115, 107], .str [106, 117, 109, 112], .str [122, 101, 114, 111], .str [115, 116, 111, 112], .str [102, 97, 114, 106, 117, 109, 112], .str [102, 97, 114, 122, 101, 114, 111], .str [115, 107, 105, 112]])), .v (eFv 1)]), eFz (eCall f_counted [.v (eC (.tup [.str [97], .str [98], .str [99], .str [100]])), .v (eFv 2)]), eFz (eCall f_counted [.v (eC (.tup [.str [110, 111, 110, 101], .str [111, 110, 101], .str [116, 119, 111], .str [116, 104, 114, 101, 101], .str [102, 111, 117, 114], .str [102, 105, 118, 101], .str [115, 105, 120], .str [115, 101, 118, 101, 110], .str [101, 105, 103, 104, 116]])), .v (eFv 3)])])
def f_uses_of : Fn := fnOf 5 1 [false] B_uses_of
abbrev s_least_form : Stmt := topS 53
theorem sc_least_form : FnScope ["program", "most", "near", "far", "kinds", "spots", "sizes", "some"] ["program", "most", "near", "far"] (defScope s_least_form) := ⟨rfl, rfl, rfl, by decide +kernel, rfl, by decide +kernel, by decide +kernel⟩
def B_least_form : SM :=
  sSeq (sIf (b2 cLt (hSc 1) (hV (eC (.int 4)))) (sRaise0 [84, 111, 111, 70, 117, 108, 108]) sNil) <|
    sSeq (sAsg (gLs [gNm 4, gNm 5, gNm 6]) (eFz (tComp [7] (gNm 7) (iTupD (eFz (eCall f_uses_of [.v (eV 0)]))) bTrue (eFz (eCall f_least_book [.v (eV 7), .v (eV 1)]))))) <|
    sRetV (eFz (eNew [70, 111, 114, 109] f_Form____init__ [eFz (eCall f_far_behind [.v (eV 4)]), eV 5, eV 6, eV 2, eV 3]))
def f_least_form : Fn := fnOf 8 4 [false, false, false, false] B_least_form
abbrev s__law_class : Stmt := topS 62
theorem sc__law_class : FnScope ["_law_caught", "_law_some", "_law_word"] ["_law_caught"] (defScope s__law_class) := ⟨rfl, rfl, rfl, by decide +kernel, rfl, by decide +kernel, by decide +kernel⟩
def B__law_class : SM :=
  sSeq (sSetV 1 (eFz (tLst [e1 (fIsE rs_ [[66, 97, 100, 84, 101, 120, 116]]) (hSc 0), e1 (fIsE rs_ [[78, 111, 84, 97, 114, 103, 101, 116]]) (hSc 0), e1 (fIsE rs_ [[84, 111, 111, 70, 97, 114]]) (hSc 0)]))) <|
    sSeq (sSetV 1 (eFz (t2 lAdd (hSc 1) (hV (eFz (tLst [e1 (fIsE rs_ [[78, 111, 80, 108, 97, 99, 101]]) (hSc 0), e1 (fIsE rs_ [[78, 111, 70, 111, 114, 109]]) (hSc 0), e1 (fIsE rs_ [[84, 111, 111, 70, 117, 108, 108]]) (hSc 0)])))))) <|
    sSeq (sSetV 1 (eFz (t2 lAdd (hSc 1) (hV (eFz (tLst [e1 (fIsE rs_ [[66, 97, 100, 82, 111, 119]]) (hSc 0), e1 (fIsE rs_ [[78, 111, 78, 97, 109, 101]]) (hSc 0)])))))) <|
    sSeq (sIf (bOr (b2 fNe (hV (eBM .lst mCount (hSc 1) [hV (eC (.bl true))])) (hV (eC (.int 1)))) (bNot (bVal (e1 (fIsE rs_ [[86, 97, 108, 117, 101, 69, 114, 114, 111, 114]]) (hSc 0))))) (sRetV (eTup [eC (.str [111, 116, 104, 101, 114]), eC .non])) sNil) <|
    sSeq (sSetV 2 (e2 fIdx (hV (eFz (tLst [eC (.str [116, 101, 120, 116]), eC (.str [116, 97, 114, 103, 101, 116]), eC (.str [102, 97, 114]), eC (.str [112, 108, 97, 99, 101]), eC (.str [102, 111, 114, 109]), eC (.str [102, 117, 108, 108]), eC (.str [114, 111, 119]), eC (.str [110, 97, 109, 101])]))) (hV (eBM .lst mIndexL (hSc 1) [hV (eC (.bl true))])))) <|
    sSeq (sIf (b2 cIn (hSc 2) (hV (eTup [eC (.str [116, 101, 120, 116]), eC (.str [116, 97, 114, 103, 101, 116])]))) (sRetV (eTup [eV 2, e1 (fFldE rs_ [112, 108, 97, 99, 101]) (hSc 0)])) sNil) <|
    sSeq (sIf (b2 fEq (hSc 2) (hV (eC (.str [102, 97, 114])))) (sRetV (eTup [eV 2, e1 (fFldE rs_ [114, 111, 119]) (hSc 0)])) sNil) <|
    sRetV (eTup [eV 2, eIf (b2 fEq (hSc 2) (hV (eC (.str [102, 111, 114, 109])))) (e1 (fFldE rs_ [119, 104, 121]) (hSc 0)) (eC .non)])
def f__law_class : Fn := fnOf 3 1 [false] B__law_class
abbrev s__law_parts_of : Stmt := topS 63
theorem sc__law_parts_of : FnScope ["_law_form", "_law_books"] ["_law_form"] (defScope s__law_parts_of) := ⟨rfl, rfl, rfl, by decide +kernel, rfl, by decide +kernel, by decide +kernel⟩
def B__law_parts_of : SM :=
  sSeq (sSetV 1 (eFz (tLst [eFz (tCBL fList [hV (eWk (e1 (fFldO [70, 111, 114, 109] [107, 105, 110, 100, 115]) (hSc 0)))]), eFz (tCBL fList [hV (eWk (e1 (fFldO [70, 111, 114, 109] [115, 112, 111, 116, 115]) (hSc 0)))]), eFz (tCBL fList [hV (eWk (e1 (fFldO [70, 111, 114, 109] [115, 105, 122, 101, 115]) (hSc 0)))])]))) <|
    sRet (tDsp [.inr [107, 105, 110, 100, 115], .inr [115, 112, 111, 116, 115], .inr [115, 105, 122, 101, 115], .inr [110, 101, 97, 114], .inr [102, 97, 114]] [e2 fIdx (hSc 1) (hV (eC (.int 0))), e2 fIdx (hSc 1) (hV (eC (.int 1))), e2 fIdx (hSc 1) (hV (eC (.int 2))), e1 (fFldO [70, 111, 114, 109] [110, 101, 97, 114]) (hSc 0), e1 (fFldO [70, 111, 114, 109] [102, 97, 114]) (hSc 0)])
def f__law_parts_of : Fn := fnOf 2 1 [false] B__law_parts_of
abbrev s__law_told : Stmt := topS 64
theorem sc__law_told : FnScope ["_law_program_here", "_law_most", "_law_near", "_law_far", "_law_found", "_law_caught", "error"] ["_law_program_here", "_law_most", "_law_near", "_law_far"] (defScope s__law_told) := ⟨rfl, rfl, rfl, by decide +kernel, rfl, by decide +kernel, by decide +kernel⟩
def B__law_told : SM :=
  sSeq (sPar 4 (tSh (eC .non)) 5 (tSh (eC .non))) <|
    sSeq (sTry rs_ [79, 100, 100, 69, 114, 114, 111, 114] 6 (sSetV 4 (eFz (eCall f_least_form [.v (eV 0), .v (eV 1), .v (eV 2), .v (eV 3)]))) (sSetV 5 (eV 6))) <|
    sRetV (eIf (b2 cIsN (hSc 5) (hV (eC .non))) (eTup [eC (.str []), eFz (eCall f__law_parts_of [.v (eV 4)])]) (eFz (eCall f__law_class [.v (eV 5)])))
def f__law_told : Fn := fnOf 7 4 [false, false, false, false] B__law_told
abbrev s__law_many : Stmt := topS 58
theorem sc__law_many : FnScope ["_law_box"] ["_law_box"] (defScope s__law_many) := ⟨rfl, rfl, rfl, by decide +kernel, rfl, by decide +kernel, by decide +kernel⟩
def B__law_many : SM :=
  sRetV (eIf (b2 fEq (hV (eFz (eCall f__law_take [.io 0, .v (eC (.int 8))]))) (hV (eC (.int 0)))) (e2 fAdd (hV (eC (.int 13))) (hV (eFz (eCall f__law_take [.io 0, .v (eC (.int 28))])))) (eFz (eCall f__law_take [.io 0, .v (eC (.int 13))])))
def f__law_many : Fn := fnOf 1 1 [true] B__law_many
abbrev s__law_odd_number : Stmt := topS 66
theorem sc__law_odd_number : FnScope ["_law_box", "_law_least", "_law_greatest", "_law_way"] ["_law_box", "_law_least", "_law_greatest"] (defScope s__law_odd_number) := ⟨rfl, rfl, rfl, by decide +kernel, rfl, by decide +kernel, by decide +kernel⟩
def B__law_odd_number : SM :=
  sSeq (sSetV 3 (eFz (eCall f__law_take [.io 0, .v (eC (.int 6))]))) <|
    sSeq (sIf (b2 cLt (hSc 3) (hV (eC (.int 3)))) (sRetV (e2 fAdd (hSc 1) (hV (eFz (eCall f__law_take [.io 0, .v (e2 fAdd (hV (e2 fSub (hSc 2) (hSc 1))) (hV (eC (.int 1))))]))))) sNil) <|
    sRetV (e2 fIdx (hV (eFz (tLst [e2 fIdx (hV (eFz (tLst [e2 fSub (hSc 1) (hV (eC (.int 1))), e2 fAdd (hSc 2) (hV (eC (.int 1)))]))) (hV (eFz (eCall f__law_take [.io 0, .v (eC (.int 2))]))), e2 fIdx (hV (eFz (tLst [eV 1, eV 2]))) (hV (eFz (eCall f__law_take [.io 0, .v (eC (.int 2))]))), e2 fIdx (hV (eFz (tLst [eC (.int 0), e1 fNeg (hV (eC (.int 1))), e1 fNeg (hSc 1), e2 fPow (hV (eC (.int 10))) (hV (eC (.int 20))), e2 fSub (hV (eC (.int 0))) (hV (e2 fPow (hV (eC (.int 10))) (hV (eC (.int 20))))), eC (.int 100)]))) (hV (eFz (eCall f__law_take [.io 0, .v (eC (.int 6))])))]))) (hV (e2 fSub (hSc 3) (hV (eC (.int 3))))))
def f__law_odd_number : Fn := fnOf 4 3 [true, false, false] B__law_odd_number
abbrev s__law_due : Stmt := topS 65
theorem sc__law_due : FnScope ["_law_most", "_law_near", "_law_far"] ["_law_most", "_law_near", "_law_far"] (defScope s__law_due) := ⟨rfl, rfl, rfl, by decide +kernel, rfl, by decide +kernel, by decide +kernel⟩
def B__law_due : SM :=
  sSeq (sIf (b2 cLt (hSc 0) (hV (eC (.int 4)))) (sRetV (eTup [eC (.str [102, 117, 108, 108]), eC .non])) sNil) <|
    sSeq (sIf (bNot (bChain cLe cLe (hV (eC (.int 2))) (hSc 1) (hV (eC (.int 8))))) (sRetV (eTup [eC (.str [102, 111, 114, 109]), eC (.str [110, 101, 97, 114])])) sNil) <|
    sRetV (eIf (bChain cLt cLe (hSc 1) (hSc 2) (hV (eC (.int 16)))) (eC .non) (eTup [eC (.str [102, 111, 114, 109]), eC (.str [102, 97, 114])]))
def f__law_due : Fn := fnOf 3 3 [false, false, false] B__law_due
abbrev s__law_same : Stmt := topS 57
theorem sc__law_same : FnScope ["_law_found", "_law_due_here", "_law_one", "_law_other"] ["_law_found", "_law_due_here"] (defScope s__law_same) := ⟨rfl, rfl, rfl, by decide +kernel, rfl, by decide +kernel, by decide +kernel⟩
def B__law_same (rec_ : Fn) : SM :=
  sSeq (sIf (b2 cIsN (hSc 1) (hV (eC .non))) (sRetV (e2 (blOf cIsN) (hSc 0) (hV (eC .non)))) sNil) <|
    sSeq (sIf (bVal (eIsi [.bool] (hSc 1))) (sRetV (eAnd (eIsi [.bool] (hSc 0)) (e2 (blOf fEq) (hSc 0) (hSc 1)))) sNil) <|
    sSeq (sIf (bVal (eIsi [.list, .tuple] (hSc 1))) (sSeq (sIf (b2 fNe (hV (eIsi [.list] (hSc 0))) (hV (eIsi [.list] (hSc 1)))) (sRetV (eC (.bl false))) sNil) <|
    sSeq (sIf (bOr (b2 fNe (hV (eIsi [.tuple] (hSc 0))) (hV (eIsi [.tuple] (hSc 1)))) (b2 fNe (hV (eCB fLen [hSc 0])) (hV (eCB fLen [hSc 1])))) (sRetV (eC (.bl false))) sNil) <|
    sRetV (eCB fAll [hV (eFz (tComp [2, 3] (gTp [gNm 2, gNm 3]) (iArg zip2A [eV 0, eV 1]) bTrue (eFz (eCall rec_ [.v (eV 2), .v (eV 3)]))))])) sNil) <|
    sSeq (sIf (bVal (eIsi [.str] (hSc 1))) (sRetV (eAnd (eIsi [.str] (hSc 0)) (e2 (blOf fEq) (hSc 0) (hSc 1)))) sNil) <|
    sRetV (eAnd (eIsi [.int] (hSc 0)) (eAnd (eNot (eIsi [.bool] (hSc 0))) (e2 (blOf fEq) (hSc 0) (hSc 1))))
def r__law_same : Nat → Fn
  | 0 => fun _ => .fail
  | n + 1 => fnOf 4 2 [false, false] (B__law_same (r__law_same n))
def f__law_same : Fn := r__law_same 70
abbrev s_law : Stmt := topS 67
theorem sc_law : FnScope ["_law_script", "_law_box", "_law_program_here", "_law_first", "_law_turn", "_law_most", "_law_near", "_law_far", "_law_found", "_law_due_here"] ["_law_script"] (defScope s_law) := ⟨rfl, rfl, rfl, by decide +kernel, rfl, by decide +kernel, by decide +kernel⟩
def B_law : SM :=
  sSeq (sSet 1 (eCall f__law_begin [.v (eV 0)])) <|
    sSeq (sSetV 2 (eFz (eCall f__law_program [.io 1, .v (eFz (eCall f__law_many [.io 1]))]))) <|
    sSeq (sSetV 3 (eFz (eCall f__law_told [.v (eV 2), .v (eC (.int 6)), .v (eC (.int 4)), .v (eC (.int 12))]))) <|
    sSeq (sFor (gNm 4) (iArg rng1 [eC (.int 10)]) (sWipe [4, 5, 6, 7, 8, 9] (sSeq (sSetV 5 (eIf (b2 fEq (hV (eFz (eCall f__law_take [.io 1, .v (eC (.int 2))]))) (hV (eC (.int 0)))) (e2 fAdd (hV (eC (.int 1))) (hV (eFz (eCall f__law_take [.io 1, .v (eC (.int 5))])))) (e2 fAdd (hV (eC (.int 1))) (hV (eFz (eCall f__law_take [.io 1, .v (eC (.int 24))])))))) <|
    sSeq (sPar 6 (tSh (eFz (eCall f__law_odd_number [.io 1, .v (eC (.int 2)), .v (eC (.int 8))]))) 7 (tSh (eFz (eCall f__law_odd_number [.io 1, .v (eC (.int 3)), .v (eC (.int 16))])))) <|
    sSeq (sPar 8 (tSh (eFz (eCall f__law_told [.v (eV 2), .v (eV 5), .v (eV 6), .v (eV 7)]))) 9 (tSh (eFz (eCall f__law_due [.v (eV 5), .v (eV 6), .v (eV 7)])))) <|
    sSeq (sIf (b2 cIsN (hSc 9) (hV (eC .non))) (sIf (bOr (b2 fNe (hV (e2 fIdx (hSc 8) (hV (eC (.int 0))))) (hV (eC (.str [])))) (b2 fNe (hV (eFz (tLst [e2 fIdx (hV (e2 fIdx (hSc 8) (hV (eC (.int 1))))) (hV (eC (.str [110, 101, 97, 114]))), e2 fIdx (hV (e2 fIdx (hSc 8) (hV (eC (.int 1))))) (hV (eC (.str [102, 97, 114])))]))) (hV (eFz (tLst [eV 6, eV 7]))))) (sRetV (eC (.bl false))) sNil) (sIf (bNot (bVal (eFz (eCall f__law_same [.v (eV 8), .v (eV 9)])))) (sRetV (eC (.bl false))) sNil)) <|
    sIf (b2 fNeS (hV (eFz (eCall f__law_told [.v (eV 2), .v (eC (.int 6)), .v (eC (.int 4)), .v (eC (.int 12))]))) (hSc 3)) (sRetV (eC (.bl false))) sNil))) <|
    sRetV (e2 (blOf fEq) (hV (e2 fIdx (hSc 3) (hV (eC (.int 0))))) (hV (eC (.str []))))
def f_law : Fn := fnOf 10 1 [false] B_law
section
variable {P : Program} {w : World} {K : PySem.W.Frag} {mg : Str → Option Value} {base : Heap}
theorem c__law_begin {fa : Addr} {fd : FuncData} (F : Fun K "_law_begin" "_law_begin" s__law_begin fa fd) (hm : mg "_law_begin" = some (.ref fa)) (hb : Binds K fd ["_law_script"] []) (z_list : mg "list" = none)  : Cal P w K mg base 1 "_law_begin" f__law_begin :=
  Cal.mk' F hm hb sc__law_begin (by decide) fun cdv A outer s H E hr =>
    (sds_cons (sd_set (ps_set sc__law_begin.nd rfl (.inl (by kernel_rfl)) (et_cb f_list (pe_callTy call_list_of (gl_ (by kernel_rfl)) z_list (by decide +kernel) (eah_cons (eh_v (ev_fz (et_cut (eh_s rfl (.inl (by kernel_rfl))) eo_n (eo_s ev_int)))) eah_nil)))) (by decide))
    (sds_cons (sd_if (eb_cmp (op_eqA hr.units) f_eq (eh_s rfl (.inl (by kernel_rfl))) (eh_v (ev_fz (et_lst eav_nil))) (nomark _)) (sds_one (sd_set (ps_set sc__law_begin.nd rfl (.inl (by kernel_rfl)) (et_lst (eav_cons ev_int eav_nil))) (by decide))) sds_nil)
    (sds_one (sd_ret (et_rcd2 (by rfl) (by rfl) (et_mv rfl (.inl (by kernel_rfl))) ev_int)))))
theorem c__law_take {fa : Addr} {fd : FuncData} (F : Fun K "_law_take" "_law_take" s__law_take fa fd) (hm : mg "_law_take" = some (.ref fa)) (hb : Binds K fd ["_law_box", "_law_many_here"] []) (z_divmod : mg "divmod" = none) (z_len : mg "len" = none)  : Cal P w K mg base 1 "_law_take" f__law_take :=
  Cal.mk' F hm hb sc__law_take (by decide) fun cdv A outer s H E hr =>
    (sds_cons (sd_setV (ps_set sc__law_take.nd rfl (.inl (by kernel_rfl)) (ev_op op_addA f_add (eh_v (ev_fld (hu1 hr) rfl (.inl (by kernel_rfl)) (by rfl))) (eh_v ev_int))) (by decide))
    (sds_cons (sd_fld (hu1 hr) rfl (.inl (by kernel_rfl)) (by rfl) (ev_var rfl (.inl (by kernel_rfl))))
    (sds_cons (sd_setV (ps_set sc__law_take.nd rfl (.inl (by kernel_rfl)) (ev_op op_mod f_mod (eh_s rfl (.inl (by kernel_rfl))) (eh_v (ev_flen (hu1 hr) (gl_ (by kernel_rfl)) z_len rfl (.inl (by kernel_rfl)) (by rfl))))) (by decide))
    (sds_cons (sd_setV (ps_set sc__law_take.nd rfl (.inl (by kernel_rfl)) (ev_fix (hu1 hr) rfl (.inl (by kernel_rfl)) (by rfl) rfl (.inl (by kernel_rfl)))) (by decide))
    (sds_cons (sd_if (eb_cmp op_ge f_ge (eh_s rfl (.inl (by kernel_rfl))) (eh_v (ev_op op_pow f_pow (eh_v ev_int) (eh_v ev_int))) (nomark _)) (sds_cons (sd_asg (sl := [5]) (ev_cb f_divmod (pe_callB call_divmod (gl_ (by kernel_rfl)) z_divmod (by decide +kernel) (eah_cons (eh_s rfl (.inl (by kernel_rfl))) (eah_cons (eh_s rfl (.inl (by kernel_rfl))) eah_nil)))) (gd_tup rfl (gds_cons (gd_fix (hu1 hr) rfl (.inl (by kernel_rfl)) (by rfl) rfl (.inl (by kernel_rfl))) (gds_cons (gd_name sc__law_take.nd rfl (.inl (by kernel_rfl)) (by decide)) gds_nil)) rfl) (by decide))
    (sds_one (sd_retV (ev_var rfl (.inl (by kernel_rfl)))))) sds_nil)
    (sds_cons (sd_setV (ps_set sc__law_take.nd rfl (.inl (by kernel_rfl)) (ev_ix (ix_A (hu1 hr)) f_idx (eh_v (ev_fz (et_lst (eav_cons ev_int (eav_cons ev_int (eav_cons ev_int (eav_cons ev_int (eav_cons ev_int (eav_cons ev_int (eav_cons ev_int eav_nil)))))))))) (eh_v (ev_op op_mod f_mod (eh_s rfl (.inl (by kernel_rfl))) (eh_v ev_int))) (fun _ _ => rfl))) (by decide))
    (sds_cons (sd_setV (ps_set sc__law_take.nd rfl (.inl (by kernel_rfl)) (ev_op op_mod f_mod (eh_v (ev_op op_mul f_mul (eh_v (ev_op op_addA f_add (eh_v (ev_op op_addA f_add (eh_v (ev_op op_mod f_mod (eh_s rfl (.inl (by kernel_rfl))) (eh_s rfl (.inl (by kernel_rfl))))) (eh_v (ev_op op_mul f_mul (eh_v (ev_op op_mul f_mul (eh_s rfl (.inl (by kernel_rfl))) (eh_s rfl (.inl (by kernel_rfl))))) (eh_v ev_int))))) (eh_v ev_int))) (eh_v ev_int))) (eh_s rfl (.inl (by kernel_rfl))))) (by decide))
    (sds_cons (sd_setV (ps_set sc__law_take.nd rfl (.inl (by kernel_rfl)) (ev_op op_mod f_mod (eh_v (ev_op op_mul f_mul (eh_v (ev_op op_mod f_mod (eh_v (ev_op op_pow f_pow (eh_s rfl (.inl (by kernel_rfl))) (eh_v ev_int))) (eh_s rfl (.inl (by kernel_rfl))))) (eh_v (ev_op op_addA f_add (eh_v ev_int) (eh_s rfl (.inl (by kernel_rfl))))))) (eh_v ev_int))) (by decide))
    (sds_one (sd_retV (ev_op op_mod f_mod (eh_v (ev_op op_fdiv f_fdiv (eh_s rfl (.inl (by kernel_rfl))) (eh_v ev_int))) (eh_s rfl (.inl (by kernel_rfl))))))))))))))
theorem c__law_number {fa : Addr} {fd : FuncData} (F : Fun K "_law_number" "_law_number" s__law_number fa fd) (hm : mg "_law_number" = some (.ref fa)) (hb : Binds K fd ["_law_box"] [])  (C__law_take : Cal P w K mg base 1 "_law_take" f__law_take) : Cal P w K mg base 2 "_law_number" f__law_number :=
  Cal.mk' F hm hb sc__law_number (by decide) fun cdv A outer s H E hr =>
    (sds_cons (sd_if (eb_cmp (op_eqA hr.units) f_eq (eh_v (ev_fz (et_call (C__law_take.mono (by decide)) hr (gl_ (by kernel_rfl)) (takes_of rfl rfl rfl rfl) (eaa_io rfl (.inl (by kernel_rfl)) (eaa_v ev_int eaa_nil))))) (eh_v ev_int) (nomark _)) (sds_one (sd_ret (et_call (C__law_take.mono (by decide)) hr (gl_ (by kernel_rfl)) (takes_of rfl rfl rfl rfl) (eaa_io rfl (.inl (by kernel_rfl)) (eaa_v ev_int eaa_nil))))) sds_nil)
    (sds_one (sd_retV (ev_ix (ix_A (hu1 hr)) f_idx (eh_v (ev_fz (et_lst (eav_cons ev_int (eav_cons ev_int (eav_cons ev_int (eav_cons ev_int (eav_cons ev_int (eav_cons ev_int eav_nil))))))))) (eh_v (ev_fz (et_call (C__law_take.mono (by decide)) hr (gl_ (by kernel_rfl)) (takes_of rfl rfl rfl rfl) (eaa_io rfl (.inl (by kernel_rfl)) (eaa_v ev_int eaa_nil))))) (fun _ _ => rfl)))))
theorem c__law_row {fa : Addr} {fd : FuncData} (F : Fun K "_law_row" "_law_row" s__law_row fa fd) (hm : mg "_law_row" = some (.ref fa)) (hb : Binds K fd ["_law_box", "_law_many_here"] [])  (C__law_take : Cal P w K mg base 1 "_law_take" f__law_take) (C__law_number : Cal P w K mg base 2 "_law_number" f__law_number) : Cal P w K mg base 3 "_law_row" f__law_row :=
  Cal.mk' F hm hb sc__law_row (by decide) fun cdv A outer s H E hr =>
    (sds_cons (sd_setV (ps_set sc__law_row.nd rfl (.inl (by kernel_rfl)) (ev_fz (et_call (C__law_take.mono (by decide)) hr (gl_ (by kernel_rfl)) (takes_of rfl rfl rfl rfl) (eaa_io rfl (.inl (by kernel_rfl)) (eaa_v ev_int eaa_nil))))) (by decide))
    (sds_cons (sd_par rfl sc__law_row.nd rfl rfl (by decide) (by kernel_rfl) (by kernel_rfl) (et_sh (ev_ix (ix_A (hu1 hr)) f_idx (eh_v (ev_str (by rfl))) (eh_v (ev_fz (et_call (C__law_take.mono (by decide)) hr (gl_ (by kernel_rfl)) (takes_of rfl rfl rfl rfl) (eaa_io rfl (.inl (by kernel_rfl)) (eaa_v ev_int eaa_nil))))) (fun _ _ => rfl))) (et_sh (ev_ix (ix_A (hu1 hr)) f_idx (eh_v (ev_str (by rfl))) (eh_v (ev_fz (et_call (C__law_take.mono (by decide)) hr (gl_ (by kernel_rfl)) (takes_of rfl rfl rfl rfl) (eaa_io rfl (.inl (by kernel_rfl)) (eaa_v ev_int eaa_nil))))) (fun _ _ => rfl))) (by decide) (by decide) (by kernel_rfl))
    (sds_cons (sd_setV (ps_set sc__law_row.nd rfl (.inl (by kernel_rfl)) (ev_fz (et_call (C__law_take.mono (by decide)) hr (gl_ (by kernel_rfl)) (takes_of rfl rfl rfl rfl) (eaa_io rfl (.inl (by kernel_rfl)) (eaa_v (ev_op op_addA f_add (eh_s rfl (.inl (by kernel_rfl))) (eh_v ev_int)) eaa_nil))))) (by decide))
    (sds_cons (sd_if (eb_cmp op_ltA f_lt (eh_s rfl (.inl (by kernel_rfl))) (eh_v ev_int) (nomark _)) (sds_one (sd_retV (ev_tup (eav_cons (ev_str (by rfl)) (eav_cons (ev_var rfl (.inl (by kernel_rfl))) (eav_cons (ev_fz (et_call (C__law_number.mono (by decide)) hr (gl_ (by kernel_rfl)) (takes_of rfl rfl rfl rfl) (eaa_io rfl (.inl (by kernel_rfl)) eaa_nil))) eav_nil)))))) sds_nil)
    (sds_cons (sd_if (eb_cmp op_ltA f_lt (eh_s rfl (.inl (by kernel_rfl))) (eh_v ev_int) (nomark _)) (sds_one (sd_retV (ev_tup (eav_cons (ev_ix (ix_A (hu1 hr)) f_idx (eh_v (ev_fz (et_lst (eav_cons (ev_str (by rfl)) (eav_cons (ev_str (by rfl)) eav_nil))))) (eh_v (ev_op op_sub f_sub (eh_s rfl (.inl (by kernel_rfl))) (eh_v ev_int))) (fun _ _ => rfl)) (eav_cons (ev_var rfl (.inl (by kernel_rfl))) (eav_cons (ev_var rfl (.inl (by kernel_rfl))) eav_nil)))))) sds_nil)
    (sds_cons (sd_if (eb_cmp op_ltA f_lt (eh_s rfl (.inl (by kernel_rfl))) (eh_v ev_int) (nomark _)) (sds_one (sd_retV (ev_tup (eav_cons (ev_ix (ix_A (hu1 hr)) f_idx (eh_v (ev_fz (et_lst (eav_cons (ev_str (by rfl)) (eav_cons (ev_str (by rfl)) eav_nil))))) (eh_v (ev_op op_sub f_sub (eh_s rfl (.inl (by kernel_rfl))) (eh_v ev_int))) (fun _ _ => rfl)) (eav_cons (ev_var rfl (.inl (by kernel_rfl))) eav_nil))))) sds_nil)
    (sds_cons (sd_if (eb_w (ew_and (eb_cmp (op_eqA hr.units) f_eq (eh_s rfl (.inl (by kernel_rfl))) (eh_v ev_int) (nomark _)) (ew_and1 (eb_cmp (op_eqA hr.units) f_eq (eh_v (ev_fz (et_call (C__law_take.mono (by decide)) hr (gl_ (by kernel_rfl)) (takes_of rfl rfl rfl rfl) (eaa_io rfl (.inl (by kernel_rfl)) (eaa_v ev_int eaa_nil))))) (eh_v ev_int) (nomark _))))) (sds_one (sd_retV (ev_tup (eav_cons (ev_str (by rfl)) eav_nil)))) sds_nil)
    (sds_one (sd_retV (ev_if (eb_cmp (op_eqA hr.units) f_eq (eh_s rfl (.inl (by kernel_rfl))) (eh_v ev_int) (nomark _)) (ev_tup (eav_cons (ev_str (by rfl)) (eav_cons (ev_var rfl (.inl (by kernel_rfl))) eav_nil))) (ev_tup (eav_cons (ev_str (by rfl)) (eav_cons (ev_var rfl (.inl (by kernel_rfl))) (eav_cons (ev_var rfl (.inl (by kernel_rfl))) eav_nil))))))))))))))
theorem c__law_program {fa : Addr} {fd : FuncData} (F : Fun K "_law_program" "_law_program" s__law_program fa fd) (hm : mg "_law_program" = some (.ref fa)) (hb : Binds K fd ["_law_box", "_law_many_here"] []) (z_range : mg "range" = none) (C__law_row : Cal P w K mg base 3 "_law_row" f__law_row) : Cal P w K mg base 4 "_law_program" f__law_program :=
  Cal.mk' F hm hb sc__law_program (by decide) fun cdv A outer s H E hr =>
    (sds_one (sd_ret (et_comp rfl sc__law_program.nd (ei_arg (pi_range1 (gl_ (by kernel_rfl)) z_range (eav_cons (ev_var rfl (.inr (.inl (by kernel_rfl)))) eav_nil)) ht_rng1) (own := [("_law_k", 2)]) (blk_ok (by kernel_rfl)) (sl := [2]) (by decide) (fun _ _ _ _ _ => (gd_name sc__law_program.nd rfl (.inl (by kernel_rfl)) (by decide))) (fun _ _ _ _ _ => ets_nil) (fun _ _ _ _ _ => (ev_fz (et_call (C__law_row.mono (by decide)) hr (gl_ (by kernel_rfl)) takes0 (eaa_io rfl (.inr (.inl (by kernel_rfl))) (eaa_v (ev_var rfl (.inr (.inl (by kernel_rfl)))) eaa_nil))))))))
theorem c_code_of {fa : Addr} {fd : FuncData} (F : Fun K "code_of" "code_of" s_code_of fa fd) (hm : mg "code_of" = some (.ref fa)) (hb : Binds K fd ["book", "name"] []) (z_dict : mg "dict" = none)  : Cal P w K mg base 1 "code_of" f_code_of :=
  Cal.mk' F hm hb sc_code_of (by decide) fun cdv A outer s H E hr =>
    (sds_one (sd_retV (ev_ix (ix_A (hu1 hr)) f_idx (eh_v (ev_cb f_dict (pe_callTy (call_dictQ rfl) (gl_ (by kernel_rfl)) z_dict (by decide +kernel) (eah_cons (eh_s rfl (.inl (by kernel_rfl))) eah_nil)))) (eh_s rfl (.inl (by kernel_rfl))) (fun _ _ => rfl))))
theorem c_far_is_shorter {fa : Addr} {fd : FuncData} (F : Fun K "far_is_shorter" "far_is_shorter" s_far_is_shorter fa fd) (hm : mg "far_is_shorter" = some (.ref fa)) (hb : Binds K fd ["kinds", "near", "far"] []) (z_len : mg "len" = none) (C_code_of : Cal P w K mg base 1 "code_of" f_code_of) (G_FAR_KINDS : GlD K mg "FAR_KINDS" (.tup [.tup [.str [106, 117, 109, 112], .str [102, 97, 114, 106, 117, 109, 112]], .tup [.str [122, 101, 114, 111], .str [102, 97, 114, 122, 101, 114, 111]]])) : Cal P w K mg base 2 "far_is_shorter" f_far_is_shorter :=
  Cal.mk' F hm hb sc_far_is_shorter (by decide) fun cdv A outer s H E hr =>
    (sds_cons (sd_for (sl := [3, 4]) (passes_of (K := _) (E₁ := _) rfl) rfl (ei_tup (ev_gl G_FAR_KINDS (gl_ (by kernel_rfl)))) (gd_tup rfl (gds_cons (gd_name sc_far_is_shorter.nd rfl (.inl (by kernel_rfl)) (by decide)) (gds_cons (gd_name sc_far_is_shorter.nd rfl (.inl (by kernel_rfl)) (by decide)) gds_nil)) rfl) (sds_wipe [3, 4] (sds_one (sd_if (eb_cmp op_ltA f_lt (eh_v (ev_op op_addA f_add (eh_v (ev_cb f_len (pe_callB cr_lenA (gl_ (by kernel_rfl)) z_len (by decide +kernel) (eah_cons (eh_v (ev_fz (et_call (C_code_of.mono (by decide)) hr (gl_ (by kernel_rfl)) (takes_of rfl rfl rfl rfl) (eaa_v (ev_var rfl (.inl (by kernel_rfl))) (eaa_v (ev_var rfl (.inl (by kernel_rfl))) eaa_nil))))) eah_nil)))) (eh_s rfl (.inl (by kernel_rfl))))) (eh_v (ev_op op_addA f_add (eh_v (ev_cb f_len (pe_callB cr_lenA (gl_ (by kernel_rfl)) z_len (by decide +kernel) (eah_cons (eh_v (ev_fz (et_call (C_code_of.mono (by decide)) hr (gl_ (by kernel_rfl)) (takes_of rfl rfl rfl rfl) (eaa_v (ev_var rfl (.inl (by kernel_rfl))) (eaa_v (ev_var rfl (.inl (by kernel_rfl))) eaa_nil))))) eah_nil)))) (eh_s rfl (.inl (by kernel_rfl))))) (nomark _)) (sds_one (sd_retV ev_bl)) sds_nil))) (by decide))
    (sds_one (sd_retV ev_bl)))
theorem c_is_name {fa : Addr} {fd : FuncData} (F : Fun K "is_name" "is_name" s_is_name fa fd) (hm : mg "is_name" = some (.ref fa)) (hb : Binds K fd ["thing"] []) (z_isinstance : mg "isinstance" = none) (z_len : mg "len" = none) (z_str : mg "str" = none) (G_LETTERS : GlD K mg "LETTERS" (.str [97, 98, 99, 100, 101, 102, 103, 104, 105, 106, 107, 108, 109, 110, 111, 112, 113, 114, 115, 116, 117, 118, 119, 120, 121, 122])) (G_MOST_LETTERS : GlD K mg "MOST_LETTERS" (.int 8)) : Cal P w K mg base 1 "is_name" f_is_name :=
  Cal.mk' F hm hb sc_is_name (by decide) fun cdv A outer s H E hr =>
    (sds_one (sd_retV (ev_and (ev_isi .str (gl_ (by kernel_rfl)) z_isinstance (gl_ (by kernel_rfl)) z_str (eh_s rfl (.inl (by kernel_rfl)))) (ev_and (ev_chain op_le f_le op_le f_le (eh_v ev_int) (eh_v (ev_cb f_len (pe_callB cr_lenA (gl_ (by kernel_rfl)) z_len (by decide +kernel) (eah_cons (eh_s rfl (.inl (by kernel_rfl))) eah_nil)))) (eh_v (ev_gl G_MOST_LETTERS (gl_ (by kernel_rfl))))) (ev_one (ev_cmp (op_eqA hr.units) (Op2B.toV f_eq) (eh_v (ev_bm (t := .str) f_strip (pe_bm PySem.F.plainAttrs_str PySem.F.slot_str_strip PySem.F.type_str_strip mt_stripChars (eh_s rfl (.inl (by kernel_rfl))) (eah_cons (eh_v (ev_gl G_LETTERS (gl_ (by kernel_rfl)))) eah_nil)))) (eh_v (ev_str (by rfl))) (nomark _)))))))
theorem c_is_signs {fa : Addr} {fd : FuncData} (F : Fun K "is_signs" "is_signs" s_is_signs fa fd) (hm : mg "is_signs" = some (.ref fa)) (hb : Binds K fd ["thing"] []) (z_isinstance : mg "isinstance" = none) (z_str : mg "str" = none) (G_SIGNS : GlD K mg "SIGNS" (.str [48, 49])) : Cal P w K mg base 1 "is_signs" f_is_signs :=
  Cal.mk' F hm hb sc_is_signs (by decide) fun cdv A outer s H E hr =>
    (sds_one (sd_retV (ev_and (ev_isi .str (gl_ (by kernel_rfl)) z_isinstance (gl_ (by kernel_rfl)) z_str (eh_s rfl (.inl (by kernel_rfl)))) (ev_and (ev_cmp (op_neA hr.units) (Op2B.toV f_ne) (eh_s rfl (.inl (by kernel_rfl))) (eh_v (ev_str (by rfl))) (nomark _)) (ev_one (ev_cmp (op_eqA hr.units) (Op2B.toV f_eq) (eh_v (ev_bm (t := .str) f_strip (pe_bm PySem.F.plainAttrs_str PySem.F.slot_str_strip PySem.F.type_str_strip mt_stripChars (eh_s rfl (.inl (by kernel_rfl))) (eah_cons (eh_v (ev_gl G_SIGNS (gl_ (by kernel_rfl)))) eah_nil)))) (eh_v (ev_str (by rfl))) (nomark _)))))))
theorem c_is_entry {fa : Addr} {fd : FuncData} (F : Fun K "is_entry" "is_entry" s_is_entry fa fd) (hm : mg "is_entry" = some (.ref fa)) (hb : Binds K fd ["thing"] []) (z_isinstance : mg "isinstance" = none) (z_len : mg "len" = none) (z_tuple : mg "tuple" = none) (C_is_name : Cal P w K mg base 1 "is_name" f_is_name) (C_is_signs : Cal P w K mg base 1 "is_signs" f_is_signs) : Cal P w K mg base 2 "is_entry" f_is_entry :=
  Cal.mk' F hm hb sc_is_entry (by decide) fun cdv A outer s H E hr =>
    (sds_one (sd_retV (ev_and (ev_isi .tuple (gl_ (by kernel_rfl)) z_isinstance (gl_ (by kernel_rfl)) z_tuple (eh_s rfl (.inl (by kernel_rfl)))) (ev_and (ev_cmp (op_eqA hr.units) (Op2B.toV f_eq) (eh_v (ev_cb f_len (pe_callB cr_lenA (gl_ (by kernel_rfl)) z_len (by decide +kernel) (eah_cons (eh_s rfl (.inl (by kernel_rfl))) eah_nil)))) (eh_v ev_int) (nomark _)) (ev_and (ev_fz (et_call (C_is_name.mono (by decide)) hr (gl_ (by kernel_rfl)) (takes_of rfl rfl rfl rfl) (eaa_v (ev_ix (ix_A (hu1 hr)) f_idx (eh_s rfl (.inl (by kernel_rfl))) (eh_v ev_int) (fun _ _ => rfl)) eaa_nil))) (ev_one (ev_fz (et_call (C_is_signs.mono (by decide)) hr (gl_ (by kernel_rfl)) (takes_of rfl rfl rfl rfl) (eaa_v (ev_ix (ix_A (hu1 hr)) f_idx (eh_s rfl (.inl (by kernel_rfl))) (eh_v ev_int) (fun _ _ => rfl)) eaa_nil)))))))))
theorem c_is_book {fa : Addr} {fd : FuncData} (F : Fun K "is_book" "is_book" s_is_book fa fd) (hm : mg "is_book" = some (.ref fa)) (hb : Binds K fd ["thing"] []) (z_all : mg "all" = none) (z_isinstance : mg "isinstance" = none) (z_len : mg "len" = none) (z_list : mg "list" = none) (z_set : mg "set" = none) (C_is_entry : Cal P w K mg base 2 "is_entry" f_is_entry) : Cal P w K mg base 3 "is_book" f_is_book :=
  Cal.mk' F hm hb sc_is_book (by decide) fun cdv A outer s H E hr =>
    (sds_cons (sd_if (eb_w (ew_or (eb_not (eb_val (ev_isi .list (gl_ (by kernel_rfl)) z_isinstance (gl_ (by kernel_rfl)) z_list (eh_s rfl (.inl (by kernel_rfl)))))) (ew_or (eb_cmp (op_eqA hr.units) f_eq (eh_v (ev_cb f_len (pe_callB cr_lenA (gl_ (by kernel_rfl)) z_len (by decide +kernel) (eah_cons (eh_s rfl (.inl (by kernel_rfl))) eah_nil)))) (eh_v ev_int) (nomark _)) (ew_or1 (eb_not (eb_val (ev_cb f_all (pe_callB (cr_all rfl) (gl_ (by kernel_rfl)) z_all (by decide +kernel) (eah_cons (eh_v (ev_fz (et_comp rfl sc_is_book.nd (ei_seq (ev_var rfl (.inl (by kernel_rfl)))) (own := [("one", 1)]) (blk_ok (by kernel_rfl)) (sl := [1]) (by decide) (fun _ _ _ _ _ => (gd_name sc_is_book.nd rfl (.inl (by kernel_rfl)) (by decide))) (fun _ _ _ _ _ => ets_nil) (fun _ _ _ _ _ => (ev_fz (et_call (C_is_entry.mono (by decide)) hr (gl_ (by kernel_rfl)) takes0 (eaa_v (ev_var rfl (.inl (by kernel_rfl))) eaa_nil))))))) eah_nil))))))))) (sds_one (sd_retV ev_bl)) sds_nil)
    (sds_one (sd_retV (ev_cmp (op_eqA hr.units) (Op2B.toV f_eq) (eh_v (ev_lenSet rfl (gl_ (by kernel_rfl)) z_len (gl_ (by kernel_rfl)) z_set (eh_v (ev_fz (et_comp rfl sc_is_book.nd (ei_seq (ev_var rfl (.inl (by kernel_rfl)))) (own := [("name", 2), ("code", 3)]) (blk_ok (by kernel_rfl)) (sl := [2, 3]) (by decide) (fun _ _ _ _ _ => (gd_tup rfl (gds_cons (gd_name sc_is_book.nd rfl (.inl (by kernel_rfl)) (by decide)) (gds_cons (gd_name sc_is_book.nd rfl (.inl (by kernel_rfl)) (by decide)) gds_nil)) rfl)) (fun _ _ _ _ _ => ets_nil) (fun _ _ _ _ _ => (ev_var rfl (.inl (by kernel_rfl))))))))) (eh_v (ev_cb f_len (pe_callB cr_lenA (gl_ (by kernel_rfl)) z_len (by decide +kernel) (eah_cons (eh_s rfl (.inl (by kernel_rfl))) eah_nil)))) (nomark _)))))
theorem c_begins {fa : Addr} {fd : FuncData} (F : Fun K "begins" "begins" s_begins fa fd) (hm : mg "begins" = some (.ref fa)) (hb : Binds K fd ["one", "other"] [])   : Cal P w K mg base 1 "begins" f_begins :=
  Cal.mk' F hm hb sc_begins (by decide) fun cdv A outer s H E hr =>
    (sds_one (sd_retV (ev_or (ev_bm (t := .str) f_sw (pe_bm PySem.F.plainAttrs_str PySem.F.slot_str_startswith PySem.F.type_str_startswith mt_startswith (eh_s rfl (.inl (by kernel_rfl))) (eah_cons (eh_s rfl (.inl (by kernel_rfl))) eah_nil))) (ev_one (ev_bm (t := .str) f_sw (pe_bm PySem.F.plainAttrs_str PySem.F.slot_str_startswith PySem.F.type_str_startswith mt_startswith (eh_s rfl (.inl (by kernel_rfl))) (eah_cons (eh_s rfl (.inl (by kernel_rfl))) eah_nil)))))))
theorem c_clash {fa : Addr} {fd : FuncData} (F : Fun K "clash" "clash" s_clash fa fd) (hm : mg "clash" = some (.ref fa)) (hb : Binds K fd ["book"] []) (z_enumerate : mg "enumerate" = none) (C_begins : Cal P w K mg base 1 "begins" f_begins) : Cal P w K mg base 2 "clash" f_clash :=
  Cal.mk' F hm hb sc_clash (by decide) fun cdv A outer s H E hr =>
    (sds_cons (sd_for (sl := [1, 2, 3]) (passes_of (K := _) (E₁ := _) rfl) rfl (ei_arg (pi_enum (gl_ (by kernel_rfl)) z_enumerate (eav_cons (ev_var rfl (.inl (by kernel_rfl))) eav_nil)) ht_enum) (gd_tup rfl (gds_cons (gd_name sc_clash.nd rfl (.inl (by kernel_rfl)) (by decide)) (gds_cons (gd_tup rfl (gds_cons (gd_name sc_clash.nd rfl (.inl (by kernel_rfl)) (by decide)) (gds_cons (gd_name sc_clash.nd rfl (.inl (by kernel_rfl)) (by decide)) gds_nil)) rfl) gds_nil)) rfl) (sds_wipe [1, 2, 3, 4, 5] (sds_one (sd_for (sl := [4, 5]) (passes_of (K := _) (E₁ := _) rfl) rfl (ei_seq (ev_fz (et_cut (eh_s rfl (.inl (by kernel_rfl))) eo_n (eo_s (ev_var rfl (.inl (by kernel_rfl))))))) (gd_tup rfl (gds_cons (gd_name sc_clash.nd rfl (.inl (by kernel_rfl)) (by decide)) (gds_cons (gd_name sc_clash.nd rfl (.inl (by kernel_rfl)) (by decide)) gds_nil)) rfl) (sds_wipe [4, 5] (sds_one (sd_if (eb_val (ev_fz (et_call (C_begins.mono (by decide)) hr (gl_ (by kernel_rfl)) (takes_of rfl rfl rfl rfl) (eaa_v (ev_var rfl (.inl (by kernel_rfl))) (eaa_v (ev_var rfl (.inl (by kernel_rfl))) eaa_nil))))) (sds_one (sd_retV (ev_tup (eav_cons (ev_var rfl (.inl (by kernel_rfl))) (eav_cons (ev_var rfl (.inl (by kernel_rfl))) eav_nil))))) sds_nil))) (by decide)))) (by decide))
    (sds_one (sd_retV ev_non)))
theorem c_free {fa : Addr} {fd : FuncData} (F : Fun K "free" "free" s_free fa fd) (hm : mg "free" = some (.ref fa)) (hb : Binds K fd ["book"] [])  (C_clash : Cal P w K mg base 2 "clash" f_clash) : Cal P w K mg base 3 "free" f_free :=
  Cal.mk' F hm hb sc_free (by decide) fun cdv A outer s H E hr =>
    (sds_one (sd_retV (ev_cmp op_isN (Op2B.toV f_isN) (eh_v (ev_fz (et_call (C_clash.mono (by decide)) hr (gl_ (by kernel_rfl)) (takes_of rfl rfl rfl rfl) (eaa_v (ev_var rfl (.inl (by kernel_rfl))) eaa_nil)))) (eh_v ev_non) (nomark _))))
theorem c_is_book_of {fa : Addr} {fd : FuncData} (F : Fun K "is_book_of" "is_book_of" s_is_book_of fa fd) (hm : mg "is_book_of" = some (.ref fa)) (hb : Binds K fd ["thing", "names"] []) (z_isinstance : mg "isinstance" = none) (z_list : mg "list" = none) (z_sorted : mg "sorted" = none) (z_tuple : mg "tuple" = none) (C_is_book : Cal P w K mg base 3 "is_book" f_is_book) (C_free : Cal P w K mg base 3 "free" f_free) : Cal P w K mg base 4 "is_book_of" f_is_book_of :=
  Cal.mk' F hm hb sc_is_book_of (by decide) fun cdv A outer s H E hr =>
    (sds_cons (sd_if (eb_w (ew_or (eb_not (eb_val (ev_isi2 .list .tuple (gl_ (by kernel_rfl)) z_isinstance (gl_ (by kernel_rfl)) z_list (gl_ (by kernel_rfl)) z_tuple (eh_s rfl (.inl (by kernel_rfl)))))) (ew_or (eb_not (eb_val (ev_fz (et_call (C_is_book.mono (by decide)) hr (gl_ (by kernel_rfl)) (takes_of rfl rfl rfl rfl) (eaa_v (ev_fz (et_cb f_list (pe_callTy call_list_of (gl_ (by kernel_rfl)) z_list (by decide +kernel) (eah_cons (eh_s rfl (.inl (by kernel_rfl))) eah_nil)))) eaa_nil))))) (ew_or1 (eb_not (eb_val (ev_fz (et_call (C_free.mono (by decide)) hr (gl_ (by kernel_rfl)) (takes_of rfl rfl rfl rfl) (eaa_v (ev_fz (et_cb f_list (pe_callTy call_list_of (gl_ (by kernel_rfl)) z_list (by decide +kernel) (eah_cons (eh_s rfl (.inl (by kernel_rfl))) eah_nil)))) eaa_nil))))))))) (sds_one (sd_retV ev_bl)) sds_nil)
    (sds_one (sd_retV (ev_cmp (op_eqA hr.units) (Op2B.toV f_eq) (eh_v (ev_fz (et_cb f_sorted (pe_callB (cr_srtD (hu65 hr)) (gl_ (by kernel_rfl)) z_sorted (by decide +kernel) (eah_cons (eh_v (ev_fz (et_comp rfl sc_is_book_of.nd (ei_seq (ev_var rfl (.inl (by kernel_rfl)))) (own := [("name", 2), ("code", 3)]) (blk_ok (by kernel_rfl)) (sl := [2, 3]) (by decide) (fun _ _ _ _ _ => (gd_tup rfl (gds_cons (gd_name sc_is_book_of.nd rfl (.inl (by kernel_rfl)) (by decide)) (gds_cons (gd_name sc_is_book_of.nd rfl (.inl (by kernel_rfl)) (by decide)) gds_nil)) rfl)) (fun _ _ _ _ _ => ets_nil) (fun _ _ _ _ _ => (ev_var rfl (.inl (by kernel_rfl))))))) eah_nil))))) (eh_v (ev_fz (et_cb f_sortedT (pe_callB (cr_srtT (hu65 hr)) (gl_ (by kernel_rfl)) z_sorted (by decide +kernel) (eah_cons (eh_s rfl (.inl (by kernel_rfl))) eah_nil))))) (nomark _)))))
theorem c_is_number {fa : Addr} {fd : FuncData} (F : Fun K "is_number" "is_number" s_is_number fa fd) (hm : mg "is_number" = some (.ref fa)) (hb : Binds K fd ["thing"] []) (z_bool : mg "bool" = none) (z_int : mg "int" = none) (z_isinstance : mg "isinstance" = none)  : Cal P w K mg base 1 "is_number" f_is_number :=
  Cal.mk' F hm hb sc_is_number (by decide) fun cdv A outer s H E hr =>
    (sds_one (sd_retV (ev_and (ev_isi .int (gl_ (by kernel_rfl)) z_isinstance (gl_ (by kernel_rfl)) z_int (eh_s rfl (.inl (by kernel_rfl)))) (ev_one (ev_not (ev_isi .bool (gl_ (by kernel_rfl)) z_isinstance (gl_ (by kernel_rfl)) z_bool (eh_s rfl (.inl (by kernel_rfl)))))))))
theorem c_Form____init__ {c fa : Addr} {fd : FuncData} (F : Fun K "__init__" "Form.__init__" s_Form____init__ fa fd) (hT : Top K [70, 111, 114, 109] c) (hm : mg (sT [70, 111, 114, 109]) = some (.ref c)) (hk : Mk K c fa) (hb : Binds K fd ["self", "kinds", "spots", "sizes", "near", "far"] []) (z_tuple : mg "tuple" = none) (C_far_is_shorter : Cal P w K mg base 2 "far_is_shorter" f_far_is_shorter) (C_is_book_of : Cal P w K mg base 4 "is_book_of" f_is_book_of) (C_is_number : Cal P w K mg base 1 "is_number" f_is_number) (I_Form : ClsI K mg [70, 111, 114, 109] [[107, 105, 110, 100, 115], [115, 112, 111, 116, 115], [115, 105, 122, 101, 115], [110, 101, 97, 114], [102, 97, 114]]) (G_KINDS_forms : GlD K mg "KINDS_forms" (.tup [.str [115, 101, 116], .str [97, 100, 100], .str [116, 97, 107, 101], .str [116, 101, 108, 108], .str [97, 115, 107], .str [106, 117, 109, 112], .str [122, 101, 114, 111], .str [115, 116, 111, 112], .str [102, 97, 114, 106, 117, 109, 112], .str [102, 97, 114, 122, 101, 114, 111], .str [115, 107, 105, 112]])) (G_LEAST_NEAR : GlD K mg "LEAST_NEAR" (.int 2)) (G_MOST_FAR : GlD K mg "MOST_FAR" (.int 16)) (G_MOST_NEAR : GlD K mg "MOST_NEAR" (.int 8)) (G_SIZES_forms : GlD K mg "SIZES_forms" (.tup [.str [110, 111, 110, 101], .str [111, 110, 101], .str [116, 119, 111], .str [116, 104, 114, 101, 101], .str [102, 111, 117, 114], .str [102, 105, 118, 101], .str [115, 105, 120], .str [115, 101, 118, 101, 110], .str [101, 105, 103, 104, 116]])) (G_SPOT_NAMES : GlD K mg "SPOT_NAMES" (.tup [.str [97], .str [98], .str [99], .str [100]])) (M_NoForm : MkX P w K mg base [78, 111, 70, 111, 114, 109] [119, 104, 121]) : Ini P w K mg base 5 [70, 111, 114, 109] f_Form____init__ :=
  ⟨c, fa, fd, _, hT, hm, hk, fn_ok F sc_Form____init__ (by decide) fun cdv A outer s H E hr =>
    (sds_cons (sd_for (sl := [6, 7, 8]) (passes_of (K := _) (E₁ := _) rfl) rfl (ei_seq (ev_fz (et_lst (eav_cons (ev_tup (eav_cons (ev_str (by rfl)) (eav_cons (ev_var rfl (.inl (by kernel_rfl))) (eav_cons (ev_gl G_KINDS_forms (gl_ (by kernel_rfl))) eav_nil)))) (eav_cons (ev_tup (eav_cons (ev_str (by rfl)) (eav_cons (ev_var rfl (.inl (by kernel_rfl))) (eav_cons (ev_gl G_SPOT_NAMES (gl_ (by kernel_rfl))) eav_nil)))) (eav_cons (ev_tup (eav_cons (ev_str (by rfl)) (eav_cons (ev_var rfl (.inl (by kernel_rfl))) (eav_cons (ev_gl G_SIZES_forms (gl_ (by kernel_rfl))) eav_nil)))) eav_nil)))))) (gd_tup rfl (gds_cons (gd_name sc_Form____init__.nd rfl (.inl (by kernel_rfl)) (by decide)) (gds_cons (gd_name sc_Form____init__.nd rfl (.inl (by kernel_rfl)) (by decide)) (gds_cons (gd_name sc_Form____init__.nd rfl (.inl (by kernel_rfl)) (by decide)) gds_nil))) rfl) (sds_wipe [6, 7, 8] (sds_one (sd_if (eb_not (eb_val (ev_fz (et_call (C_is_book_of.mono (by decide)) hr (gl_ (by kernel_rfl)) (takes_of rfl rfl rfl rfl) (eaa_v (ev_var rfl (.inl (by kernel_rfl))) (eaa_v (ev_var rfl (.inl (by kernel_rfl))) eaa_nil)))))) (sds_one (sd_raise1 M_NoForm (by rfl) (hr.mono (by decide)) rfl (takes_of rfl rfl rfl rfl) (gl_ (by kernel_rfl)) (ev_var rfl (.inl (by kernel_rfl))))) sds_nil))) (by decide))
    (sds_cons (sd_if (eb_w (ew_or (eb_not (eb_val (ev_fz (et_call (C_is_number.mono (by decide)) hr (gl_ (by kernel_rfl)) (takes_of rfl rfl rfl rfl) (eaa_v (ev_var rfl (.inl (by kernel_rfl))) eaa_nil))))) (ew_or1 (eb_not (eb_chain op_le f_le op_le f_le (eh_v (ev_gl G_LEAST_NEAR (gl_ (by kernel_rfl)))) (eh_s rfl (.inl (by kernel_rfl))) (eh_v (ev_gl G_MOST_NEAR (gl_ (by kernel_rfl))))))))) (sds_one (sd_raise1 M_NoForm (by rfl) (hr.mono (by decide)) rfl (takes_of rfl rfl rfl rfl) (gl_ (by kernel_rfl)) (ev_str (by rfl)))) sds_nil)
    (sds_cons (sd_if (eb_w (ew_or (eb_not (eb_val (ev_fz (et_call (C_is_number.mono (by decide)) hr (gl_ (by kernel_rfl)) (takes_of rfl rfl rfl rfl) (eaa_v (ev_var rfl (.inl (by kernel_rfl))) eaa_nil))))) (ew_or (eb_not (eb_chain op_ltA f_lt op_le f_le (eh_s rfl (.inl (by kernel_rfl))) (eh_s rfl (.inl (by kernel_rfl))) (eh_v (ev_gl G_MOST_FAR (gl_ (by kernel_rfl)))))) (ew_or1 (eb_val (ev_fz (et_call (C_far_is_shorter.mono (by decide)) hr (gl_ (by kernel_rfl)) (takes_of rfl rfl rfl rfl) (eaa_v (ev_var rfl (.inl (by kernel_rfl))) (eaa_v (ev_var rfl (.inl (by kernel_rfl))) (eaa_v (ev_var rfl (.inl (by kernel_rfl))) eaa_nil)))))))))) (sds_one (sd_raise1 M_NoForm (by rfl) (hr.mono (by decide)) rfl (takes_of rfl rfl rfl rfl) (gl_ (by kernel_rfl)) (ev_str (by rfl)))) sds_nil)
    (sds_cons (sd_fldI I_Form (by decide) (by rfl) rfl (.inl (by kernel_rfl)) (ev_cb f_tupK (pe_callTy call_tupleK (gl_ (by kernel_rfl)) z_tuple (by decide +kernel) (eah_cons (eh_s rfl (.inl (by kernel_rfl))) eah_nil))))
    (sds_cons (sd_fldI I_Form (by decide) (by rfl) rfl (.inl (by kernel_rfl)) (ev_cb f_tupK (pe_callTy call_tupleK (gl_ (by kernel_rfl)) z_tuple (by decide +kernel) (eah_cons (eh_s rfl (.inl (by kernel_rfl))) eah_nil))))
    (sds_cons (sd_fldI I_Form (by decide) (by rfl) rfl (.inl (by kernel_rfl)) (ev_cb f_tupK (pe_callTy call_tupleK (gl_ (by kernel_rfl)) z_tuple (by decide +kernel) (eah_cons (eh_s rfl (.inl (by kernel_rfl))) eah_nil))))
    (sds_cons (sd_fldI I_Form (by decide) (by rfl) rfl (.inl (by kernel_rfl)) (ev_var rfl (.inl (by kernel_rfl))))
    (sds_one (sd_fldI I_Form (by decide) (by rfl) rfl (.inl (by kernel_rfl)) (ev_var rfl (.inl (by kernel_rfl)))))))))))), hb⟩
theorem c_look_room {fa : Addr} {fd : FuncData} (F : Fun K "look_room" "look_room" s_look_room fa fd) (hm : mg "look_room" = some (.ref fa)) (hb : Binds K fd ["uses", "most"] []) (z_len : mg "len" = none) (Z_TooFull : Mk0 K mg [84, 111, 111, 70, 117, 108, 108]) : Cal P w K mg base 1 "look_room" f_look_room :=
  Cal.mk' F hm hb sc_look_room (by decide) fun cdv A outer s H E hr =>
    (sds_one (sd_if (eb_cmp op_gt f_gt (eh_v (ev_cb f_len (pe_callB cr_lenA (gl_ (by kernel_rfl)) z_len (by decide +kernel) (eah_cons (eh_s rfl (.inl (by kernel_rfl))) eah_nil)))) (eh_v (ev_op op_shl f_shl (eh_v ev_int) (eh_s rfl (.inl (by kernel_rfl))))) (nomark _)) (sds_one (sd_raise0 Z_TooFull (by rfl) rfl (takes_of rfl rfl rfl rfl) (gl_ (by kernel_rfl)))) sds_nil))
theorem c_figures {fa : Addr} {fd : FuncData} (F : Fun K "figures" "figures" s_figures fa fd) (hm : mg "figures" = some (.ref fa)) (hb : Binds K fd ["number", "many"] []) (z_range : mg "range" = none) (G_SIGNS : GlD K mg "SIGNS" (.str [48, 49])) : Cal P w K mg base 1 "figures" f_figures :=
  Cal.mk' F hm hb sc_figures (by decide) fun cdv A outer s H E hr =>
    (sds_one (sd_retV (ev_bm (t := .str) f_join (pe_bm PySem.F.plainAttrs_str PySem.F.slot_str_join PySem.F.type_str_join mt_join (eh_v (ev_str (by rfl))) (eah_cons (eh_v (ev_fz (et_comp rfl sc_figures.nd (ei_arg (pi_range1 (gl_ (by kernel_rfl)) z_range (eav_cons (ev_var rfl (.inr (.inl (by kernel_rfl)))) eav_nil)) ht_rng1) (own := [("place", 2)]) (blk_ok (by kernel_rfl)) (sl := [2]) (by decide) (fun _ _ _ _ _ => (gd_name sc_figures.nd rfl (.inl (by kernel_rfl)) (by decide))) (fun _ _ _ _ _ => ets_nil) (fun _ _ _ _ _ => (ev_ix (ix_A (hu1 hr)) f_idx (eh_v (ev_gl G_SIGNS (gl_ (by kernel_rfl)))) (eh_v (ev_op op_and f_and (eh_v (ev_op op_shr f_shr (eh_s rfl (.inr (.inl (by kernel_rfl)))) (eh_v (ev_op op_sub f_sub (eh_v (ev_op op_sub f_sub (eh_s rfl (.inr (.inl (by kernel_rfl)))) (eh_v ev_int))) (eh_s rfl (.inl (by kernel_rfl))))))) (eh_v ev_int))) (fun _ _ => rfl)))))) eah_nil)))))
theorem c_codes_by {fa : Addr} {fd : FuncData} (F : Fun K "codes_by" "codes_by" s_codes_by fa fd) (hm : mg "codes_by" = some (.ref fa)) (hb : Binds K fd ["lengths"] []) (z_enumerate : mg "enumerate" = none) (z_sorted : mg "sorted" = none) (C_figures : Cal P w K mg base 1 "figures" f_figures) (Z_TooFull : Mk0 K mg [84, 111, 111, 70, 117, 108, 108]) : Cal P w K mg base 2 "codes_by" f_codes_by :=
  Cal.mk' F hm hb sc_codes_by (by decide) fun cdv A outer s H E hr =>
    (sds_cons (sd_set (ps_set sc_codes_by.nd rfl (.inr (by kernel_rfl)) et_dnew) (by decide))
    (sds_cons (sd_setV (ps_set sc_codes_by.nd rfl (.inl (by kernel_rfl)) ev_int) (by decide))
    (sds_cons (sd_setV (ps_set sc_codes_by.nd rfl (.inl (by kernel_rfl)) ev_int) (by decide))
    (sds_cons (sd_for (sl := [4, 5]) (passes_of (K := _) (E₁ := _) rfl) rfl (ei_seq (ev_fz (et_cb f_sorted (pe_callB (cr_srtD (hu65 hr)) (gl_ (by kernel_rfl)) z_sorted (by decide +kernel) (eah_cons (eh_v (ev_fz (et_comp rfl sc_codes_by.nd (ei_arg (pi_enum (gl_ (by kernel_rfl)) z_enumerate (eav_cons (ev_var rfl (.inl (by kernel_rfl))) eav_nil)) ht_enum) (own := [("place", 5), ("name", 6), ("length", 4)]) (blk_ok (by kernel_rfl)) (sl := [5, 6, 4]) (by decide) (fun _ _ _ _ _ => (gd_tup rfl (gds_cons (gd_name sc_codes_by.nd rfl (.inl (by kernel_rfl)) (by decide)) (gds_cons (gd_tup rfl (gds_cons (gd_name sc_codes_by.nd rfl (.inl (by kernel_rfl)) (by decide)) (gds_cons (gd_name sc_codes_by.nd rfl (.inl (by kernel_rfl)) (by decide)) gds_nil)) rfl) gds_nil)) rfl)) (fun _ _ _ _ _ => ets_nil) (fun _ _ _ _ _ => (ev_tup (eav_cons (ev_var rfl (.inl (by kernel_rfl))) (eav_cons (ev_var rfl (.inl (by kernel_rfl))) eav_nil))))))) eah_nil))))) (gd_tup rfl (gds_cons (gd_name sc_codes_by.nd rfl (.inl (by kernel_rfl)) (by decide)) (gds_cons (gd_name sc_codes_by.nd rfl (.inl (by kernel_rfl)) (by decide)) gds_nil)) rfl) (sds_wipe [4] (sds_cons (sd_aug iop_shl f_shl sc_codes_by.nd rfl (.inl (by kernel_rfl)) (ev_op op_sub f_sub (eh_s rfl (.inl (by kernel_rfl))) (eh_s rfl (.inl (by kernel_rfl)))) (by decide))
    (sds_cons (sd_setV (ps_set sc_codes_by.nd rfl (.inl (by kernel_rfl)) (ev_var rfl (.inl (by kernel_rfl)))) (by decide))
    (sds_cons (sd_if (eb_cmp op_ge f_ge (eh_s rfl (.inl (by kernel_rfl))) (eh_v (ev_op op_shl f_shl (eh_v ev_int) (eh_s rfl (.inl (by kernel_rfl))))) (nomark _)) (sds_one (sd_raise0 Z_TooFull (by rfl) rfl (takes_of rfl rfl rfl rfl) (gl_ (by kernel_rfl)))) sds_nil)
    (sds_cons (sd_asg (sl := []) (ev_fz (et_call (C_figures.mono (by decide)) hr (gl_ (by kernel_rfl)) (takes_of rfl rfl rfl rfl) (eaa_v (ev_var rfl (.inl (by kernel_rfl))) (eaa_v (ev_var rfl (.inl (by kernel_rfl))) eaa_nil)))) (gd_dx (hu1 hr) rfl (.inr (.inl (by kernel_rfl))) (ev_var rfl (.inl (by kernel_rfl)))) (by decide))
    (sds_one (sd_aug iop_add f_addI sc_codes_by.nd rfl (.inl (by kernel_rfl)) ev_int (by decide)))))))) (by decide))
    (sds_one (sd_ret (et_comp rfl sc_codes_by.nd (ei_arg (pi_enum (gl_ (by kernel_rfl)) z_enumerate (eav_cons (ev_var rfl (.inl (by kernel_rfl))) eav_nil)) ht_enum) (own := [("place", 5), ("name", 6), ("length", 4)]) (blk_ok (by kernel_rfl)) (sl := [5, 6, 4]) (by decide) (fun _ _ _ _ _ => (gd_tup rfl (gds_cons (gd_name sc_codes_by.nd rfl (.inl (by kernel_rfl)) (by decide)) (gds_cons (gd_tup rfl (gds_cons (gd_name sc_codes_by.nd rfl (.inl (by kernel_rfl)) (by decide)) (gds_cons (gd_name sc_codes_by.nd rfl (.inl (by kernel_rfl)) (by decide)) gds_nil)) rfl) gds_nil)) rfl)) (fun _ _ _ _ _ => ets_nil) (fun _ _ _ _ _ => (ev_tup (eav_cons (ev_var rfl (.inl (by kernel_rfl))) (eav_cons (ev_ix (ix_A (hu1 hr)) f_idx (eh_s rfl (.inr (.inl (by kernel_rfl)))) (eh_s rfl (.inl (by kernel_rfl))) (fun _ _ => rfl)) eav_nil)))))))))))
theorem c_taken {fa : Addr} {fd : FuncData} (F : Fun K "taken" "taken" s_taken fa fd) (hm : mg "taken" = some (.ref fa)) (hb : Binds K fd ["uses"] []) (z_len : mg "len" = none) (z_max : mg "max" = none)  : Cal P w K mg base 1 "taken" f_taken :=
  Cal.mk' F hm hb sc_taken (by decide) fun cdv A outer s H E hr =>
    (sds_one (sd_retV (ev_cb f_max (pe_callB (cr_maxA rfl) (gl_ (by kernel_rfl)) z_max (by decide +kernel) (eah_cons (eh_v ev_int) (eah_cons (eh_v (ev_op op_sub f_sub (eh_v (ev_op op_mul f_mul (eh_v ev_int) (eh_v (ev_cb f_len (pe_callB cr_lenA (gl_ (by kernel_rfl)) z_len (by decide +kernel) (eah_cons (eh_s rfl (.inl (by kernel_rfl))) eah_nil)))))) (eh_v ev_int))) eah_nil))))))
theorem c_places_paired {fa : Addr} {fd : FuncData} (F : Fun K "places_paired" "places_paired" s_places_paired fa fd) (hm : mg "places_paired" = some (.ref fa)) (hb : Binds K fd ["row"] []) (z_len : mg "len" = none) (z_range : mg "range" = none)  : Cal P w K mg base 1 "places_paired" f_places_paired :=
  Cal.mk' F hm hb sc_places_paired (by decide) fun cdv A outer s H E hr =>
    (sds_cons (sd_set (ps_set sc_places_paired.nd rfl (.inl (by kernel_rfl)) (et_lst eav_nil)) (by decide))
    (sds_cons (sd_for (sl := [2]) (passes_of (K := _) (E₁ := _) rfl) rfl (ei_arg (pi_range3 (gl_ (by kernel_rfl)) z_range (eav_cons ev_int (eav_cons (ev_op op_sub f_sub (eh_v (ev_cb f_len (pe_callB cr_lenA (gl_ (by kernel_rfl)) z_len (by decide +kernel) (eah_cons (eh_s rfl (.inl (by kernel_rfl))) eah_nil)))) (eh_v ev_int)) (eav_cons ev_int eav_nil)))) ht_rngP) (gd_name sc_places_paired.nd rfl (.inl (by kernel_rfl)) (by decide)) (sds_wipe [2, 3, 4] (sds_cons (sd_par rfl sc_places_paired.nd rfl rfl (by decide) (by kernel_rfl) (by kernel_rfl) (et_sh (ev_ix (ix_A (hu1 hr)) f_idx (eh_s rfl (.inl (by kernel_rfl))) (eh_s rfl (.inl (by kernel_rfl))) (fun _ _ => rfl))) (et_sh (ev_ix (ix_A (hu1 hr)) f_idx (eh_s rfl (.inl (by kernel_rfl))) (eh_v (ev_op op_addA f_add (eh_s rfl (.inl (by kernel_rfl))) (eh_v ev_int))) (fun _ _ => rfl))) (by decide) (by decide) (by kernel_rfl))
    (sds_one (sd_expr (ev_mut m_append (pe_bm PySem.F.plainAttrs_list PySem.F.slot_list_append PySem.F.type_list_append mt_append (pe_var rfl (.inl (by kernel_rfl))) (eav_cons (ev_tup (eav_cons (ev_op op_addA f_add (eh_v (ev_ix (ix_A (hu1 hr)) f_idx (eh_s rfl (.inl (by kernel_rfl))) (eh_v ev_int) (fun _ _ => rfl))) (eh_v (ev_ix (ix_A (hu1 hr)) f_idx (eh_s rfl (.inl (by kernel_rfl))) (eh_v ev_int) (fun _ _ => rfl)))) (eav_cons (ev_fz (et_op op_addA l_add (eh_v (ev_ix (ix_A (hu1 hr)) f_idx (eh_s rfl (.inl (by kernel_rfl))) (eh_v ev_int) (fun _ _ => rfl))) (eh_v (ev_ix (ix_A (hu1 hr)) f_idx (eh_s rfl (.inl (by kernel_rfl))) (eh_v ev_int) (fun _ _ => rfl))))) eav_nil))) eav_nil))))))) (by decide))
    (sds_one (sd_ret (et_mv rfl (.inl (by kernel_rfl)))))))
theorem c_lengths_by {fa : Addr} {fd : FuncData} (F : Fun K "lengths_by" "lengths_by" s_lengths_by fa fd) (hm : mg "lengths_by" = some (.ref fa)) (hb : Binds K fd ["uses", "most"] []) (z_enumerate : mg "enumerate" = none) (z_range : mg "range" = none) (z_sorted : mg "sorted" = none) (C_taken : Cal P w K mg base 1 "taken" f_taken) (C_places_paired : Cal P w K mg base 1 "places_paired" f_places_paired) : Cal P w K mg base 2 "lengths_by" f_lengths_by :=
  Cal.mk' F hm hb sc_lengths_by (by decide) fun cdv A outer s H E hr =>
    (sds_cons (sd_setC rfl sc_lengths_by.nd rfl (by kernel_rfl) rfl (ei_arg (pi_enum (gl_ (by kernel_rfl)) z_enumerate (eav_cons (ev_var rfl (.inl (by kernel_rfl))) eav_nil)) ht_enum) (own := [("place", 8), ("name", 9), ("use", 10)]) (blk_ok (by kernel_rfl)) (sl := [8, 9, 10]) (by decide) (fun _ _ _ _ _ => (gd_tup rfl (gds_cons (gd_name sc_lengths_by.nd rfl (.inl (by kernel_rfl)) (by decide)) (gds_cons (gd_tup rfl (gds_cons (gd_name sc_lengths_by.nd rfl (.inl (by kernel_rfl)) (by decide)) (gds_cons (gd_name sc_lengths_by.nd rfl (.inl (by kernel_rfl)) (by decide)) gds_nil)) rfl) gds_nil)) rfl)) (fun _ _ _ _ _ => ets_nil) (fun _ _ _ _ _ => (ev_tup (eav_cons (ev_var rfl (.inl (by kernel_rfl))) (eav_cons (ev_fz (et_lst (eav_cons (ev_var rfl (.inl (by kernel_rfl))) eav_nil))) eav_nil)))) (by decide))
    (sds_cons (sd_setV (ps_set sc_lengths_by.nd rfl (.inl (by kernel_rfl)) (ev_fz (et_cb f_sorted (pe_callB (cr_srtD (hu65 hr)) (gl_ (by kernel_rfl)) z_sorted (by decide +kernel) (eah_cons (eh_s rfl (.inl (by kernel_rfl))) eah_nil))))) (by decide))
    (sds_cons (sd_for (sl := [4]) (passes_of (K := _) (E₁ := _) rfl) rfl (ei_arg (pi_range1 (gl_ (by kernel_rfl)) z_range (eav_cons (ev_op op_sub f_sub (eh_s rfl (.inl (by kernel_rfl))) (eh_v ev_int)) eav_nil)) ht_rng1) (gd_name sc_lengths_by.nd rfl (.inl (by kernel_rfl)) (by decide)) (sds_wipe [4] (sds_one (sd_setV (ps_set sc_lengths_by.nd rfl (.inl (by kernel_rfl)) (ev_fz (et_cb f_sorted (pe_callB (cr_srtD (hu65 hr)) (gl_ (by kernel_rfl)) z_sorted (by decide +kernel) (eah_cons (eh_v (ev_fz (et_op op_addA l_add (eh_s rfl (.inl (by kernel_rfl))) (eh_v (ev_fz (et_call (C_places_paired.mono (by decide)) hr (gl_ (by kernel_rfl)) (takes_of rfl rfl rfl rfl) (eaa_v (ev_var rfl (.inl (by kernel_rfl))) eaa_nil))))))) eah_nil))))) (by decide)))) (by decide))
    (sds_cons (sd_setC rfl sc_lengths_by.nd rfl (by kernel_rfl) rfl (ei_seq (ev_var rfl (.inl (by kernel_rfl)))) (own := [("name", 9)]) (blk_ok (by kernel_rfl)) (sl := [9]) (by decide) (fun _ _ _ _ _ => (gd_name sc_lengths_by.nd rfl (.inl (by kernel_rfl)) (by decide))) (fun _ _ _ _ _ => ets_nil) (fun _ _ _ _ _ => ev_int) (by decide))
    (sds_cons (sd_for (sl := [6, 7]) (passes_of (K := _) (E₁ := _) rfl) rfl (ei_seq (ev_fz (et_cut (eh_s rfl (.inl (by kernel_rfl))) eo_n (eo_s (ev_fz (et_call (C_taken.mono (by decide)) hr (gl_ (by kernel_rfl)) (takes_of rfl rfl rfl rfl) (eaa_v (ev_var rfl (.inl (by kernel_rfl))) eaa_nil))))))) (gd_tup rfl (gds_cons (gd_name sc_lengths_by.nd rfl (.inl (by kernel_rfl)) (by decide)) (gds_cons (gd_name sc_lengths_by.nd rfl (.inl (by kernel_rfl)) (by decide)) gds_nil)) rfl) (sds_wipe [6, 7, 8] (sds_one (sd_for (sl := [8]) (passes_of (K := _) (E₁ := _) rfl) rfl (ei_seq (ev_var rfl (.inl (by kernel_rfl)))) (gd_name sc_lengths_by.nd rfl (.inl (by kernel_rfl)) (by decide)) (sds_wipe [8] (sds_one (sd_augX rfl (.inl (by kernel_rfl)) (ev_var rfl (.inl (by kernel_rfl))) ev_int))) (by decide)))) (by decide))
    (sds_one (sd_ret (et_mv rfl (.inl (by kernel_rfl))))))))))
theorem c_least_book {fa : Addr} {fd : FuncData} (F : Fun K "least_book" "least_book" s_least_book fa fd) (hm : mg "least_book" = some (.ref fa)) (hb : Binds K fd ["uses", "most"] []) (z_zip : mg "zip" = none) (C_look_room : Cal P w K mg base 1 "look_room" f_look_room) (C_codes_by : Cal P w K mg base 2 "codes_by" f_codes_by) (C_lengths_by : Cal P w K mg base 2 "lengths_by" f_lengths_by) : Cal P w K mg base 3 "least_book" f_least_book :=
  Cal.mk' F hm hb sc_least_book (by decide) fun cdv A outer s H E hr =>
    (sds_cons (sd_expr (ev_fz (et_call (C_look_room.mono (by decide)) hr (gl_ (by kernel_rfl)) (takes_of rfl rfl rfl rfl) (eaa_v (ev_var rfl (.inl (by kernel_rfl))) (eaa_v (ev_var rfl (.inl (by kernel_rfl))) eaa_nil)))))
    (sds_one (sd_ret (et_call (C_codes_by.mono (by decide)) hr (gl_ (by kernel_rfl)) (takes_of rfl rfl rfl rfl) (eaa_v (ev_fz (et_comp rfl sc_least_book.nd (ei_arg (RZ.pi_zipA (gl_ (by kernel_rfl)) z_zip (eav_cons (ev_var rfl (.inl (by kernel_rfl))) (eav_cons (ev_fz (et_call (C_lengths_by.mono (by decide)) hr (gl_ (by kernel_rfl)) (takes_of rfl rfl rfl rfl) (eaa_v (ev_var rfl (.inl (by kernel_rfl))) (eaa_v (ev_var rfl (.inl (by kernel_rfl))) eaa_nil)))) eav_nil))) ht_zipA) (own := [("name", 2), ("use", 3), ("length", 4)]) (blk_ok (by kernel_rfl)) (sl := [2, 3, 4]) (by decide) (fun _ _ _ _ _ => (gd_tup rfl (gds_cons (gd_tup rfl (gds_cons (gd_name sc_least_book.nd rfl (.inl (by kernel_rfl)) (by decide)) (gds_cons (gd_name sc_least_book.nd rfl (.inl (by kernel_rfl)) (by decide)) gds_nil)) rfl) (gds_cons (gd_name sc_least_book.nd rfl (.inl (by kernel_rfl)) (by decide)) gds_nil)) rfl)) (fun _ _ _ _ _ => ets_nil) (fun _ _ _ _ _ => (ev_tup (eav_cons (ev_var rfl (.inl (by kernel_rfl))) (eav_cons (ev_var rfl (.inl (by kernel_rfl))) eav_nil)))))) eaa_nil)))))
theorem c_far_behind {fa : Addr} {fd : FuncData} (F : Fun K "far_behind" "far_behind" s_far_behind fa fd) (hm : mg "far_behind" = some (.ref fa)) (hb : Binds K fd ["book"] []) (z_dict : mg "dict" = none) (z_len : mg "len" = none)  : Cal P w K mg base 1 "far_behind" f_far_behind :=
  Cal.mk' F hm hb sc_far_behind (by decide) fun cdv A outer s H E hr =>
    (sds_cons (sd_set (ps_set sc_far_behind.nd rfl (.inr (by kernel_rfl)) (et_cbD f_dictO (pe_callTy (call_dictQ rfl) (gl_ (by kernel_rfl)) z_dict (by decide +kernel) (eah_cons (eh_s rfl (.inl (by kernel_rfl))) eah_nil)))) (by decide))
    (sds_cons (sd_for (sl := [2]) (passes_of (K := _) (E₁ := _) rfl) rfl (ei_tup (ev_tup (eav_cons (ev_str (by rfl)) (eav_cons (ev_str (by rfl)) eav_nil)))) (gd_name sc_far_behind.nd rfl (.inl (by kernel_rfl)) (by decide)) (sds_wipe [2, 3] (sds_cons (sd_setV (ps_set sc_far_behind.nd rfl (.inl (by kernel_rfl)) (ev_op op_addA f_add (eh_v (ev_str (by rfl))) (eh_s rfl (.inl (by kernel_rfl))))) (by decide))
    (sds_one (sd_if (eb_cmp op_ltA f_lt (eh_v (ev_cb f_len (pe_callB cr_lenA (gl_ (by kernel_rfl)) z_len (by decide +kernel) (eah_cons (eh_v (ev_ix (ix_A (hu1 hr)) f_idx (eh_s rfl (.inr (.inl (by kernel_rfl)))) (eh_s rfl (.inl (by kernel_rfl))) (fun _ _ => rfl))) eah_nil)))) (eh_v (ev_cb f_len (pe_callB cr_lenA (gl_ (by kernel_rfl)) z_len (by decide +kernel) (eah_cons (eh_v (ev_ix (ix_A (hu1 hr)) f_idx (eh_s rfl (.inr (.inl (by kernel_rfl)))) (eh_s rfl (.inl (by kernel_rfl))) (fun _ _ => rfl))) eah_nil)))) (nomark _)) (sds_one (sd_asg (sl := []) (ev_tup (eav_cons (ev_ix (ix_A (hu1 hr)) f_idx (eh_s rfl (.inr (.inl (by kernel_rfl)))) (eh_s rfl (.inl (by kernel_rfl))) (fun _ _ => rfl)) (eav_cons (ev_ix (ix_A (hu1 hr)) f_idx (eh_s rfl (.inr (.inl (by kernel_rfl)))) (eh_s rfl (.inl (by kernel_rfl))) (fun _ _ => rfl)) eav_nil))) (gd_tup rfl (gds_cons (gd_dx (hu1 hr) rfl (.inr (.inl (by kernel_rfl))) (ev_var rfl (.inl (by kernel_rfl)))) (gds_cons (gd_dx (hu1 hr) rfl (.inr (.inl (by kernel_rfl))) (ev_var rfl (.inl (by kernel_rfl)))) gds_nil)) rfl) (by decide))) sds_nil)))) (by decide))
    (sds_one (sd_ret (et_comp rfl sc_far_behind.nd (ei_seq (ev_var rfl (.inl (by kernel_rfl)))) (own := [("name", 4), ("code", 5)]) (blk_ok (by kernel_rfl)) (sl := [4, 5]) (by decide) (fun _ _ _ _ _ => (gd_tup rfl (gds_cons (gd_name sc_far_behind.nd rfl (.inl (by kernel_rfl)) (by decide)) (gds_cons (gd_name sc_far_behind.nd rfl (.inl (by kernel_rfl)) (by decide)) gds_nil)) rfl)) (fun _ _ _ _ _ => ets_nil) (fun _ _ _ _ _ => (ev_tup (eav_cons (ev_var rfl (.inl (by kernel_rfl))) (eav_cons (ev_ix (ix_A (hu1 hr)) f_idx (eh_s rfl (.inr (.inl (by kernel_rfl)))) (eh_s rfl (.inl (by kernel_rfl))) (fun _ _ => rfl)) eav_nil)))))))))
theorem c_counted {fa : Addr} {fd : FuncData} (F : Fun K "counted" "counted" s_counted fa fd) (hm : mg "counted" = some (.ref fa)) (hb : Binds K fd ["names", "some"] [])   : Cal P w K mg base 1 "counted" f_counted :=
  Cal.mk' F hm hb sc_counted (by decide) fun cdv A outer s H E hr =>
    (sds_one (sd_ret (et_comp rfl sc_counted.nd (ei_tup (ev_var rfl (.inl (by kernel_rfl)))) (own := [("name", 2)]) (blk_ok (by kernel_rfl)) (sl := [2]) (by decide) (fun _ _ _ _ _ => (gd_name sc_counted.nd rfl (.inl (by kernel_rfl)) (by decide))) (fun _ _ _ _ _ => ets_nil) (fun _ _ _ _ _ => (ev_tup (eav_cons (ev_var rfl (.inl (by kernel_rfl))) (eav_cons (ev_bm (t := .lst) f_count (pe_bm PySem.F.plainAttrs_list PySem.F.slot_list_count PySem.F.type_list_count mt_countF (eh_s rfl (.inr (.inl (by kernel_rfl)))) (eah_cons (eh_s rfl (.inl (by kernel_rfl))) eah_nil))) eav_nil)))))))
theorem c_spots_in {fa : Addr} {fd : FuncData} (F : Fun K "spots_in" "spots_in" s_spots_in fa fd) (hm : mg "spots_in" = some (.ref fa)) (hb : Binds K fd ["row"] [])  (G_SPOTS : GlD K mg "SPOTS" (.tup [.str [97], .str [98], .str [99], .str [100]])) : Cal P w K mg base 1 "spots_in" f_spots_in :=
  Cal.mk' F hm hb sc_spots_in (by decide) fun cdv A outer s H E hr =>
    (sds_one (sd_ret (et_comp rfl sc_spots_in.nd (ei_tup (ev_cut (eh_s rfl (.inl (by kernel_rfl))) (eo_s ev_int) eo_n)) (own := [("part", 1)]) (blk_ok (by kernel_rfl)) (sl := [1]) (by decide) (fun _ _ _ _ _ => (gd_name sc_spots_in.nd rfl (.inl (by kernel_rfl)) (by decide))) (fun _ _ _ _ _ => (ets_one (eb_cmp (op_inA (hu65 hr)) f_in (eh_s rfl (.inl (by kernel_rfl))) (eh_v (ev_gl G_SPOTS (gl_ (by kernel_rfl)))) (by rfl)))) (fun _ _ _ _ _ => (ev_var rfl (.inl (by kernel_rfl)))))))
theorem c_figures_of {fa : Addr} {fd : FuncData} (F : Fun K "figures_of" "figures_of" s_figures_of fa fd) (hm : mg "figures_of" = some (.ref fa)) (hb : Binds K fd ["number"] [])   : Cal P w K mg base 1 "figures_of" f_figures_of :=
  Cal.mk' F hm hb sc_figures_of (by decide) fun cdv A outer s H E hr =>
    (sds_cons (sd_setV (ps_set sc_figures_of.nd rfl (.inl (by kernel_rfl)) ev_int) (by decide))
    (sds_cons (sd_while 1000000 (passes_of (K := _) (E₁ := _) rfl) (eb_cmp op_gt f_gt (eh_v (ev_op op_shr f_shr (eh_s rfl (.inl (by kernel_rfl))) (eh_s rfl (.inl (by kernel_rfl))))) (eh_v ev_int) (nomark _)) (sds_one (sd_aug iop_add f_addI sc_figures_of.nd rfl (.inl (by kernel_rfl)) ev_int (by decide))))
    (sds_one (sd_retV (ev_var rfl (.inl (by kernel_rfl)))))))
theorem c_uses_of {fa : Addr} {fd : FuncData} (F : Fun K "uses_of" "uses_of" s_uses_of fa fd) (hm : mg "uses_of" = some (.ref fa)) (hb : Binds K fd ["program"] [])  (C_counted : Cal P w K mg base 1 "counted" f_counted) (C_spots_in : Cal P w K mg base 1 "spots_in" f_spots_in) (C_figures_of : Cal P w K mg base 1 "figures_of" f_figures_of) (G_KINDS_uses : GlD K mg "KINDS_uses" (.tup [.str [115, 101, 116], .str [97, 100, 100], .str [116, 97, 107, 101], .str [116, 101, 108, 108], .str [97, 115, 107], .str [106, 117, 109, 112], .str [122, 101, 114, 111], .str [115, 116, 111, 112], .str [102, 97, 114, 106, 117, 109, 112], .str [102, 97, 114, 122, 101, 114, 111], .str [115, 107, 105, 112]])) (G_SIZES_uses : GlD K mg "SIZES_uses" (.tup [.str [110, 111, 110, 101], .str [111, 110, 101], .str [116, 119, 111], .str [116, 104, 114, 101, 101], .str [102, 111, 117, 114], .str [102, 105, 118, 101], .str [115, 105, 120], .str [115, 101, 118, 101, 110], .str [101, 105, 103, 104, 116]])) (G_SPOTS : GlD K mg "SPOTS" (.tup [.str [97], .str [98], .str [99], .str [100]])) : Cal P w K mg base 2 "uses_of" f_uses_of :=
  Cal.mk' F hm hb sc_uses_of (by decide) fun cdv A outer s H E hr =>
    (sds_cons (sd_set (ps_set sc_uses_of.nd rfl (.inl (by kernel_rfl)) (et_lst eav_nil)) (by decide))
    (sds_cons (sd_set (ps_set sc_uses_of.nd rfl (.inl (by kernel_rfl)) (et_lst eav_nil)) (by decide))
    (sds_cons (sd_set (ps_set sc_uses_of.nd rfl (.inl (by kernel_rfl)) (et_lst eav_nil)) (by decide))
    (sds_cons (sd_for (sl := [4]) (passes_of (K := _) (E₁ := _) rfl) rfl (ei_seq (ev_var rfl (.inl (by kernel_rfl)))) (gd_name sc_uses_of.nd rfl (.inl (by kernel_rfl)) (by decide)) (sds_wipe [4] (sds_cons (sd_expr (ev_mut m_append (pe_bm PySem.F.plainAttrs_list PySem.F.slot_list_append PySem.F.type_list_append mt_append (pe_var rfl (.inl (by kernel_rfl))) (eav_cons (ev_ix (ix_A (hu1 hr)) f_idx (eh_s rfl (.inl (by kernel_rfl))) (eh_v ev_int) (fun _ _ => rfl)) eav_nil))))
    (sds_cons (sd_expr (ev_mut m_extend (pe_bm PySem.F.plainAttrs_list PySem.F.slot_list_extend PySem.F.type_list_extend mt_extend (pe_var rfl (.inl (by kernel_rfl))) (eav_cons (ev_fz (et_call (C_spots_in.mono (by decide)) hr (gl_ (by kernel_rfl)) (takes_of rfl rfl rfl rfl) (eaa_v (ev_var rfl (.inl (by kernel_rfl))) eaa_nil))) eav_nil))))
    (sds_one (sd_if (eb_cmp (op_eqA hr.units) f_eq (eh_v (ev_ix (ix_A (hu1 hr)) f_idx (eh_s rfl (.inl (by kernel_rfl))) (eh_v ev_int) (fun _ _ => rfl))) (eh_v (ev_str (by rfl))) (nomark _)) (sds_one (sd_expr (ev_mut m_append (pe_bm PySem.F.plainAttrs_list PySem.F.slot_list_append PySem.F.type_list_append mt_append (pe_var rfl (.inl (by kernel_rfl))) (eav_cons (ev_ix (ix_A (hu1 hr)) f_idx (eh_v (ev_gl G_SIZES_uses (gl_ (by kernel_rfl)))) (eh_v (ev_fz (et_call (C_figures_of.mono (by decide)) hr (gl_ (by kernel_rfl)) (takes_of rfl rfl rfl rfl) (eaa_v (ev_ix (ix_A (hu1 hr)) f_idx (eh_s rfl (.inl (by kernel_rfl))) (eh_v ev_int) (fun _ _ => rfl)) eaa_nil)))) (fun _ _ => rfl)) eav_nil))))) sds_nil))))) (by decide))
    (sds_one (sd_retV (ev_tup (eav_cons (ev_fz (et_call (C_counted.mono (by decide)) hr (gl_ (by kernel_rfl)) (takes_of rfl rfl rfl rfl) (eaa_v (ev_gl G_KINDS_uses (gl_ (by kernel_rfl))) (eaa_v (ev_fv rfl (.inl (by kernel_rfl))) eaa_nil)))) (eav_cons (ev_fz (et_call (C_counted.mono (by decide)) hr (gl_ (by kernel_rfl)) (takes_of rfl rfl rfl rfl) (eaa_v (ev_gl G_SPOTS (gl_ (by kernel_rfl))) (eaa_v (ev_fv rfl (.inl (by kernel_rfl))) eaa_nil)))) (eav_cons (ev_fz (et_call (C_counted.mono (by decide)) hr (gl_ (by kernel_rfl)) (takes_of rfl rfl rfl rfl) (eaa_v (ev_gl G_SIZES_uses (gl_ (by kernel_rfl))) (eaa_v (ev_fv rfl (.inl (by kernel_rfl))) eaa_nil)))) eav_nil))))))))))
theorem c_least_form {fa : Addr} {fd : FuncData} (F : Fun K "least_form" "least_form" s_least_form fa fd) (hm : mg "least_form" = some (.ref fa)) (hb : Binds K fd ["program", "most", "near", "far"] [])  (C_Form____init__ : Ini P w K mg base 5 [70, 111, 114, 109] f_Form____init__) (C_least_book : Cal P w K mg base 3 "least_book" f_least_book) (C_far_behind : Cal P w K mg base 1 "far_behind" f_far_behind) (C_uses_of : Cal P w K mg base 2 "uses_of" f_uses_of) (I_Form : ClsI K mg [70, 111, 114, 109] [[107, 105, 110, 100, 115], [115, 112, 111, 116, 115], [115, 105, 122, 101, 115], [110, 101, 97, 114], [102, 97, 114]]) (G_LEAST_MOST : GlD K mg "LEAST_MOST" (.int 4)) (Z_TooFull : Mk0 K mg [84, 111, 111, 70, 117, 108, 108]) : Cal P w K mg base 7 "least_form" f_least_form :=
  Cal.mk' F hm hb sc_least_form (by decide) fun cdv A outer s H E hr =>
    (sds_cons (sd_if (eb_cmp op_ltA f_lt (eh_s rfl (.inr (.inl (by kernel_rfl)))) (eh_v (ev_gl G_LEAST_MOST (gl_ (by kernel_rfl)))) (nomark _)) (sds_one (sd_raise0 Z_TooFull (by rfl) rfl (takes_of rfl rfl rfl rfl) (gl_ (by kernel_rfl)))) sds_nil)
    (sds_cons (sd_asg (sl := [4, 5, 6]) (ev_fz (et_comp rfl sc_least_form.nd (ei_tup (ev_fz (et_call (C_uses_of.mono (by decide)) hr (gl_ (by kernel_rfl)) (takes_of rfl rfl rfl rfl) (eaa_v (ev_var rfl (.inl (by kernel_rfl))) eaa_nil)))) (own := [("some", 7)]) (blk_ok (by kernel_rfl)) (sl := [7]) (by decide) (fun _ _ _ _ _ => (gd_name sc_least_form.nd rfl (.inl (by kernel_rfl)) (by decide))) (fun _ _ _ _ _ => ets_nil) (fun _ _ _ _ _ => (ev_fz (et_call (C_least_book.mono (by decide)) hr (gl_ (by kernel_rfl)) takes0 (eaa_v (ev_var rfl (.inl (by kernel_rfl))) (eaa_v (ev_var rfl (.inr (.inl (by kernel_rfl)))) eaa_nil))))))) (gd_lst rfl (gds_cons (gd_name sc_least_form.nd rfl (.inl (by kernel_rfl)) (by decide)) (gds_cons (gd_name sc_least_form.nd rfl (.inl (by kernel_rfl)) (by decide)) (gds_cons (gd_name sc_least_form.nd rfl (.inl (by kernel_rfl)) (by decide)) gds_nil))) rfl) (by decide))
    (sds_one (sd_retV (ev_fz (et_new (C_Form____init__.mono (by decide)) (by rfl) hr (gl_ (by kernel_rfl)) (takes_of rfl rfl rfl rfl) (eav_cons (ev_fz (et_call (C_far_behind.mono (by decide)) hr (gl_ (by kernel_rfl)) (takes_of rfl rfl rfl rfl) (eaa_v (ev_var rfl (.inl (by kernel_rfl))) eaa_nil))) (eav_cons (ev_var rfl (.inl (by kernel_rfl))) (eav_cons (ev_var rfl (.inl (by kernel_rfl))) (eav_cons (ev_var rfl (.inl (by kernel_rfl))) (eav_cons (ev_var rfl (.inl (by kernel_rfl))) eav_nil)))))))))))
theorem c__law_class {fa : Addr} {fd : FuncData} (F : Fun K "_law_class" "_law_class" s__law_class fa fd) (hm : mg "_law_class" = some (.ref fa)) (hb : Binds K fd ["_law_caught"] []) (z_ValueError : mg "ValueError" = none) (z_isinstance : mg "isinstance" = none) (R_ : Errs K mg rs_ ts_ fl_) : Cal P w K mg base 1 "_law_class" f__law_class :=
  Cal.mk' F hm hb sc__law_class (by decide) fun cdv A outer s H E hr =>
    (sds_cons (sd_setV (ps_set sc__law_class.nd rfl (.inl (by kernel_rfl)) (ev_fz (et_lst (eav_cons (ev_isE1 R_ (gl_ (by kernel_rfl)) z_isinstance (eh_s rfl (.inl (by kernel_rfl))) (cls_own R_ (by decide) (by rfl) (gl_ (by kernel_rfl)))) (eav_cons (ev_isE1 R_ (gl_ (by kernel_rfl)) z_isinstance (eh_s rfl (.inl (by kernel_rfl))) (cls_own R_ (by decide) (by rfl) (gl_ (by kernel_rfl)))) (eav_cons (ev_isE1 R_ (gl_ (by kernel_rfl)) z_isinstance (eh_s rfl (.inl (by kernel_rfl))) (cls_own R_ (by decide) (by rfl) (gl_ (by kernel_rfl)))) eav_nil)))))) (by decide))
    (sds_cons (sd_setV (ps_set sc__law_class.nd rfl (.inl (by kernel_rfl)) (ev_fz (et_op op_addA l_add (eh_s rfl (.inl (by kernel_rfl))) (eh_v (ev_fz (et_lst (eav_cons (ev_isE1 R_ (gl_ (by kernel_rfl)) z_isinstance (eh_s rfl (.inl (by kernel_rfl))) (cls_own R_ (by decide) (by rfl) (gl_ (by kernel_rfl)))) (eav_cons (ev_isE1 R_ (gl_ (by kernel_rfl)) z_isinstance (eh_s rfl (.inl (by kernel_rfl))) (cls_own R_ (by decide) (by rfl) (gl_ (by kernel_rfl)))) (eav_cons (ev_isE1 R_ (gl_ (by kernel_rfl)) z_isinstance (eh_s rfl (.inl (by kernel_rfl))) (cls_own R_ (by decide) (by rfl) (gl_ (by kernel_rfl)))) eav_nil))))))))) (by decide))
    (sds_cons (sd_setV (ps_set sc__law_class.nd rfl (.inl (by kernel_rfl)) (ev_fz (et_op op_addA l_add (eh_s rfl (.inl (by kernel_rfl))) (eh_v (ev_fz (et_lst (eav_cons (ev_isE1 R_ (gl_ (by kernel_rfl)) z_isinstance (eh_s rfl (.inl (by kernel_rfl))) (cls_own R_ (by decide) (by rfl) (gl_ (by kernel_rfl)))) (eav_cons (ev_isE1 R_ (gl_ (by kernel_rfl)) z_isinstance (eh_s rfl (.inl (by kernel_rfl))) (cls_own R_ (by decide) (by rfl) (gl_ (by kernel_rfl)))) eav_nil)))))))) (by decide))
    (sds_cons (sd_if (eb_w (ew_or (eb_cmp (op_neA hr.units) f_ne (eh_v (ev_bm (t := .lst) f_count (pe_bm PySem.F.plainAttrs_list PySem.F.slot_list_count PySem.F.type_list_count mt_countF (eh_s rfl (.inl (by kernel_rfl))) (eah_cons (eh_v ev_bl) eah_nil)))) (eh_v ev_int) (nomark _)) (ew_or1 (eb_not (eb_val (ev_isE1 R_ (gl_ (by kernel_rfl)) z_isinstance (eh_s rfl (.inl (by kernel_rfl))) (cls_VE R_ (gl_ (by kernel_rfl)) z_ValueError))))))) (sds_one (sd_retV (ev_tup (eav_cons (ev_str (by rfl)) (eav_cons ev_non eav_nil))))) sds_nil)
    (sds_cons (sd_setV (ps_set sc__law_class.nd rfl (.inl (by kernel_rfl)) (ev_ix (ix_A (hu1 hr)) f_idx (eh_v (ev_fz (et_lst (eav_cons (ev_str (by rfl)) (eav_cons (ev_str (by rfl)) (eav_cons (ev_str (by rfl)) (eav_cons (ev_str (by rfl)) (eav_cons (ev_str (by rfl)) (eav_cons (ev_str (by rfl)) (eav_cons (ev_str (by rfl)) (eav_cons (ev_str (by rfl)) eav_nil))))))))))) (eh_v (ev_bm (t := .lst) f_indexL (pe_bm PySem.F.plainAttrs_list PySem.F.slot_list_index PySem.F.type_list_index mt_index (eh_s rfl (.inl (by kernel_rfl))) (eah_cons (eh_v ev_bl) eah_nil)))) (fun _ _ => rfl))) (by decide))
    (sds_cons (sd_if (eb_cmp (op_inA (hu65 hr)) f_in (eh_s rfl (.inl (by kernel_rfl))) (eh_v (ev_tup (eav_cons (ev_str (by rfl)) (eav_cons (ev_str (by rfl)) eav_nil)))) (by rfl)) (sds_one (sd_retV (ev_tup (eav_cons (ev_var rfl (.inl (by kernel_rfl))) (eav_cons (ev_fldE R_ (by decide) (by rfl) (eh_s rfl (.inl (by kernel_rfl)))) eav_nil))))) sds_nil)
    (sds_cons (sd_if (eb_cmp (op_eqA hr.units) f_eq (eh_s rfl (.inl (by kernel_rfl))) (eh_v (ev_str (by rfl))) (nomark _)) (sds_one (sd_retV (ev_tup (eav_cons (ev_var rfl (.inl (by kernel_rfl))) (eav_cons (ev_fldE R_ (by decide) (by rfl) (eh_s rfl (.inl (by kernel_rfl)))) eav_nil))))) sds_nil)
    (sds_one (sd_retV (ev_tup (eav_cons (ev_var rfl (.inl (by kernel_rfl))) (eav_cons (ev_if (eb_cmp (op_eqA hr.units) f_eq (eh_s rfl (.inl (by kernel_rfl))) (eh_v (ev_str (by rfl))) (nomark _)) (ev_fldE R_ (by decide) (by rfl) (eh_s rfl (.inl (by kernel_rfl)))) ev_non) eav_nil))))))))))))
theorem c__law_parts_of {fa : Addr} {fd : FuncData} (F : Fun K "_law_parts_of" "_law_parts_of" s__law_parts_of fa fd) (hm : mg "_law_parts_of" = some (.ref fa)) (hb : Binds K fd ["_law_form"] []) (z_list : mg "list" = none) (I_Form : ClsI K mg [70, 111, 114, 109] [[107, 105, 110, 100, 115], [115, 112, 111, 116, 115], [115, 105, 122, 101, 115], [110, 101, 97, 114], [102, 97, 114]]) : Cal P w K mg base 1 "_law_parts_of" f__law_parts_of :=
  Cal.mk' F hm hb sc__law_parts_of (by decide) fun cdv A outer s H E hr =>
    (sds_cons (sd_setV (ps_set sc__law_parts_of.nd rfl (.inl (by kernel_rfl)) (ev_fz (et_lst (eav_cons (ev_fz (et_cb f_list (pe_callTy call_list_of (gl_ (by kernel_rfl)) z_list (by decide +kernel) (eah_cons (eh_v (ev_wk (ev_fldO I_Form (by decide) (by rfl) (eh_s rfl (.inl (by kernel_rfl)))))) eah_nil)))) (eav_cons (ev_fz (et_cb f_list (pe_callTy call_list_of (gl_ (by kernel_rfl)) z_list (by decide +kernel) (eah_cons (eh_v (ev_wk (ev_fldO I_Form (by decide) (by rfl) (eh_s rfl (.inl (by kernel_rfl)))))) eah_nil)))) (eav_cons (ev_fz (et_cb f_list (pe_callTy call_list_of (gl_ (by kernel_rfl)) z_list (by decide +kernel) (eah_cons (eh_v (ev_wk (ev_fldO I_Form (by decide) (by rfl) (eh_s rfl (.inl (by kernel_rfl)))))) eah_nil)))) eav_nil)))))) (by decide))
    (sds_one (sd_ret (et_dsp (ekv_s (by rfl) (ev_ix (ix_A (hu1 hr)) f_idx (eh_s rfl (.inl (by kernel_rfl))) (eh_v ev_int) (fun _ _ => rfl)) (ekv_s (by rfl) (ev_ix (ix_A (hu1 hr)) f_idx (eh_s rfl (.inl (by kernel_rfl))) (eh_v ev_int) (fun _ _ => rfl)) (ekv_s (by rfl) (ev_ix (ix_A (hu1 hr)) f_idx (eh_s rfl (.inl (by kernel_rfl))) (eh_v ev_int) (fun _ _ => rfl)) (ekv_s (by rfl) (ev_fldO I_Form (by decide) (by rfl) (eh_s rfl (.inl (by kernel_rfl)))) (ekv_s (by rfl) (ev_fldO I_Form (by decide) (by rfl) (eh_s rfl (.inl (by kernel_rfl)))) ekv_nil))))) (by rfl) (by rfl) (by simp) (by decide)))))
theorem c__law_told {fa : Addr} {fd : FuncData} (F : Fun K "_law_told" "_law_told" s__law_told fa fd) (hm : mg "_law_told" = some (.ref fa)) (hb : Binds K fd ["_law_program_here", "_law_most", "_law_near", "_law_far"] [])  (C_least_form : Cal P w K mg base 7 "least_form" f_least_form) (C__law_class : Cal P w K mg base 1 "_law_class" f__law_class) (C__law_parts_of : Cal P w K mg base 1 "_law_parts_of" f__law_parts_of) (R_ : Errs K mg rs_ ts_ fl_) : Cal P w K mg base 8 "_law_told" f__law_told :=
  Cal.mk' F hm hb sc__law_told (by decide) fun cdv A outer s H E hr =>
    (sds_cons (sd_parT rfl sc__law_told.nd rfl rfl (.inl (by kernel_rfl)) (.inl (by kernel_rfl)) (et_sh ev_non) (et_sh ev_non) (by decide) (by decide) (by kernel_rfl))
    (sds_cons (sd_try R_ (by decide) (by rfl) rfl rfl rfl sc__law_told.nd rfl rfl (gl_ (by kernel_rfl)) (by decide) (fun W pn xe tk po => (sds_one (sd_setV (ps_set sc__law_told.nd rfl (.inl (by kernel_rfl)) (ev_fz (et_call (C_least_form.mono (by decide)) hr (gl_ (by kernel_rfl)) tk (eaa_v (ev_var rfl (.inl (by kernel_rfl))) (eaa_v (ev_var rfl (.inl (by kernel_rfl))) (eaa_v (ev_var rfl (.inl (by kernel_rfl))) (eaa_v (ev_var rfl (.inl (by kernel_rfl))) eaa_nil))))))) (by decide)))) (fun a pn => (sds_one (sd_setV (ps_set sc__law_told.nd rfl (.inl (by kernel_rfl)) (ev_var rfl (.inl (by kernel_rfl)))) (by decide)))))
    (sds_one (sd_retV (ev_if (eb_cmp op_isN f_isN (eh_s rfl (.inl (by kernel_rfl))) (eh_v ev_non) (nomark _)) (ev_tup (eav_cons (ev_str (by rfl)) (eav_cons (ev_fz (et_call (C__law_parts_of.mono (by decide)) hr (gl_ (by kernel_rfl)) (takes_of rfl rfl rfl rfl) (eaa_v (ev_var rfl (.inl (by kernel_rfl))) eaa_nil))) eav_nil))) (ev_fz (et_call (C__law_class.mono (by decide)) hr (gl_ (by kernel_rfl)) (takes_of rfl rfl rfl rfl) (eaa_v (ev_var rfl (.inl (by kernel_rfl))) eaa_nil))))))))
theorem c__law_many {fa : Addr} {fd : FuncData} (F : Fun K "_law_many" "_law_many" s__law_many fa fd) (hm : mg "_law_many" = some (.ref fa)) (hb : Binds K fd ["_law_box"] [])  (C__law_take : Cal P w K mg base 1 "_law_take" f__law_take) : Cal P w K mg base 2 "_law_many" f__law_many :=
  Cal.mk' F hm hb sc__law_many (by decide) fun cdv A outer s H E hr =>
    (sds_one (sd_retV (ev_if (eb_cmp (op_eqA hr.units) f_eq (eh_v (ev_fz (et_call (C__law_take.mono (by decide)) hr (gl_ (by kernel_rfl)) (takes_of rfl rfl rfl rfl) (eaa_io rfl (.inl (by kernel_rfl)) (eaa_v ev_int eaa_nil))))) (eh_v ev_int) (nomark _)) (ev_op op_addA f_add (eh_v ev_int) (eh_v (ev_fz (et_call (C__law_take.mono (by decide)) hr (gl_ (by kernel_rfl)) (takes_of rfl rfl rfl rfl) (eaa_io rfl (.inl (by kernel_rfl)) (eaa_v ev_int eaa_nil)))))) (ev_fz (et_call (C__law_take.mono (by decide)) hr (gl_ (by kernel_rfl)) (takes_of rfl rfl rfl rfl) (eaa_io rfl (.inl (by kernel_rfl)) (eaa_v ev_int eaa_nil)))))))
theorem c__law_odd_number {fa : Addr} {fd : FuncData} (F : Fun K "_law_odd_number" "_law_odd_number" s__law_odd_number fa fd) (hm : mg "_law_odd_number" = some (.ref fa)) (hb : Binds K fd ["_law_box", "_law_least", "_law_greatest"] [])  (C__law_take : Cal P w K mg base 1 "_law_take" f__law_take) : Cal P w K mg base 2 "_law_odd_number" f__law_odd_number :=
  Cal.mk' F hm hb sc__law_odd_number (by decide) fun cdv A outer s H E hr =>
    (sds_cons (sd_setV (ps_set sc__law_odd_number.nd rfl (.inl (by kernel_rfl)) (ev_fz (et_call (C__law_take.mono (by decide)) hr (gl_ (by kernel_rfl)) (takes_of rfl rfl rfl rfl) (eaa_io rfl (.inl (by kernel_rfl)) (eaa_v ev_int eaa_nil))))) (by decide))
    (sds_cons (sd_if (eb_cmp op_ltA f_lt (eh_s rfl (.inl (by kernel_rfl))) (eh_v ev_int) (nomark _)) (sds_one (sd_retV (ev_op op_addA f_add (eh_s rfl (.inl (by kernel_rfl))) (eh_v (ev_fz (et_call (C__law_take.mono (by decide)) hr (gl_ (by kernel_rfl)) (takes_of rfl rfl rfl rfl) (eaa_io rfl (.inl (by kernel_rfl)) (eaa_v (ev_op op_addA f_add (eh_v (ev_op op_sub f_sub (eh_s rfl (.inl (by kernel_rfl))) (eh_s rfl (.inl (by kernel_rfl))))) (eh_v ev_int)) eaa_nil)))))))) sds_nil)
    (sds_one (sd_retV (ev_ix (ix_A (hu1 hr)) f_idx (eh_v (ev_fz (et_lst (eav_cons (ev_ix (ix_A (hu1 hr)) f_idx (eh_v (ev_fz (et_lst (eav_cons (ev_op op_sub f_sub (eh_s rfl (.inl (by kernel_rfl))) (eh_v ev_int)) (eav_cons (ev_op op_addA f_add (eh_s rfl (.inl (by kernel_rfl))) (eh_v ev_int)) eav_nil))))) (eh_v (ev_fz (et_call (C__law_take.mono (by decide)) hr (gl_ (by kernel_rfl)) (takes_of rfl rfl rfl rfl) (eaa_io rfl (.inl (by kernel_rfl)) (eaa_v ev_int eaa_nil))))) (fun _ _ => rfl)) (eav_cons (ev_ix (ix_A (hu1 hr)) f_idx (eh_v (ev_fz (et_lst (eav_cons (ev_var rfl (.inl (by kernel_rfl))) (eav_cons (ev_var rfl (.inl (by kernel_rfl))) eav_nil))))) (eh_v (ev_fz (et_call (C__law_take.mono (by decide)) hr (gl_ (by kernel_rfl)) (takes_of rfl rfl rfl rfl) (eaa_io rfl (.inl (by kernel_rfl)) (eaa_v ev_int eaa_nil))))) (fun _ _ => rfl)) (eav_cons (ev_ix (ix_A (hu1 hr)) f_idx (eh_v (ev_fz (et_lst (eav_cons ev_int (eav_cons (ev_un un_neg f_neg (eh_v ev_int)) (eav_cons (ev_un un_neg f_neg (eh_s rfl (.inl (by kernel_rfl)))) (eav_cons (ev_op op_pow f_pow (eh_v ev_int) (eh_v ev_int)) (eav_cons (ev_op op_sub f_sub (eh_v ev_int) (eh_v (ev_op op_pow f_pow (eh_v ev_int) (eh_v ev_int)))) (eav_cons ev_int eav_nil))))))))) (eh_v (ev_fz (et_call (C__law_take.mono (by decide)) hr (gl_ (by kernel_rfl)) (takes_of rfl rfl rfl rfl) (eaa_io rfl (.inl (by kernel_rfl)) (eaa_v ev_int eaa_nil))))) (fun _ _ => rfl)) eav_nil)))))) (eh_v (ev_op op_sub f_sub (eh_s rfl (.inl (by kernel_rfl))) (eh_v ev_int))) (fun _ _ => rfl))))))
theorem c__law_due {fa : Addr} {fd : FuncData} (F : Fun K "_law_due" "_law_due" s__law_due fa fd) (hm : mg "_law_due" = some (.ref fa)) (hb : Binds K fd ["_law_most", "_law_near", "_law_far"] [])   : Cal P w K mg base 1 "_law_due" f__law_due :=
  Cal.mk' F hm hb sc__law_due (by decide) fun cdv A outer s H E hr =>
    (sds_cons (sd_if (eb_cmp op_ltA f_lt (eh_s rfl (.inl (by kernel_rfl))) (eh_v ev_int) (nomark _)) (sds_one (sd_retV (ev_tup (eav_cons (ev_str (by rfl)) (eav_cons ev_non eav_nil))))) sds_nil)
    (sds_cons (sd_if (eb_not (eb_chain op_le f_le op_le f_le (eh_v ev_int) (eh_s rfl (.inl (by kernel_rfl))) (eh_v ev_int))) (sds_one (sd_retV (ev_tup (eav_cons (ev_str (by rfl)) (eav_cons (ev_str (by rfl)) eav_nil))))) sds_nil)
    (sds_one (sd_retV (ev_if (eb_chain op_ltA f_lt op_le f_le (eh_s rfl (.inl (by kernel_rfl))) (eh_s rfl (.inl (by kernel_rfl))) (eh_v ev_int)) ev_non (ev_tup (eav_cons (ev_str (by rfl)) (eav_cons (ev_str (by rfl)) eav_nil))))))))
theorem c__law_same {fa : Addr} {fd : FuncData} (F : Fun K "_law_same" "_law_same" s__law_same fa fd) (hm : mg "_law_same" = some (.ref fa)) (hb : Binds K fd ["_law_found", "_law_due_here"] []) (z_all : mg "all" = none) (z_bool : mg "bool" = none) (z_int : mg "int" = none) (z_isinstance : mg "isinstance" = none) (z_len : mg "len" = none) (z_list : mg "list" = none) (z_str : mg "str" = none) (z_tuple : mg "tuple" = none) (z_zip : mg "zip" = none)  : ∀ n, Cal P w K mg base (n + 1) "_law_same" (r__law_same n)
  | 0 => (Cal.zero F hm hb sc__law_same).mono (by omega)
  | n + 1 => Cal.mk' (k := n + 1) F hm hb sc__law_same (by decide) fun cdv A outer s H E hr =>
    have Cr := c__law_same F hm hb z_all z_bool z_int z_isinstance z_len z_list z_str z_tuple z_zip n
    (sds_cons (sd_if (eb_cmp op_isN f_isN (eh_s rfl (.inl (by kernel_rfl))) (eh_v ev_non) (nomark _)) (sds_one (sd_retV (ev_cmp op_isN (Op2B.toV f_isN) (eh_s rfl (.inl (by kernel_rfl))) (eh_v ev_non) (nomark _)))) sds_nil)
    (sds_cons (sd_if (eb_val (ev_isi .bool (gl_ (by kernel_rfl)) z_isinstance (gl_ (by kernel_rfl)) z_bool (eh_s rfl (.inl (by kernel_rfl))))) (sds_one (sd_retV (ev_and (ev_isi .bool (gl_ (by kernel_rfl)) z_isinstance (gl_ (by kernel_rfl)) z_bool (eh_s rfl (.inl (by kernel_rfl)))) (ev_one (ev_cmp (op_eqA hr.units) (Op2B.toV f_eq) (eh_s rfl (.inl (by kernel_rfl))) (eh_s rfl (.inl (by kernel_rfl))) (nomark _)))))) sds_nil)
    (sds_cons (sd_if (eb_val (ev_isi2 .list .tuple (gl_ (by kernel_rfl)) z_isinstance (gl_ (by kernel_rfl)) z_list (gl_ (by kernel_rfl)) z_tuple (eh_s rfl (.inl (by kernel_rfl))))) (sds_cons (sd_if (eb_cmp (op_neA hr.units) f_ne (eh_v (ev_isi .list (gl_ (by kernel_rfl)) z_isinstance (gl_ (by kernel_rfl)) z_list (eh_s rfl (.inl (by kernel_rfl))))) (eh_v (ev_isi .list (gl_ (by kernel_rfl)) z_isinstance (gl_ (by kernel_rfl)) z_list (eh_s rfl (.inl (by kernel_rfl))))) (nomark _)) (sds_one (sd_retV ev_bl)) sds_nil)
    (sds_cons (sd_if (eb_w (ew_or (eb_cmp (op_neA hr.units) f_ne (eh_v (ev_isi .tuple (gl_ (by kernel_rfl)) z_isinstance (gl_ (by kernel_rfl)) z_tuple (eh_s rfl (.inl (by kernel_rfl))))) (eh_v (ev_isi .tuple (gl_ (by kernel_rfl)) z_isinstance (gl_ (by kernel_rfl)) z_tuple (eh_s rfl (.inl (by kernel_rfl))))) (nomark _)) (ew_or1 (eb_cmp (op_neA hr.units) f_ne (eh_v (ev_cb f_len (pe_callB cr_lenA (gl_ (by kernel_rfl)) z_len (by decide +kernel) (eah_cons (eh_s rfl (.inl (by kernel_rfl))) eah_nil)))) (eh_v (ev_cb f_len (pe_callB cr_lenA (gl_ (by kernel_rfl)) z_len (by decide +kernel) (eah_cons (eh_s rfl (.inl (by kernel_rfl))) eah_nil)))) (nomark _))))) (sds_one (sd_retV ev_bl)) sds_nil)
    (sds_one (sd_retV (ev_cb f_all (pe_callB (cr_all rfl) (gl_ (by kernel_rfl)) z_all (by decide +kernel) (eah_cons (eh_v (ev_fz (et_comp rfl sc__law_same.nd (ei_arg (RZ.pi_zipA (gl_ (by kernel_rfl)) z_zip (eav_cons (ev_var rfl (.inl (by kernel_rfl))) (eav_cons (ev_var rfl (.inl (by kernel_rfl))) eav_nil))) ht_zipA) (own := [("_law_one", 2), ("_law_other", 3)]) (blk_ok (by kernel_rfl)) (sl := [2, 3]) (by decide) (fun _ _ _ _ _ => (gd_tup rfl (gds_cons (gd_name sc__law_same.nd rfl (.inl (by kernel_rfl)) (by decide)) (gds_cons (gd_name sc__law_same.nd rfl (.inl (by kernel_rfl)) (by decide)) gds_nil)) rfl)) (fun _ _ _ _ _ => ets_nil) (fun _ _ _ _ _ => (ev_fz (et_call (Cr.mono (by omega)) hr (gl_ (by kernel_rfl)) takes0 (eaa_v (ev_var rfl (.inl (by kernel_rfl))) (eaa_v (ev_var rfl (.inl (by kernel_rfl))) eaa_nil)))))))) eah_nil))))))) sds_nil)
    (sds_cons (sd_if (eb_val (ev_isi .str (gl_ (by kernel_rfl)) z_isinstance (gl_ (by kernel_rfl)) z_str (eh_s rfl (.inl (by kernel_rfl))))) (sds_one (sd_retV (ev_and (ev_isi .str (gl_ (by kernel_rfl)) z_isinstance (gl_ (by kernel_rfl)) z_str (eh_s rfl (.inl (by kernel_rfl)))) (ev_one (ev_cmp (op_eqA hr.units) (Op2B.toV f_eq) (eh_s rfl (.inl (by kernel_rfl))) (eh_s rfl (.inl (by kernel_rfl))) (nomark _)))))) sds_nil)
    (sds_one (sd_retV (ev_and (ev_isi .int (gl_ (by kernel_rfl)) z_isinstance (gl_ (by kernel_rfl)) z_int (eh_s rfl (.inl (by kernel_rfl)))) (ev_and (ev_not (ev_isi .bool (gl_ (by kernel_rfl)) z_isinstance (gl_ (by kernel_rfl)) z_bool (eh_s rfl (.inl (by kernel_rfl))))) (ev_one (ev_cmp (op_eqA hr.units) (Op2B.toV f_eq) (eh_s rfl (.inl (by kernel_rfl))) (eh_s rfl (.inl (by kernel_rfl))) (nomark _)))))))))))
theorem b_ok_law {fa : Addr} {fd : FuncData} (F : Fun K "law" "law" s_law fa fd) (z_range : mg "range" = none) (C__law_begin : Cal P w K mg base 1 "_law_begin" f__law_begin) (C__law_program : Cal P w K mg base 4 "_law_program" f__law_program) (C__law_told : Cal P w K mg base 8 "_law_told" f__law_told) (C__law_many : Cal P w K mg base 2 "_law_many" f__law_many) (C__law_odd_number : Cal P w K mg base 2 "_law_odd_number" f__law_odd_number) (C__law_due : Cal P w K mg base 1 "_law_due" f__law_due) (C__law_take : Cal P w K mg base 1 "_law_take" f__law_take) (C__law_same : Cal P w K mg base 71 "_law_same" f__law_same) {cdv : Value} {A : Around} {outer : List PySem.Env} {s : Shared} {H : Hp} {E : XK} (hr : RoomG 71 (A.deeper (envOfC "law" (defScope s_law) s.heap.objs.size fa cdv))) :
    SDs (cxOf (L2.CX P w) P w K mg base ["_law_script", "_law_box", "_law_program_here", "_law_first", "_law_turn", "_law_most", "_law_near", "_law_far", "_law_found", "_law_due_here"] "law" (defScope s_law) fa cdv A outer s H E) (fun c d _ H => E c d H) [false] (defBody s_law) B_law :=
    (sds_cons (sd_set (ps_set sc_law.nd rfl (.inl (by kernel_rfl)) (et_call (C__law_begin.mono (by decide)) hr (gl_ (by kernel_rfl)) (takes_of rfl rfl rfl rfl) (eaa_v (ev_var rfl (.inl (by kernel_rfl))) eaa_nil))) (by decide))
    (sds_cons (sd_setV (ps_set sc_law.nd rfl (.inl (by kernel_rfl)) (ev_fz (et_call (C__law_program.mono (by decide)) hr (gl_ (by kernel_rfl)) (takes_of rfl rfl rfl rfl) (eaa_io rfl (.inl (by kernel_rfl)) (eaa_v (ev_fz (et_call (C__law_many.mono (by decide)) hr (gl_ (by kernel_rfl)) (takes_of rfl rfl rfl rfl) (eaa_io rfl (.inl (by kernel_rfl)) eaa_nil))) eaa_nil))))) (by decide))
    (sds_cons (sd_setV (ps_set sc_law.nd rfl (.inl (by kernel_rfl)) (ev_fz (et_call (C__law_told.mono (by decide)) hr (gl_ (by kernel_rfl)) (takes_of rfl rfl rfl rfl) (eaa_v (ev_var rfl (.inl (by kernel_rfl))) (eaa_v ev_int (eaa_v ev_int (eaa_v ev_int eaa_nil))))))) (by decide))
    (sds_cons (sd_for (sl := [4]) (passes_of (K := _) (E₁ := _) rfl) rfl (ei_arg (pi_range1 (gl_ (by kernel_rfl)) z_range (eav_cons ev_int eav_nil)) ht_rng1) (gd_name sc_law.nd rfl (.inl (by kernel_rfl)) (by decide)) (sds_wipe [4, 5, 6, 7, 8, 9] (sds_cons (sd_setV (ps_set sc_law.nd rfl (.inl (by kernel_rfl)) (ev_if (eb_cmp (op_eqA hr.units) f_eq (eh_v (ev_fz (et_call (C__law_take.mono (by decide)) hr (gl_ (by kernel_rfl)) (takes_of rfl rfl rfl rfl) (eaa_io rfl (.inl (by kernel_rfl)) (eaa_v ev_int eaa_nil))))) (eh_v ev_int) (nomark _)) (ev_op op_addA f_add (eh_v ev_int) (eh_v (ev_fz (et_call (C__law_take.mono (by decide)) hr (gl_ (by kernel_rfl)) (takes_of rfl rfl rfl rfl) (eaa_io rfl (.inl (by kernel_rfl)) (eaa_v ev_int eaa_nil)))))) (ev_op op_addA f_add (eh_v ev_int) (eh_v (ev_fz (et_call (C__law_take.mono (by decide)) hr (gl_ (by kernel_rfl)) (takes_of rfl rfl rfl rfl) (eaa_io rfl (.inl (by kernel_rfl)) (eaa_v ev_int eaa_nil)))))))) (by decide))
    (sds_cons (sd_par rfl sc_law.nd rfl rfl (by decide) (by kernel_rfl) (by kernel_rfl) (et_sh (ev_fz (et_call (C__law_odd_number.mono (by decide)) hr (gl_ (by kernel_rfl)) (takes_of rfl rfl rfl rfl) (eaa_io rfl (.inl (by kernel_rfl)) (eaa_v ev_int (eaa_v ev_int eaa_nil)))))) (et_sh (ev_fz (et_call (C__law_odd_number.mono (by decide)) hr (gl_ (by kernel_rfl)) (takes_of rfl rfl rfl rfl) (eaa_io rfl (.inl (by kernel_rfl)) (eaa_v ev_int (eaa_v ev_int eaa_nil)))))) (by decide) (by decide) (by kernel_rfl))
    (sds_cons (sd_par rfl sc_law.nd rfl rfl (by decide) (by kernel_rfl) (by kernel_rfl) (et_sh (ev_fz (et_call (C__law_told.mono (by decide)) hr (gl_ (by kernel_rfl)) (takes_of rfl rfl rfl rfl) (eaa_v (ev_var rfl (.inl (by kernel_rfl))) (eaa_v (ev_var rfl (.inl (by kernel_rfl))) (eaa_v (ev_var rfl (.inl (by kernel_rfl))) (eaa_v (ev_var rfl (.inl (by kernel_rfl))) eaa_nil))))))) (et_sh (ev_fz (et_call (C__law_due.mono (by decide)) hr (gl_ (by kernel_rfl)) (takes_of rfl rfl rfl rfl) (eaa_v (ev_var rfl (.inl (by kernel_rfl))) (eaa_v (ev_var rfl (.inl (by kernel_rfl))) (eaa_v (ev_var rfl (.inl (by kernel_rfl))) eaa_nil)))))) (by decide) (by decide) (by kernel_rfl))
    (sds_cons (sd_if (eb_cmp op_isN f_isN (eh_s rfl (.inl (by kernel_rfl))) (eh_v ev_non) (nomark _)) (sds_one (sd_if (eb_w (ew_or (eb_cmp (op_neA hr.units) f_ne (eh_v (ev_ix (ix_A (hu1 hr)) f_idx (eh_s rfl (.inl (by kernel_rfl))) (eh_v ev_int) (fun _ _ => rfl))) (eh_v (ev_str (by rfl))) (nomark _)) (ew_or1 (eb_cmp (op_neA hr.units) f_ne (eh_v (ev_fz (et_lst (eav_cons (ev_ix (ix_A (hu1 hr)) f_idx (eh_v (ev_ix (ix_A (hu1 hr)) f_idx (eh_s rfl (.inl (by kernel_rfl))) (eh_v ev_int) (fun _ _ => rfl))) (eh_v (ev_str (by rfl))) (fun _ _ => rfl)) (eav_cons (ev_ix (ix_A (hu1 hr)) f_idx (eh_v (ev_ix (ix_A (hu1 hr)) f_idx (eh_s rfl (.inl (by kernel_rfl))) (eh_v ev_int) (fun _ _ => rfl))) (eh_v (ev_str (by rfl))) (fun _ _ => rfl)) eav_nil))))) (eh_v (ev_fz (et_lst (eav_cons (ev_var rfl (.inl (by kernel_rfl))) (eav_cons (ev_var rfl (.inl (by kernel_rfl))) eav_nil))))) (nomark _))))) (sds_one (sd_retV ev_bl)) sds_nil)) (sds_one (sd_if (eb_not (eb_val (ev_fz (et_call (C__law_same.mono (by decide)) hr (gl_ (by kernel_rfl)) (takes_of rfl rfl rfl rfl) (eaa_v (ev_var rfl (.inl (by kernel_rfl))) (eaa_v (ev_var rfl (.inl (by kernel_rfl))) eaa_nil)))))) (sds_one (sd_retV ev_bl)) sds_nil)))
    (sds_one (sd_if (eb_cmp (op_neS hr.units) f_neS (eh_v (ev_fz (et_call (C__law_told.mono (by decide)) hr (gl_ (by kernel_rfl)) (takes_of rfl rfl rfl rfl) (eaa_v (ev_var rfl (.inl (by kernel_rfl))) (eaa_v ev_int (eaa_v ev_int (eaa_v ev_int eaa_nil))))))) (eh_s rfl (.inl (by kernel_rfl))) (nomark _)) (sds_one (sd_retV ev_bl)) sds_nil))))))) (by decide))
    (sds_one (sd_retV (ev_cmp (op_eqA hr.units) (Op2B.toV f_eq) (eh_v (ev_ix (ix_A (hu1 hr)) f_idx (eh_s rfl (.inl (by kernel_rfl))) (eh_v ev_int) (fun _ _ => rfl))) (eh_v (ev_str (by rfl))) (nomark _))))))))
end
theorem all_mk {l : PySem.W.OpenLaw} {w : World} {K : PySem.W.Frag} {h : Heap} {mg : Str → Option Value} {fa a__law_begin a__law_take a__law_number a__law_row a__law_program a_code_of a_far_is_shorter a_is_name a_is_signs a_is_entry a_is_book a_begins a_clash a_free a_is_book_of a_is_number a_Form____init__ a_look_room a_figures a_codes_by a_taken a_places_paired a_lengths_by a_least_book a_far_behind a_counted a_spots_in a_figures_of a_uses_of a_least_form a__law_class a__law_parts_of a__law_told a__law_many a__law_odd_number a__law_due a__law_same a_law k_BadRow k_BadText k_NoForm k_NoName k_NoPlace k_NoTarget k_OddError k_TooFar k_TooFull i_NoForm : Addr} (X : K.In h) (G : h.Ns mainGlobals mg) (hfa : mg "law" = some (.ref fa))
    (n_BadRow : PySem.W.nsIn K mainGlobals "BadRow" = some (some (.ref k_BadRow)))
    (n_BadText : PySem.W.nsIn K mainGlobals "BadText" = some (some (.ref k_BadText)))
    (n_NoForm : PySem.W.nsIn K mainGlobals "NoForm" = some (some (.ref k_NoForm)))
    (n_NoName : PySem.W.nsIn K mainGlobals "NoName" = some (some (.ref k_NoName)))
    (n_NoPlace : PySem.W.nsIn K mainGlobals "NoPlace" = some (some (.ref k_NoPlace)))
    (n_NoTarget : PySem.W.nsIn K mainGlobals "NoTarget" = some (some (.ref k_NoTarget)))
    (n_OddError : PySem.W.nsIn K mainGlobals "OddError" = some (some (.ref k_OddError)))
    (n_TooFar : PySem.W.nsIn K mainGlobals "TooFar" = some (some (.ref k_TooFar)))
    (n_TooFull : PySem.W.nsIn K mainGlobals "TooFull" = some (some (.ref k_TooFull)))
    (xe_BadRow : PySem.W.subIn K (.ref k_BadRow) (.type "BaseException") = some true)
    (xt_BadRow : PySem.W.typeIn K (.ref k_BadRow) = some (.type "type"))
    (xd_BadRow : PySem.W.hasDictIn K k_BadRow = true)
    (xe_BadText : PySem.W.subIn K (.ref k_BadText) (.type "BaseException") = some true)
    (xt_BadText : PySem.W.typeIn K (.ref k_BadText) = some (.type "type"))
    (xd_BadText : PySem.W.hasDictIn K k_BadText = true)
    (xe_NoForm : PySem.W.subIn K (.ref k_NoForm) (.type "BaseException") = some true)
    (xt_NoForm : PySem.W.typeIn K (.ref k_NoForm) = some (.type "type"))
    (xd_NoForm : PySem.W.hasDictIn K k_NoForm = true)
    (xe_NoName : PySem.W.subIn K (.ref k_NoName) (.type "BaseException") = some true)
    (xt_NoName : PySem.W.typeIn K (.ref k_NoName) = some (.type "type"))
    (xd_NoName : PySem.W.hasDictIn K k_NoName = true)
    (xe_NoPlace : PySem.W.subIn K (.ref k_NoPlace) (.type "BaseException") = some true)
    (xt_NoPlace : PySem.W.typeIn K (.ref k_NoPlace) = some (.type "type"))
    (xd_NoPlace : PySem.W.hasDictIn K k_NoPlace = true)
    (xe_NoTarget : PySem.W.subIn K (.ref k_NoTarget) (.type "BaseException") = some true)
    (xt_NoTarget : PySem.W.typeIn K (.ref k_NoTarget) = some (.type "type"))
    (xd_NoTarget : PySem.W.hasDictIn K k_NoTarget = true)
    (xe_OddError : PySem.W.subIn K (.ref k_OddError) (.type "BaseException") = some true)
    (xt_OddError : PySem.W.typeIn K (.ref k_OddError) = some (.type "type"))
    (xd_OddError : PySem.W.hasDictIn K k_OddError = true)
    (xe_TooFar : PySem.W.subIn K (.ref k_TooFar) (.type "BaseException") = some true)
    (xt_TooFar : PySem.W.typeIn K (.ref k_TooFar) = some (.type "type"))
    (xd_TooFar : PySem.W.hasDictIn K k_TooFar = true)
    (xe_TooFull : PySem.W.subIn K (.ref k_TooFull) (.type "BaseException") = some true)
    (xt_TooFull : PySem.W.typeIn K (.ref k_TooFull) = some (.type "type"))
    (xd_TooFull : PySem.W.hasDictIn K k_TooFull = true)
    {nm_NoForm q_NoForm : Str} {N_NoForm : Addr} {bs_NoForm : List Value} {sn_NoForm : List Str} {sub_NoForm : List Value} {ab_NoForm : Bool} {col_NoForm : Option Bool} {dd_NoForm : Option Addr} {m0_NoForm m1_NoForm m2_NoForm m3_NoForm m5_NoForm : Option Value}
    (xl_NoForm : K.lookup k_NoForm = some (excClassObj nm_NoForm q_NoForm k_NoForm N_NoForm bs_NoForm [.ref k_OddError, .type "ValueError", .type "Exception", .type "BaseException", .type "object"] true sn_NoForm sub_NoForm ab_NoForm col_NoForm dd_NoForm m0_NoForm m1_NoForm m2_NoForm m3_NoForm m5_NoForm "ValueError.__new__"))
    (xs_NoForm : PySem.W.findIn K (.ref k_NoForm) "__setattr__" = some (some (.builtin "object.__setattr__")))
    (xk_NoForm : PySem.W.keepIn K (.ref k_NoForm) = true)
    (xg_NoForm : PySem.W.findIn K (.ref k_NoForm) "__getattribute__" = some (some (.builtin "BaseException.__getattribute__")))
    (xh_NoForm : PySem.W.findIn K (.ref k_NoForm) "__getattr__" = some none)
    (xc_NoForm : PySem.W.findIn K (.ref k_NoForm) "__class__" = some (some (.builtin "object.__class__")))
    (xm_NoForm : PySem.W.mroIn K k_NoForm (.type "object") = some true)
    (xv_NoForm : PySem.W.subIn K (.ref k_NoForm) (.type "ValueError") = some true)
    (xb_NoForm_BadRow : PySem.W.subIn K (.ref k_NoForm) (.ref k_BadRow) = some false)
    (xb_NoForm_BadText : PySem.W.subIn K (.ref k_NoForm) (.ref k_BadText) = some false)
    (xb_NoForm_NoForm : PySem.W.subIn K (.ref k_NoForm) (.ref k_NoForm) = some true)
    (xb_NoForm_NoName : PySem.W.subIn K (.ref k_NoForm) (.ref k_NoName) = some false)
    (xb_NoForm_NoPlace : PySem.W.subIn K (.ref k_NoForm) (.ref k_NoPlace) = some false)
    (xb_NoForm_NoTarget : PySem.W.subIn K (.ref k_NoForm) (.ref k_NoTarget) = some false)
    (xb_NoForm_OddError : PySem.W.subIn K (.ref k_NoForm) (.ref k_OddError) = some true)
    (xb_NoForm_TooFar : PySem.W.subIn K (.ref k_NoForm) (.ref k_TooFar) = some false)
    (xb_NoForm_TooFull : PySem.W.subIn K (.ref k_NoForm) (.ref k_TooFull) = some false)
    (xf_NoForm_place : PySem.W.findIn K (.ref k_NoForm) "place" = some none)
    (xf_NoForm_row : PySem.W.findIn K (.ref k_NoForm) "row" = some none)
    (xf_NoForm_why : PySem.W.findIn K (.ref k_NoForm) "why" = some none)
    {odi_NoForm ani_NoForm : Option Addr} {sli_NoForm : Array (Option Value)} {oci_NoForm kVi_NoForm dci_NoForm pmi_NoForm cdi_NoForm cti_NoForm : Value}
    (xi_NoForm : PySem.W.findIn K (.ref k_NoForm) "__init__" = some (some (.ref i_NoForm)))
    (xj_NoForm : PySem.W.typeIn K (.ref i_NoForm) = some (.type "function"))
    (xq_NoForm : K.lookup i_NoForm = some ⟨oci_NoForm, odi_NoForm, .func (PySem.W.fnOf "__init__" "NoForm.__init__" (defArgs s__NoForm) (defBody s__NoForm) (defScope s__NoForm) .none kVi_NoForm dci_NoForm pmi_NoForm ani_NoForm cdi_NoForm cti_NoForm), sli_NoForm⟩)
    (xw_NoForm : PySem.W.codeIn K cdi_NoForm "NoForm.__init__" = true)
    (xz_NoForm : PySem.W.keepIn K (.ref i_NoForm) = true)
    {nm_TooFull q_TooFull : Str} {N_TooFull : Addr} {bs_TooFull : List Value} {sn_TooFull : List Str} {sub_TooFull : List Value} {ab_TooFull : Bool} {col_TooFull : Option Bool} {dd_TooFull : Option Addr} {m0_TooFull m1_TooFull m2_TooFull m3_TooFull m5_TooFull : Option Value}
    (xl_TooFull : K.lookup k_TooFull = some (excClassObj nm_TooFull q_TooFull k_TooFull N_TooFull bs_TooFull [.ref k_OddError, .type "ValueError", .type "Exception", .type "BaseException", .type "object"] true sn_TooFull sub_TooFull ab_TooFull col_TooFull dd_TooFull m0_TooFull m1_TooFull m2_TooFull m3_TooFull m5_TooFull "ValueError.__new__"))
    (xs_TooFull : PySem.W.findIn K (.ref k_TooFull) "__setattr__" = some (some (.builtin "object.__setattr__")))
    (xk_TooFull : PySem.W.keepIn K (.ref k_TooFull) = true)
    (xg_TooFull : PySem.W.findIn K (.ref k_TooFull) "__getattribute__" = some (some (.builtin "BaseException.__getattribute__")))
    (xh_TooFull : PySem.W.findIn K (.ref k_TooFull) "__getattr__" = some none)
    (xc_TooFull : PySem.W.findIn K (.ref k_TooFull) "__class__" = some (some (.builtin "object.__class__")))
    (xm_TooFull : PySem.W.mroIn K k_TooFull (.type "object") = some true)
    (xv_TooFull : PySem.W.subIn K (.ref k_TooFull) (.type "ValueError") = some true)
    (xb_TooFull_BadRow : PySem.W.subIn K (.ref k_TooFull) (.ref k_BadRow) = some false)
    (xb_TooFull_BadText : PySem.W.subIn K (.ref k_TooFull) (.ref k_BadText) = some false)
    (xb_TooFull_NoForm : PySem.W.subIn K (.ref k_TooFull) (.ref k_NoForm) = some false)
    (xb_TooFull_NoName : PySem.W.subIn K (.ref k_TooFull) (.ref k_NoName) = some false)
    (xb_TooFull_NoPlace : PySem.W.subIn K (.ref k_TooFull) (.ref k_NoPlace) = some false)
    (xb_TooFull_NoTarget : PySem.W.subIn K (.ref k_TooFull) (.ref k_NoTarget) = some false)
    (xb_TooFull_OddError : PySem.W.subIn K (.ref k_TooFull) (.ref k_OddError) = some true)
    (xb_TooFull_TooFar : PySem.W.subIn K (.ref k_TooFull) (.ref k_TooFar) = some false)
    (xb_TooFull_TooFull : PySem.W.subIn K (.ref k_TooFull) (.ref k_TooFull) = some true)
    (xf_TooFull_place : PySem.W.findIn K (.ref k_TooFull) "place" = some none)
    (xf_TooFull_row : PySem.W.findIn K (.ref k_TooFull) "row" = some none)
    (xf_TooFull_why : PySem.W.findIn K (.ref k_TooFull) "why" = some none)
    (xy_TooFull : PySem.W.excIn K k_TooFull [.type "ValueError", .type "Exception", .type "BaseException", .type "object"] "ValueError.__new__" = true)
    (og_ : PySem.W.specialIn K (.builtin "object.__class__") "__get__" = some (some (.builtin "getset_descriptor.__get__")))
    (ot_ : PySem.W.takesIn K (.builtin "object.__class__") = some true)
    (os_ : PySem.W.specialIn K (.ref k_OddError) "__getattribute__" = some (some (.builtin "type.__getattribute__")))
    (or_ : PySem.W.readsIn K k_OddError (.type "type") = true)
    (oi_ : PySem.W.findCls K (.ref k_OddError) (.type "type") "__init__" = some (.val (.builtin "ValueError.__init__")))
    {ga_FAR_KINDS : Addr} {god_FAR_KINDS : Option Addr} {gn_FAR_KINDS : Nat} {gsl_FAR_KINDS : Array (Option Value)} {ga_FAR_KINDS_0 : Addr} {god_FAR_KINDS_0 : Option Addr} {gn_FAR_KINDS_0 : Nat} {gsl_FAR_KINDS_0 : Array (Option Value)} {gt_FAR_KINDS_0_0 gt_FAR_KINDS_0_1 : Tok} {ga_FAR_KINDS_1 : Addr} {god_FAR_KINDS_1 : Option Addr} {gn_FAR_KINDS_1 : Nat} {gsl_FAR_KINDS_1 : Array (Option Value)} {gt_FAR_KINDS_1_0 gt_FAR_KINDS_1_1 : Tok}
    (n_FAR_KINDS : PySem.W.nsIn K mainGlobals "FAR_KINDS" = some (some (.ref ga_FAR_KINDS)))
    (gk_FAR_KINDS : K.lookup ga_FAR_KINDS = some ⟨.type "tuple", god_FAR_KINDS, .seq #[.ref ga_FAR_KINDS_0, .ref ga_FAR_KINDS_1] gn_FAR_KINDS, gsl_FAR_KINDS⟩)
    (gk_FAR_KINDS_0 : K.lookup ga_FAR_KINDS_0 = some ⟨.type "tuple", god_FAR_KINDS_0, .seq #[.str (sT [106, 117, 109, 112]) gt_FAR_KINDS_0_0, .str (sT [102, 97, 114, 106, 117, 109, 112]) gt_FAR_KINDS_0_1] gn_FAR_KINDS_0, gsl_FAR_KINDS_0⟩)
    (gk_FAR_KINDS_1 : K.lookup ga_FAR_KINDS_1 = some ⟨.type "tuple", god_FAR_KINDS_1, .seq #[.str (sT [122, 101, 114, 111]) gt_FAR_KINDS_1_0, .str (sT [102, 97, 114, 122, 101, 114, 111]) gt_FAR_KINDS_1_1] gn_FAR_KINDS_1, gsl_FAR_KINDS_1⟩)
    {ga_KINDS_forms : Addr} {god_KINDS_forms : Option Addr} {gn_KINDS_forms : Nat} {gsl_KINDS_forms : Array (Option Value)} {gt_KINDS_forms_0 gt_KINDS_forms_1 gt_KINDS_forms_2 gt_KINDS_forms_3 gt_KINDS_forms_4 gt_KINDS_forms_5 gt_KINDS_forms_6 gt_KINDS_forms_7 gt_KINDS_forms_8 gt_KINDS_forms_9 gt_KINDS_forms_10 : Tok}
    (n_KINDS_forms : PySem.W.nsIn K mainGlobals "KINDS_forms" = some (some (.ref ga_KINDS_forms)))
    (gk_KINDS_forms : K.lookup ga_KINDS_forms = some ⟨.type "tuple", god_KINDS_forms, .seq #[.str (sT [115, 101, 116]) gt_KINDS_forms_0, .str (sT [97, 100, 100]) gt_KINDS_forms_1, .str (sT [116, 97, 107, 101]) gt_KINDS_forms_2, .str (sT [116, 101, 108, 108]) gt_KINDS_forms_3, .str (sT [97, 115, 107]) gt_KINDS_forms_4, .str (sT [106, 117, 109, 112]) gt_KINDS_forms_5, .str (sT [122, 101, 114, 111]) gt_KINDS_forms_6, .str (sT [115, 116, 111, 112]) gt_KINDS_forms_7, .str (sT [102, 97, 114, 106, 117, 109, 112]) gt_KINDS_forms_8, .str (sT [102, 97, 114, 122, 101, 114, 111]) gt_KINDS_forms_9, .str (sT [115, 107, 105, 112]) gt_KINDS_forms_10] gn_KINDS_forms, gsl_KINDS_forms⟩)
    {ga_KINDS_uses : Addr} {god_KINDS_uses : Option Addr} {gn_KINDS_uses : Nat} {gsl_KINDS_uses : Array (Option Value)} {gt_KINDS_uses_0 gt_KINDS_uses_1 gt_KINDS_uses_2 gt_KINDS_uses_3 gt_KINDS_uses_4 gt_KINDS_uses_5 gt_KINDS_uses_6 gt_KINDS_uses_7 gt_KINDS_uses_8 gt_KINDS_uses_9 gt_KINDS_uses_10 : Tok}
    (n_KINDS_uses : PySem.W.nsIn K mainGlobals "KINDS_uses" = some (some (.ref ga_KINDS_uses)))
    (gk_KINDS_uses : K.lookup ga_KINDS_uses = some ⟨.type "tuple", god_KINDS_uses, .seq #[.str (sT [115, 101, 116]) gt_KINDS_uses_0, .str (sT [97, 100, 100]) gt_KINDS_uses_1, .str (sT [116, 97, 107, 101]) gt_KINDS_uses_2, .str (sT [116, 101, 108, 108]) gt_KINDS_uses_3, .str (sT [97, 115, 107]) gt_KINDS_uses_4, .str (sT [106, 117, 109, 112]) gt_KINDS_uses_5, .str (sT [122, 101, 114, 111]) gt_KINDS_uses_6, .str (sT [115, 116, 111, 112]) gt_KINDS_uses_7, .str (sT [102, 97, 114, 106, 117, 109, 112]) gt_KINDS_uses_8, .str (sT [102, 97, 114, 122, 101, 114, 111]) gt_KINDS_uses_9, .str (sT [115, 107, 105, 112]) gt_KINDS_uses_10] gn_KINDS_uses, gsl_KINDS_uses⟩)
    {gt_LEAST_MOST : Tok}
    (n_LEAST_MOST : PySem.W.nsIn K mainGlobals "LEAST_MOST" = some (some (.int 4 gt_LEAST_MOST)))
    {gt_LEAST_NEAR : Tok}
    (n_LEAST_NEAR : PySem.W.nsIn K mainGlobals "LEAST_NEAR" = some (some (.int 2 gt_LEAST_NEAR)))
    {gt_LETTERS : Tok}
    (n_LETTERS : PySem.W.nsIn K mainGlobals "LETTERS" = some (some (.str (sT [97, 98, 99, 100, 101, 102, 103, 104, 105, 106, 107, 108, 109, 110, 111, 112, 113, 114, 115, 116, 117, 118, 119, 120, 121, 122]) gt_LETTERS)))
    {gt_MOST_FAR : Tok}
    (n_MOST_FAR : PySem.W.nsIn K mainGlobals "MOST_FAR" = some (some (.int 16 gt_MOST_FAR)))
    {gt_MOST_LETTERS : Tok}
    (n_MOST_LETTERS : PySem.W.nsIn K mainGlobals "MOST_LETTERS" = some (some (.int 8 gt_MOST_LETTERS)))
    {gt_MOST_NEAR : Tok}
    (n_MOST_NEAR : PySem.W.nsIn K mainGlobals "MOST_NEAR" = some (some (.int 8 gt_MOST_NEAR)))
    {gt_SIGNS : Tok}
    (n_SIGNS : PySem.W.nsIn K mainGlobals "SIGNS" = some (some (.str (sT [48, 49]) gt_SIGNS)))
    {ga_SIZES_forms : Addr} {god_SIZES_forms : Option Addr} {gn_SIZES_forms : Nat} {gsl_SIZES_forms : Array (Option Value)} {gt_SIZES_forms_0 gt_SIZES_forms_1 gt_SIZES_forms_2 gt_SIZES_forms_3 gt_SIZES_forms_4 gt_SIZES_forms_5 gt_SIZES_forms_6 gt_SIZES_forms_7 gt_SIZES_forms_8 : Tok}
    (n_SIZES_forms : PySem.W.nsIn K mainGlobals "SIZES_forms" = some (some (.ref ga_SIZES_forms)))
    (gk_SIZES_forms : K.lookup ga_SIZES_forms = some ⟨.type "tuple", god_SIZES_forms, .seq #[.str (sT [110, 111, 110, 101]) gt_SIZES_forms_0, .str (sT [111, 110, 101]) gt_SIZES_forms_1, .str (sT [116, 119, 111]) gt_SIZES_forms_2, .str (sT [116, 104, 114, 101, 101]) gt_SIZES_forms_3, .str (sT [102, 111, 117, 114]) gt_SIZES_forms_4, .str (sT [102, 105, 118, 101]) gt_SIZES_forms_5, .str (sT [115, 105, 120]) gt_SIZES_forms_6, .str (sT [115, 101, 118, 101, 110]) gt_SIZES_forms_7, .str (sT [101, 105, 103, 104, 116]) gt_SIZES_forms_8] gn_SIZES_forms, gsl_SIZES_forms⟩)
    {ga_SIZES_uses : Addr} {god_SIZES_uses : Option Addr} {gn_SIZES_uses : Nat} {gsl_SIZES_uses : Array (Option Value)} {gt_SIZES_uses_0 gt_SIZES_uses_1 gt_SIZES_uses_2 gt_SIZES_uses_3 gt_SIZES_uses_4 gt_SIZES_uses_5 gt_SIZES_uses_6 gt_SIZES_uses_7 gt_SIZES_uses_8 : Tok}
    (n_SIZES_uses : PySem.W.nsIn K mainGlobals "SIZES_uses" = some (some (.ref ga_SIZES_uses)))
    (gk_SIZES_uses : K.lookup ga_SIZES_uses = some ⟨.type "tuple", god_SIZES_uses, .seq #[.str (sT [110, 111, 110, 101]) gt_SIZES_uses_0, .str (sT [111, 110, 101]) gt_SIZES_uses_1, .str (sT [116, 119, 111]) gt_SIZES_uses_2, .str (sT [116, 104, 114, 101, 101]) gt_SIZES_uses_3, .str (sT [102, 111, 117, 114]) gt_SIZES_uses_4, .str (sT [102, 105, 118, 101]) gt_SIZES_uses_5, .str (sT [115, 105, 120]) gt_SIZES_uses_6, .str (sT [115, 101, 118, 101, 110]) gt_SIZES_uses_7, .str (sT [101, 105, 103, 104, 116]) gt_SIZES_uses_8] gn_SIZES_uses, gsl_SIZES_uses⟩)
    {ga_SPOTS : Addr} {god_SPOTS : Option Addr} {gn_SPOTS : Nat} {gsl_SPOTS : Array (Option Value)} {gt_SPOTS_0 gt_SPOTS_1 gt_SPOTS_2 gt_SPOTS_3 : Tok}
    (n_SPOTS : PySem.W.nsIn K mainGlobals "SPOTS" = some (some (.ref ga_SPOTS)))
    (gk_SPOTS : K.lookup ga_SPOTS = some ⟨.type "tuple", god_SPOTS, .seq #[.str (sT [97]) gt_SPOTS_0, .str (sT [98]) gt_SPOTS_1, .str (sT [99]) gt_SPOTS_2, .str (sT [100]) gt_SPOTS_3] gn_SPOTS, gsl_SPOTS⟩)
    {ga_SPOT_NAMES : Addr} {god_SPOT_NAMES : Option Addr} {gn_SPOT_NAMES : Nat} {gsl_SPOT_NAMES : Array (Option Value)} {gt_SPOT_NAMES_0 gt_SPOT_NAMES_1 gt_SPOT_NAMES_2 gt_SPOT_NAMES_3 : Tok}
    (n_SPOT_NAMES : PySem.W.nsIn K mainGlobals "SPOT_NAMES" = some (some (.ref ga_SPOT_NAMES)))
    (gk_SPOT_NAMES : K.lookup ga_SPOT_NAMES = some ⟨.type "tuple", god_SPOT_NAMES, .seq #[.str (sT [97]) gt_SPOT_NAMES_0, .str (sT [98]) gt_SPOT_NAMES_1, .str (sT [99]) gt_SPOT_NAMES_2, .str (sT [100]) gt_SPOT_NAMES_3] gn_SPOT_NAMES, gsl_SPOT_NAMES⟩)
    {ko_Form : Addr}
    (on_Form : PySem.W.nsIn K mainGlobals "Form" = some (some (.ref ko_Form)))
    (opg_Form : PySem.W.plainGet K ko_Form Str.empty = true)
    (ohd_Form : PySem.W.hasDictIn K ko_Form = true)
    (opo_Form : PySem.W.plainOver K ko_Form = true)
    (osa_Form : PySem.W.findIn K (.ref ko_Form) "__setattr__" = some (some (.builtin "object.__setattr__")))
    (ona_Form_kinds : PySem.W.findIn K (.ref ko_Form) "kinds" = some none)
    (ona_Form_spots : PySem.W.findIn K (.ref ko_Form) "spots" = some none)
    (ona_Form_sizes : PySem.W.findIn K (.ref ko_Form) "sizes" = some none)
    (ona_Form_near : PySem.W.findIn K (.ref ko_Form) "near" = some none)
    (ona_Form_far : PySem.W.findIn K (.ref ko_Form) "far" = some none)
    (omk_Form : PySem.W.makesIn K ko_Form = true)
    (okp_Form : PySem.W.keepIn K (.ref ko_Form) = true)
    {od__law_begin an__law_begin : Option Addr} {sl__law_begin : Array (Option Value)} {oc__law_begin kV__law_begin dc__law_begin pm__law_begin cd__law_begin ct__law_begin : Value}
    (m__law_begin : PySem.W.nsIn K mainGlobals "_law_begin" = some (some (.ref a__law_begin))) (l__law_begin : K.lookup a__law_begin = some ⟨oc__law_begin, od__law_begin, .func (PySem.W.fnOf "_law_begin" "_law_begin" (defArgs s__law_begin) (defBody s__law_begin) (defScope s__law_begin) .none kV__law_begin dc__law_begin pm__law_begin an__law_begin cd__law_begin ct__law_begin), sl__law_begin⟩) (q__law_begin : PySem.W.codeIn K cd__law_begin "_law_begin" = true) (k__law_begin : PySem.W.keepIn K (.ref a__law_begin) = true)
    {od__law_take an__law_take : Option Addr} {sl__law_take : Array (Option Value)} {oc__law_take kV__law_take dc__law_take pm__law_take cd__law_take ct__law_take : Value}
    (m__law_take : PySem.W.nsIn K mainGlobals "_law_take" = some (some (.ref a__law_take))) (l__law_take : K.lookup a__law_take = some ⟨oc__law_take, od__law_take, .func (PySem.W.fnOf "_law_take" "_law_take" (defArgs s__law_take) (defBody s__law_take) (defScope s__law_take) .none kV__law_take dc__law_take pm__law_take an__law_take cd__law_take ct__law_take), sl__law_take⟩) (q__law_take : PySem.W.codeIn K cd__law_take "_law_take" = true) (k__law_take : PySem.W.keepIn K (.ref a__law_take) = true)
    {od__law_number an__law_number : Option Addr} {sl__law_number : Array (Option Value)} {oc__law_number kV__law_number dc__law_number pm__law_number cd__law_number ct__law_number : Value}
    (m__law_number : PySem.W.nsIn K mainGlobals "_law_number" = some (some (.ref a__law_number))) (l__law_number : K.lookup a__law_number = some ⟨oc__law_number, od__law_number, .func (PySem.W.fnOf "_law_number" "_law_number" (defArgs s__law_number) (defBody s__law_number) (defScope s__law_number) .none kV__law_number dc__law_number pm__law_number an__law_number cd__law_number ct__law_number), sl__law_number⟩) (q__law_number : PySem.W.codeIn K cd__law_number "_law_number" = true) (k__law_number : PySem.W.keepIn K (.ref a__law_number) = true)
    {od__law_row an__law_row : Option Addr} {sl__law_row : Array (Option Value)} {oc__law_row kV__law_row dc__law_row pm__law_row cd__law_row ct__law_row : Value}
    (m__law_row : PySem.W.nsIn K mainGlobals "_law_row" = some (some (.ref a__law_row))) (l__law_row : K.lookup a__law_row = some ⟨oc__law_row, od__law_row, .func (PySem.W.fnOf "_law_row" "_law_row" (defArgs s__law_row) (defBody s__law_row) (defScope s__law_row) .none kV__law_row dc__law_row pm__law_row an__law_row cd__law_row ct__law_row), sl__law_row⟩) (q__law_row : PySem.W.codeIn K cd__law_row "_law_row" = true) (k__law_row : PySem.W.keepIn K (.ref a__law_row) = true)
    {od__law_program an__law_program : Option Addr} {sl__law_program : Array (Option Value)} {oc__law_program kV__law_program dc__law_program pm__law_program cd__law_program ct__law_program : Value}
    (m__law_program : PySem.W.nsIn K mainGlobals "_law_program" = some (some (.ref a__law_program))) (l__law_program : K.lookup a__law_program = some ⟨oc__law_program, od__law_program, .func (PySem.W.fnOf "_law_program" "_law_program" (defArgs s__law_program) (defBody s__law_program) (defScope s__law_program) .none kV__law_program dc__law_program pm__law_program an__law_program cd__law_program ct__law_program), sl__law_program⟩) (q__law_program : PySem.W.codeIn K cd__law_program "_law_program" = true) (k__law_program : PySem.W.keepIn K (.ref a__law_program) = true)
    {od_code_of an_code_of : Option Addr} {sl_code_of : Array (Option Value)} {oc_code_of kV_code_of dc_code_of pm_code_of cd_code_of ct_code_of : Value}
    (m_code_of : PySem.W.nsIn K mainGlobals "code_of" = some (some (.ref a_code_of))) (l_code_of : K.lookup a_code_of = some ⟨oc_code_of, od_code_of, .func (PySem.W.fnOf "code_of" "code_of" (defArgs s_code_of) (defBody s_code_of) (defScope s_code_of) .none kV_code_of dc_code_of pm_code_of an_code_of cd_code_of ct_code_of), sl_code_of⟩) (q_code_of : PySem.W.codeIn K cd_code_of "code_of" = true) (k_code_of : PySem.W.keepIn K (.ref a_code_of) = true)
    {od_far_is_shorter an_far_is_shorter : Option Addr} {sl_far_is_shorter : Array (Option Value)} {oc_far_is_shorter kV_far_is_shorter dc_far_is_shorter pm_far_is_shorter cd_far_is_shorter ct_far_is_shorter : Value}
    (m_far_is_shorter : PySem.W.nsIn K mainGlobals "far_is_shorter" = some (some (.ref a_far_is_shorter))) (l_far_is_shorter : K.lookup a_far_is_shorter = some ⟨oc_far_is_shorter, od_far_is_shorter, .func (PySem.W.fnOf "far_is_shorter" "far_is_shorter" (defArgs s_far_is_shorter) (defBody s_far_is_shorter) (defScope s_far_is_shorter) .none kV_far_is_shorter dc_far_is_shorter pm_far_is_shorter an_far_is_shorter cd_far_is_shorter ct_far_is_shorter), sl_far_is_shorter⟩) (q_far_is_shorter : PySem.W.codeIn K cd_far_is_shorter "far_is_shorter" = true) (k_far_is_shorter : PySem.W.keepIn K (.ref a_far_is_shorter) = true)
    {od_is_name an_is_name : Option Addr} {sl_is_name : Array (Option Value)} {oc_is_name kV_is_name dc_is_name pm_is_name cd_is_name ct_is_name : Value}
    (m_is_name : PySem.W.nsIn K mainGlobals "is_name" = some (some (.ref a_is_name))) (l_is_name : K.lookup a_is_name = some ⟨oc_is_name, od_is_name, .func (PySem.W.fnOf "is_name" "is_name" (defArgs s_is_name) (defBody s_is_name) (defScope s_is_name) .none kV_is_name dc_is_name pm_is_name an_is_name cd_is_name ct_is_name), sl_is_name⟩) (q_is_name : PySem.W.codeIn K cd_is_name "is_name" = true) (k_is_name : PySem.W.keepIn K (.ref a_is_name) = true)
    {od_is_signs an_is_signs : Option Addr} {sl_is_signs : Array (Option Value)} {oc_is_signs kV_is_signs dc_is_signs pm_is_signs cd_is_signs ct_is_signs : Value}
    (m_is_signs : PySem.W.nsIn K mainGlobals "is_signs" = some (some (.ref a_is_signs))) (l_is_signs : K.lookup a_is_signs = some ⟨oc_is_signs, od_is_signs, .func (PySem.W.fnOf "is_signs" "is_signs" (defArgs s_is_signs) (defBody s_is_signs) (defScope s_is_signs) .none kV_is_signs dc_is_signs pm_is_signs an_is_signs cd_is_signs ct_is_signs), sl_is_signs⟩) (q_is_signs : PySem.W.codeIn K cd_is_signs "is_signs" = true) (k_is_signs : PySem.W.keepIn K (.ref a_is_signs) = true)
    {od_is_entry an_is_entry : Option Addr} {sl_is_entry : Array (Option Value)} {oc_is_entry kV_is_entry dc_is_entry pm_is_entry cd_is_entry ct_is_entry : Value}
    (m_is_entry : PySem.W.nsIn K mainGlobals "is_entry" = some (some (.ref a_is_entry))) (l_is_entry : K.lookup a_is_entry = some ⟨oc_is_entry, od_is_entry, .func (PySem.W.fnOf "is_entry" "is_entry" (defArgs s_is_entry) (defBody s_is_entry) (defScope s_is_entry) .none kV_is_entry dc_is_entry pm_is_entry an_is_entry cd_is_entry ct_is_entry), sl_is_entry⟩) (q_is_entry : PySem.W.codeIn K cd_is_entry "is_entry" = true) (k_is_entry : PySem.W.keepIn K (.ref a_is_entry) = true)
    {od_is_book an_is_book : Option Addr} {sl_is_book : Array (Option Value)} {oc_is_book kV_is_book dc_is_book pm_is_book cd_is_book ct_is_book : Value}
    (m_is_book : PySem.W.nsIn K mainGlobals "is_book" = some (some (.ref a_is_book))) (l_is_book : K.lookup a_is_book = some ⟨oc_is_book, od_is_book, .func (PySem.W.fnOf "is_book" "is_book" (defArgs s_is_book) (defBody s_is_book) (defScope s_is_book) .none kV_is_book dc_is_book pm_is_book an_is_book cd_is_book ct_is_book), sl_is_book⟩) (q_is_book : PySem.W.codeIn K cd_is_book "is_book" = true) (k_is_book : PySem.W.keepIn K (.ref a_is_book) = true)
    {od_begins an_begins : Option Addr} {sl_begins : Array (Option Value)} {oc_begins kV_begins dc_begins pm_begins cd_begins ct_begins : Value}
    (m_begins : PySem.W.nsIn K mainGlobals "begins" = some (some (.ref a_begins))) (l_begins : K.lookup a_begins = some ⟨oc_begins, od_begins, .func (PySem.W.fnOf "begins" "begins" (defArgs s_begins) (defBody s_begins) (defScope s_begins) .none kV_begins dc_begins pm_begins an_begins cd_begins ct_begins), sl_begins⟩) (q_begins : PySem.W.codeIn K cd_begins "begins" = true) (k_begins : PySem.W.keepIn K (.ref a_begins) = true)
    {od_clash an_clash : Option Addr} {sl_clash : Array (Option Value)} {oc_clash kV_clash dc_clash pm_clash cd_clash ct_clash : Value}
    (m_clash : PySem.W.nsIn K mainGlobals "clash" = some (some (.ref a_clash))) (l_clash : K.lookup a_clash = some ⟨oc_clash, od_clash, .func (PySem.W.fnOf "clash" "clash" (defArgs s_clash) (defBody s_clash) (defScope s_clash) .none kV_clash dc_clash pm_clash an_clash cd_clash ct_clash), sl_clash⟩) (q_clash : PySem.W.codeIn K cd_clash "clash" = true) (k_clash : PySem.W.keepIn K (.ref a_clash) = true)
    {od_free an_free : Option Addr} {sl_free : Array (Option Value)} {oc_free kV_free dc_free pm_free cd_free ct_free : Value}
    (m_free : PySem.W.nsIn K mainGlobals "free" = some (some (.ref a_free))) (l_free : K.lookup a_free = some ⟨oc_free, od_free, .func (PySem.W.fnOf "free" "free" (defArgs s_free) (defBody s_free) (defScope s_free) .none kV_free dc_free pm_free an_free cd_free ct_free), sl_free⟩) (q_free : PySem.W.codeIn K cd_free "free" = true) (k_free : PySem.W.keepIn K (.ref a_free) = true)
    {od_is_book_of an_is_book_of : Option Addr} {sl_is_book_of : Array (Option Value)} {oc_is_book_of kV_is_book_of dc_is_book_of pm_is_book_of cd_is_book_of ct_is_book_of : Value}
    (m_is_book_of : PySem.W.nsIn K mainGlobals "is_book_of" = some (some (.ref a_is_book_of))) (l_is_book_of : K.lookup a_is_book_of = some ⟨oc_is_book_of, od_is_book_of, .func (PySem.W.fnOf "is_book_of" "is_book_of" (defArgs s_is_book_of) (defBody s_is_book_of) (defScope s_is_book_of) .none kV_is_book_of dc_is_book_of pm_is_book_of an_is_book_of cd_is_book_of ct_is_book_of), sl_is_book_of⟩) (q_is_book_of : PySem.W.codeIn K cd_is_book_of "is_book_of" = true) (k_is_book_of : PySem.W.keepIn K (.ref a_is_book_of) = true)
    {od_is_number an_is_number : Option Addr} {sl_is_number : Array (Option Value)} {oc_is_number kV_is_number dc_is_number pm_is_number cd_is_number ct_is_number : Value}
    (m_is_number : PySem.W.nsIn K mainGlobals "is_number" = some (some (.ref a_is_number))) (l_is_number : K.lookup a_is_number = some ⟨oc_is_number, od_is_number, .func (PySem.W.fnOf "is_number" "is_number" (defArgs s_is_number) (defBody s_is_number) (defScope s_is_number) .none kV_is_number dc_is_number pm_is_number an_is_number cd_is_number ct_is_number), sl_is_number⟩) (q_is_number : PySem.W.codeIn K cd_is_number "is_number" = true) (k_is_number : PySem.W.keepIn K (.ref a_is_number) = true)
    {od_Form____init__ an_Form____init__ : Option Addr} {sl_Form____init__ : Array (Option Value)} {oc_Form____init__ kV_Form____init__ dc_Form____init__ pm_Form____init__ cd_Form____init__ ct_Form____init__ : Value}
    (mm_Form____init__ : PySem.W.findIn K (.ref ko_Form) "__init__" = some (some (.ref a_Form____init__)))
    (mf_Form____init__ : PySem.W.isFn K (.ref a_Form____init__) = true)
    (l_Form____init__ : K.lookup a_Form____init__ = some ⟨oc_Form____init__, od_Form____init__, .func (PySem.W.fnOf "__init__" "Form.__init__" (defArgs s_Form____init__) (defBody s_Form____init__) (defScope s_Form____init__) .none kV_Form____init__ dc_Form____init__ pm_Form____init__ an_Form____init__ cd_Form____init__ ct_Form____init__), sl_Form____init__⟩)
    (q_Form____init__ : PySem.W.codeIn K cd_Form____init__ "Form.__init__" = true)
    (k_Form____init__ : PySem.W.keepIn K (.ref a_Form____init__) = true)
    {od_look_room an_look_room : Option Addr} {sl_look_room : Array (Option Value)} {oc_look_room kV_look_room dc_look_room pm_look_room cd_look_room ct_look_room : Value}
    (m_look_room : PySem.W.nsIn K mainGlobals "look_room" = some (some (.ref a_look_room))) (l_look_room : K.lookup a_look_room = some ⟨oc_look_room, od_look_room, .func (PySem.W.fnOf "look_room" "look_room" (defArgs s_look_room) (defBody s_look_room) (defScope s_look_room) .none kV_look_room dc_look_room pm_look_room an_look_room cd_look_room ct_look_room), sl_look_room⟩) (q_look_room : PySem.W.codeIn K cd_look_room "look_room" = true) (k_look_room : PySem.W.keepIn K (.ref a_look_room) = true)
    {od_figures an_figures : Option Addr} {sl_figures : Array (Option Value)} {oc_figures kV_figures dc_figures pm_figures cd_figures ct_figures : Value}
    (m_figures : PySem.W.nsIn K mainGlobals "figures" = some (some (.ref a_figures))) (l_figures : K.lookup a_figures = some ⟨oc_figures, od_figures, .func (PySem.W.fnOf "figures" "figures" (defArgs s_figures) (defBody s_figures) (defScope s_figures) .none kV_figures dc_figures pm_figures an_figures cd_figures ct_figures), sl_figures⟩) (q_figures : PySem.W.codeIn K cd_figures "figures" = true) (k_figures : PySem.W.keepIn K (.ref a_figures) = true)
    {od_codes_by an_codes_by : Option Addr} {sl_codes_by : Array (Option Value)} {oc_codes_by kV_codes_by dc_codes_by pm_codes_by cd_codes_by ct_codes_by : Value}
    (m_codes_by : PySem.W.nsIn K mainGlobals "codes_by" = some (some (.ref a_codes_by))) (l_codes_by : K.lookup a_codes_by = some ⟨oc_codes_by, od_codes_by, .func (PySem.W.fnOf "codes_by" "codes_by" (defArgs s_codes_by) (defBody s_codes_by) (defScope s_codes_by) .none kV_codes_by dc_codes_by pm_codes_by an_codes_by cd_codes_by ct_codes_by), sl_codes_by⟩) (q_codes_by : PySem.W.codeIn K cd_codes_by "codes_by" = true) (k_codes_by : PySem.W.keepIn K (.ref a_codes_by) = true)
    {od_taken an_taken : Option Addr} {sl_taken : Array (Option Value)} {oc_taken kV_taken dc_taken pm_taken cd_taken ct_taken : Value}
    (m_taken : PySem.W.nsIn K mainGlobals "taken" = some (some (.ref a_taken))) (l_taken : K.lookup a_taken = some ⟨oc_taken, od_taken, .func (PySem.W.fnOf "taken" "taken" (defArgs s_taken) (defBody s_taken) (defScope s_taken) .none kV_taken dc_taken pm_taken an_taken cd_taken ct_taken), sl_taken⟩) (q_taken : PySem.W.codeIn K cd_taken "taken" = true) (k_taken : PySem.W.keepIn K (.ref a_taken) = true)
    {od_places_paired an_places_paired : Option Addr} {sl_places_paired : Array (Option Value)} {oc_places_paired kV_places_paired dc_places_paired pm_places_paired cd_places_paired ct_places_paired : Value}
    (m_places_paired : PySem.W.nsIn K mainGlobals "places_paired" = some (some (.ref a_places_paired))) (l_places_paired : K.lookup a_places_paired = some ⟨oc_places_paired, od_places_paired, .func (PySem.W.fnOf "places_paired" "places_paired" (defArgs s_places_paired) (defBody s_places_paired) (defScope s_places_paired) .none kV_places_paired dc_places_paired pm_places_paired an_places_paired cd_places_paired ct_places_paired), sl_places_paired⟩) (q_places_paired : PySem.W.codeIn K cd_places_paired "places_paired" = true) (k_places_paired : PySem.W.keepIn K (.ref a_places_paired) = true)
    {od_lengths_by an_lengths_by : Option Addr} {sl_lengths_by : Array (Option Value)} {oc_lengths_by kV_lengths_by dc_lengths_by pm_lengths_by cd_lengths_by ct_lengths_by : Value}
    (m_lengths_by : PySem.W.nsIn K mainGlobals "lengths_by" = some (some (.ref a_lengths_by))) (l_lengths_by : K.lookup a_lengths_by = some ⟨oc_lengths_by, od_lengths_by, .func (PySem.W.fnOf "lengths_by" "lengths_by" (defArgs s_lengths_by) (defBody s_lengths_by) (defScope s_lengths_by) .none kV_lengths_by dc_lengths_by pm_lengths_by an_lengths_by cd_lengths_by ct_lengths_by), sl_lengths_by⟩) (q_lengths_by : PySem.W.codeIn K cd_lengths_by "lengths_by" = true) (k_lengths_by : PySem.W.keepIn K (.ref a_lengths_by) = true)
    {od_least_book an_least_book : Option Addr} {sl_least_book : Array (Option Value)} {oc_least_book kV_least_book dc_least_book pm_least_book cd_least_book ct_least_book : Value}
    (m_least_book : PySem.W.nsIn K mainGlobals "least_book" = some (some (.ref a_least_book))) (l_least_book : K.lookup a_least_book = some ⟨oc_least_book, od_least_book, .func (PySem.W.fnOf "least_book" "least_book" (defArgs s_least_book) (defBody s_least_book) (defScope s_least_book) .none kV_least_book dc_least_book pm_least_book an_least_book cd_least_book ct_least_book), sl_least_book⟩) (q_least_book : PySem.W.codeIn K cd_least_book "least_book" = true) (k_least_book : PySem.W.keepIn K (.ref a_least_book) = true)
    {od_far_behind an_far_behind : Option Addr} {sl_far_behind : Array (Option Value)} {oc_far_behind kV_far_behind dc_far_behind pm_far_behind cd_far_behind ct_far_behind : Value}
    (m_far_behind : PySem.W.nsIn K mainGlobals "far_behind" = some (some (.ref a_far_behind))) (l_far_behind : K.lookup a_far_behind = some ⟨oc_far_behind, od_far_behind, .func (PySem.W.fnOf "far_behind" "far_behind" (defArgs s_far_behind) (defBody s_far_behind) (defScope s_far_behind) .none kV_far_behind dc_far_behind pm_far_behind an_far_behind cd_far_behind ct_far_behind), sl_far_behind⟩) (q_far_behind : PySem.W.codeIn K cd_far_behind "far_behind" = true) (k_far_behind : PySem.W.keepIn K (.ref a_far_behind) = true)
    {od_counted an_counted : Option Addr} {sl_counted : Array (Option Value)} {oc_counted kV_counted dc_counted pm_counted cd_counted ct_counted : Value}
    (m_counted : PySem.W.nsIn K mainGlobals "counted" = some (some (.ref a_counted))) (l_counted : K.lookup a_counted = some ⟨oc_counted, od_counted, .func (PySem.W.fnOf "counted" "counted" (defArgs s_counted) (defBody s_counted) (defScope s_counted) .none kV_counted dc_counted pm_counted an_counted cd_counted ct_counted), sl_counted⟩) (q_counted : PySem.W.codeIn K cd_counted "counted" = true) (k_counted : PySem.W.keepIn K (.ref a_counted) = true)
    {od_spots_in an_spots_in : Option Addr} {sl_spots_in : Array (Option Value)} {oc_spots_in kV_spots_in dc_spots_in pm_spots_in cd_spots_in ct_spots_in : Value}
    (m_spots_in : PySem.W.nsIn K mainGlobals "spots_in" = some (some (.ref a_spots_in))) (l_spots_in : K.lookup a_spots_in = some ⟨oc_spots_in, od_spots_in, .func (PySem.W.fnOf "spots_in" "spots_in" (defArgs s_spots_in) (defBody s_spots_in) (defScope s_spots_in) .none kV_spots_in dc_spots_in pm_spots_in an_spots_in cd_spots_in ct_spots_in), sl_spots_in⟩) (q_spots_in : PySem.W.codeIn K cd_spots_in "spots_in" = true) (k_spots_in : PySem.W.keepIn K (.ref a_spots_in) = true)
    {od_figures_of an_figures_of : Option Addr} {sl_figures_of : Array (Option Value)} {oc_figures_of kV_figures_of dc_figures_of pm_figures_of cd_figures_of ct_figures_of : Value}
    (m_figures_of : PySem.W.nsIn K mainGlobals "figures_of" = some (some (.ref a_figures_of))) (l_figures_of : K.lookup a_figures_of = some ⟨oc_figures_of, od_figures_of, .func (PySem.W.fnOf "figures_of" "figures_of" (defArgs s_figures_of) (defBody s_figures_of) (defScope s_figures_of) .none kV_figures_of dc_figures_of pm_figures_of an_figures_of cd_figures_of ct_figures_of), sl_figures_of⟩) (q_figures_of : PySem.W.codeIn K cd_figures_of "figures_of" = true) (k_figures_of : PySem.W.keepIn K (.ref a_figures_of) = true)
    {od_uses_of an_uses_of : Option Addr} {sl_uses_of : Array (Option Value)} {oc_uses_of kV_uses_of dc_uses_of pm_uses_of cd_uses_of ct_uses_of : Value}
    (m_uses_of : PySem.W.nsIn K mainGlobals "uses_of" = some (some (.ref a_uses_of))) (l_uses_of : K.lookup a_uses_of = some ⟨oc_uses_of, od_uses_of, .func (PySem.W.fnOf "uses_of" "uses_of" (defArgs s_uses_of) (defBody s_uses_of) (defScope s_uses_of) .none kV_uses_of dc_uses_of pm_uses_of an_uses_of cd_uses_of ct_uses_of), sl_uses_of⟩) (q_uses_of : PySem.W.codeIn K cd_uses_of "uses_of" = true) (k_uses_of : PySem.W.keepIn K (.ref a_uses_of) = true)
    {od_least_form an_least_form : Option Addr} {sl_least_form : Array (Option Value)} {oc_least_form kV_least_form dc_least_form pm_least_form cd_least_form ct_least_form : Value}
    (m_least_form : PySem.W.nsIn K mainGlobals "least_form" = some (some (.ref a_least_form))) (l_least_form : K.lookup a_least_form = some ⟨oc_least_form, od_least_form, .func (PySem.W.fnOf "least_form" "least_form" (defArgs s_least_form) (defBody s_least_form) (defScope s_least_form) .none kV_least_form dc_least_form pm_least_form an_least_form cd_least_form ct_least_form), sl_least_form⟩) (q_least_form : PySem.W.codeIn K cd_least_form "least_form" = true) (k_least_form : PySem.W.keepIn K (.ref a_least_form) = true)
    {od__law_class an__law_class : Option Addr} {sl__law_class : Array (Option Value)} {oc__law_class kV__law_class dc__law_class pm__law_class cd__law_class ct__law_class : Value}
    (m__law_class : PySem.W.nsIn K mainGlobals "_law_class" = some (some (.ref a__law_class))) (l__law_class : K.lookup a__law_class = some ⟨oc__law_class, od__law_class, .func (PySem.W.fnOf "_law_class" "_law_class" (defArgs s__law_class) (defBody s__law_class) (defScope s__law_class) .none kV__law_class dc__law_class pm__law_class an__law_class cd__law_class ct__law_class), sl__law_class⟩) (q__law_class : PySem.W.codeIn K cd__law_class "_law_class" = true) (k__law_class : PySem.W.keepIn K (.ref a__law_class) = true)
    {od__law_parts_of an__law_parts_of : Option Addr} {sl__law_parts_of : Array (Option Value)} {oc__law_parts_of kV__law_parts_of dc__law_parts_of pm__law_parts_of cd__law_parts_of ct__law_parts_of : Value}
    (m__law_parts_of : PySem.W.nsIn K mainGlobals "_law_parts_of" = some (some (.ref a__law_parts_of))) (l__law_parts_of : K.lookup a__law_parts_of = some ⟨oc__law_parts_of, od__law_parts_of, .func (PySem.W.fnOf "_law_parts_of" "_law_parts_of" (defArgs s__law_parts_of) (defBody s__law_parts_of) (defScope s__law_parts_of) .none kV__law_parts_of dc__law_parts_of pm__law_parts_of an__law_parts_of cd__law_parts_of ct__law_parts_of), sl__law_parts_of⟩) (q__law_parts_of : PySem.W.codeIn K cd__law_parts_of "_law_parts_of" = true) (k__law_parts_of : PySem.W.keepIn K (.ref a__law_parts_of) = true)
    {od__law_told an__law_told : Option Addr} {sl__law_told : Array (Option Value)} {oc__law_told kV__law_told dc__law_told pm__law_told cd__law_told ct__law_told : Value}
    (m__law_told : PySem.W.nsIn K mainGlobals "_law_told" = some (some (.ref a__law_told))) (l__law_told : K.lookup a__law_told = some ⟨oc__law_told, od__law_told, .func (PySem.W.fnOf "_law_told" "_law_told" (defArgs s__law_told) (defBody s__law_told) (defScope s__law_told) .none kV__law_told dc__law_told pm__law_told an__law_told cd__law_told ct__law_told), sl__law_told⟩) (q__law_told : PySem.W.codeIn K cd__law_told "_law_told" = true) (k__law_told : PySem.W.keepIn K (.ref a__law_told) = true)
    {od__law_many an__law_many : Option Addr} {sl__law_many : Array (Option Value)} {oc__law_many kV__law_many dc__law_many pm__law_many cd__law_many ct__law_many : Value}
    (m__law_many : PySem.W.nsIn K mainGlobals "_law_many" = some (some (.ref a__law_many))) (l__law_many : K.lookup a__law_many = some ⟨oc__law_many, od__law_many, .func (PySem.W.fnOf "_law_many" "_law_many" (defArgs s__law_many) (defBody s__law_many) (defScope s__law_many) .none kV__law_many dc__law_many pm__law_many an__law_many cd__law_many ct__law_many), sl__law_many⟩) (q__law_many : PySem.W.codeIn K cd__law_many "_law_many" = true) (k__law_many : PySem.W.keepIn K (.ref a__law_many) = true)
    {od__law_odd_number an__law_odd_number : Option Addr} {sl__law_odd_number : Array (Option Value)} {oc__law_odd_number kV__law_odd_number dc__law_odd_number pm__law_odd_number cd__law_odd_number ct__law_odd_number : Value}
    (m__law_odd_number : PySem.W.nsIn K mainGlobals "_law_odd_number" = some (some (.ref a__law_odd_number))) (l__law_odd_number : K.lookup a__law_odd_number = some ⟨oc__law_odd_number, od__law_odd_number, .func (PySem.W.fnOf "_law_odd_number" "_law_odd_number" (defArgs s__law_odd_number) (defBody s__law_odd_number) (defScope s__law_odd_number) .none kV__law_odd_number dc__law_odd_number pm__law_odd_number an__law_odd_number cd__law_odd_number ct__law_odd_number), sl__law_odd_number⟩) (q__law_odd_number : PySem.W.codeIn K cd__law_odd_number "_law_odd_number" = true) (k__law_odd_number : PySem.W.keepIn K (.ref a__law_odd_number) = true)
    {od__law_due an__law_due : Option Addr} {sl__law_due : Array (Option Value)} {oc__law_due kV__law_due dc__law_due pm__law_due cd__law_due ct__law_due : Value}
    (m__law_due : PySem.W.nsIn K mainGlobals "_law_due" = some (some (.ref a__law_due))) (l__law_due : K.lookup a__law_due = some ⟨oc__law_due, od__law_due, .func (PySem.W.fnOf "_law_due" "_law_due" (defArgs s__law_due) (defBody s__law_due) (defScope s__law_due) .none kV__law_due dc__law_due pm__law_due an__law_due cd__law_due ct__law_due), sl__law_due⟩) (q__law_due : PySem.W.codeIn K cd__law_due "_law_due" = true) (k__law_due : PySem.W.keepIn K (.ref a__law_due) = true)
    {od__law_same an__law_same : Option Addr} {sl__law_same : Array (Option Value)} {oc__law_same kV__law_same dc__law_same pm__law_same cd__law_same ct__law_same : Value}
    (m__law_same : PySem.W.nsIn K mainGlobals "_law_same" = some (some (.ref a__law_same))) (l__law_same : K.lookup a__law_same = some ⟨oc__law_same, od__law_same, .func (PySem.W.fnOf "_law_same" "_law_same" (defArgs s__law_same) (defBody s__law_same) (defScope s__law_same) .none kV__law_same dc__law_same pm__law_same an__law_same cd__law_same ct__law_same), sl__law_same⟩) (q__law_same : PySem.W.codeIn K cd__law_same "_law_same" = true) (k__law_same : PySem.W.keepIn K (.ref a__law_same) = true)
    {od_law an_law : Option Addr} {sl_law : Array (Option Value)} {oc_law kV_law dc_law pm_law cd_law ct_law : Value}
    (m_law : PySem.W.nsIn K mainGlobals "law" = some (some (.ref a_law))) (l_law : K.lookup a_law = some ⟨oc_law, od_law, .func (PySem.W.fnOf "law" "law" (defArgs s_law) (defBody s_law) (defScope s_law) .none kV_law dc_law pm_law an_law cd_law ct_law), sl_law⟩) (q_law : PySem.W.codeIn K cd_law "law" = true) (k_law : PySem.W.keepIn K (.ref a_law) = true)
    (z_ValueError : PySem.W.nsIn K mainGlobals "ValueError" = some none) (z_all : PySem.W.nsIn K mainGlobals "all" = some none) (z_bool : PySem.W.nsIn K mainGlobals "bool" = some none) (z_dict : PySem.W.nsIn K mainGlobals "dict" = some none) (z_divmod : PySem.W.nsIn K mainGlobals "divmod" = some none) (z_enumerate : PySem.W.nsIn K mainGlobals "enumerate" = some none) (z_int : PySem.W.nsIn K mainGlobals "int" = some none) (z_isinstance : PySem.W.nsIn K mainGlobals "isinstance" = some none) (z_len : PySem.W.nsIn K mainGlobals "len" = some none) (z_list : PySem.W.nsIn K mainGlobals "list" = some none) (z_max : PySem.W.nsIn K mainGlobals "max" = some none) (z_range : PySem.W.nsIn K mainGlobals "range" = some none) (z_set : PySem.W.nsIn K mainGlobals "set" = some none) (z_sorted : PySem.W.nsIn K mainGlobals "sorted" = some none) (z_str : PySem.W.nsIn K mainGlobals "str" = some none) (z_tuple : PySem.W.nsIn K mainGlobals "tuple" = some none) (z_zip : PySem.W.nsIn K mainGlobals "zip" = some none)
    (hlaw : ∀ ns : List Int, ns.length ≤ 63 → ∃ os, f_law [.sh (.rol (ns.map .int))] = .ok (.sh (.bl true)) os) :
    ∃ fd : FuncData, (∀ (s : Shared) (v : Value), BindsTo s fd ⟨[v], []⟩ [("_law_script", v)]) ∧ ∀ base : Heap, K.In base → base.Ns mainGlobals mg → FnG l.prog w K mg base (L2.CX l.prog w) 72 fa fd ["_law_script"] (spLaw K) := by
  have e := hfa.symm.trans (PySem.W.mg_of X G m_law)
  cases e
  have F__law_begin := fun_mk (st := s__law_begin) l__law_begin q__law_begin k__law_begin
  have b__law_begin := F__law_begin.binds (ps := ["_law_script"]) fun _ _ _ _ _ _ us hl => match us, hl with | [_], _ => rfl
  have F__law_take := fun_mk (st := s__law_take) l__law_take q__law_take k__law_take
  have b__law_take := F__law_take.binds (ps := ["_law_box", "_law_many_here"]) fun _ _ _ _ _ _ us hl => match us, hl with | [_, _], _ => rfl
  have F__law_number := fun_mk (st := s__law_number) l__law_number q__law_number k__law_number
  have b__law_number := F__law_number.binds (ps := ["_law_box"]) fun _ _ _ _ _ _ us hl => match us, hl with | [_], _ => rfl
  have F__law_row := fun_mk (st := s__law_row) l__law_row q__law_row k__law_row
  have b__law_row := F__law_row.binds (ps := ["_law_box", "_law_many_here"]) fun _ _ _ _ _ _ us hl => match us, hl with | [_, _], _ => rfl
  have F__law_program := fun_mk (st := s__law_program) l__law_program q__law_program k__law_program
  have b__law_program := F__law_program.binds (ps := ["_law_box", "_law_many_here"]) fun _ _ _ _ _ _ us hl => match us, hl with | [_, _], _ => rfl
  have F_code_of := fun_mk (st := s_code_of) l_code_of q_code_of k_code_of
  have b_code_of := F_code_of.binds (ps := ["book", "name"]) fun _ _ _ _ _ _ us hl => match us, hl with | [_, _], _ => rfl
  have F_far_is_shorter := fun_mk (st := s_far_is_shorter) l_far_is_shorter q_far_is_shorter k_far_is_shorter
  have b_far_is_shorter := F_far_is_shorter.binds (ps := ["kinds", "near", "far"]) fun _ _ _ _ _ _ us hl => match us, hl with | [_, _, _], _ => rfl
  have F_is_name := fun_mk (st := s_is_name) l_is_name q_is_name k_is_name
  have b_is_name := F_is_name.binds (ps := ["thing"]) fun _ _ _ _ _ _ us hl => match us, hl with | [_], _ => rfl
  have F_is_signs := fun_mk (st := s_is_signs) l_is_signs q_is_signs k_is_signs
  have b_is_signs := F_is_signs.binds (ps := ["thing"]) fun _ _ _ _ _ _ us hl => match us, hl with | [_], _ => rfl
  have F_is_entry := fun_mk (st := s_is_entry) l_is_entry q_is_entry k_is_entry
  have b_is_entry := F_is_entry.binds (ps := ["thing"]) fun _ _ _ _ _ _ us hl => match us, hl with | [_], _ => rfl
  have F_is_book := fun_mk (st := s_is_book) l_is_book q_is_book k_is_book
  have b_is_book := F_is_book.binds (ps := ["thing"]) fun _ _ _ _ _ _ us hl => match us, hl with | [_], _ => rfl
  have F_begins := fun_mk (st := s_begins) l_begins q_begins k_begins
  have b_begins := F_begins.binds (ps := ["one", "other"]) fun _ _ _ _ _ _ us hl => match us, hl with | [_, _], _ => rfl
  have F_clash := fun_mk (st := s_clash) l_clash q_clash k_clash
  have b_clash := F_clash.binds (ps := ["book"]) fun _ _ _ _ _ _ us hl => match us, hl with | [_], _ => rfl
  have F_free := fun_mk (st := s_free) l_free q_free k_free
  have b_free := F_free.binds (ps := ["book"]) fun _ _ _ _ _ _ us hl => match us, hl with | [_], _ => rfl
  have F_is_book_of := fun_mk (st := s_is_book_of) l_is_book_of q_is_book_of k_is_book_of
  have b_is_book_of := F_is_book_of.binds (ps := ["thing", "names"]) fun _ _ _ _ _ _ us hl => match us, hl with | [_, _], _ => rfl
  have F_is_number := fun_mk (st := s_is_number) l_is_number q_is_number k_is_number
  have b_is_number := F_is_number.binds (ps := ["thing"]) fun _ _ _ _ _ _ us hl => match us, hl with | [_], _ => rfl
  have F_Form____init__ := fun_mk (st := s_Form____init__) l_Form____init__ q_Form____init__ k_Form____init__
  have b_Form____init__ := F_Form____init__.binds (ps := ["self", "kinds", "spots", "sizes", "near", "far"]) fun _ _ _ _ _ _ us hl => match us, hl with | [_, _, _, _, _, _], _ => rfl
  have F_look_room := fun_mk (st := s_look_room) l_look_room q_look_room k_look_room
  have b_look_room := F_look_room.binds (ps := ["uses", "most"]) fun _ _ _ _ _ _ us hl => match us, hl with | [_, _], _ => rfl
  have F_figures := fun_mk (st := s_figures) l_figures q_figures k_figures
  have b_figures := F_figures.binds (ps := ["number", "many"]) fun _ _ _ _ _ _ us hl => match us, hl with | [_, _], _ => rfl
  have F_codes_by := fun_mk (st := s_codes_by) l_codes_by q_codes_by k_codes_by
  have b_codes_by := F_codes_by.binds (ps := ["lengths"]) fun _ _ _ _ _ _ us hl => match us, hl with | [_], _ => rfl
  have F_taken := fun_mk (st := s_taken) l_taken q_taken k_taken
  have b_taken := F_taken.binds (ps := ["uses"]) fun _ _ _ _ _ _ us hl => match us, hl with | [_], _ => rfl
  have F_places_paired := fun_mk (st := s_places_paired) l_places_paired q_places_paired k_places_paired
  have b_places_paired := F_places_paired.binds (ps := ["row"]) fun _ _ _ _ _ _ us hl => match us, hl with | [_], _ => rfl
  have F_lengths_by := fun_mk (st := s_lengths_by) l_lengths_by q_lengths_by k_lengths_by
  have b_lengths_by := F_lengths_by.binds (ps := ["uses", "most"]) fun _ _ _ _ _ _ us hl => match us, hl with | [_, _], _ => rfl
  have F_least_book := fun_mk (st := s_least_book) l_least_book q_least_book k_least_book
  have b_least_book := F_least_book.binds (ps := ["uses", "most"]) fun _ _ _ _ _ _ us hl => match us, hl with | [_, _], _ => rfl
  have F_far_behind := fun_mk (st := s_far_behind) l_far_behind q_far_behind k_far_behind
  have b_far_behind := F_far_behind.binds (ps := ["book"]) fun _ _ _ _ _ _ us hl => match us, hl with | [_], _ => rfl
  have F_counted := fun_mk (st := s_counted) l_counted q_counted k_counted
  have b_counted := F_counted.binds (ps := ["names", "some"]) fun _ _ _ _ _ _ us hl => match us, hl with | [_, _], _ => rfl
  have F_spots_in := fun_mk (st := s_spots_in) l_spots_in q_spots_in k_spots_in
  have b_spots_in := F_spots_in.binds (ps := ["row"]) fun _ _ _ _ _ _ us hl => match us, hl with | [_], _ => rfl
  have F_figures_of := fun_mk (st := s_figures_of) l_figures_of q_figures_of k_figures_of
  have b_figures_of := F_figures_of.binds (ps := ["number"]) fun _ _ _ _ _ _ us hl => match us, hl with | [_], _ => rfl
  have F_uses_of := fun_mk (st := s_uses_of) l_uses_of q_uses_of k_uses_of
  have b_uses_of := F_uses_of.binds (ps := ["program"]) fun _ _ _ _ _ _ us hl => match us, hl with | [_], _ => rfl
  have F_least_form := fun_mk (st := s_least_form) l_least_form q_least_form k_least_form
  have b_least_form := F_least_form.binds (ps := ["program", "most", "near", "far"]) fun _ _ _ _ _ _ us hl => match us, hl with | [_, _, _, _], _ => rfl
  have F__law_class := fun_mk (st := s__law_class) l__law_class q__law_class k__law_class
  have b__law_class := F__law_class.binds (ps := ["_law_caught"]) fun _ _ _ _ _ _ us hl => match us, hl with | [_], _ => rfl
  have F__law_parts_of := fun_mk (st := s__law_parts_of) l__law_parts_of q__law_parts_of k__law_parts_of
  have b__law_parts_of := F__law_parts_of.binds (ps := ["_law_form"]) fun _ _ _ _ _ _ us hl => match us, hl with | [_], _ => rfl
  have F__law_told := fun_mk (st := s__law_told) l__law_told q__law_told k__law_told
  have b__law_told := F__law_told.binds (ps := ["_law_program_here", "_law_most", "_law_near", "_law_far"]) fun _ _ _ _ _ _ us hl => match us, hl with | [_, _, _, _], _ => rfl
  have F__law_many := fun_mk (st := s__law_many) l__law_many q__law_many k__law_many
  have b__law_many := F__law_many.binds (ps := ["_law_box"]) fun _ _ _ _ _ _ us hl => match us, hl with | [_], _ => rfl
  have F__law_odd_number := fun_mk (st := s__law_odd_number) l__law_odd_number q__law_odd_number k__law_odd_number
  have b__law_odd_number := F__law_odd_number.binds (ps := ["_law_box", "_law_least", "_law_greatest"]) fun _ _ _ _ _ _ us hl => match us, hl with | [_, _, _], _ => rfl
  have F__law_due := fun_mk (st := s__law_due) l__law_due q__law_due k__law_due
  have b__law_due := F__law_due.binds (ps := ["_law_most", "_law_near", "_law_far"]) fun _ _ _ _ _ _ us hl => match us, hl with | [_, _, _], _ => rfl
  have F__law_same := fun_mk (st := s__law_same) l__law_same q__law_same k__law_same
  have b__law_same := F__law_same.binds (ps := ["_law_found", "_law_due_here"]) fun _ _ _ _ _ _ us hl => match us, hl with | [_, _], _ => rfl
  have F_law := fun_mk (st := s_law) l_law q_law k_law
  have b_law := F_law.binds (ps := ["_law_script"]) fun _ _ _ _ _ _ us hl => match us, hl with | [_], _ => rfl
  refine ⟨PySem.W.fnOf "law" "law" (defArgs s_law) (defBody s_law) (defScope s_law) .none kV_law dc_law pm_law an_law cd_law ct_law, fun s v => .of_eq rfl, fun base _ _ => ?_⟩
  have lc_Form : Cls K ko_Form := ⟨opg_Form, ohd_Form, opo_Form, osa_Form⟩
  have I_Form : ClsI K mg [70, 111, 114, 109] [[107, 105, 110, 100, 115], [115, 112, 111, 116, 115], [115, 105, 122, 101, 115], [110, 101, 97, 114], [102, 97, 114]] := ⟨_, on_Form, PySem.W.mg_of X G on_Form, lc_Form, (List.forall_mem_cons.mpr ⟨ona_Form_kinds, (List.forall_mem_cons.mpr ⟨ona_Form_spots, (List.forall_mem_cons.mpr ⟨ona_Form_sizes, (List.forall_mem_cons.mpr ⟨ona_Form_near, (List.forall_mem_cons.mpr ⟨ona_Form_far, (fun _ h => nomatch h)⟩)⟩)⟩)⟩)⟩)⟩
  have y_ValueError := PySem.W.mg_none_of X G z_ValueError
  have y_all := PySem.W.mg_none_of X G z_all
  have y_bool := PySem.W.mg_none_of X G z_bool
  have y_dict := PySem.W.mg_none_of X G z_dict
  have y_divmod := PySem.W.mg_none_of X G z_divmod
  have y_enumerate := PySem.W.mg_none_of X G z_enumerate
  have y_int := PySem.W.mg_none_of X G z_int
  have y_isinstance := PySem.W.mg_none_of X G z_isinstance
  have y_len := PySem.W.mg_none_of X G z_len
  have y_list := PySem.W.mg_none_of X G z_list
  have y_max := PySem.W.mg_none_of X G z_max
  have y_range := PySem.W.mg_none_of X G z_range
  have y_set := PySem.W.mg_none_of X G z_set
  have y_sorted := PySem.W.mg_none_of X G z_sorted
  have y_str := PySem.W.mg_none_of X G z_str
  have y_tuple := PySem.W.mg_none_of X G z_tuple
  have y_zip := PySem.W.mg_none_of X G z_zip
  have G_FAR_KINDS : GlD K mg "FAR_KINDS" (.tup [.tup [.str [106, 117, 109, 112], .str [102, 97, 114, 106, 117, 109, 112]], .tup [.str [122, 101, 114, 111], .str [102, 97, 114, 122, 101, 114, 111]]]) := gl_tupT (vs := [.ref ga_FAR_KINDS_0, .ref ga_FAR_KINDS_1]) (its := [.ref ga_FAR_KINDS_0, .ref ga_FAR_KINDS_1]) (PySem.W.mg_of X G n_FAR_KINDS) gk_FAR_KINDS rfl rfl (by simp only [List.length_cons, List.length_nil]; decide) (.cons rfl (.cons rfl .nil)) (fun P => (DenL.cons (den_ktup (ss := [[106, 117, 109, 112], [102, 97, 114, 106, 117, 109, 112]]) (its := [.str (sT [106, 117, 109, 112]) gt_FAR_KINDS_0_0, .str (sT [102, 97, 114, 106, 117, 109, 112]) gt_FAR_KINDS_0_1]) gk_FAR_KINDS_0 rfl rfl (by simp only [List.length_cons, List.length_nil]; decide) (.cons ⟨_, rfl⟩ (.cons ⟨_, rfl⟩ .nil)) P) (DenL.cons (den_ktup (ss := [[122, 101, 114, 111], [102, 97, 114, 122, 101, 114, 111]]) (its := [.str (sT [122, 101, 114, 111]) gt_FAR_KINDS_1_0, .str (sT [102, 97, 114, 122, 101, 114, 111]) gt_FAR_KINDS_1_1]) gk_FAR_KINDS_1 rfl rfl (by simp only [List.length_cons, List.length_nil]; decide) (.cons ⟨_, rfl⟩ (.cons ⟨_, rfl⟩ .nil)) P) DenL.nil)))
  have G_KINDS_forms : GlD K mg "KINDS_forms" (.tup [.str [115, 101, 116], .str [97, 100, 100], .str [116, 97, 107, 101], .str [116, 101, 108, 108], .str [97, 115, 107], .str [106, 117, 109, 112], .str [122, 101, 114, 111], .str [115, 116, 111, 112], .str [102, 97, 114, 106, 117, 109, 112], .str [102, 97, 114, 122, 101, 114, 111], .str [115, 107, 105, 112]]) := gl_tup (ss := [[115, 101, 116], [97, 100, 100], [116, 97, 107, 101], [116, 101, 108, 108], [97, 115, 107], [106, 117, 109, 112], [122, 101, 114, 111], [115, 116, 111, 112], [102, 97, 114, 106, 117, 109, 112], [102, 97, 114, 122, 101, 114, 111], [115, 107, 105, 112]]) (its := [.str (sT [115, 101, 116]) gt_KINDS_forms_0, .str (sT [97, 100, 100]) gt_KINDS_forms_1, .str (sT [116, 97, 107, 101]) gt_KINDS_forms_2, .str (sT [116, 101, 108, 108]) gt_KINDS_forms_3, .str (sT [97, 115, 107]) gt_KINDS_forms_4, .str (sT [106, 117, 109, 112]) gt_KINDS_forms_5, .str (sT [122, 101, 114, 111]) gt_KINDS_forms_6, .str (sT [115, 116, 111, 112]) gt_KINDS_forms_7, .str (sT [102, 97, 114, 106, 117, 109, 112]) gt_KINDS_forms_8, .str (sT [102, 97, 114, 122, 101, 114, 111]) gt_KINDS_forms_9, .str (sT [115, 107, 105, 112]) gt_KINDS_forms_10]) (PySem.W.mg_of X G n_KINDS_forms) gk_KINDS_forms rfl rfl (by simp only [List.length_cons, List.length_nil]; decide) (.cons ⟨_, rfl⟩ (.cons ⟨_, rfl⟩ (.cons ⟨_, rfl⟩ (.cons ⟨_, rfl⟩ (.cons ⟨_, rfl⟩ (.cons ⟨_, rfl⟩ (.cons ⟨_, rfl⟩ (.cons ⟨_, rfl⟩ (.cons ⟨_, rfl⟩ (.cons ⟨_, rfl⟩ (.cons ⟨_, rfl⟩ .nil)))))))))))
  have G_KINDS_uses : GlD K mg "KINDS_uses" (.tup [.str [115, 101, 116], .str [97, 100, 100], .str [116, 97, 107, 101], .str [116, 101, 108, 108], .str [97, 115, 107], .str [106, 117, 109, 112], .str [122, 101, 114, 111], .str [115, 116, 111, 112], .str [102, 97, 114, 106, 117, 109, 112], .str [102, 97, 114, 122, 101, 114, 111], .str [115, 107, 105, 112]]) := gl_tup (ss := [[115, 101, 116], [97, 100, 100], [116, 97, 107, 101], [116, 101, 108, 108], [97, 115, 107], [106, 117, 109, 112], [122, 101, 114, 111], [115, 116, 111, 112], [102, 97, 114, 106, 117, 109, 112], [102, 97, 114, 122, 101, 114, 111], [115, 107, 105, 112]]) (its := [.str (sT [115, 101, 116]) gt_KINDS_uses_0, .str (sT [97, 100, 100]) gt_KINDS_uses_1, .str (sT [116, 97, 107, 101]) gt_KINDS_uses_2, .str (sT [116, 101, 108, 108]) gt_KINDS_uses_3, .str (sT [97, 115, 107]) gt_KINDS_uses_4, .str (sT [106, 117, 109, 112]) gt_KINDS_uses_5, .str (sT [122, 101, 114, 111]) gt_KINDS_uses_6, .str (sT [115, 116, 111, 112]) gt_KINDS_uses_7, .str (sT [102, 97, 114, 106, 117, 109, 112]) gt_KINDS_uses_8, .str (sT [102, 97, 114, 122, 101, 114, 111]) gt_KINDS_uses_9, .str (sT [115, 107, 105, 112]) gt_KINDS_uses_10]) (PySem.W.mg_of X G n_KINDS_uses) gk_KINDS_uses rfl rfl (by simp only [List.length_cons, List.length_nil]; decide) (.cons ⟨_, rfl⟩ (.cons ⟨_, rfl⟩ (.cons ⟨_, rfl⟩ (.cons ⟨_, rfl⟩ (.cons ⟨_, rfl⟩ (.cons ⟨_, rfl⟩ (.cons ⟨_, rfl⟩ (.cons ⟨_, rfl⟩ (.cons ⟨_, rfl⟩ (.cons ⟨_, rfl⟩ (.cons ⟨_, rfl⟩ .nil)))))))))))
  have G_LEAST_MOST : GlD K mg "LEAST_MOST" (.int 4) := gl_int (PySem.W.mg_of X G n_LEAST_MOST)
  have G_LEAST_NEAR : GlD K mg "LEAST_NEAR" (.int 2) := gl_int (PySem.W.mg_of X G n_LEAST_NEAR)
  have G_LETTERS : GlD K mg "LETTERS" (.str [97, 98, 99, 100, 101, 102, 103, 104, 105, 106, 107, 108, 109, 110, 111, 112, 113, 114, 115, 116, 117, 118, 119, 120, 121, 122]) := gl_str (PySem.W.mg_of X G n_LETTERS)
  have G_MOST_FAR : GlD K mg "MOST_FAR" (.int 16) := gl_int (PySem.W.mg_of X G n_MOST_FAR)
  have G_MOST_LETTERS : GlD K mg "MOST_LETTERS" (.int 8) := gl_int (PySem.W.mg_of X G n_MOST_LETTERS)
  have G_MOST_NEAR : GlD K mg "MOST_NEAR" (.int 8) := gl_int (PySem.W.mg_of X G n_MOST_NEAR)
  have G_SIGNS : GlD K mg "SIGNS" (.str [48, 49]) := gl_str (PySem.W.mg_of X G n_SIGNS)
  have G_SIZES_forms : GlD K mg "SIZES_forms" (.tup [.str [110, 111, 110, 101], .str [111, 110, 101], .str [116, 119, 111], .str [116, 104, 114, 101, 101], .str [102, 111, 117, 114], .str [102, 105, 118, 101], .str [115, 105, 120], .str [115, 101, 118, 101, 110], .str [101, 105, 103, 104, 116]]) := gl_tup (ss := [[110, 111, 110, 101], [111, 110, 101], [116, 119, 111], [116, 104, 114, 101, 101], [102, 111, 117, 114], [102, 105, 118, 101], [115, 105, 120], [115, 101, 118, 101, 110], [101, 105, 103, 104, 116]]) (its := [.str (sT [110, 111, 110, 101]) gt_SIZES_forms_0, .str (sT [111, 110, 101]) gt_SIZES_forms_1, .str (sT [116, 119, 111]) gt_SIZES_forms_2, .str (sT [116, 104, 114, 101, 101]) gt_SIZES_forms_3, .str (sT [102, 111, 117, 114]) gt_SIZES_forms_4, .str (sT [102, 105, 118, 101]) gt_SIZES_forms_5, .str (sT [115, 105, 120]) gt_SIZES_forms_6, .str (sT [115, 101, 118, 101, 110]) gt_SIZES_forms_7, .str (sT [101, 105, 103, 104, 116]) gt_SIZES_forms_8]) (PySem.W.mg_of X G n_SIZES_forms) gk_SIZES_forms rfl rfl (by simp only [List.length_cons, List.length_nil]; decide) (.cons ⟨_, rfl⟩ (.cons ⟨_, rfl⟩ (.cons ⟨_, rfl⟩ (.cons ⟨_, rfl⟩ (.cons ⟨_, rfl⟩ (.cons ⟨_, rfl⟩ (.cons ⟨_, rfl⟩ (.cons ⟨_, rfl⟩ (.cons ⟨_, rfl⟩ .nil)))))))))
  have G_SIZES_uses : GlD K mg "SIZES_uses" (.tup [.str [110, 111, 110, 101], .str [111, 110, 101], .str [116, 119, 111], .str [116, 104, 114, 101, 101], .str [102, 111, 117, 114], .str [102, 105, 118, 101], .str [115, 105, 120], .str [115, 101, 118, 101, 110], .str [101, 105, 103, 104, 116]]) := gl_tup (ss := [[110, 111, 110, 101], [111, 110, 101], [116, 119, 111], [116, 104, 114, 101, 101], [102, 111, 117, 114], [102, 105, 118, 101], [115, 105, 120], [115, 101, 118, 101, 110], [101, 105, 103, 104, 116]]) (its := [.str (sT [110, 111, 110, 101]) gt_SIZES_uses_0, .str (sT [111, 110, 101]) gt_SIZES_uses_1, .str (sT [116, 119, 111]) gt_SIZES_uses_2, .str (sT [116, 104, 114, 101, 101]) gt_SIZES_uses_3, .str (sT [102, 111, 117, 114]) gt_SIZES_uses_4, .str (sT [102, 105, 118, 101]) gt_SIZES_uses_5, .str (sT [115, 105, 120]) gt_SIZES_uses_6, .str (sT [115, 101, 118, 101, 110]) gt_SIZES_uses_7, .str (sT [101, 105, 103, 104, 116]) gt_SIZES_uses_8]) (PySem.W.mg_of X G n_SIZES_uses) gk_SIZES_uses rfl rfl (by simp only [List.length_cons, List.length_nil]; decide) (.cons ⟨_, rfl⟩ (.cons ⟨_, rfl⟩ (.cons ⟨_, rfl⟩ (.cons ⟨_, rfl⟩ (.cons ⟨_, rfl⟩ (.cons ⟨_, rfl⟩ (.cons ⟨_, rfl⟩ (.cons ⟨_, rfl⟩ (.cons ⟨_, rfl⟩ .nil)))))))))
  have G_SPOTS : GlD K mg "SPOTS" (.tup [.str [97], .str [98], .str [99], .str [100]]) := gl_tup (ss := [[97], [98], [99], [100]]) (its := [.str (sT [97]) gt_SPOTS_0, .str (sT [98]) gt_SPOTS_1, .str (sT [99]) gt_SPOTS_2, .str (sT [100]) gt_SPOTS_3]) (PySem.W.mg_of X G n_SPOTS) gk_SPOTS rfl rfl (by simp only [List.length_cons, List.length_nil]; decide) (.cons ⟨_, rfl⟩ (.cons ⟨_, rfl⟩ (.cons ⟨_, rfl⟩ (.cons ⟨_, rfl⟩ .nil))))
  have G_SPOT_NAMES : GlD K mg "SPOT_NAMES" (.tup [.str [97], .str [98], .str [99], .str [100]]) := gl_tup (ss := [[97], [98], [99], [100]]) (its := [.str (sT [97]) gt_SPOT_NAMES_0, .str (sT [98]) gt_SPOT_NAMES_1, .str (sT [99]) gt_SPOT_NAMES_2, .str (sT [100]) gt_SPOT_NAMES_3]) (PySem.W.mg_of X G n_SPOT_NAMES) gk_SPOT_NAMES rfl rfl (by simp only [List.length_cons, List.length_nil]; decide) (.cons ⟨_, rfl⟩ (.cons ⟨_, rfl⟩ (.cons ⟨_, rfl⟩ (.cons ⟨_, rfl⟩ .nil))))
  have g_BadRow : mg "BadRow" = some (.ref k_BadRow) := PySem.W.mg_of X G n_BadRow
  have t_BadRow : Top K [66, 97, 100, 82, 111, 119] k_BadRow := n_BadRow
  have g_BadText : mg "BadText" = some (.ref k_BadText) := PySem.W.mg_of X G n_BadText
  have t_BadText : Top K [66, 97, 100, 84, 101, 120, 116] k_BadText := n_BadText
  have g_NoForm : mg "NoForm" = some (.ref k_NoForm) := PySem.W.mg_of X G n_NoForm
  have t_NoForm : Top K [78, 111, 70, 111, 114, 109] k_NoForm := n_NoForm
  have g_NoName : mg "NoName" = some (.ref k_NoName) := PySem.W.mg_of X G n_NoName
  have t_NoName : Top K [78, 111, 78, 97, 109, 101] k_NoName := n_NoName
  have g_NoPlace : mg "NoPlace" = some (.ref k_NoPlace) := PySem.W.mg_of X G n_NoPlace
  have t_NoPlace : Top K [78, 111, 80, 108, 97, 99, 101] k_NoPlace := n_NoPlace
  have g_NoTarget : mg "NoTarget" = some (.ref k_NoTarget) := PySem.W.mg_of X G n_NoTarget
  have t_NoTarget : Top K [78, 111, 84, 97, 114, 103, 101, 116] k_NoTarget := n_NoTarget
  have g_OddError : mg "OddError" = some (.ref k_OddError) := PySem.W.mg_of X G n_OddError
  have t_OddError : Top K [79, 100, 100, 69, 114, 114, 111, 114] k_OddError := n_OddError
  have g_TooFar : mg "TooFar" = some (.ref k_TooFar) := PySem.W.mg_of X G n_TooFar
  have t_TooFar : Top K [84, 111, 111, 70, 97, 114] k_TooFar := n_TooFar
  have g_TooFull : mg "TooFull" = some (.ref k_TooFull) := PySem.W.mg_of X G n_TooFull
  have t_TooFull : Top K [84, 111, 111, 70, 117, 108, 108] k_TooFull := n_TooFull
  have o_NoForm : OexC K k_NoForm := ⟨⟨_, _, _, _, _, _, _, _, _, _, _, _, _, _, _, xl_NoForm, by rfl⟩, xs_NoForm, xe_NoForm, xt_NoForm, xk_NoForm⟩
  have e_NoForm : ErrC K k_NoForm := ⟨o_NoForm, xg_NoForm, xh_NoForm, xd_NoForm, xc_NoForm, xm_NoForm⟩
  have F__NoForm := fun_mk (st := s__NoForm) xq_NoForm xw_NoForm xz_NoForm
  have b__NoForm := F__NoForm.binds (ps := ["self", "why"]) fun _ _ _ _ _ _ us hl => match us, hl with | [_, _], _ => rfl
  have M_NoForm : MkX l.prog w K mg base [78, 111, 70, 111, 114, 109] [119, 104, 121] := MkX.mk' (x := [78, 111, 70, 111, 114, 109]) (f := [119, 104, 121]) g_NoForm o_NoForm xf_NoForm_why xi_NoForm xj_NoForm (init_fn (m := "no form") (f := "why") F__NoForm sc__NoForm (fun cdv A outer s H E => pss_cons (ps_expr (pe_oinit (gl_ (by kernel_rfl)) g_OddError os_ or_ oi_ (pa_cons (pv 0) (pa_cons pe_str pa_nil)))) (pss_one (ps_ost (pv 0) (pv 1))))) b__NoForm
  have o_TooFull : OexC K k_TooFull := ⟨⟨_, _, _, _, _, _, _, _, _, _, _, _, _, _, _, xl_TooFull, by rfl⟩, xs_TooFull, xe_TooFull, xt_TooFull, xk_TooFull⟩
  have e_TooFull : ErrC K k_TooFull := ⟨o_TooFull, xg_TooFull, xh_TooFull, xd_TooFull, xc_TooFull, xm_TooFull⟩
  have Z_TooFull : Mk0 K mg [84, 111, 111, 70, 117, 108, 108] := ⟨k_TooFull, g_TooFull, xy_TooFull, xk_TooFull, xe_TooFull, xt_TooFull⟩
  have R_ : Errs K mg rs_ ts_ fl_ := ⟨(List.forall_mem_cons.mpr ⟨⟨k_NoForm, t_NoForm, g_NoForm, e_NoForm⟩, (List.forall_mem_cons.mpr ⟨⟨k_TooFull, t_TooFull, g_TooFull, e_TooFull⟩, (fun _ h => nomatch h)⟩)⟩),
    (List.forall_mem_cons.mpr ⟨⟨k_BadRow, t_BadRow, g_BadRow, xe_BadRow, xt_BadRow, xd_BadRow⟩, (List.forall_mem_cons.mpr ⟨⟨k_BadText, t_BadText, g_BadText, xe_BadText, xt_BadText, xd_BadText⟩, (List.forall_mem_cons.mpr ⟨⟨k_NoForm, t_NoForm, g_NoForm, xe_NoForm, xt_NoForm, xd_NoForm⟩, (List.forall_mem_cons.mpr ⟨⟨k_NoName, t_NoName, g_NoName, xe_NoName, xt_NoName, xd_NoName⟩, (List.forall_mem_cons.mpr ⟨⟨k_NoPlace, t_NoPlace, g_NoPlace, xe_NoPlace, xt_NoPlace, xd_NoPlace⟩, (List.forall_mem_cons.mpr ⟨⟨k_NoTarget, t_NoTarget, g_NoTarget, xe_NoTarget, xt_NoTarget, xd_NoTarget⟩, (List.forall_mem_cons.mpr ⟨⟨k_OddError, t_OddError, g_OddError, xe_OddError, xt_OddError, xd_OddError⟩, (List.forall_mem_cons.mpr ⟨⟨k_TooFar, t_TooFar, g_TooFar, xe_TooFar, xt_TooFar, xd_TooFar⟩, (List.forall_mem_cons.mpr ⟨⟨k_TooFull, t_TooFull, g_TooFull, xe_TooFull, xt_TooFull, xd_TooFull⟩, (fun _ h => nomatch h)⟩)⟩)⟩)⟩)⟩)⟩)⟩)⟩)⟩),
    (List.forall_mem_cons.mpr ⟨(List.forall_mem_cons.mpr ⟨(fun C D hC hD => by cases top_inj hC t_NoForm; cases top_inj hD t_BadRow; exact xb_NoForm_BadRow), (List.forall_mem_cons.mpr ⟨(fun C D hC hD => by cases top_inj hC t_NoForm; cases top_inj hD t_BadText; exact xb_NoForm_BadText), (List.forall_mem_cons.mpr ⟨(fun C D hC hD => by cases top_inj hC t_NoForm; cases top_inj hD t_NoForm; exact xb_NoForm_NoForm), (List.forall_mem_cons.mpr ⟨(fun C D hC hD => by cases top_inj hC t_NoForm; cases top_inj hD t_NoName; exact xb_NoForm_NoName), (List.forall_mem_cons.mpr ⟨(fun C D hC hD => by cases top_inj hC t_NoForm; cases top_inj hD t_NoPlace; exact xb_NoForm_NoPlace), (List.forall_mem_cons.mpr ⟨(fun C D hC hD => by cases top_inj hC t_NoForm; cases top_inj hD t_NoTarget; exact xb_NoForm_NoTarget), (List.forall_mem_cons.mpr ⟨(fun C D hC hD => by cases top_inj hC t_NoForm; cases top_inj hD t_OddError; exact xb_NoForm_OddError), (List.forall_mem_cons.mpr ⟨(fun C D hC hD => by cases top_inj hC t_NoForm; cases top_inj hD t_TooFar; exact xb_NoForm_TooFar), (List.forall_mem_cons.mpr ⟨(fun C D hC hD => by cases top_inj hC t_NoForm; cases top_inj hD t_TooFull; exact xb_NoForm_TooFull), (fun _ h => nomatch h)⟩)⟩)⟩)⟩)⟩)⟩)⟩)⟩)⟩), (List.forall_mem_cons.mpr ⟨(List.forall_mem_cons.mpr ⟨(fun C D hC hD => by cases top_inj hC t_TooFull; cases top_inj hD t_BadRow; exact xb_TooFull_BadRow), (List.forall_mem_cons.mpr ⟨(fun C D hC hD => by cases top_inj hC t_TooFull; cases top_inj hD t_BadText; exact xb_TooFull_BadText), (List.forall_mem_cons.mpr ⟨(fun C D hC hD => by cases top_inj hC t_TooFull; cases top_inj hD t_NoForm; exact xb_TooFull_NoForm), (List.forall_mem_cons.mpr ⟨(fun C D hC hD => by cases top_inj hC t_TooFull; cases top_inj hD t_NoName; exact xb_TooFull_NoName), (List.forall_mem_cons.mpr ⟨(fun C D hC hD => by cases top_inj hC t_TooFull; cases top_inj hD t_NoPlace; exact xb_TooFull_NoPlace), (List.forall_mem_cons.mpr ⟨(fun C D hC hD => by cases top_inj hC t_TooFull; cases top_inj hD t_NoTarget; exact xb_TooFull_NoTarget), (List.forall_mem_cons.mpr ⟨(fun C D hC hD => by cases top_inj hC t_TooFull; cases top_inj hD t_OddError; exact xb_TooFull_OddError), (List.forall_mem_cons.mpr ⟨(fun C D hC hD => by cases top_inj hC t_TooFull; cases top_inj hD t_TooFar; exact xb_TooFull_TooFar), (List.forall_mem_cons.mpr ⟨(fun C D hC hD => by cases top_inj hC t_TooFull; cases top_inj hD t_TooFull; exact xb_TooFull_TooFull), (fun _ h => nomatch h)⟩)⟩)⟩)⟩)⟩)⟩)⟩)⟩)⟩), (fun _ h => nomatch h)⟩)⟩),
    (List.forall_mem_cons.mpr ⟨(fun C hC => by cases top_inj hC t_NoForm; exact xv_NoForm), (List.forall_mem_cons.mpr ⟨(fun C hC => by cases top_inj hC t_TooFull; exact xv_TooFull), (fun _ h => nomatch h)⟩)⟩),
    (List.forall_mem_cons.mpr ⟨(List.forall_mem_cons.mpr ⟨(fun C hC => by cases top_inj hC t_NoForm; exact xf_NoForm_place), (List.forall_mem_cons.mpr ⟨(fun C hC => by cases top_inj hC t_NoForm; exact xf_NoForm_row), (List.forall_mem_cons.mpr ⟨(fun C hC => by cases top_inj hC t_NoForm; exact xf_NoForm_why), (fun _ h => nomatch h)⟩)⟩)⟩), (List.forall_mem_cons.mpr ⟨(List.forall_mem_cons.mpr ⟨(fun C hC => by cases top_inj hC t_TooFull; exact xf_TooFull_place), (List.forall_mem_cons.mpr ⟨(fun C hC => by cases top_inj hC t_TooFull; exact xf_TooFull_row), (List.forall_mem_cons.mpr ⟨(fun C hC => by cases top_inj hC t_TooFull; exact xf_TooFull_why), (fun _ h => nomatch h)⟩)⟩)⟩), (fun _ h => nomatch h)⟩)⟩), ⟨og_, ot_⟩⟩
  have D__law_begin : Cal l.prog w K mg base 1 "_law_begin" f__law_begin := c__law_begin F__law_begin (PySem.W.mg_of X G m__law_begin) b__law_begin y_list
  have D__law_take : Cal l.prog w K mg base 1 "_law_take" f__law_take := c__law_take F__law_take (PySem.W.mg_of X G m__law_take) b__law_take y_divmod y_len
  have D__law_number : Cal l.prog w K mg base 2 "_law_number" f__law_number := c__law_number F__law_number (PySem.W.mg_of X G m__law_number) b__law_number D__law_take
  have D__law_row : Cal l.prog w K mg base 3 "_law_row" f__law_row := c__law_row F__law_row (PySem.W.mg_of X G m__law_row) b__law_row D__law_take D__law_number
  have D__law_program : Cal l.prog w K mg base 4 "_law_program" f__law_program := c__law_program F__law_program (PySem.W.mg_of X G m__law_program) b__law_program y_range D__law_row
  have D_code_of : Cal l.prog w K mg base 1 "code_of" f_code_of := c_code_of F_code_of (PySem.W.mg_of X G m_code_of) b_code_of y_dict
  have D_far_is_shorter : Cal l.prog w K mg base 2 "far_is_shorter" f_far_is_shorter := c_far_is_shorter F_far_is_shorter (PySem.W.mg_of X G m_far_is_shorter) b_far_is_shorter y_len D_code_of G_FAR_KINDS
  have D_is_name : Cal l.prog w K mg base 1 "is_name" f_is_name := c_is_name F_is_name (PySem.W.mg_of X G m_is_name) b_is_name y_isinstance y_len y_str G_LETTERS G_MOST_LETTERS
  have D_is_signs : Cal l.prog w K mg base 1 "is_signs" f_is_signs := c_is_signs F_is_signs (PySem.W.mg_of X G m_is_signs) b_is_signs y_isinstance y_str G_SIGNS
  have D_is_entry : Cal l.prog w K mg base 2 "is_entry" f_is_entry := c_is_entry F_is_entry (PySem.W.mg_of X G m_is_entry) b_is_entry y_isinstance y_len y_tuple D_is_name D_is_signs
  have D_is_book : Cal l.prog w K mg base 3 "is_book" f_is_book := c_is_book F_is_book (PySem.W.mg_of X G m_is_book) b_is_book y_all y_isinstance y_len y_list y_set D_is_entry
  have D_begins : Cal l.prog w K mg base 1 "begins" f_begins := c_begins F_begins (PySem.W.mg_of X G m_begins) b_begins 
  have D_clash : Cal l.prog w K mg base 2 "clash" f_clash := c_clash F_clash (PySem.W.mg_of X G m_clash) b_clash y_enumerate D_begins
  have D_free : Cal l.prog w K mg base 3 "free" f_free := c_free F_free (PySem.W.mg_of X G m_free) b_free D_clash
  have D_is_book_of : Cal l.prog w K mg base 4 "is_book_of" f_is_book_of := c_is_book_of F_is_book_of (PySem.W.mg_of X G m_is_book_of) b_is_book_of y_isinstance y_list y_sorted y_tuple D_is_book D_free
  have D_is_number : Cal l.prog w K mg base 1 "is_number" f_is_number := c_is_number F_is_number (PySem.W.mg_of X G m_is_number) b_is_number y_bool y_int y_isinstance
  have D_Form____init__ : Ini l.prog w K mg base 5 [70, 111, 114, 109] f_Form____init__ := c_Form____init__ F_Form____init__ on_Form (PySem.W.mg_of X G on_Form) ⟨omk_Form, mm_Form____init__, mf_Form____init__, okp_Form⟩ b_Form____init__ y_tuple D_far_is_shorter D_is_book_of D_is_number I_Form G_KINDS_forms G_LEAST_NEAR G_MOST_FAR G_MOST_NEAR G_SIZES_forms G_SPOT_NAMES M_NoForm
  have D_look_room : Cal l.prog w K mg base 1 "look_room" f_look_room := c_look_room F_look_room (PySem.W.mg_of X G m_look_room) b_look_room y_len Z_TooFull
  have D_figures : Cal l.prog w K mg base 1 "figures" f_figures := c_figures F_figures (PySem.W.mg_of X G m_figures) b_figures y_range G_SIGNS
  have D_codes_by : Cal l.prog w K mg base 2 "codes_by" f_codes_by := c_codes_by F_codes_by (PySem.W.mg_of X G m_codes_by) b_codes_by y_enumerate y_sorted D_figures Z_TooFull
  have D_taken : Cal l.prog w K mg base 1 "taken" f_taken := c_taken F_taken (PySem.W.mg_of X G m_taken) b_taken y_len y_max
  have D_places_paired : Cal l.prog w K mg base 1 "places_paired" f_places_paired := c_places_paired F_places_paired (PySem.W.mg_of X G m_places_paired) b_places_paired y_len y_range
  have D_lengths_by : Cal l.prog w K mg base 2 "lengths_by" f_lengths_by := c_lengths_by F_lengths_by (PySem.W.mg_of X G m_lengths_by) b_lengths_by y_enumerate y_range y_sorted D_taken D_places_paired
  have D_least_book : Cal l.prog w K mg base 3 "least_book" f_least_book := c_least_book F_least_book (PySem.W.mg_of X G m_least_book) b_least_book y_zip D_look_room D_codes_by D_lengths_by
  have D_far_behind : Cal l.prog w K mg base 1 "far_behind" f_far_behind := c_far_behind F_far_behind (PySem.W.mg_of X G m_far_behind) b_far_behind y_dict y_len
  have D_counted : Cal l.prog w K mg base 1 "counted" f_counted := c_counted F_counted (PySem.W.mg_of X G m_counted) b_counted 
  have D_spots_in : Cal l.prog w K mg base 1 "spots_in" f_spots_in := c_spots_in F_spots_in (PySem.W.mg_of X G m_spots_in) b_spots_in G_SPOTS
  have D_figures_of : Cal l.prog w K mg base 1 "figures_of" f_figures_of := c_figures_of F_figures_of (PySem.W.mg_of X G m_figures_of) b_figures_of 
  have D_uses_of : Cal l.prog w K mg base 2 "uses_of" f_uses_of := c_uses_of F_uses_of (PySem.W.mg_of X G m_uses_of) b_uses_of D_counted D_spots_in D_figures_of G_KINDS_uses G_SIZES_uses G_SPOTS
  have D_least_form : Cal l.prog w K mg base 7 "least_form" f_least_form := c_least_form F_least_form (PySem.W.mg_of X G m_least_form) b_least_form D_Form____init__ D_least_book D_far_behind D_uses_of I_Form G_LEAST_MOST Z_TooFull
  have D__law_class : Cal l.prog w K mg base 1 "_law_class" f__law_class := c__law_class F__law_class (PySem.W.mg_of X G m__law_class) b__law_class y_ValueError y_isinstance R_
  have D__law_parts_of : Cal l.prog w K mg base 1 "_law_parts_of" f__law_parts_of := c__law_parts_of F__law_parts_of (PySem.W.mg_of X G m__law_parts_of) b__law_parts_of y_list I_Form
  have D__law_told : Cal l.prog w K mg base 8 "_law_told" f__law_told := c__law_told F__law_told (PySem.W.mg_of X G m__law_told) b__law_told D_least_form D__law_class D__law_parts_of R_
  have D__law_many : Cal l.prog w K mg base 2 "_law_many" f__law_many := c__law_many F__law_many (PySem.W.mg_of X G m__law_many) b__law_many D__law_take
  have D__law_odd_number : Cal l.prog w K mg base 2 "_law_odd_number" f__law_odd_number := c__law_odd_number F__law_odd_number (PySem.W.mg_of X G m__law_odd_number) b__law_odd_number D__law_take
  have D__law_due : Cal l.prog w K mg base 1 "_law_due" f__law_due := c__law_due F__law_due (PySem.W.mg_of X G m__law_due) b__law_due 
  have D__law_same : Cal l.prog w K mg base 71 "_law_same" f__law_same := c__law_same F__law_same (PySem.W.mg_of X G m__law_same) b__law_same y_all y_bool y_int y_isinstance y_len y_list y_str y_tuple y_zip 70
  refine law_ok (fn_ok F_law sc_law (by decide) fun cdv A outer s H E hr => ?_) hlaw
  exact b_ok_law F_law y_range D__law_begin D__law_program D__law_told D__law_many D__law_odd_number D__law_due D__law_take D__law_same hr
end OdW
namespace OdW
open PySem PySem.Spec L2 Od
open PyProof.Rows hiding St cutD
open Od (Env)
private def odB := And.intro @sat_ok (And.intro @sat_exc (And.intro @sat_fail (And.intro @ex_some (And.intro @ex_none (And.intro @s_eC (And.intro @s_eV (And.intro @s_hSc (And.intro @s_hV (And.intro @s_eFz (And.intro @s_tSh (And.intro @s_e1 (And.intro @s_e2 (And.intro @s_t2 (And.intro @s_b2 (And.intro @ex_blOf (And.intro @s_vL0 (And.intro @s_vL (And.intro @s_hL0 (And.intro @s_hL (And.intro @ex_getL0 (And.intro @ex_getL (And.intro @s_eTup (And.intro @s_tLst (And.intro @s_eCB (And.intro @s_tCBL (And.intro @s_eIsi (And.intro @s_oN (And.intro @s_oS (And.intro @s_eCut (And.intro @s_tCut (And.intro @s_bVal (And.intro @s_bNot (And.intro @s_bAnd (And.intro @s_bOr (And.intro @s_eIf (And.intro @s_eAnd (And.intro @s_eOr (And.intro @s_eNot (And.intro @s_eChain (And.intro @s_bChain (And.intro @s_aL0 (And.intro @s_aLv (And.intro @s_aLi (And.intro @ex_mkT0 (And.intro @ex_mkTv (And.intro @ex_mkTi (And.intro @s_nil (And.intro @s_expr (And.intro @s_ret (And.intro @s_retV (And.intro @s_if (And.intro @s_asg (And.intro @ex_gTp (And.intro @ex_gE0 (And.intro @ex_gE (And.intro @s_fld (And.intro @s_flen (And.intro @s_fix (And.intro @s_rcd2 (And.intro @s_iArg (And.intro @s_iSeq (And.intro @s_for (And.intro @s_comp (And.intro @s_bTrue (And.intro @x_addbi (And.intro @x_addii (And.intro @x_addss (And.intro @x_addtt (And.intro @x_addll (And.intro @x_lAdd (And.intro @x_sub (And.intro @x_mul (And.intro @x_fdiv (And.intro @x_mod (And.intro @x_pow (And.intro @x_shl (And.intro @x_shr (And.intro @x_neg (And.intro @x_eqi (And.intro @x_eqs (And.intro @x_eqb (And.intro @x_nei (And.intro @x_nes (And.intro @x_neb (And.intro @x_lt (And.intro @x_lts (And.intro @x_le (And.intro @x_gt (And.intro @x_ge (And.intro @x_isN0 (And.intro @x_isNi (And.intro @x_isNb (And.intro @x_isNs (And.intro @x_isNt (And.intro @x_isNl (And.intro @x_ixl (And.intro @x_ixt (And.intro @x_ixr (And.intro @x_ixs (And.intro @x_lens (And.intro @x_lenl (And.intro @x_lent (And.intro @x_lenr (And.intro @x_max2 (And.intro @x_dm (And.intro @x_listl (And.intro @x_listr (And.intro @x_listt (And.intro @x_tupl (And.intro @x_tupt (And.intro @x_cutl (And.intro @x_cutt (And.intro @x_cutr (And.intro @x_cuts (And.intro @x_lcutl (And.intro @x_lcutr (And.intro @x_app (And.intro @x_sw (And.intro @x_join (And.intro @x_frs (And.intro @x_frl (And.intro @x_frd (And.intro @x_rng1 (And.intro @x_zip2t (And.intro @x_zip2l (And.intro @x_enu (And.intro @x_seql (And.intro @x_seqr (And.intro @x_int (And.intro @x_bl (And.intro @x_gC (And.intro @x_gT (And.intro @c_pad0 (And.intro @c_padn (And.intro @c_pads (And.intro @k_set0 (And.intro @k_sets (And.intro @c_set0 (And.intro @c_sets (And.intro @c_wipe0 (And.intro @c_wipes (And.intro @c_back0 (And.intro @c_backs (And.intro @c_mask0 (And.intro @c_maskt (And.intro @c_maskf (And.intro @c_putB0 (And.intro @c_putBv (And.intro @c_putBi (And.intro @c_getD0 (And.intro @c_getDs (And.intro @c_shE1 (And.intro @c_shE0 (And.intro @c_shEl (And.intro @k_lkS0 (And.intro @k_lkSs (And.intro @k_lkF0 (And.intro @k_lkF0l (And.intro @k_lkFs (And.intro @k_lkT0 (And.intro @k_lkTs (And.intro @k_lkL0 (And.intro @k_lkLs (And.intro @k_rcd0 (And.intro @k_rcds (And.intro @k_atH0 (And.intro @k_atH0l (And.intro @k_atH0d (And.intro @k_atHs (And.intro @k_getHv (And.intro @k_getHs (And.intro @m_eFv (And.intro @m_tMv (And.intro @m_eMut (And.intro @m_eCall (And.intro @m_set (And.intro @m_setV (And.intro @m_wipe (And.intro @m_par (And.intro @m_gNm (And.intro @m_sFld (And.intro @m_gfix (And.intro @m_fn (And.intro @c_sFC (And.intro @c_sFT (And.intro @m_eBM (And.intro @k_tyS (And.intro @k_tyL (And.intro @k_tyR (And.intro @k_tyD (And.intro @x_at0 (And.intro @x_at1 (And.intro @x_at2 (And.intro @x_isi_int_non (And.intro @x_isi_int_bl (And.intro @x_isi_int_int (And.intro @x_isi_int_str (And.intro @x_isi_int_tup (And.intro @x_isi_int_lst (And.intro @x_isi_int_dct (And.intro @x_isi_bool_non (And.intro @x_isi_bool_bl (And.intro @x_isi_bool_int (And.intro @x_isi_bool_str (And.intro @x_isi_bool_tup (And.intro @x_isi_bool_lst (And.intro @x_isi_bool_dct (And.intro @x_isi_str_non (And.intro @x_isi_str_bl (And.intro @x_isi_str_int (And.intro @x_isi_str_str (And.intro @x_isi_str_tup (And.intro @x_isi_str_lst (And.intro @x_isi_str_dct (And.intro @x_isi_list_non (And.intro @x_isi_list_bl (And.intro @x_isi_list_int (And.intro @x_isi_list_str (And.intro @x_isi_list_tup (And.intro @x_isi_list_lst (And.intro @x_isi_list_dct (And.intro @x_isi_tuple_non (And.intro @x_isi_tuple_bl (And.intro @x_isi_tuple_int (And.intro @x_isi_tuple_str (And.intro @x_isi_tuple_tup (And.intro @x_isi_tuple_lst (And.intro @x_isi_tuple_dct (And.intro @x_isi_dict_non (And.intro @x_isi_dict_bl (And.intro @x_isi_dict_int (And.intro @x_isi_dict_str (And.intro @x_isi_dict_tup (And.intro @x_isi_dict_lst (And.intro @x_isi_dict_dct (And.intro @x_isi_listtuple_non (And.intro @x_isi_listtuple_bl (And.intro @x_isi_listtuple_int (And.intro @x_isi_listtuple_str (And.intro @x_isi_listtuple_tup (And.intro @x_isi_listtuple_lst (And.intro @x_isi_listtuple_dct (And.intro @s_iTup (And.intro @s_raise1 (And.intro @s_raise0 (And.intro @s_try (And.intro @x_isE (And.intro @x_fldE (And.intro @x_lkX1 (And.intro @x_exnD1 (And.intro @x_exnD0 (And.intro @x_isNe (And.intro @s_aug (And.intro @s_d0 (And.intro @k_lkDc0 (And.intro @k_lkDcs (And.intro @m_gDx (And.intro @x_keyi (And.intro @x_keys (And.intro @x_addI (And.intro @c_app0 (And.intro @c_app1 (And.intro @c_app2 (And.intro @c_app3 (And.intro @ex_gLs (And.intro @x_lenSet (And.intro @x_and1 (And.intro @x_ixdi (And.intro @x_strip (And.intro @s_tDsp (And.intro @k_at0 (And.intro @k_at1 (And.intro @k_at2 (And.intro @k_at3 (And.intro @x_in2 (And.intro @s_eNew (And.intro @x_newP (And.intro @k_ins0 (And.intro @k_inss (And.intro @k_getS1 (And.intro @k_getS2 (And.intro @s_sFldI (And.intro @x_fldO (And.intro @x_rngP (And.intro @s_augX (And.intro @x_sortedT (And.intro @s_tseq (And.intro @s_seqMc (And.intro @s_seqMn (And.intro @x_t1s (And.intro @x_t1l (And.intro @x_t1d (And.intro @k_frzQ (And.intro @k_frzQT (And.intro @s_wk (And.intro @k_wkf (And.intro @k_wki (And.intro @s_tcbD (And.intro @x_tupKl (And.intro @x_tupKr (And.intro @x_tupKf (And.intro @k_uat0 (And.intro @k_uats (And.intro @x_lkXD (And.intro @k_getD11 (And.intro @k_getD12 (And.intro @k_getL11 (And.intro @k_getL12 (And.intro @s_eCallMS (And.intro @k_getD21 (And.intro @k_getD22 (And.intro @x_lendct @x_neS))))))))))))))))))))))))))))))))))))))))))))))))))))))))))))))))))))))))))))))))))))))))))))))))))))))))))))))))))))))))))))))))))))))))))))))))))))))))))))))))))))))))))))))))))))))))))))))))))))))))))))))))))))))))))))))))))))))))))))))))))))))))))))))))))))))))))))))))))))))))))))))))))))))))))))))))))))))))
local macro_rules | `(tactic| array_get_dec) => `(tactic| try simp -implicitDefEqProofs only [↓s_seq, ↓odB])
local macro_rules | `(tactic| sizeOf_list_dec) => `(tactic| try simp -implicitDefEqProofs only [↓s_seq, ↓odB, Bool.false_eq_true, Bool.true_eq_false, false_implies, true_implies, forall_const, true_and, and_true, decide_eq_true_eq, decide_eq_false_iff_not, Bool.not_true, Bool.not_false, Bool.not_eq_true', Bool.not_eq_false', Int.not_lt, Int.not_le, implies_true])
local macro_rules | `(tactic| array_mem_dec) => `(tactic| try simp -implicitDefEqProofs only [↓odB, Bool.false_eq_true, Bool.true_eq_false, false_implies, true_implies, forall_const, true_and, and_true, decide_eq_true_eq, decide_eq_false_iff_not, Bool.not_true, Bool.not_false, Bool.not_eq_true', Bool.not_eq_false', Int.not_lt, Int.not_le, implies_true])
local macro_rules | `(tactic| simp_wf) => `(tactic| try simp -implicitDefEqProofs only [↓s_seq, ↓odB, Bool.false_eq_true, Bool.true_eq_false, false_implies, true_implies, forall_const, true_and, and_true, decide_eq_true_eq, decide_eq_false_iff_not, Bool.not_true, Bool.not_false, Bool.not_eq_true', Bool.not_eq_false', Int.not_lt, Int.not_le, implies_true, List.cons.injEq, Nat.reduceEqDiff, reduceCtorEq, not_true_eq_false, not_false_eq_true, and_self, and_false, false_and, or_false, false_or, or_true, true_or, or_self, if_true, if_false, List.nil_append, List.cons_append])
local macro_rules | `(tactic| and_intros) => `(tactic| repeat (refine And.intro (by first | rfl | decide | omega | exact okMul_r (by omega) (by omega) | exact okMul_l (by omega) (by omega) | (simp; done) | (simp; omega)) ?_))
abbrev Fs := List (Tx × T1)
def Bx (n : Nat) (fs : List (Tx × T1)) : Prop := ∃ (cs : List Int) (t : Int), fs = [([99, 101, 108, 108, 115], .lst (cs.map .int)), ([116, 117, 114, 110], .sh (.int t))] ∧ cs ≠ [] ∧ 0 ≤ t ∧ t + n ≤ 1000000000
theorem take_ok {n : Nat} {m : Int} {fs : List (Tx × T1)} {Φ : T → Od.Env → Prop} {Ψ : Exn → Od.Env → Prop} (hb : Bx n fs) (hn : 1 ≤ n) (hm : 0 < m) (hm' : m < 1073741824)
    (q : ∀ (r : Int) fs', 0 ≤ r → r < m → Bx (n - 1) fs' → Φ (.sh (.int r)) [some (.rcd fs'), none]) : satO (f__law_take [T.rcd fs, .sh (.int m)]) Φ Ψ := by
  obtain ⟨cs, t, rfl, hc, ht, hs⟩ := hb
  simp only [f__law_take, B__law_take]
  array_get_dec
  have hl : 0 < ((cs.map D.int).length : Int) := by
    cases cs with
    | nil => exact absurd rfl hc
    | cons c r => simp
  have b1 := Int.emod_nonneg (t + 1) (show ((cs.map D.int).length : Int) ≠ 0 by omega)
  have b2 := Int.emod_lt_of_pos (t + 1) hl
  refine ⟨rfl, by simp, hl, atI_ok b1 b2 fun d hd => ?_⟩
  obtain ⟨c, hc', rfl⟩ := List.mem_map.mp (List.mem_of_getElem? hd)
  array_get_dec
  refine ⟨by decide, fun _ => ⟨⟨hm, hm'⟩, ⟨b1, b2⟩, ?_⟩, fun _ => ?_⟩
  · refine q _ _ (Int.emod_nonneg _ (by omega)) (Int.emod_lt_of_pos _ hm) ⟨cs.set ((t + 1) % ((cs.map D.int).length : Int)).toNat (c / m), t + 1, by rw [List.map_set], ?_, by omega, by omega⟩
    intro z
    have := congrArg List.length z
    simp at this
    exact hc this
  · have s1 := Int.emod_nonneg (t + 1) (show (7 : Int) ≠ 0 by decide)
    have s2 := Int.emod_lt_of_pos (t + 1) (show (0 : Int) < 7 by decide)
    refine ⟨by decide, by decide, atI_ok s1 (by simpa using s2) fun p hp => ?_⟩
    have hm1 := List.mem_of_getElem? hp
    obtain ⟨pr, rfl, hp1, hp2⟩ : ∃ pr : Int, p = .int pr ∧ 2147483490 < pr ∧ pr < 2147483700 := by
      simp only [List.mem_cons, List.not_mem_nil, or_false] at hm1
      rcases hm1 with rfl | rfl | rfl | rfl | rfl | rfl | rfl <;> exact ⟨_, rfl, by decide, by decide⟩
    array_get_dec
    have c1 := Int.emod_nonneg c (show pr ≠ 0 by omega)
    have c2 := Int.emod_lt_of_pos c (show 0 < pr by omega)
    have hp0 : 0 < pr := by omega
    generalize c % pr = x1 at c1 c2 ⊢
    have ht1 : t + 1 ≤ 1000000000 := by omega
    have h5 : (5 : Int).toNat = 5 := rfl
    have d1 := Int.emod_nonneg ((x1 + (t + 1) * (t + 1) * 7919 + 11) * 48271) (show pr ≠ 0 by omega)
    have d2 := Int.emod_lt_of_pos ((x1 + (t + 1) * (t + 1) * 7919 + 11) * 48271) hp0
    have m1 : okMul (x1 + (t + 1) * (t + 1) * 7919 + 11) 48271 = true := okMul_r (by decide) (by decide)
    generalize (x1 + (t + 1) * (t + 1) * 7919 + 11) * 48271 % pr = x2 at d1 d2 ⊢
    have e1 := Int.emod_nonneg (x2 ^ (5 : Int).toNat) (show pr ≠ 0 by omega)
    have e2 := Int.emod_lt_of_pos (x2 ^ (5 : Int).toNat) hp0
    generalize x2 ^ (5 : Int).toNat % pr = x3 at e1 e2 ⊢
    refine ⟨hp0, okMul_l (by omega) (by omega), ?_, m1, hp0, ⟨by decide, by decide, by omega⟩, hp0, okMul_l (by omega) (by omega), by decide, ⟨by decide, by decide⟩, hm, ?_⟩
    · exact okMul_r (by decide) (by decide)
    · exact q _ _ (Int.emod_nonneg _ (by omega)) (Int.emod_lt_of_pos _ hm) ⟨cs, t + 1, rfl, hc, by omega, by omega⟩
theorem Bx.mono {n m : Nat} {fs : List (Tx × T1)} (h : Bx n fs) (hm : m ≤ n) : Bx m fs := by
  obtain ⟨cs, t, e, h1, h2, h3⟩ := h
  exact ⟨cs, t, e, h1, h2, by omega⟩
theorem cut63 {α : Type} (xs : List α) : cutD xs none (some 63) = xs.take 63 := by
  unfold cutD
  rw [show HT.sIx xs.length 0 none = 0 from rfl, List.drop_zero, Nat.sub_zero]
  simp only [HT.sIx]
  rw [if_neg (by decide)]
  rcases Nat.le_total xs.length 63 with h | h
  · rw [List.take_of_length_le (by omega), List.take_of_length_le h]
  · congr 1; omega
theorem begin_ok {ns : List Int} {Φ : T → Od.Env → Prop} {Ψ : Exn → Od.Env → Prop} (hl : ns.length ≤ 63) (q : ∀ fs, Bx 900000000 fs → Φ (.rcd fs) [none]) : satO (f__law_begin [T.sh (.rol (ns.map .int))]) Φ Ψ := by
  simp only [f__law_begin, B__law_begin]
  sizeOf_list_dec
  rw [cut63, ← List.map_take]
  refine ⟨rfl, by decide, fEq_nil (dOk_lst (k := 0) (fun _ _ => rfl) (fun _ _ => Nat.zero_le _) (by decide)) ⟨fun h => ⟨by decide, by decide, ?_⟩, fun h => ⟨by decide, ?_⟩⟩⟩
  · exact q _ ⟨[19], 0, rfl, by simp, by omega, by omega⟩
  · refine q _ ⟨ns.take 63, 0, rfl, fun z => ?_, by omega, by omega⟩
    rw [z] at h
    cases h
def Sg (s : Tx) : Prop := ∀ c ∈ s, c = 48 ∨ c = 49
def Lt (s : Tx) : Prop := ∀ c ∈ s, 97 ≤ c ∧ c ≤ 122
def Nm (s : Tx) : Prop := Lt s ∧ 1 ≤ s.length ∧ s.length ≤ 8
/-- a comprehension that only reads: what it keeps, what it makes of it -/
theorem cmp_map {α : Type} {own : List Nat} {g : GM} {C : BM} {F : EM} {Φ : T × Od.Env → Prop} {Ψ : Exn → Od.Env → Prop} {xs : List α} (enc : α → D) (p : α → Bool) (f : α → D) {ρ : Od.Env} (hl : xs.length ≤ 1000000)
    (step : ∀ x ∈ xs, cps (wipeE own ρ) fun ρ0 => ex (g (enc x) ρ0) fun ρ1 => sat (C ρ1) (fun b => (b.1 = true → sat (F b.2) (fun d => p x = true ∧ cps (backE own ρ d.2) fun r => d.1 = f x ∧ r = ρ) (fun _ _ => False)) ∧ (b.1 = false → p x = false ∧ cps (backE own ρ b.2) fun r => r = ρ)) (fun _ _ => False))
    (q : Φ (.lst ((xs.filter p).map f), ρ)) : sat (cmpL own g C F (xs.map enc) [] ρ) Φ Ψ := by
  refine cmp_i (fun i acc r => r = ρ ∧ acc = ((xs.take i).filter p).map f) (by simpa using hl) ⟨rfl, rfl⟩ ?_ ?_
  · rintro i y acc r hy hi ⟨rfl, rfl⟩
    rw [List.getElem?_map] at hy
    obtain ⟨x, hx, rfl⟩ := Option.map_eq_some_iff.mp hy
    have hs := step x (List.mem_of_getElem? hx)
    have ht : ((xs.take (i + 1)).filter p).map f = ((xs.take i).filter p).map f ++ ([x].filter p).map f := by
      rw [List.take_add_one, hx, List.filter_append, List.map_append]; rfl
    rw [ht]
    simp only [cps] at hs ⊢
    cases hg : g (enc x) (wipeE own r) with
    | none => rw [hg] at hs; exact hs
    | some ρ1 =>
      rw [hg] at hs
      rw [ex_some] at hs ⊢
      cases hC : C ρ1 with
      | fail => rw [hC] at hs; exact hs
      | exc x ρ2 => rw [hC] at hs; exact hs
      | ok b =>
        rw [hC] at hs
        rw [sat_ok] at hs ⊢
        refine ⟨fun hb => ?_, fun hb => ?_⟩
        · refine (hs.1 hb).mono fun d ⟨h1, h2, h3⟩ => ⟨h3, ?_⟩
          rw [List.filter_cons, if_pos h1, h2]; rfl
        · obtain ⟨h1, h2⟩ := hs.2 hb
          refine ⟨h2, ?_⟩
          rw [List.filter_cons, if_neg (by rw [h1]; exact Bool.false_ne_true)]
          simp
  · rintro acc r _ ⟨rfl, rfl⟩
    rw [List.length_map, List.take_length]
    exact q
theorem filter_all {α : Type} (xs : List α) : xs.filter (fun _ => true) = xs := by
  induction xs with
  | nil => rfl
  | cons x xs ih => simp
/-- one that keeps all -/
theorem cmp_each {α : Type} {own : List Nat} {g : GM} {F : EM} {Φ : T × Od.Env → Prop} {Ψ : Exn → Od.Env → Prop} {xs : List α} (enc f : α → D) {ρ : Od.Env} (hl : xs.length ≤ 1000000)
    (step : ∀ x ∈ xs, cps (wipeE own ρ) fun ρ0 => ex (g (enc x) ρ0) fun ρ1 => sat (F ρ1) (fun d => cps (backE own ρ d.2) fun r => d.1 = f x ∧ r = ρ) (fun _ _ => False))
    (q : Φ (.lst (xs.map f), ρ)) : sat (cmpL own g bTrue F (xs.map enc) [] ρ) Φ Ψ := by
  refine cmp_map enc (fun _ => true) f hl (fun x hx => ?_) (by rw [filter_all]; exact q)
  have hs := step x hx
  simp only [cps] at hs ⊢
  cases hg : g (enc x) (wipeE own ρ) with
  | none => rw [hg] at hs; exact hs
  | some ρ1 =>
    rw [hg] at hs
    exact ⟨fun _ => hs.mono fun d h => ⟨trivial, h⟩, fun z => by cases z⟩
/-- one statement, then the rest -/
theorem seq_cut {S S' : SM} {ρ : Od.Env} {ΦS : Fl → Prop} {Ψ : Exn → Od.Env → Prop} (M : Od.Env → Prop) (h1 : sat (S ρ) (fun f => match f with | .nx ρ1 => M ρ1 | r => ΦS r) Ψ) (h2 : ∀ ρ1, M ρ1 → sat (S' ρ1) ΦS Ψ) : sat (sSeq S S' ρ) ΦS Ψ := by
  rw [s_seq]
  refine h1.mono fun f h => ?_
  cases f with
  | nx ρ1 => exact h2 ρ1 h
  | rt t ρ1 => exact h
  | bk ρ1 => exact h
  | ct ρ1 => exact h
/-- data that == reads: how deep at most -/
def Ck (k : Nat) (d : D) : Prop := d.ok = true ∧ d.dep ≤ k
def CkL (k : Nat) (ds : List D) : Prop := ∀ d ∈ ds, Ck k d
theorem Ck.mono {j k : Nat} {d : D} (h : Ck j d) (hk : j ≤ k) : Ck k d := ⟨h.1, Nat.le_trans h.2 hk⟩
theorem ck_int (k : Nat) (s : Int) : Ck k (.int s) := ⟨rfl, Nat.zero_le _⟩
theorem ckL_nil (k : Nat) : CkL k [] := fun _ h => by cases h
theorem ckL_cons {k : Nat} {d : D} {ds : List D} (h : Ck k d) (t : CkL k ds) : CkL k (d :: ds) := fun x hx => by
  rcases List.mem_cons.mp hx with rfl | hx
  · exact h
  · exact t x hx
theorem ckL_map {α : Type} {k : Nat} {xs : List α} {f : α → D} (h : ∀ x ∈ xs, Ck k (f x)) : CkL k (xs.map f) := fun x hx => by
  obtain ⟨y, hy, rfl⟩ := List.mem_map.mp hx
  exact h y hy
theorem ckL_g : ∀ {k : Nat} {ds : List D}, CkL k ds → D.okL ds = true ∧ D.depL ds ≤ k
  | k, [], _ => ⟨rfl, Nat.zero_le _⟩
  | k, d :: ds, h => by
    have h1 := h d List.mem_cons_self
    have h2 := ckL_g (ds := ds) fun x hx => h x (List.mem_cons_of_mem d hx)
    unfold D.okL D.depL
    refine ⟨by rw [h1.1, h2.1]; rfl, ?_⟩
    have := h1.2; have := h2.2; omega
theorem ck_lst {k : Nat} {ds : List D} (h : CkL k ds) : Ck (k + 1) (.lst ds) := by
  obtain ⟨a, b⟩ := ckL_g h
  exact ⟨by unfold D.ok; exact a, by unfold D.dep; omega⟩
theorem ck_tup {k : Nat} {ds : List D} (h : CkL k ds) : Ck (k + 1) (.tup ds) := by
  obtain ⟨a, b⟩ := ckL_g h
  exact ⟨by unfold D.ok; exact a, by unfold D.dep; omega⟩
theorem okI_of {j : Int} (h : -1000000000 ≤ j) (h' : j ≤ 1000000000) : okI j = true := by unfold okI; rw [decide_eq_true h, decide_eq_true h']; rfl
theorem okI_2 {i j : Int} (h : okI i = true) (h' : okI j = true) : (okI i && okI j) = true := by rw [h, h']; rfl
theorem ext_ok {ds es : List D} {ΦM : List D × D → Prop} (h : ds.length + es.length ≤ 1000000) (q : ΦM (ds ++ es, .non)) : ex (mExtend ds [.lst es]) ΦM := by
  show ex (if _ then _ else _) _
  rw [if_pos h]; exact q
/-- clean data, not too great to be shown -/
structure Th (k B : Nat) (d : D) : Prop where
  o : d.ok = true
  g : gdD d = true
  p : d.dep ≤ k
  w : d.shW ≤ B
structure ThL (k B : Nat) (ds : List D) : Prop where
  o : D.okL ds = true
  g : gdL ds = true
  p : D.depL ds ≤ k
  w : D.shWL ds ≤ B
section
variable {k j A B C : Nat} {d : D} {ds es : List D}
theorem Th.mono (h : Th j A d) (a : j ≤ k) (b : A ≤ B) : Th k B d := ⟨h.o, h.g, Nat.le_trans h.p a, Nat.le_trans h.w b⟩
theorem ThL.mono (h : ThL j A ds) (a : j ≤ k) (b : A ≤ B) : ThL k B ds := ⟨h.o, h.g, Nat.le_trans h.p a, Nat.le_trans h.w b⟩
theorem th_str {s : Tx} (h : ∀ c ∈ s, c ≤ 127) (hl : 10 * s.length + 2 ≤ B) : Th k B (.str s) := ⟨ok_str h (by decide), rfl, Nat.zero_le _, by unfold D.shW; exact hl⟩
theorem thL_nil : ThL k 0 [] := ⟨rfl, rfl, Nat.zero_le _, Nat.le_refl 0⟩
theorem thL_cons (h : Th k A d) (t : ThL k B ds) : ThL k (A + 2 + B) (d :: ds) := by
  refine ⟨?_, ?_, ?_, ?_⟩
  · unfold D.okL; rw [h.o, t.o]; rfl
  · unfold gdL; rw [h.g, t.g]; rfl
  · unfold D.depL; have := h.p; have := t.p; omega
  · unfold D.shWL; have := h.w; have := t.w; omega
theorem thL_split (h : ThL k B (d :: ds)) : Th k B d ∧ ThL k B ds ∧ d.shW + 2 + D.shWL ds ≤ B := by
  obtain ⟨a, b, c, e⟩ := h
  unfold D.okL at a
  unfold gdL at b
  unfold D.depL at c
  unfold D.shWL at e
  simp only [Bool.and_eq_true] at a b
  exact ⟨⟨a.1, b.1, by omega, by omega⟩, ⟨a.2, b.2, by omega, by omega⟩, by omega⟩
theorem thL_mem : ∀ {ds : List D} {d : D}, ThL k B ds → d ∈ ds → Th k B d
  | [], d, _, h => by cases h
  | x :: xs, d, h, m => by
    obtain ⟨a, b, c⟩ := thL_split h
    rcases List.mem_cons.mp m with rfl | m
    · exact a
    · exact thL_mem b m
theorem thL_len : ∀ {ds : List D} {B : Nat}, ThL k B ds → 2 * ds.length ≤ B
  | [], B, _ => Nat.zero_le _
  | x :: xs, B, h => by
    obtain ⟨a, b, c⟩ := thL_split h
    have := thL_len (B := D.shWL xs) ⟨b.o, b.g, b.p, Nat.le_refl _⟩
    simp only [List.length_cons]
    omega
theorem th_lst (h : ThL k B ds) : Th (k + 1) (B + 3) (.lst ds) := by
  refine ⟨by unfold D.ok; exact h.o, by unfold gdD; exact h.g, ?_, ?_⟩
  · unfold D.dep; have := h.p; omega
  · unfold D.shW; have := h.w; omega
theorem th_tup (h : ThL k B ds) : Th (k + 1) (B + 3) (.tup ds) := by
  refine ⟨by unfold D.ok; exact h.o, by unfold gdD; exact h.g, ?_, ?_⟩
  · unfold D.dep; have := h.p; omega
  · unfold D.shW; have := h.w; omega
theorem Th.ofLst (h : Th k B (.lst ds)) : ThL k B ds ∧ D.depL ds + 1 ≤ k ∧ D.shWL ds + 3 ≤ B := by
  obtain ⟨a, b, c, e⟩ := h
  unfold D.ok at a
  unfold gdD at b
  unfold D.dep at c
  unfold D.shW at e
  exact ⟨⟨a, b, by omega, by omega⟩, by omega, by omega⟩
theorem Th.ofTup (h : Th k B (.tup ds)) : ThL k B ds ∧ D.depL ds + 1 ≤ k ∧ D.shWL ds + 3 ≤ B := by
  obtain ⟨a, b, c, e⟩ := h
  unfold D.ok at a
  unfold gdD at b
  unfold D.dep at c
  unfold D.shW at e
  exact ⟨⟨a, b, by omega, by omega⟩, by omega, by omega⟩
theorem Th.ofStr {s : Tx} (h : Th k B (.str s)) : 10 * s.length + 2 ≤ B := by
  have := h.w
  unfold D.shW at this
  exact this
/-- clean data is of one of these kinds -/
theorem Th.kinds (h : Th k B d) : d = .non ∨ (∃ b, d = .bl b) ∨ (∃ i, d = .int i) ∨ (∃ s, d = .str s) ∨ (∃ ds, d = .tup ds) ∨ ∃ ds, d = .lst ds := by
  have := h.g
  cases d with
  | non => exact .inl rfl
  | bl b => exact .inr (.inl ⟨b, rfl⟩)
  | int i => exact .inr (.inr (.inl ⟨i, rfl⟩))
  | str s => exact .inr (.inr (.inr (.inl ⟨s, rfl⟩)))
  | tup ds => exact .inr (.inr (.inr (.inr (.inl ⟨ds, rfl⟩))))
  | lst ds => exact .inr (.inr (.inr (.inr (.inr ⟨ds, rfl⟩))))
  | _ => cases this
end
theorem join1 : ∀ s : Tx, joinT [] (s.map fun c => [c]) = s
  | [] => rfl
  | [c] => rfl
  | c :: d :: r => by
    have := join1 (d :: r)
    simp only [List.map_cons] at this ⊢
    show [c] ++ [] ++ joinT [] _ = _
    rw [this]; rfl
theorem sum1 : ∀ s : Tx, ((s.map fun c => [c]).map List.length).sum = s.length
  | [] => rfl
  | c :: r => by
    have := sum1 r
    simp only [List.map_cons, List.sum_cons, List.length_cons, List.length_nil] at this ⊢
    omega
theorem sg_app {s t : Tx} (h : Sg s) (h' : Sg t) : Sg (s ++ t) := fun c hc => by
  rcases List.mem_append.mp hc with hc | hc
  · exact h c hc
  · exact h' c hc
def bookD (ps : List (Tx × Tx)) : List D := ps.map fun p => .tup [.str p.1, .str p.2]
/-- a code of at most so many signs -/
def Cd (k : Nat) (s : Tx) : Prop := Sg s ∧ 1 ≤ s.length ∧ s.length ≤ k
def Bk (k : Nat) (ps : List (Tx × Tx)) : Prop := ∀ p ∈ ps, Nm p.1 ∧ Cd k p.2
theorem cutD_take {α : Type} (xs : List α) (k : Nat) : cutD xs none (some (k : Int)) = xs.take k := by
  unfold cutD
  rw [show HT.sIx xs.length 0 none = 0 from rfl, HT.sIx_nat]
  rw [List.drop_zero, Nat.sub_zero]
  by_cases h : k ≤ xs.length
  · rw [Nat.min_eq_left h]
  · rw [Nat.min_eq_right (by omega), List.take_of_length_le (Nat.le_refl _), List.take_of_length_le (by omega)]
theorem cutD_drop {α : Type} (xs : List α) (k : Nat) : cutD xs (some (k : Int)) none = xs.drop k := by
  unfold cutD
  rw [show HT.sIx xs.length xs.length none = xs.length from rfl, HT.sIx_nat]
  by_cases h : k ≤ xs.length
  · rw [Nat.min_eq_left h, List.take_of_length_le (by simp)]
  · rw [Nat.min_eq_right (by omega), List.drop_of_length_le (Nat.le_refl _), List.drop_of_length_le (show xs.length ≤ k by omega)]; simp
/-- neither begins the other -/
def Ap (a b : Tx) : Prop := ¬ a <+: b ∧ ¬ b <+: a
theorem Ap.symm {a b : Tx} (h : Ap a b) : Ap b a := ⟨h.2, h.1⟩
theorem Ap.ext {a b : Tx} (x y : Tx) (h : Ap a b) : Ap (a ++ x) (b ++ y) := by
  have key : ∀ {a b : Tx} (x y : Tx), Ap a b → ¬ (a ++ x) <+: (b ++ y) := by
    intro a b x y h p
    have h1 : a <+: b ++ y := (List.prefix_append a x).trans p
    rcases List.prefix_or_prefix_of_prefix h1 (List.prefix_append b y) with q | q
    · exact h.1 q
    · exact h.2 q
  exact ⟨key x y h, key y x h.symm⟩
def wt (c : Tx) : Nat := 2 ^ (40 - c.length)
def sumW : List Tx → Nat
  | [] => 0
  | c :: cs => wt c + sumW cs
theorem sumW_app : ∀ (a b : List Tx), sumW (a ++ b) = sumW a + sumW b
  | [], b => by simp [sumW]
  | c :: a, b => by simp only [List.cons_append, sumW, sumW_app a b]; omega
structure FC (k : Nat) (cs : List Tx) : Prop where
  pf : cs.Pairwise Ap
  sum : sumW cs ≤ 2 ^ 40
  sg : ∀ c ∈ cs, Cd k c
theorem perm_sum {a b : List Tx} (h : a.Perm b) : sumW a = sumW b := by
  induction h with
  | nil => rfl
  | cons x _ ih => simp only [sumW, ih]
  | swap x y l => simp only [sumW]; omega
  | trans _ _ h1 h2 => exact h1.trans h2
theorem FC.perm {k : Nat} {a b : List Tx} (h : FC k a) (p : a.Perm b) : FC k b :=
  ⟨(p.pairwise_iff (fun h => Ap.symm h)).mp h.pf, by rw [← perm_sum p]; exact h.sum, fun c hc => h.sg c (p.mem_iff.mpr hc)⟩
theorem wt_ext (c x : Tx) : wt (c ++ x) ≤ wt c := by
  unfold wt
  exact Nat.pow_le_pow_right (by decide) (by simp; omega)
theorem pair_at {A B : List Tx} {c : Tx} (h : (A ++ c :: B).Pairwise Ap) : A.Pairwise Ap ∧ B.Pairwise Ap ∧ (∀ b ∈ B, Ap c b) ∧ (∀ a ∈ A, Ap a c) ∧ ∀ a ∈ A, ∀ b ∈ B, Ap a b := by
  rw [List.pairwise_append, List.pairwise_cons] at h
  obtain ⟨h1, ⟨h2, h3⟩, h4⟩ := h
  exact ⟨h1, h3, h2, fun a ha => h4 a ha c List.mem_cons_self, fun a ha b hb => h4 a ha b (List.mem_cons_of_mem _ hb)⟩
theorem FC.ext {k : Nat} {A B : List Tx} {c x : Tx} (h : FC k (A ++ c :: B)) (hx : Sg x) (hl : c.length + x.length ≤ k) : FC k (A ++ (c ++ x) :: B) := by
  obtain ⟨h1, h2, h3, h4, h5⟩ := pair_at h.pf
  have hcc := h.sg c (by simp)
  have l {a : Tx} (q : Ap a c) : Ap a (c ++ x) := by have := q.ext [] x; simpa using this
  have r {a : Tx} (q : Ap c a) : Ap (c ++ x) a := by have := q.ext x []; simpa using this
  refine ⟨?_, ?_, ?_⟩
  · rw [List.pairwise_append, List.pairwise_cons]
    refine ⟨h1, ⟨fun b hb => r (h3 b hb), h2⟩, fun a ha b hb => ?_⟩
    rcases List.mem_cons.mp hb with rfl | hb
    · exact l (h4 a ha)
    · exact h5 a ha b hb
  · have := h.sum
    rw [sumW_app] at this ⊢
    simp only [sumW] at this ⊢
    have e := wt_ext c x
    omega
  · intro y hy
    rcases List.mem_append.mp hy with hy | hy
    · exact h.sg y (by simp [hy])
    · rcases List.mem_cons.mp hy with rfl | hy
      · exact ⟨sg_app hcc.1 hx, by have := hcc.2.1; simp; omega, by simp; omega⟩
      · exact h.sg y (by simp [hy])
/-- the code of a name -/
def cd (ps : List (Tx × Tx)) (s : Tx) : Tx := ((ps.find? fun x => decide (x.1 = s)).map Prod.snd).getD []
theorem find_nm : ∀ {ps : List (Tx × Tx)} {p : Tx × Tx}, (ps.map Prod.fst).Nodup → p ∈ ps → ps.find? (fun a => decide (a.1 = p.1)) = some p
  | [], p, _, h => by cases h
  | a :: ps, p, nd, h => by
    rw [List.map_cons, List.nodup_cons] at nd
    rw [List.find?_cons]
    rcases List.mem_cons.mp h with rfl | h
    · simp
    · have : a.1 ≠ p.1 := fun z => nd.1 (by rw [z]; exact List.mem_map.mpr ⟨p, h, rfl⟩)
      rw [decide_eq_false this]
      exact find_nm nd.2 h
theorem cd_mem {ps : List (Tx × Tx)} {p : Tx × Tx} (nd : (ps.map Prod.fst).Nodup) (h : p ∈ ps) : cd ps p.1 = p.2 := by unfold cd; rw [find_nm nd h]; rfl
theorem cd_in {ps : List (Tx × Tx)} {s : Tx} (nd : (ps.map Prod.fst).Nodup) (h : s ∈ ps.map Prod.fst) : (s, cd ps s) ∈ ps := by
  obtain ⟨p, hp, rfl⟩ := List.mem_map.mp h
  rw [cd_mem nd hp]; exact hp
theorem cd_cd {k : Nat} {ps : List (Tx × Tx)} {s : Tx} (nd : (ps.map Prod.fst).Nodup) (h : s ∈ ps.map Prod.fst) (f : FC k (ps.map Prod.snd)) : Cd k (cd ps s) := f.sg _ (List.mem_map.mpr ⟨_, cd_in nd h, rfl⟩)
/-- a book's dict, any data told by its pairs -/
def nmK (ps : List (Tx × Tx)) : List DK := (ps.map Prod.fst).map .inr
theorem look_map {ps : List (Tx × Tx)} {p : Tx × Tx} (f : Tx × Tx → D) (nd : (ps.map Prod.fst).Nodup) (h : p ∈ ps) : kLook (nmK ps) (ps.map f) (.inr p.1) = some (f p) := by
  unfold nmK
  rw [kLook_strs]
  have e : (ps.map Prod.fst).zip (ps.map f) = ps.map fun p => (p.1, f p) := by
    clear nd h
    induction ps with
    | nil => rfl
    | cons a r ih => simp only [List.map_cons, List.zip_cons_cons, ih]
  rw [e, List.find?_map]
  have : ((fun q : Tx × D => decide (q.1 = p.1)) ∘ fun p : Tx × Tx => (p.1, f p)) = fun a => decide (a.1 = p.1) := rfl
  rw [this, find_nm nd h]; rfl
theorem look_ex {ps : List (Tx × Tx)} {p : Tx × Tx} (f : Tx × Tx → D) (nd : (ps.map Prod.fst).Nodup) (h : p ∈ ps) {Φ : D → Prop} : ex (fIdx (.dct (nmK ps) (ps.map f)) (.str p.1)) Φ = Φ (f p) := by
  have : fIdx (.dct (nmK ps) (ps.map f)) (.str p.1) = some (f p) := look_map f nd h
  rw [this]; rfl
theorem look_cd {ps : List (Tx × Tx)} {s : Tx} (f : Tx × Tx → D) (nd : (ps.map Prod.fst).Nodup) (h : s ∈ ps.map Prod.fst) {Φ : D → Prop} : ex (fIdx (.dct (nmK ps) (ps.map f)) (.str s)) Φ = Φ (f (s, cd ps s)) := look_ex (p := (s, cd ps s)) f nd (cd_in nd h)
theorem pairs_bk : ∀ ps : List (Tx × Tx), pairsD (bookD ps) = some (ps.map fun p => (.inr p.1, .str p.2))
  | [] => rfl
  | p :: ps => by
    show (Od.pairD _).bind _ = _
    rw [show Od.pairD (.tup [.str p.1, .str p.2]) = some (.inr p.1, .str p.2) from rfl]
    show (pairsD (bookD ps)).map _ = _
    rw [pairs_bk ps]; rfl
def stC (p : Tx × Tx) : D := .str p.2
theorem dict_core {ps : List (Tx × Tx)} (h : (ps.map Prod.fst).Nodup) : ((ps.map fun p => ((.inr p.1 : DK), D.str p.2)).map Prod.fst).Nodup ∧ (ps.map fun p => ((.inr p.1 : DK), D.str p.2)).map Prod.fst = nmK ps ∧ (ps.map fun p => ((.inr p.1 : DK), D.str p.2)).map Prod.snd = ps.map stC := by
  have e : (ps.map fun p => ((.inr p.1 : DK), D.str p.2)).map Prod.fst = nmK ps := by unfold nmK; rw [List.map_map, List.map_map]; rfl
  refine ⟨?_, e, by rw [List.map_map]; rfl⟩
  rw [e]
  exact List.Pairwise.map _ (fun _ _ z y => z (Sum.inr.inj y)) h
theorem dict_l {ps : List (Tx × Tx)} (h : (ps.map Prod.fst).Nodup) {Φ : D → Prop} : ex (fDict [.lst (bookD ps)]) Φ = Φ (.dct (nmK ps) (ps.map stC)) := by
  obtain ⟨h1, h2, h3⟩ := dict_core h
  have : fDict [.lst (bookD ps)] = some (.dct (nmK ps) (ps.map stC)) := by
    show (pairsD (bookD ps)).bind _ = _
    rw [pairs_bk]
    show (if _ then _ else _) = _
    rw [if_pos h1, h2, h3]
  rw [this]; rfl
theorem dict_o {ps : List (Tx × Tx)} (h : (ps.map Prod.fst).Nodup) {Φ : List DK × List D → Prop} : ex (fDictO [.lst (bookD ps)]) Φ = Φ (nmK ps, ps.map stC) := by
  obtain ⟨h1, h2, h3⟩ := dict_core h
  have : fDictO [.lst (bookD ps)] = some (nmK ps, ps.map stC) := by
    show (pairsD (bookD ps)).bind _ = _
    rw [pairs_bk]
    show (if _ then _ else _) = _
    rw [if_pos h1, h2, h3]
  rw [this]; rfl
theorem put_map {ps : List (Tx × Tx)} {s : Tx} (f : Tx × Tx → D) (d : D) (h : s ∈ ps.map Prod.fst) : putKD (nmK ps) (ps.map f) (.inr s) d = (nmK ps, ps.map fun x => if x.1 = s then d else f x) := by
  unfold putKD
  have : ((nmK ps).any fun x => decide (x = .inr s)) = true := by
    rw [List.any_eq_true]
    exact ⟨.inr s, List.mem_map.mpr ⟨s, h, rfl⟩, by simp⟩
  rw [if_pos this]
  congr 1
  clear this h
  unfold nmK
  induction ps with
  | nil => rfl
  | cons a r ih =>
    simp only [List.map_cons, List.zip_cons_cons, List.cons.injEq]
    exact ⟨by simp, ih⟩
/-- the codes of two names exchanged -/
def swp (ps : List (Tx × Tx)) (a b : Tx) : List (Tx × Tx) := ps.map fun x => (x.1, if x.1 = b then cd ps a else if x.1 = a then cd ps b else x.2)
theorem swp_names (ps : List (Tx × Tx)) (a b : Tx) : (swp ps a b).map Prod.fst = ps.map Prod.fst := by unfold swp; rw [List.map_map]; rfl
theorem swp_cd {ps : List (Tx × Tx)} {a b s : Tx} (nd : (ps.map Prod.fst).Nodup) (hs : s ∈ ps.map Prod.fst) : cd (swp ps a b) s = if s = b then cd ps a else if s = a then cd ps b else cd ps s := by
  have h := cd_in nd hs
  have : (s, if s = b then cd ps a else if s = a then cd ps b else cd ps s) ∈ swp ps a b := List.mem_map.mpr ⟨_, h, rfl⟩
  exact cd_mem (by rw [swp_names]; exact nd) this
theorem get_name {ps : List (Tx × Tx)} (nd : (ps.map Prod.fst).Nodup) {i k : Nat} (hi : i < ps.length) (hk : k < ps.length) (h : ps[k].1 = ps[i].1) : k = i := by
  have := (List.nodup_iff_pairwise_ne.mp nd)
  rw [List.pairwise_map, List.pairwise_iff_getElem] at this
  rcases Nat.lt_trichotomy i k with q | q | q
  · exact absurd h.symm (this i k hi hk q)
  · exact q.symm
  · exact absurd h (this k i hk hi q)
theorem swp_perm {ps : List (Tx × Tx)} {a b : Tx} (nd : (ps.map Prod.fst).Nodup) (ha : a ∈ ps.map Prod.fst) (hb : b ∈ ps.map Prod.fst) : ((swp ps a b).map Prod.snd).Perm (ps.map Prod.snd) := by
  obtain ⟨i, hi, ei⟩ := List.mem_iff_getElem.mp (cd_in nd ha)
  obtain ⟨j, hj, ej⟩ := List.mem_iff_getElem.mp (cd_in nd hb)
  have li : i < (ps.map Prod.snd).length := by rw [List.length_map]; exact hi
  have lj : j < (ps.map Prod.snd).length := by rw [List.length_map]; exact hj
  have e : (swp ps a b).map Prod.snd = (((ps.map Prod.snd).set i (ps.map Prod.snd)[j]).set j (ps.map Prod.snd)[i]) := by
    apply List.ext_getElem
    · simp [swp]
    · intro k h1 h2
      have hk : k < ps.length := by simpa [swp] using h1
      rw [List.getElem_set, List.getElem_set]
      simp only [swp, List.getElem_map]
      have ai : ps[i].1 = a := by rw [ei]
      have bj : ps[j].1 = b := by rw [ej]
      rw [ei, ej]
      by_cases kj : j = k
      · subst kj
        rw [if_pos rfl, if_pos bj]
      · have : ps[k].1 ≠ b := fun z => kj (get_name nd hj hk (by rw [z, bj])).symm
        rw [if_neg kj, if_neg this]
        by_cases ki : i = k
        · subst ki
          rw [if_pos rfl, if_pos ai]
        · have : ps[k].1 ≠ a := fun z => ki (get_name nd hi hk (by rw [z, ai])).symm
          rw [if_neg ki, if_neg this]
  rw [e]
  exact List.set_set_perm li lj
def wJump : Tx := [106, 117, 109, 112]
def wZero : Tx := [122, 101, 114, 111]
def wFarJ : Tx := [102, 97, 114, 106, 117, 109, 112]
def wFarZ : Tx := [102, 97, 114, 122, 101, 114, 111]
def wSet : Tx := [115, 101, 116]
def wAdd : Tx := [97, 100, 100]
def wTake : Tx := [116, 97, 107, 101]
def wTell : Tx := [116, 101, 108, 108]
def wAsk : Tx := [97, 115, 107]
def wStop : Tx := [115, 116, 111, 112]
def wSkip : Tx := [115, 107, 105, 112]
def kindsN : List Tx := [wSet, wAdd, wTake, wTell, wAsk, wJump, wZero, wStop, wFarJ, wFarZ, wSkip]
def spotsN : List Tx := [[97], [98], [99], [100]]
def sizesN : List Tx := [[110, 111, 110, 101], [111, 110, 101], [116, 119, 111], [116, 104, 114, 101, 101], [102, 111, 117, 114], [102, 105, 118, 101], [115, 105, 120], [115, 101, 118, 101, 110], [101, 105, 103, 104, 116]]
theorem nd_kinds : kindsN.Nodup := by decide
theorem nd_spots : spotsN.Nodup := by decide
theorem nd_sizes : sizesN.Nodup := by decide
def abc : Tx := [97, 98, 99, 100, 101, 102, 103, 104, 105, 106, 107, 108, 109, 110, 111, 112, 113, 114, 115, 116, 117, 118, 119, 120, 121, 122]
/-- rows of a program -/
inductive PRow where
  | set (s n : Nat) | two (w : Bool) (s t : Nat) | one (w : Bool) (s : Nat) | stop | jump (a : Nat) | zero (s a : Nat)
def spB (s : Nat) : Prop := 97 ≤ s ∧ s ≤ 100
def PRow.ok (m : Nat) : PRow → Prop
  | .set s n => spB s ∧ n ≤ 255
  | .two _ s t => spB s ∧ spB t
  | .one _ s => spB s
  | .stop => True
  | .jump a => a ≤ m
  | .zero s a => spB s ∧ a ≤ m
def wTwo (w : Bool) : Tx := if w then wTake else wAdd
def wOne (w : Bool) : Tx := if w then wAsk else wTell
def PRow.d : PRow → D
  | .set s n => .tup [.str wSet, .str [s], .int n]
  | .two w s t => .tup [.str (wTwo w), .str [s], .str [t]]
  | .one w s => .tup [.str (wOne w), .str [s]]
  | .stop => .tup [.str wStop]
  | .jump a => .tup [.str wJump, .int a]
  | .zero s a => .tup [.str wZero, .str [s], .int a]
theorem abcd_at {i : Int} (h0 : 0 ≤ i) (h1 : i < 4) {Φ : Nat → Prop} (q : ∀ c, spB c → Φ c) : ex (atI [97, 98, 99, 100] i) Φ := by
  refine atI_ok h0 (by simpa using h1) fun c hc => q c ?_
  have := List.mem_of_getElem? hc
  simp only [List.mem_cons, List.not_mem_nil, or_false] at this
  unfold spB
  omega
theorem num_ok {n : Nat} {fs : Fs} {Φ : T → Od.Env → Prop} {Ψ : Exn → Od.Env → Prop} (hb : Bx n fs) (hn : 2 ≤ n) (q : ∀ (r : Nat) fs', r ≤ 255 → Bx (n - 2) fs' → Φ (.sh (.int (r : Nat))) [some (.rcd fs')]) : satO (f__law_number [T.rcd fs]) Φ Ψ := by
  simp only [f__law_number, B__law_number]
  sizeOf_list_dec
  refine ⟨rfl, rfl, take_ok hb (by omega) (by omega) (by omega) fun w fs w0 w1 hb => ?_⟩
  sizeOf_list_dec
  refine ⟨fun _ => ⟨rfl, take_ok hb (by omega) (by omega) (by omega) fun r fs r0 r1 hb => ?_⟩, fun _ => ⟨by simp, rfl, take_ok hb (by omega) (by omega) (by omega) fun r fs r0 r1 hb => ?_⟩⟩
  · obtain ⟨r, rfl⟩ := Int.eq_ofNat_of_zero_le r0
    sizeOf_list_dec
    exact q r fs (by omega) (hb.mono (by omega))
  · sizeOf_list_dec
    refine atI_ok r0 (by simpa using r1) fun d hd => ?_
    have := List.mem_of_getElem? hd
    simp only [List.mem_cons, List.not_mem_nil, or_false] at this
    obtain ⟨v, rfl, hv⟩ : ∃ v : Nat, d = .int (v : Nat) ∧ v ≤ 255 := by
      rcases this with rfl | rfl | rfl | rfl | rfl | rfl
      · exact ⟨0, rfl, by omega⟩
      · exact ⟨1, rfl, by omega⟩
      · exact ⟨2, rfl, by omega⟩
      · exact ⟨127, rfl, by omega⟩
      · exact ⟨128, rfl, by omega⟩
      · exact ⟨255, rfl, by omega⟩
    exact q v fs hv (hb.mono (by omega))
theorem prow_ok {n m : Nat} {fs : Fs} {Φ : T → Od.Env → Prop} {Ψ : Exn → Od.Env → Prop} (hb : Bx n fs) (hn : 10 ≤ n) (hm : m ≤ 1000) (q : ∀ (r : PRow) fs', r.ok m → Bx (n - 10) fs' → Φ (.sh r.d) [some (.rcd fs'), none]) : satO (f__law_row [T.rcd fs, .sh (.int (m : Nat))]) Φ Ψ := by
  simp only [f__law_row, B__law_row]
  sizeOf_list_dec
  refine ⟨rfl, rfl, take_ok hb (by omega) (by omega) (by omega) fun w fs w0 w1 hb => ?_⟩
  sizeOf_list_dec
  refine ⟨rfl, take_ok hb (by omega) (by omega) (by omega) fun i fs i0 i1 hb => ?_⟩
  sizeOf_list_dec
  refine ⟨by decide, abcd_at i0 i1 fun s hs => ?_⟩
  refine ⟨rfl, rfl, take_ok hb (by omega) (by omega) (by omega) fun j fs j0 j1 hb => ?_⟩
  sizeOf_list_dec
  refine ⟨by decide, abcd_at j0 j1 fun t ht => ?_⟩
  refine ⟨rfl, rfl, take_ok hb (by omega) (by omega) (by omega) fun a fs a0 a1 hb => ?_⟩
  obtain ⟨a, rfl⟩ := Int.eq_ofNat_of_zero_le a0
  sizeOf_list_dec
  have last : ∀ fs', Bx (n - 10) fs' → ([D.str [122, 101, 114, 111], D.str [s], D.int (a : Nat)].length ≤ 1000000 ∧ Φ (T.sh (D.tup [D.str [122, 101, 114, 111], D.str [s], D.int (a : Nat)])) [some (T.rcd fs'), none]) := fun fs' hb => ⟨by simp, q (.zero s a) fs' ⟨hs, by omega⟩ hb⟩
  have lastj : ∀ fs', Bx (n - 10) fs' → ([D.str [106, 117, 109, 112], D.int (a : Nat)].length ≤ 1000000 ∧ Φ (T.sh (D.tup [D.str [106, 117, 109, 112], D.int (a : Nat)])) [some (T.rcd fs'), none]) := fun fs' hb => ⟨by simp, q (.jump a) fs' (show a ≤ m by omega) hb⟩
  refine ⟨fun _ => ⟨rfl, num_ok hb (by omega) fun r fs hr hb => ?_⟩, fun h2 => ⟨fun h4 => ⟨by simp, ?_⟩, fun h4 => ⟨fun h6 => ⟨by simp, ?_⟩, fun h6 => ⟨fun _ => ⟨rfl, take_ok hb (by omega) (by omega) (by omega) fun z fs z0 z1 hb => ?_⟩, fun _ => ?_⟩⟩⟩⟩
  · sizeOf_list_dec
    exact ⟨by simp, q (.set s r) fs ⟨hs, hr⟩ (hb.mono (by omega))⟩
  · rcases (by omega : w = 2 ∨ w = 3) with rfl | rfl
    · rw [show (2 : Int) - 2 = 0 from rfl, k_at0]
      exact ⟨by simp, q (.two false s t) fs ⟨hs, ht⟩ (hb.mono (by omega))⟩
    · rw [show (3 : Int) - 2 = 1 from rfl, k_at1]
      exact ⟨by simp, q (.two true s t) fs ⟨hs, ht⟩ (hb.mono (by omega))⟩
  · rcases (by omega : w = 4 ∨ w = 5) with rfl | rfl
    · rw [show (4 : Int) - 4 = 0 from rfl, k_at0]
      exact ⟨by simp, q (.one false s) fs hs (hb.mono (by omega))⟩
    · rw [show (5 : Int) - 4 = 1 from rfl, k_at1]
      exact ⟨by simp, q (.one true s) fs hs (hb.mono (by omega))⟩
  · sizeOf_list_dec
    refine ⟨fun _ => ⟨by simp, q .stop fs trivial (hb.mono (by omega))⟩, fun _ => ⟨fun _ => lastj fs (hb.mono (by omega)), fun _ => last fs (hb.mono (by omega))⟩⟩
  · exact ⟨fun _ => lastj fs (hb.mono (by omega)), fun _ => last fs (hb.mono (by omega))⟩
theorem program_ok {n m : Nat} {fs : Fs} {Φ : T → Od.Env → Prop} {Ψ : Exn → Od.Env → Prop} (hb : Bx n fs) (hn : 10 * m ≤ n) (hm : m ≤ 1000) (q : ∀ (rs : List PRow) fs', rs.length = m → (∀ r ∈ rs, r.ok m) → Bx (n - 10 * m) fs' → Φ (.lst (rs.map PRow.d)) [some (.rcd fs'), none]) : satO (f__law_program [T.rcd fs, .sh (.int (m : Nat))]) Φ Ψ := by
  simp only [f__law_program, B__law_program]
  sizeOf_list_dec
  refine ⟨rfl, okI_of (by omega) (by omega), ?_⟩
  obtain ⟨xs, hxs⟩ : ∃ xs, xs = rngD 0 (m : Int).toNat := ⟨_, rfl⟩
  have hxl : xs.length = m := by rw [hxs, rngD_len]; omega
  rw [← hxs]
  refine cmp_i (fun i acc ρ => ∃ (fs : Fs) (rs : List PRow), ρ = [some (T.rcd fs), some (T.sh (.int (m : Nat))), none] ∧ acc = rs.map PRow.d ∧ rs.length = i ∧ (∀ r ∈ rs, r.ok m) ∧ Bx (n - 10 * i) fs) (by omega) ⟨fs, [], rfl, rfl, rfl, fun _ h => (by cases h), by simpa using hb⟩ ?_ ?_
  · rintro i y acc ρ hy hi ⟨fs, rs, rfl, rfl, hl, hr, hb⟩
    have hp : i < m := by rw [← hxl]; exact (List.getElem?_eq_some_iff.mp hy).1
    sizeOf_list_dec
    refine ⟨rfl, prow_ok hb (by omega) hm fun r fs hro hb => ?_⟩
    sizeOf_list_dec
    refine ⟨fs, rs ++ [r], rfl, by rw [List.map_append]; rfl, by rw [List.length_append, hl]; rfl, fun r' h' => ?_, hb.mono (by omega)⟩
    rcases List.mem_append.mp h' with h' | h'
    · exact hr r' h'
    · have : r' = r := by simpa using h'
      rw [this]; exact hro
  · rintro acc ρ hl ⟨fs, rs, rfl, rfl, hl2, hr, hb⟩
    sizeOf_list_dec
    rw [hxl] at hl2 hb
    exact q rs fs hl2 hr hb
theorem lmany_ok {n : Nat} {fs : Fs} {Φ : T → Od.Env → Prop} {Ψ : Exn → Od.Env → Prop} (hb : Bx n fs) (hn : 2 ≤ n) (q : ∀ (r : Nat) fs', r ≤ 40 → Bx (n - 2) fs' → Φ (.sh (.int (r : Nat))) [some (.rcd fs')]) : satO (f__law_many [T.rcd fs]) Φ Ψ := by
  simp only [f__law_many, B__law_many]
  sizeOf_list_dec
  refine ⟨rfl, rfl, take_ok hb (by omega) (by omega) (by omega) fun w fs1 w0 w1 hb1 => ?_⟩
  sizeOf_list_dec
  refine ⟨fun _ => ⟨rfl, take_ok hb1 (by omega) (by omega) (by omega) fun v fs2 v0 v1 hb2 => ?_⟩, fun _ => ⟨rfl, take_ok hb1 (by omega) (by omega) (by omega) fun v fs2 v0 v1 hb2 => ?_⟩⟩
  · obtain ⟨v, rfl⟩ := Int.eq_ofNat_of_zero_le v0
    sizeOf_list_dec
    rw [show (13 : Int) + (v : Int) = ((13 + v : Nat) : Int) by omega]
    exact q _ _ (by omega) (hb2.mono (by omega))
  · obtain ⟨v, rfl⟩ := Int.eq_ofNat_of_zero_le v0
    sizeOf_list_dec
    exact q _ _ (by omega) (hb2.mono (by omega))
def bg (a b : Tx) : Bool := b.isPrefixOf a || a.isPrefixOf b
theorem begins_ok {a b : Tx} {Φ : T → Od.Env → Prop} {Ψ : Exn → Od.Env → Prop} (q : Φ (.sh (.bl (bg a b))) [none, none]) : satO (f_begins [T.sh (.str a), .sh (.str b)]) Φ Ψ := by
  simp only [f_begins, B_begins]
  sizeOf_list_dec
  unfold bg at q
  cases h1 : b.isPrefixOf a <;> cases h2 : a.isPrefixOf b <;> rw [h1, h2] at q <;> simp_all
/-- the first pair of names whose codes begin one another: by the later one's place, then by the other's -/
def clGo : List (Tx × Tx) → List (Tx × Tx) → Option (Tx × Tx)
  | _, [] => none
  | done, p :: r => match done.find? (fun a => bg p.2 a.2) with
    | some a => some (a.1, p.1)
    | none => clGo (done ++ [p]) r
def clF (ps : List (Tx × Tx)) : Option (Tx × Tx) := clGo [] ps
def clD : Option (Tx × Tx) → D
  | none => .non
  | some p => .tup [.str p.1, .str p.2]
theorem enumD_get {ps : List (Tx × Tx)} {i : Nat} {x : D} (h : (enumD (bookD ps))[i]? = some x) : ∃ p, ps[i]? = some p ∧ x = .tup [.int i, .tup [.str p.1, .str p.2]] := by
  unfold enumD bookD at h
  rw [List.getElem?_map, List.getElem?_zipIdx, List.getElem?_map] at h
  cases hp : ps[i]? with
  | none => rw [hp] at h; simp at h
  | some p => rw [hp] at h; simp at h; exact ⟨p, rfl, h.symm⟩
theorem enumD_len (ps : List (Tx × Tx)) : (enumD (bookD ps)).length = ps.length := by simp [enumD, bookD]
theorem clash_ok {ps : List (Tx × Tx)} {Φ : T → Od.Env → Prop} {Ψ : Exn → Od.Env → Prop} (q : Φ (.sh (clD (clF ps))) [none]) : satO (f_clash [T.sh (.lst (bookD ps))]) Φ Ψ := by
  simp only [f_clash, B_clash]
  sizeOf_list_dec
  refine ⟨rfl, ?_⟩
  refine for_inv (fun i ρ => ρ = [some (T.sh (.lst (bookD ps))), none, none, none, none, none] ∧ clF ps = clGo (ps.take i) (ps.drop i)) ⟨rfl, rfl⟩ ?_ ?_
  · rintro i x ρ hx ⟨rfl, hc⟩
    obtain ⟨p, hp, rfl⟩ := enumD_get hx
    have hi : i < ps.length := (List.getElem?_eq_some_iff.mp hp).1
    sizeOf_list_dec
    have e : cutD (bookD ps) none (some (i : Int)) = bookD (ps.take i) := by rw [cutD_take]; unfold bookD; rw [List.map_take]
    rw [e]
    have hd : ps.drop i = p :: ps.drop (i + 1) := by
      obtain ⟨hi, rfl⟩ := List.getElem?_eq_some_iff.mp hp
      exact List.drop_eq_getElem_cons hi
    have ht : ps.take (i + 1) = ps.take i ++ [p] := by rw [List.take_add_one, hp]; rfl
    rw [hd] at hc
    unfold clGo at hc
    refine for_inv (fun j ρ => ρ = [some (T.sh (.lst (bookD ps))), some (T.sh (.int i)), some (T.sh (.str p.1)), some (T.sh (.str p.2)), none, none] ∧ (ps.take i).find? (fun a => bg p.2 a.2) = ((ps.take i).drop j).find? (fun a => bg p.2 a.2)) ⟨rfl, rfl⟩ ?_ ?_
    · rintro j y ρ hy ⟨rfl, hf⟩
      obtain ⟨a, ha, rfl⟩ : ∃ a, (ps.take i)[j]? = some a ∧ y = .tup [.str a.1, .str a.2] := by
        unfold bookD at hy
        rw [List.getElem?_map] at hy
        obtain ⟨a, h1, h2⟩ := Option.map_eq_some_iff.mp hy
        exact ⟨a, h1, h2.symm⟩
      have hd2 : (ps.take i).drop j = a :: (ps.take i).drop (j + 1) := by
        obtain ⟨hi, rfl⟩ := List.getElem?_eq_some_iff.mp ha
        exact List.drop_eq_getElem_cons hi
      rw [hd2, List.find?_cons] at hf
      sizeOf_list_dec
      refine ⟨rfl, begins_ok ?_⟩
      sizeOf_list_dec
      refine ⟨fun hb => ⟨by simp, ?_⟩, fun hb => ?_⟩
      · rw [hb] at hf
        rw [hf] at hc
        rw [hc] at q
        exact q
      · rw [hb] at hf
        exact hf
    · rintro ρ ⟨rfl, hf⟩
      have hl : (bookD (ps.take i)).length = (ps.take i).length := by simp [bookD]
      rw [hl, List.drop_length] at hf
      rw [hf] at hc
      sizeOf_list_dec
      rw [ht]
      exact hc
  · rintro ρ ⟨rfl, hc⟩
    rw [enumD_len, List.drop_length, List.take_length] at hc
    sizeOf_list_dec
    rw [hc] at q
    exact q
theorem free_ok {ps : List (Tx × Tx)} {Φ : T → Od.Env → Prop} {Ψ : Exn → Od.Env → Prop} (q : Φ (.sh (.bl (clF ps).isNone)) [none]) : satO (f_free [T.sh (.lst (bookD ps))]) Φ Ψ := by
  simp only [f_free, B_free]
  sizeOf_list_dec
  refine ⟨rfl, rfl, clash_ok ?_⟩
  sizeOf_list_dec
  cases h : clF ps with
  | none => rw [h] at q; exact q
  | some p => rw [h] at q; exact q
theorem clGo_free : ∀ (r done : List (Tx × Tx)), ((done ++ r).map Prod.snd).Pairwise Ap → clGo done r = none
  | [], done, _ => rfl
  | p :: r, done, h => by
    unfold clGo
    have : done.find? (fun a => bg p.2 a.2) = none := by
      rw [List.find?_eq_none]
      intro a ha hb
      rw [List.map_append, List.pairwise_append] at h
      have := h.2.2 a.2 (List.mem_map.mpr ⟨a, ha, rfl⟩) p.2 (by simp)
      unfold bg at hb
      simp only [Bool.or_eq_true, List.isPrefixOf_iff_prefix] at hb
      rcases hb with hb | hb
      · exact this.1 hb
      · exact this.2 hb
    rw [this]
    exact clGo_free r (done ++ [p]) (by simpa using h)
theorem clF_free {ps : List (Tx × Tx)} (h : (ps.map Prod.snd).Pairwise Ap) : clF ps = none := clGo_free ps [] (by simpa using h)
theorem nm_str {s : Tx} (h : Nm s) : (D.str s).ok = true := ok_str (n := 122) (fun c hc => (h.1 c hc).2) (by decide)
/-! ### what a book is -/
def nmB (s : Tx) : Bool := decide (1 ≤ s.length) && decide (s.length ≤ 8) && s.all fun c => abc.contains c
def sgB (s : Tx) : Bool := decide (1 ≤ s.length) && s.all fun c => [48, 49].contains c
def nmD : D → Bool
  | .str s => nmB s
  | _ => false
def sgD : D → Bool
  | .str s => sgB s
  | _ => false
def entD : D → Bool
  | .tup [a, b] => nmD a && sgD b
  | _ => false
def nmOf : D → Tx
  | .tup (.str s :: _) => s
  | _ => []
def bookB : D → Bool
  | .lst ds => !ds.isEmpty && ds.all entD && decide (ds.map nmOf).Nodup
  | _ => false
theorem stripL_all (b a : Tx) : decide (stripL b a = []) = a.all fun c => b.contains c := by
  rw [Bool.eq_iff_iff, decide_eq_true_eq, stripL_nil, List.all_eq_true]
  simp
theorem name_is {k B : Nat} {d : D} {Φ : T → Od.Env → Prop} {Ψ : Exn → Od.Env → Prop} (h : Th k B d) (hB : B ≤ 1000000) (q : Φ (.sh (.bl (nmD d))) [none]) : satO (f_is_name [.sh d]) Φ Ψ := by
  simp only [f_is_name, B_is_name]
  rcases h.kinds with rfl | ⟨b, rfl⟩ | ⟨i, rfl⟩ | ⟨s, rfl⟩ | ⟨ds, rfl⟩ | ⟨ds, rfl⟩
  · sizeOf_list_dec; exact ⟨rfl, q⟩
  · sizeOf_list_dec; exact ⟨rfl, q⟩
  · sizeOf_list_dec; exact ⟨rfl, q⟩
  · have hl := h.ofStr
    have e : nmB s = (decide (1 ≤ s.length) && decide (s.length ≤ 8) && decide (stripL abc s = [])) := by unfold nmB; rw [stripL_all]
    sizeOf_list_dec
    refine ⟨rfl, by omega, fun h1 => ⟨fun h8 => ⟨by omega, ?_⟩, fun h8 => ?_⟩, fun h1 => ?_⟩
    · have a1 : decide (1 ≤ s.length) = true := decide_eq_true (by omega)
      have a2 : decide (s.length ≤ 8) = true := decide_eq_true (by omega)
      have : nmD (.str s) = decide (stripL abc s = []) := by show nmB s = _; rw [e, a1, a2]; rfl
      rw [this] at q
      exact q
    · have a2 : decide (s.length ≤ 8) = false := decide_eq_false (by omega)
      have : nmD (.str s) = false := by show nmB s = _; rw [e, a2]; simp
      rw [this] at q
      exact q
    · have a2 : decide (1 ≤ s.length) = false := decide_eq_false (by omega)
      have : nmD (.str s) = false := by show nmB s = _; rw [e, a2]; simp
      rw [this] at q
      exact q
  · sizeOf_list_dec; exact ⟨rfl, q⟩
  · sizeOf_list_dec; exact ⟨rfl, q⟩
theorem signs_is {k B : Nat} {d : D} {Φ : T → Od.Env → Prop} {Ψ : Exn → Od.Env → Prop} (h : Th k B d) (hB : B ≤ 1000000) (q : Φ (.sh (.bl (sgD d))) [none]) : satO (f_is_signs [.sh d]) Φ Ψ := by
  simp only [f_is_signs, B_is_signs]
  rcases h.kinds with rfl | ⟨b, rfl⟩ | ⟨i, rfl⟩ | ⟨s, rfl⟩ | ⟨ds, rfl⟩ | ⟨ds, rfl⟩
  · sizeOf_list_dec; exact ⟨rfl, q⟩
  · sizeOf_list_dec; exact ⟨rfl, q⟩
  · sizeOf_list_dec; exact ⟨rfl, q⟩
  · have hl := h.ofStr
    have e : sgB s = (decide (1 ≤ s.length) && decide (stripL [48, 49] s = [])) := by unfold sgB; rw [stripL_all]
    sizeOf_list_dec
    refine ⟨rfl, fun h1 => ⟨by omega, ?_⟩, fun h1 => ?_⟩
    · have a1 : decide (1 ≤ s.length) = true := decide_eq_true (by cases s with | nil => exact absurd rfl h1 | cons => simp)
      have : sgD (.str s) = decide (stripL [48, 49] s = []) := by show sgB s = _; rw [e, a1]; rfl
      rw [this] at q
      exact q
    · subst h1
      exact q
  · sizeOf_list_dec; exact ⟨rfl, q⟩
  · sizeOf_list_dec; exact ⟨rfl, q⟩
theorem entry_is {k B : Nat} {d : D} {Φ : T → Od.Env → Prop} {Ψ : Exn → Od.Env → Prop} (h : Th k B d) (hB : B ≤ 1000000) (q : Φ (.sh (.bl (entD d))) [none]) : satO (f_is_entry [.sh d]) Φ Ψ := by
  simp only [f_is_entry, B_is_entry]
  rcases h.kinds with rfl | ⟨b, rfl⟩ | ⟨i, rfl⟩ | ⟨s, rfl⟩ | ⟨ds, rfl⟩ | ⟨ds, rfl⟩
  · sizeOf_list_dec; exact ⟨rfl, q⟩
  · sizeOf_list_dec; exact ⟨rfl, q⟩
  · sizeOf_list_dec; exact ⟨rfl, q⟩
  · sizeOf_list_dec; exact ⟨rfl, q⟩
  · have hL := h.ofTup.1
    sizeOf_list_dec
    refine ⟨rfl, fun h2 => ?_, fun h2 => ?_⟩
    · obtain ⟨a, b, rfl⟩ : ∃ a b, ds = [a, b] := by
        match ds, h2 with
        | [a, b], _ => exact ⟨a, b, rfl⟩
        | [], h2 => simp at h2
        | [a], h2 => simp at h2
        | a :: b :: c :: r, h2 => simp at h2; omega
      have ha := thL_mem hL (d := a) (by simp)
      have hb := thL_mem hL (d := b) (by simp)
      sizeOf_list_dec
      refine ⟨rfl, name_is ha hB ?_⟩
      sizeOf_list_dec
      have e : entD (.tup [a, b]) = (nmD a && sgD b) := rfl
      refine ⟨fun hn => ⟨rfl, signs_is hb hB ?_⟩, fun hn => ?_⟩
      · sizeOf_list_dec
        rw [e, hn] at q
        exact q
      · rw [e, hn] at q
        exact q
    · have : entD (.tup ds) = false := by
        match ds, h2 with
        | [a, b], h2 => exact absurd rfl h2
        | [], _ => rfl
        | [a], _ => rfl
        | a :: b :: c :: r, _ => rfl
      rw [this] at q
      exact q
  · sizeOf_list_dec; exact ⟨rfl, q⟩
theorem all_bls (bs : List Bool) {Φ : D → Prop} : ex (fAll [.lst (bs.map .bl)]) Φ = Φ (.bl (bs.all id)) := by
  have : fAll [.lst (bs.map .bl)] = some (.bl (bs.all id)) := by
    show Option.map _ (allBls _) = _
    rw [allBls_map]; rfl
  rw [this]; rfl
theorem entD_of {d : D} (h : entD d = true) : ∃ n c, d = .tup [.str n, .str c] ∧ nmB n = true ∧ sgB c = true := by
  unfold entD at h
  split at h
  · rename_i a b
    rw [Bool.and_eq_true] at h
    cases a with
    | str n =>
      cases b with
      | str c => exact ⟨n, c, rfl, h.1, h.2⟩
      | _ => cases h.2
    | _ => cases h.1
  · cases h
theorem nub_le : ∀ (xs acc : List Tx), (xs.foldl nub1 acc).length ≤ acc.length + xs.length
  | [], acc => Nat.le_refl _
  | x :: xs, acc => by
    rw [List.foldl_cons]
    have := nub_le xs (nub1 acc x)
    have h2 : (nub1 acc x).length ≤ acc.length + 1 := by unfold nub1; split <;> simp
    simp only [List.length_cons]
    omega
theorem nub_iff : ∀ (xs acc : List Tx), acc.Nodup → ((xs.foldl nub1 acc).length = acc.length + xs.length ↔ (acc ++ xs).Nodup)
  | [], acc, h => by simp [h]
  | x :: xs, acc, h => by
    rw [List.foldl_cons]
    by_cases hx : x ∈ acc
    · have e : nub1 acc x = acc := by unfold nub1; rw [if_pos (by simpa using hx)]
      rw [e]
      have := nub_le xs acc
      constructor
      · intro z
        simp only [List.length_cons] at z
        omega
      · intro z
        rw [List.nodup_append] at z
        exact absurd rfl (z.2.2 x hx x List.mem_cons_self)
    · have e : nub1 acc x = acc ++ [x] := by unfold nub1; rw [if_neg (by simpa using hx)]
      rw [e]
      have nd : (acc ++ [x]).Nodup := by
        rw [List.nodup_append]
        refine ⟨h, by simp, fun a ha b hb => ?_⟩
        have : b = x := by simpa using hb
        subst this
        intro e
        subst e
        exact hx ha
      have := nub_iff xs (acc ++ [x]) nd
      rw [List.append_assoc] at this
      rw [← show acc ++ ([x] ++ xs) = acc ++ x :: xs from rfl, ← this]
      simp only [List.length_append, List.length_cons, List.length_nil]
      constructor <;> intro z <;> omega
theorem nub_len (xs : List Tx) : decide (((nubT xs).length : Int) = (xs.length : Int)) = decide xs.Nodup := by
  have := nub_iff xs [] List.nodup_nil
  rw [List.nil_append, List.length_nil, Nat.zero_add] at this
  rw [Bool.eq_iff_iff, decide_eq_true_eq, decide_eq_true_eq, ← this]
  unfold nubT
  omega
theorem ent_w {d : D} (h : entD d = true) : 31 ≤ d.shW := by
  obtain ⟨n, c, rfl, hn, hc⟩ := entD_of h
  unfold nmB at hn
  unfold sgB at hc
  simp only [Bool.and_eq_true, decide_eq_true_eq] at hn hc
  have e : (D.tup [.str n, .str c]).shW = (10 * n.length + 2 + 2 + (10 * c.length + 2 + 2 + 0)) + 3 := by simp [D.shW, D.shWL]
  omega
theorem ents_w : ∀ {ds : List D}, ds.all entD = true → 33 * ds.length ≤ D.shWL ds
  | [], _ => Nat.zero_le _
  | d :: ds, h => by
    rw [List.all_cons, Bool.and_eq_true] at h
    have := ent_w h.1
    have := ents_w h.2
    rw [D.shWL]
    simp only [List.length_cons]
    omega
theorem ents_names {ds : List D} (h : ds.all entD = true) : ds.map (fun d => D.str (nmOf d)) = (ds.map nmOf).map D.str := by rw [List.map_map]; rfl
theorem book_is {k B : Nat} {d : D} {Φ : T → Od.Env → Prop} {Ψ : Exn → Od.Env → Prop} (h : Th k B d) (hB : B ≤ 1000000) (hs : ∀ ds, d = .lst ds → ds.length ≤ 3000) (q : Φ (.sh (.bl (bookB d))) [none]) : satO (f_is_book [.sh d]) Φ Ψ := by
  simp only [f_is_book, B_is_book]
  rcases h.kinds with rfl | ⟨b, rfl⟩ | ⟨i, rfl⟩ | ⟨s, rfl⟩ | ⟨ds, rfl⟩ | ⟨ds, rfl⟩
  · sizeOf_list_dec; exact ⟨rfl, q⟩
  · sizeOf_list_dec; exact ⟨rfl, q⟩
  · sizeOf_list_dec; exact ⟨rfl, q⟩
  · sizeOf_list_dec; exact ⟨rfl, q⟩
  · sizeOf_list_dec; exact ⟨rfl, q⟩
  · have hL := h.ofLst.1
    have hl := thL_len hL
    sizeOf_list_dec
    refine ⟨rfl, fun h0 => ?_, fun h0 => ?_⟩
    · have : ds = [] := List.length_eq_zero_iff.mp (by omega)
      subst this
      exact q
    have hne : ds ≠ [] := fun z => h0 (by rw [z]; rfl)
    have e0 : ds.isEmpty = false := by cases ds with | nil => exact absurd rfl hne | cons => rfl
    have e1 : ds = ds.map id := by simp
    rw [show cmpL [1] (gNm 1) bTrue (eFz (eCall f_is_entry [Arg.v (eV 1)])) ds = cmpL [1] (gNm 1) bTrue (eFz (eCall f_is_entry [Arg.v (eV 1)])) (ds.map id) from by rw [← e1]]
    refine cmp_each (xs := ds) id (fun d => .bl (entD d)) (by omega) (fun x hx => ?_) ?_
    · sizeOf_list_dec
      refine ⟨rfl, entry_is (thL_mem hL hx) hB ?_⟩
      sizeOf_list_dec
      rfl
    sizeOf_list_dec
    rw [show ds.map (fun d => D.bl (entD d)) = (ds.map entD).map .bl from by rw [List.map_map]; rfl, all_bls]
    have e2 : (ds.map entD).all id = ds.all entD := by rw [List.all_map]; rfl
    rw [e2]
    sizeOf_list_dec
    have e3 : bookB (.lst ds) = (ds.all entD && decide (ds.map nmOf).Nodup) := by show (!ds.isEmpty && ds.all entD && decide (ds.map nmOf).Nodup) = _; rw [e0]; rfl
    rw [e3] at q
    refine ⟨fun ha => ?_, fun ha => ?_⟩
    · have ha' : ds.all entD = false := by simpa using ha
      rw [ha'] at q
      exact q
    have ha' : ds.all entD = true := by simpa using ha
    rw [ha'] at q
    rw [show cmpL [2, 3] (gTp [gNm 2, gNm 3]) bTrue (eV 2) ds = cmpL [2, 3] (gTp [gNm 2, gNm 3]) bTrue (eV 2) (ds.map id) from by rw [← e1]]
    refine cmp_each (xs := ds) id (fun d => .str (nmOf d)) (by omega) (fun x hx => ?_) ?_
    · obtain ⟨n, c, rfl, _, _⟩ := entD_of (List.all_eq_true.mp ha' x hx)
      simp only [id_eq]
      sizeOf_list_dec
      rfl
    have := hs ds rfl
    have := ents_w ha'
    have := hL.w
    sizeOf_list_dec
    rw [ents_names ha', allStrs_map, ex_some]
    refine ⟨by rw [List.length_map]; omega, ?_⟩
    have e4 := nub_len (ds.map nmOf)
    rw [List.length_map] at e4
    rw [e4]
    exact q
theorem bk_ent {A : Nat} {ps : List (Tx × Tx)} (h : Bk A ps) : (bookD ps).all entD = true := by
  rw [List.all_eq_true]
  intro d hd
  obtain ⟨p, hp, rfl⟩ := List.mem_map.mp hd
  obtain ⟨⟨n1, n2, n3⟩, c1, c2, c3⟩ := h p hp
  show (nmB p.1 && sgB p.2) = true
  unfold nmB sgB
  simp only [decide_eq_true n2, decide_eq_true n3, decide_eq_true c2, Bool.true_and, Bool.and_eq_true, List.all_eq_true]
  refine ⟨fun c hc => ?_, fun c hc => ?_⟩
  · have := n1 c hc
    have al : ∀ i : Fin 26, abc.contains (97 + i.1) = true := by decide
    have := al ⟨c - 97, by omega⟩
    rwa [show 97 + (c - 97) = c by omega] at this
  · rcases c1 c hc with rfl | rfl <;> rfl
theorem bk_th {k : Nat} (hk : k ≤ 60) : ∀ {ps : List (Tx × Tx)}, Bk k ps → ThL 2 (800 * ps.length) (bookD ps)
  | [], _ => thL_nil
  | p :: ps, h => by
    obtain ⟨⟨n1, n2, n3⟩, c1, c2, c3⟩ := h p (.head _)
    have t1 : Th 0 82 (.str p.1) := th_str (fun c hc => by have := n1 c hc; omega) (by omega)
    have t2 : Th 0 602 (.str p.2) := th_str (fun c hc => by rcases c1 c hc with rfl | rfl <;> omega) (by omega)
    have t : Th 1 691 (.tup [.str p.1, .str p.2]) := (th_tup (thL_cons t1 (thL_cons t2 thL_nil))).mono (Nat.le_refl _) (by omega)
    have ih := bk_th hk (ps := ps) fun q hq => h q (.tail _ hq)
    exact (thL_cons (t.mono (show 1 ≤ 2 by omega) (Nat.le_refl _)) ih).mono (Nat.le_refl _) (by simp only [List.length_cons]; omega)
theorem isbook_ok {k : Nat} {ps : List (Tx × Tx)} {Φ : T → Od.Env → Prop} {Ψ : Exn → Od.Env → Prop} (h : Bk k ps) (hk : k ≤ 60) (nd : (ps.map Prod.fst).Nodup) (hl : 1 ≤ ps.length) (hl2 : ps.length ≤ 1000) (q : Φ (.sh (.bl true)) [none]) : satO (f_is_book [.sh (.lst (bookD ps))]) Φ Ψ := by
  have e : bookB (.lst (bookD ps)) = true := by
    show (!(bookD ps).isEmpty && (bookD ps).all entD && decide ((bookD ps).map nmOf).Nodup) = true
    rw [bk_ent h]
    have e : (bookD ps).map nmOf = ps.map Prod.fst := by unfold bookD; rw [List.map_map]; rfl
    rw [e, decide_eq_true nd]
    cases ps with
    | nil => simp at hl
    | cons p ps => rfl
  refine book_is (th_lst (bk_th hk h)) (by omega) (fun ds hd => ?_) ?_
  · cases hd
    unfold bookD; rw [List.length_map]; omega
  · rw [e]; exact q
/-- the order of texts that sorted takes -/
def leT (a b : Tx) : Bool := leD (.str a) (.str b)
theorem srtB_strs (xs : List Tx) : srtB (xs.map .str) = true := by
  unfold srtB
  rw [Bool.and_eq_true, Bool.or_eq_true]
  constructor
  · rw [List.all_eq_true]
    intro d hd
    rw [List.all_eq_true]
    intro e he
    obtain ⟨a, _, rfl⟩ := List.mem_map.mp hd
    obtain ⟨b, _, rfl⟩ := List.mem_map.mp he
    rfl
  · exact .inr (by rw [List.all_eq_true]; intro d hd; obtain ⟨a, _, rfl⟩ := List.mem_map.mp hd; rfl)
theorem srt_map (xs : List Tx) : (xs.map D.str).mergeSort leD = (xs.mergeSort leT).map D.str :=
  (List.map_mergeSort (r := leT) (s := leD) (f := D.str) (l := xs) (fun a _ b _ => rfl)).symm
theorem srt_pw (xs : List Tx) : (xs.mergeSort leT).Pairwise fun a b => leT a b = true :=
  List.pairwise_mergeSort (le := leT) (fun a b c => leD_tot.trans _ _ _) (fun a b => by rw [Bool.or_eq_true]; exact leD_tot.total _ _) xs
theorem srt_eq {xs ys : List Tx} (h : xs.Perm ys) (asy : ∀ a ∈ ys, ∀ b ∈ ys, leT a b = true → leT b a = true → a = b) : xs.mergeSort leT = ys.mergeSort leT := by
  refine List.Perm.eq_of_pairwise (fun a b ha hb h1 h2 => asy a ?_ b ?_ h1 h2) (srt_pw xs) (srt_pw ys) ((List.mergeSort_perm xs leT).trans (h.trans (List.mergeSort_perm ys leT).symm))
  · exact h.mem_iff.mp (List.mem_mergeSort.mp ha)
  · exact List.mem_mergeSort.mp hb
theorem okL_strs {xs : List Tx} (h : ∀ s ∈ xs, (D.str s).ok = true) : D.okL (xs.map .str) = true := okL_map h
theorem depL_strs (xs : List Tx) : D.depL (xs.map .str) ≤ 30 := Nat.le_trans (depL_map (k := 0) fun _ _ => Nat.le_refl _) (by decide)
theorem code_l {ps : List (Tx × Tx)} {s : Tx} {Φ : T → Od.Env → Prop} {Ψ : Exn → Od.Env → Prop} (nd : (ps.map Prod.fst).Nodup) (h : s ∈ ps.map Prod.fst) (q : Φ (.sh (.str (cd ps s))) [none, none]) : satO (f_code_of [.sh (.lst (bookD ps)), .sh (.str s)]) Φ Ψ := by
  simp only [f_code_of, B_code_of]
  sizeOf_list_dec
  rw [dict_l nd]
  sizeOf_list_dec
  rw [look_cd stC nd h]
  exact ⟨rfl, q⟩
theorem isbof_ok {k : Nat} {ps : List (Tx × Tx)} {ns : List Tx} {Φ : T → Od.Env → Prop} {Ψ : Exn → Od.Env → Prop} (hp : (ps.map Prod.fst).Perm ns) (hf : FC k (ps.map Prod.snd)) (hk : k ≤ 40) (hn : ∀ s ∈ ns, Nm s) (nd : ns.Nodup)
    (asy : ∀ a ∈ ns, ∀ b ∈ ns, leT a b = true → leT b a = true → a = b) (l1 : 1 ≤ ns.length) (l2 : ns.length ≤ 30) (q : Φ (.sh (.bl true)) [none, none]) : satO (f_is_book_of [.sh (.lst (bookD ps)), .sh (.tup (ns.map .str))]) Φ Ψ := by
  have hl : ps.length = ns.length := by have := hp.length_eq; rwa [List.length_map] at this
  have bk : Bk k ps := fun p hp' => ⟨hn _ (hp.mem_iff.mp (List.mem_map.mpr ⟨p, hp', rfl⟩)), hf.sg _ (List.mem_map.mpr ⟨p, hp', rfl⟩)⟩
  have oks : ∀ s ∈ ns, (D.str s).ok = true := fun s hs => nm_str (hn s hs)
  have okp : ∀ s ∈ ps.map Prod.fst, (D.str s).ok = true := fun s hs => oks s (hp.mem_iff.mp hs)
  simp only [f_is_book_of, B_is_book_of]
  sizeOf_list_dec
  refine ⟨rfl, rfl, isbook_ok bk (by omega) (hp.nodup_iff.mpr nd) (by omega) (by omega) ?_⟩
  sizeOf_list_dec
  refine ⟨rfl, free_ok ?_⟩
  rw [clF_free hf.pf]
  sizeOf_list_dec
  refine ⟨fun z => (by cases z), fun _ => ?_⟩
  unfold bookD
  refine cmp_each (xs := ps) _ (fun x => .str x.1) (by omega) (fun x hx => ?_) ?_
  · sizeOf_list_dec
  sizeOf_list_dec
  rw [show ps.map (fun x => D.str x.1) = (ps.map Prod.fst).map .str by rw [List.map_map]; rfl]
  rw [x_sorted]
  refine ⟨⟨srtB_strs _, okL_strs okp, depL_strs _, by rw [List.length_map, List.length_map]; omega⟩, ⟨srtB_strs _, okL_strs oks, depL_strs _, by rw [List.length_map]; omega⟩, ?_⟩
  rw [srt_map, srt_map, srt_eq hp asy]
  have ok : dOk (.lst ((ns.mergeSort leT).map .str)) := dOk_lst (k := 0) (fun s hs => oks s (List.mem_mergeSort.mp hs)) (fun _ _ => Nat.le_refl _) (by decide)
  rw [fEq_lst ok ok, ex_some, eqB_refl ok.1]
  exact q
theorem asy_kinds : ∀ a ∈ kindsN, ∀ b ∈ kindsN, leT a b = true → leT b a = true → a = b := by decide +kernel
theorem asy_spots : ∀ a ∈ spotsN, ∀ b ∈ spotsN, leT a b = true → leT b a = true → a = b := by decide +kernel
theorem asy_sizes : ∀ a ∈ sizesN, ∀ b ∈ sizesN, leT a b = true → leT b a = true → a = b := by decide +kernel
theorem nm_of {s : Tx} (h : (s.all fun c => decide (97 ≤ c ∧ c ≤ 122)) = true) (h1 : 1 ≤ s.length) (h2 : s.length ≤ 8) : Nm s := ⟨fun c hc => by simpa using List.all_eq_true.mp h c hc, h1, h2⟩
theorem nm_kinds : ∀ s ∈ kindsN, Nm s := fun s h => by
  have : kindsN.all (fun s => (s.all fun c => decide (97 ≤ c ∧ c ≤ 122)) && decide (1 ≤ s.length) && decide (s.length ≤ 8)) = true := by decide
  have := List.all_eq_true.mp this s h
  simp only [Bool.and_eq_true, decide_eq_true_eq] at this
  exact nm_of this.1.1 this.1.2 this.2
theorem nm_spots : ∀ s ∈ spotsN, Nm s := fun s h => by
  have : spotsN.all (fun s => (s.all fun c => decide (97 ≤ c ∧ c ≤ 122)) && decide (1 ≤ s.length) && decide (s.length ≤ 8)) = true := by decide
  have := List.all_eq_true.mp this s h
  simp only [Bool.and_eq_true, decide_eq_true_eq] at this
  exact nm_of this.1.1 this.1.2 this.2
theorem nm_sizes : ∀ s ∈ sizesN, Nm s := fun s h => by
  have : sizesN.all (fun s => (s.all fun c => decide (97 ≤ c ∧ c ≤ 122)) && decide (1 ≤ s.length) && decide (s.length ≤ 8)) = true := by decide
  have := List.all_eq_true.mp this s h
  simp only [Bool.and_eq_true, decide_eq_true_eq] at this
  exact nm_of this.1.1 this.1.2 this.2
theorem isnum_ok {i : Int} {Φ : T → Od.Env → Prop} {Ψ : Exn → Od.Env → Prop} (q : Φ (.sh (.bl true)) [none]) : satO (f_is_number [.sh (.int i)]) Φ Ψ := by
  simp only [f_is_number, B_is_number]
  sizeOf_list_dec
  exact ⟨rfl, q⟩
/-! numbers, rising -/
def srtI (xs : List Int) : List Int := xs.mergeSort fun a b => decide (a ≤ b)
theorem srtI_perm (xs : List Int) : (srtI xs).Perm xs := List.mergeSort_perm _ _
theorem srtI_len (xs : List Int) : (srtI xs).length = xs.length := (srtI_perm xs).length_eq
def Up (xs : List Int) : Prop := xs.Pairwise (· ≤ ·)
theorem srtI_up (xs : List Int) : Up (srtI xs) := by
  have := List.pairwise_mergeSort (le := fun a b : Int => decide (a ≤ b)) (fun a b c h g => by simp at h g ⊢; omega) (fun a b => by simp; omega) xs
  exact this.imp fun h => by simpa using h
theorem up_unique : ∀ {xs ys : List Int}, Up xs → Up ys → xs.Perm ys → xs = ys
  | [], ys, _, _, p => by rw [p.nil_eq]
  | x :: xs, [], _, _, p => by have := p.length_eq; simp at this
  | x :: xs, y :: ys, h, g, p => by
    unfold Up at h g
    rw [List.pairwise_cons] at h g
    have e : x = y := by
      have h1 : x ∈ y :: ys := p.mem_iff.mp List.mem_cons_self
      have h2 : y ∈ x :: xs := p.mem_iff.mpr List.mem_cons_self
      rcases List.mem_cons.mp h1 with e | h1
      · exact e
      · rcases List.mem_cons.mp h2 with e | h2
        · exact e.symm
        · have := h.1 y h2
          have := g.1 x h1
          omega
    subst e
    rw [up_unique h.2 g.2 p.cons_inv]
theorem srtI_of {xs ys : List Int} (h : Up xs) (p : xs.Perm ys) : srtI ys = xs := up_unique (srtI_up ys) h ((srtI_perm ys).trans p.symm)
/-! the layers -/
def prs : List Int → List Int
  | a :: b :: r => (a + b) :: prs r
  | _ => []
def lay (own : List Int) : Nat → List Int
  | 0 => own
  | k + 1 => srtI (own ++ prs (lay own k))
theorem prs_len : ∀ xs : List Int, (prs xs).length = xs.length / 2
  | [] => rfl
  | [a] => by simp [prs]
  | a :: b :: r => by
    have := prs_len r
    simp only [prs, List.length_cons, this]
    omega
theorem prs_get : ∀ (xs : List Int) (k : Nat), k < xs.length / 2 → (prs xs)[k]? = some (xs.getD (2 * k) 0 + xs.getD (2 * k + 1) 0)
  | [], k, h => by simp at h
  | [a], k, h => by simp at h
  | a :: b :: r, 0, h => by simp [prs]
  | a :: b :: r, k + 1, h => by
    have := prs_get r k (by simp at h; omega)
    simp only [prs, List.getElem?_cons_succ, this]
    have e1 : 2 * (k + 1) = 2 * k + 1 + 1 := by omega
    have e2 : 2 * (k + 1) + 1 = 2 * k + 1 + 1 + 1 := by omega
    rw [e1]
    simp
theorem lay_len (own : List Int) (k : Nat) : (lay own k).length ≤ 2 * own.length := by
  induction k with
  | zero => show own.length ≤ _; omega
  | succ k ih =>
    show (srtI _).length ≤ _
    rw [srtI_len, List.length_append, prs_len]
    omega
theorem prs_mem : ∀ {xs : List Int} {x : Int}, x ∈ prs xs → ∃ a ∈ xs, ∃ b ∈ xs, x = a + b
  | [], x, h => by simp [prs] at h
  | [a], x, h => by simp [prs] at h
  | a :: b :: r, x, h => by
    simp only [prs, List.mem_cons] at h
    rcases h with rfl | h
    · exact ⟨a, by simp, b, by simp, rfl⟩
    · obtain ⟨c, hc, e, he, z⟩ := prs_mem h
      exact ⟨c, by simp [hc], e, by simp [he], z⟩
theorem lay_up {own : List Int} (h : Up own) : ∀ k, Up (lay own k)
  | 0 => h
  | k + 1 => srtI_up _
/-! the layers and the joinings, by counting -/
/-- how many are less -/
def cn (z : Int) (xs : List Int) : Nat := (xs.filter fun a => decide (a < z)).length
theorem cn_perm {z : Int} {xs ys : List Int} (p : xs.Perm ys) : cn z xs = cn z ys := (p.filter _).length_eq
theorem cn_app (z : Int) (xs ys : List Int) : cn z (xs ++ ys) = cn z xs + cn z ys := by unfold cn; rw [List.filter_append, List.length_append]
theorem cn_cons (z x : Int) (xs : List Int) : cn z (x :: xs) = (if x < z then 1 else 0) + cn z xs := by
  unfold cn
  rw [List.filter_cons]
  by_cases h : x < z
  · simp [h]; omega
  · simp [h]
theorem cn_le (z : Int) (xs : List Int) : cn z xs ≤ xs.length := List.length_filter_le _ _
/-- in a rising list the less ones stand first -/
theorem cn_get : ∀ {xs : List Int} {z : Int} {i : Nat} {x : Int}, Up xs → xs[i]? = some x → (x < z ↔ i < cn z xs)
  | [], z, i, x, _, h => by simp at h
  | y :: ys, z, i, x, u, h => by
    unfold Up at u
    rw [List.pairwise_cons] at u
    rw [cn_cons]
    cases i with
    | zero =>
      simp only [List.getElem?_cons_zero, Option.some.injEq] at h
      subst h
      by_cases hz : y < z
      · simp [hz]; omega
      · have : cn z ys = 0 := by
          unfold cn
          rw [List.length_eq_zero_iff, List.filter_eq_nil_iff]
          intro b hb
          have := u.1 b hb
          simp; omega
        simp [hz, this]
    | succ i =>
      rw [List.getElem?_cons_succ] at h
      have ih := cn_get (z := z) u.2 h
      rw [ih]
      by_cases hz : y < z
      · simp [hz]; omega
      · have : cn z ys = 0 := by
          unfold cn
          rw [List.length_eq_zero_iff, List.filter_eq_nil_iff]
          intro b hb
          have := u.1 b hb
          simp; omega
        simp [hz, this]
theorem prs_up : ∀ {xs : List Int}, Up xs → Up (prs xs)
  | [], _ => by simp [prs, Up]
  | [a], _ => by simp [prs, Up]
  | a :: b :: r, h => by
    unfold Up at h
    rw [List.pairwise_cons, List.pairwise_cons] at h
    show List.Pairwise _ (_ :: _)
    rw [List.pairwise_cons]
    refine ⟨fun x hx => ?_, prs_up h.2.2⟩
    obtain ⟨c, hc, e, he, rfl⟩ := prs_mem hx
    have := h.1 c (by simp [hc])
    have := h.2.1 e he
    omega
theorem prs_take : ∀ (k : Nat) (xs : List Int), (prs xs).take k = prs (xs.take (2 * k))
  | 0, xs => by simp [prs]
  | k + 1, [] => by simp [prs]
  | k + 1, [a] => by
    rw [show 2 * (k + 1) = 2 * k + 1 + 1 by omega]
    simp [prs]
  | k + 1, a :: b :: r => by
    rw [show 2 * (k + 1) = 2 * k + 1 + 1 by omega, List.take_succ_cons, List.take_succ_cons]
    show ((a + b) :: prs r).take (k + 1) = (a + b) :: prs (r.take (2 * k))
    rw [List.take_succ_cons, prs_take k r]
/-- ys has more that is small -/
def Dm (xs ys : List Int) : Prop := ∀ z, cn z xs ≤ cn z ys
theorem dm_get {xs ys : List Int} {i : Nat} {x : Int} (hx : Up xs) (hy : Up ys) (d : Dm xs ys) (h : xs[i]? = some x) : ∃ y, ys[i]? = some y ∧ y ≤ x := by
  have k1 := (cn_get (z := x + 1) hx h).mp (by omega)
  have e := d (x + 1)
  have hl := cn_le (x + 1) ys
  have ey : ys[i]? = some ys[i] := List.getElem?_eq_getElem (by omega)
  have := (cn_get (z := x + 1) hy ey).mpr (by omega)
  exact ⟨_, ey, by omega⟩
theorem dm_prs {xs ys : List Int} (hx : Up xs) (hy : Up ys) (d : Dm xs ys) : Dm (prs xs) (prs ys) := fun z => by
  by_cases e : cn z (prs xs) = 0
  · omega
  obtain ⟨p, hp⟩ : ∃ p, cn z (prs xs) = p + 1 := ⟨cn z (prs xs) - 1, by omega⟩
  have hl := cn_le z (prs xs)
  rw [prs_len] at hl
  have hg := prs_get xs p (by omega)
  have lt := (cn_get (z := z) (prs_up hx) hg).mpr (by omega)
  have e0 : xs[2 * p]? = some xs[2 * p] := List.getElem?_eq_getElem (by omega)
  have e1 : xs[2 * p + 1]? = some xs[2 * p + 1] := List.getElem?_eq_getElem (by omega)
  obtain ⟨y0, f0, l0⟩ := dm_get hx hy d e0
  obtain ⟨y1, f1, l1⟩ := dm_get hx hy d e1
  have hy1 := (List.getElem?_eq_some_iff.mp f1).1
  have hg2 := prs_get ys p (by omega)
  have g0 : xs.getD (2 * p) 0 = xs[2 * p] := by simp [List.getD, e0]
  have g1 : xs.getD (2 * p + 1) 0 = xs[2 * p + 1] := by simp [List.getD, e1]
  have k0 : ys.getD (2 * p) 0 = y0 := by simp [List.getD, f0]
  have k1 : ys.getD (2 * p + 1) 0 = y1 := by simp [List.getD, f1]
  rw [g0, g1] at lt
  rw [k0, k1] at hg2
  have := (cn_get (z := z) (prs_up hy) hg2).mp (by omega)
  omega
theorem cn_F (z : Int) (own Y : List Int) : cn z (srtI (own ++ prs Y)) = cn z own + cn z (prs Y) := by rw [cn_perm (srtI_perm _), cn_app]
theorem lay_nn {own : List Int} (h : ∀ x ∈ own, 0 ≤ x) : ∀ k, ∀ x ∈ lay own k, 0 ≤ x
  | 0, x, hx => h x hx
  | k + 1, x, hx => by
    have hx : x ∈ own ++ prs (lay own k) := (srtI_perm _).mem_iff.mp hx
    rcases List.mem_append.mp hx with hx | hx
    · exact h x hx
    · obtain ⟨a, ha, b, hb, rfl⟩ := prs_mem hx
      have := lay_nn h k a ha
      have := lay_nn h k b hb
      omega
/-! the two least joined -/
def layY (own' rest : List Int) : Nat → List Int
  | 0 => rest
  | k + 1 => srtI (own' ++ prs (layY own' rest k))
theorem dm_F {own X Y : List Int} (hx : Up X) (hy : Up Y) (d : Dm X Y) : Dm (srtI (own ++ prs X)) (srtI (own ++ prs Y)) := fun z => by
  rw [cn_F, cn_F]
  have := dm_prs hx hy d z
  omega
/-- between two layers of the joined -/
theorem between {c : Int} {rest : List Int} (hr : Up rest) : ∀ k, Dm (lay (srtI (c :: rest)) k) (layY (srtI (c :: rest)) rest (k + 1)) ∧ Dm (layY (srtI (c :: rest)) rest (k + 1)) (lay (srtI (c :: rest)) (k + 1)) := by
  have d0 : Dm rest (srtI (c :: rest)) := fun z => by
    rw [cn_perm (srtI_perm _), cn_cons]
    exact Nat.le_add_left _ _
  have yu : ∀ k, Up (layY (srtI (c :: rest)) rest k) := fun k => by
    cases k with
    | zero => exact hr
    | succ k => exact srtI_up _
  intro k
  induction k with
  | zero =>
    refine ⟨fun z => ?_, dm_F hr (srtI_up _) d0⟩
    show _ ≤ cn z (srtI (srtI (c :: rest) ++ prs rest))
    rw [cn_F]
    exact Nat.le_add_right _ _
  | succ k ih => exact ⟨dm_F (lay_up (srtI_up _) k) (yu _) ih.1, dm_F (yu _) (lay_up (srtI_up _) _) ih.2⟩
/-- the sum of all joinings of n + 1 numbers -/
def hf : Nat → List Int → Int
  | 0, _ => 0
  | n + 1, xs => match srtI xs with
    | a :: b :: r => (a + b) + hf n ((a + b) :: r)
    | _ => 0
theorem sum_le : ∀ {as bs : List Int}, as.length = bs.length → (∀ (i : Nat) (x y : Int), as[i]? = some x → bs[i]? = some y → x ≤ y) → as.sum ≤ bs.sum
  | [], [], _, _ => Int.le_refl _
  | [], _ :: _, h, _ => by simp at h
  | _ :: _, [], h, _ => by simp at h
  | a :: as, b :: bs, h, q => by
    have := q 0 a b rfl rfl
    have := sum_le (as := as) (bs := bs) (by simpa using h) fun i x y h1 h2 => q (i + 1) x y h1 h2
    rw [List.sum_cons, List.sum_cons]
    omega
theorem dm_sum {xs ys : List Int} {m : Nat} (hx : Up xs) (hy : Up ys) (d : Dm xs ys) (hm : m ≤ xs.length) : (ys.take m).sum ≤ (xs.take m).sum := by
  have hl : xs.length ≤ ys.length := by
    rcases Nat.eq_zero_or_pos xs.length with z | z
    · omega
    · have ex : xs[xs.length - 1]? = some xs[xs.length - 1] := List.getElem?_eq_getElem (by omega)
      obtain ⟨y, hy, _⟩ := dm_get hx hy d ex
      have := (List.getElem?_eq_some_iff.mp hy).1
      omega
  refine sum_le (by rw [List.length_take, List.length_take]; omega) fun i y x h1 h2 => ?_
  rw [List.getElem?_take] at h1 h2
  split at h1
  · rename_i hi
    rw [if_pos hi] at h2
    obtain ⟨y', h3, h4⟩ := dm_get hx hy d h2
    rw [h1] at h3
    cases h3
    exact h4
  · cases h1
theorem lay_size {own : List Int} (h : 1 ≤ own.length) : ∀ k, (lay own k).length + (own.length - 1) / 2 ^ k = 2 * own.length - 1
  | 0 => by simp [lay]; omega
  | k + 1 => by
    have ih := lay_size h k
    have e : (lay own (k + 1)).length = own.length + (lay own k).length / 2 := by
      show (srtI _).length = _
      rw [srtI_len, List.length_append, prs_len]
    have e2 : (own.length - 1) / 2 ^ (k + 1) = (own.length - 1) / 2 ^ k / 2 := by rw [Nat.pow_succ, Nat.div_div_eq_div_mul]
    rw [e, e2]
    generalize (own.length - 1) / 2 ^ k = b at *
    omega
theorem lay_enough {own : List Int} {k : Nat} (h : 1 ≤ own.length) (hk : own.length ≤ 2 ^ (k + 1)) : 2 * own.length - 2 ≤ (lay own k).length := by
  have e := lay_size h k
  have p : 2 ^ (k + 1) = 2 ^ k * 2 := Nat.pow_succ ..
  have : (own.length - 1) / 2 ^ k < 2 := Nat.div_lt_of_lt_mul (by omega)
  omega
/-! the least lengths with their places: each name's coin stands at most once in a level -/
abbrev It := Int × List Nat
def prI : List It → List It
  | x :: y :: r => (x.1 + y.1, x.2 ++ y.2) :: prI r
  | _ => []
def occ (i : Nat) (Y : List It) : Nat := (Y.map fun x => x.2.count i).sum
theorem occ_app (i : Nat) (A B : List It) : occ i (A ++ B) = occ i A + occ i B := by unfold occ; rw [List.map_append, List.sum_append]
theorem occ_perm {i : Nat} {A B : List It} (p : A.Perm B) : occ i A = occ i B := (p.map _).sum_nat
theorem occ_cons (i : Nat) (x : It) (A : List It) : occ i (x :: A) = x.2.count i + occ i A := by unfold occ; rw [List.map_cons, List.sum_cons]
theorem prI_fst : ∀ R : List It, (prI R).map Prod.fst = prs (R.map Prod.fst)
  | [] => by simp [prI, prs]
  | [x] => by simp [prI, prs]
  | x :: y :: r => by
    have := prI_fst r
    simp only [prI, List.map_cons, prs, this]
theorem prI_sub : ∀ {R Z : List It}, Z.Sublist (prI R) → ∃ Y, Y.Sublist R ∧ Y.length = 2 * Z.length ∧ ∀ i, occ i Y = occ i Z
  | [], Z, h => by
    have : Z = [] := by simpa [prI] using h
    subst this
    exact ⟨[], List.Sublist.refl _, rfl, fun _ => rfl⟩
  | [x], Z, h => by
    have : Z = [] := by simpa [prI] using h
    subst this
    exact ⟨[], List.nil_sublist _, rfl, fun _ => rfl⟩
  | x :: y :: r, Z, h => by
    have h : Z.Sublist ((x.1 + y.1, x.2 ++ y.2) :: prI r) := h
    cases h with
    | cons _ h =>
      obtain ⟨Y, h1, h2, h3⟩ := prI_sub h
      exact ⟨Y, (h1.cons y).cons x, h2, h3⟩
    | cons_cons _ h =>
      rename_i Z
      obtain ⟨Y, h1, h2, h3⟩ := prI_sub h
      refine ⟨x :: y :: Y, (h1.cons₂ y).cons₂ x, by simp only [List.length_cons, h2]; omega, fun i => ?_⟩
      rw [occ_cons, occ_cons, occ_cons, h3]
      show _ = List.count i (x.2 ++ y.2) + _
      rw [List.count_append]; omega
/-- rows of a level -/
def Lv (own : List It) : Nat → List It → Prop
  | 0, R => R.Perm own
  | j + 1, R => ∃ R', Lv own j R' ∧ R.Perm (own ++ prI R')
def ownIt (us : List Int) : List It := us.zipIdx.map fun p => (p.1, [p.2])
def smN (n : Nat) (f : Nat → Nat) : Nat := ((List.range n).map f).sum
theorem smN_succ (n : Nat) (f : Nat → Nat) : smN (n + 1) f = smN n f + f n := by unfold smN; rw [List.range_succ, List.map_append, List.sum_append]; simp
theorem smN_add (f g : Nat → Nat) : ∀ n, smN n (fun i => f i + g i) = smN n f + smN n g
  | 0 => rfl
  | n + 1 => by rw [smN_succ, smN_succ, smN_succ, smN_add f g n]; omega
theorem smN_mul (f : Nat → Nat) (c : Nat) : ∀ n, smN n (fun i => f i * c) = smN n f * c
  | 0 => by simp [smN]
  | n + 1 => by rw [smN_succ, smN_succ, smN_mul f c n, Nat.add_mul]
theorem smN_le {f g : Nat → Nat} : ∀ {n}, (∀ i < n, f i ≤ g i) → smN n f ≤ smN n g
  | 0, _ => Nat.le_refl _
  | n + 1, h => by
    have := smN_le (n := n) fun i hi => h i (by omega)
    have := h n (by omega)
    rw [smN_succ, smN_succ]; omega
theorem smN_congr {f g : Nat → Nat} {n : Nat} (h : ∀ i < n, f i = g i) : smN n f = smN n g := Nat.le_antisymm (smN_le fun i hi => Nat.le_of_eq (h i hi)) (smN_le fun i hi => Nat.le_of_eq (h i hi).symm)
theorem smN_const (c : Nat) : ∀ n, smN n (fun _ => c) = n * c
  | 0 => by simp [smN]
  | n + 1 => by rw [smN_succ, smN_const c n, Nat.add_mul]; omega
theorem smN_one {k : Nat} : ∀ {n}, smN n (fun i => if i = k then 1 else 0) = if k < n then 1 else 0
  | 0 => by simp [smN]
  | n + 1 => by
    rw [smN_succ, smN_one]
    split <;> split <;> split <;> omega
theorem own_sub {us : List Int} {A : List It} (h : A.Sublist (ownIt us)) : (∀ i, occ i A ≤ 1) ∧ smN us.length (fun i => occ i A) = A.length := by
  obtain ⟨L, hL, rfl⟩ := List.sublist_map_iff.mp h
  have e : ∀ i, occ i (L.map fun p => (p.1, [p.2])) = (L.map Prod.snd).count i := by
    intro i
    clear hL h
    induction L with
    | nil => rfl
    | cons p L ih =>
      rw [List.map_cons, occ_cons, ih, List.map_cons]
      show List.count i [p.2] + List.count i (L.map Prod.snd) = List.count i (p.2 :: L.map Prod.snd)
      rw [List.count_cons, List.count_cons, List.count_nil, Nat.zero_add, Nat.add_comm]
  have hs : (L.map Prod.snd).Sublist (us.zipIdx.map Prod.snd) := hL.map _
  have hr : us.zipIdx.map Prod.snd = List.range' 0 us.length := by rw [List.zipIdx_map_snd]
  rw [hr] at hs
  refine ⟨fun i => ?_, ?_⟩
  · rw [e]
    exact List.nodup_iff_count.mp (hs.nodup (List.nodup_range' ..)) i
  · have hmem : ∀ k ∈ L.map Prod.snd, k < us.length := fun k hk => by
      have := hs.subset hk
      rw [List.mem_range'_1] at this
      omega
    rw [smN_congr fun i _ => e i]
    rw [List.length_map, show L.length = (L.map Prod.snd).length by rw [List.length_map]]
    generalize L.map Prod.snd = ks at hmem
    induction ks with
    | nil => show smN _ (fun _ => 0) = 0; rw [smN_const, Nat.mul_zero]
    | cons k ks ih =>
      have h1 : ∀ i, List.count i (k :: ks) = List.count i ks + if i = k then 1 else 0 := fun i => by
        rw [List.count_cons]
        by_cases z : k = i
        · subst z; simp
        · have z2 : ¬ i = k := fun w => z w.symm
          simp [z, z2]
      rw [smN_congr fun i _ => h1 i, smN_add, ih (fun x hx => hmem x (List.mem_cons_of_mem _ hx)), smN_one, if_pos (hmem k (by simp))]; rfl
theorem coins {us : List Int} : ∀ (j : Nat) {R Y : List It}, Lv (ownIt us) j R → Y.Sublist R → ∃ wd : Nat → Nat, smN us.length wd = Y.length * 2 ^ j ∧ ∀ i, occ i Y ≤ j + 1 ∧ wd i + 2 ^ (j + 1 - occ i Y) ≤ 2 ^ (j + 1)
  | 0, R, Y, h, hY => by
    obtain ⟨A, hp, hA⟩ := List.exists_perm_sublist hY h
    obtain ⟨h1, h2⟩ := own_sub hA
    refine ⟨fun i => occ i A, by rw [h2, hp.length_eq]; simp, fun i => ?_⟩
    rw [← occ_perm hp]
    have := h1 i
    refine ⟨by omega, ?_⟩
    rcases (show occ i A = 0 ∨ occ i A = 1 by omega) with e | e <;> simp [e]
  | j + 1, R, Y, ⟨R', hR', hR⟩, hY => by
    obtain ⟨Y', hp, hY'⟩ := List.exists_perm_sublist hY hR
    obtain ⟨A, B, rfl, hA, hB⟩ := List.sublist_append_iff.mp hY'
    obtain ⟨h1, h2⟩ := own_sub hA
    obtain ⟨Z, hZ, hZl, hZo⟩ := prI_sub hB
    obtain ⟨wd, hw, hwd⟩ := coins j hR' hZ
    have p2 : 2 ^ (j + 1) = 2 ^ j * 2 := Nat.pow_succ ..
    have p3 : 2 ^ (j + 1 + 1) = 2 ^ (j + 1) * 2 := Nat.pow_succ ..
    refine ⟨fun i => occ i A * 2 ^ (j + 1) + wd i, ?_, fun i => ?_⟩
    · rw [smN_add, smN_mul, h2, hw, hZl, ← hp.length_eq, List.length_append, Nat.add_mul]
      congr 1
      rw [p2, Nat.mul_comm 2, Nat.mul_assoc, Nat.mul_comm 2]
    · obtain ⟨c1, c2⟩ := hwd i
      rw [← occ_perm hp, occ_app, ← hZo i]
      have := h1 i
      generalize occ i Z = c at *
      refine ⟨by omega, ?_⟩
      show occ i A * 2 ^ (j + 1) + wd i + _ ≤ _
      rcases (show occ i A = 0 ∨ occ i A = 1 by omega) with e | e
      · rw [e, Nat.zero_mul, Nat.zero_add, Nat.zero_add]
        have : 2 ^ (j + 1 + 1 - c) = 2 ^ (j + 1 - c) * 2 := by rw [← Nat.pow_succ]; congr 1; omega
        omega
      · rw [e, Nat.one_mul, show j + 1 + 1 - (1 + c) = j + 1 - c by omega]
        omega
/-- the lengths fit -/
theorem kraft {us : List Int} {K : Nat} {R Y : List It} (h : Lv (ownIt us) K R) (hY : Y.Sublist R) (hn : 2 ≤ us.length) (hl : Y.length = 2 * us.length - 2) :
    smN us.length (fun i => 2 ^ (K + 1 - occ i Y)) ≤ 2 ^ (K + 1) ∧ ∀ i < us.length, 1 ≤ occ i Y ∧ occ i Y ≤ K + 1 := by
  obtain ⟨wd, hw, hwd⟩ := coins K h hY
  have p2 : 2 ^ (K + 1) = 2 ^ K * 2 := Nat.pow_succ ..
  have s1 : smN us.length (fun i => wd i + 2 ^ (K + 1 - occ i Y)) ≤ us.length * 2 ^ (K + 1) := by
    rw [← smN_const]
    exact smN_le fun i _ => (hwd i).2
  rw [smN_add, hw, hl] at s1
  have e1 : us.length * 2 ^ (K + 1) = (2 * us.length - 2) * 2 ^ K + 2 ^ (K + 1) := by
    obtain ⟨m, hm⟩ : ∃ m, us.length = m + 1 := ⟨us.length - 1, by omega⟩
    rw [hm, show 2 * (m + 1) - 2 = 2 * m by omega, Nat.add_mul, p2, Nat.one_mul, Nat.mul_comm 2 m, Nat.mul_assoc, Nat.mul_comm 2]
  have s2 : smN us.length (fun i => 2 ^ (K + 1 - occ i Y)) ≤ 2 ^ (K + 1) := by omega
  refine ⟨s2, fun i hi => ⟨?_, (hwd i).1⟩⟩
  rcases Nat.eq_zero_or_pos (occ i Y) with z | z
  · exfalso
    -- the others count too
    have s3 : smN us.length (fun k => (if k = i then 1 else 0) * (2 ^ (K + 1) - 1) + 1) ≤ smN us.length (fun i => 2 ^ (K + 1 - occ i Y)) := smN_le fun k _ => by
      have := Nat.one_le_two_pow (n := K + 1 - occ k Y)
      have := Nat.one_le_two_pow (n := K + 1)
      by_cases e : k = i
      · subst e
        rw [if_pos rfl, z, Nat.sub_zero]; omega
      · rw [if_neg e]; omega
    rw [smN_add, smN_mul, smN_one, if_pos hi, smN_const] at s3
    have := Nat.one_le_two_pow (n := K + 1)
    omega
  · exact z
/-! no lengths that fit give less -/
theorem sum_permI {xs ys : List Int} (p : xs.Perm ys) : xs.sum = ys.sum := by
  induction p with
  | nil => rfl
  | cons x _ ih => rw [List.sum_cons, List.sum_cons, ih]
  | swap x y l => rw [List.sum_cons, List.sum_cons, List.sum_cons, List.sum_cons]; omega
  | trans _ _ h1 h2 => rw [h1, h2]
theorem least_take {xs ys zs : List Int} (hx : Up xs) (p : xs.Perm (ys ++ zs)) : (xs.take ys.length).sum ≤ ys.sum := by
  have d : Dm (srtI ys) xs := fun z => by
    rw [cn_perm (srtI_perm ys), cn_perm p, cn_app]
    exact Nat.le_add_right _ _
  have h := dm_sum (m := ys.length) (srtI_up ys) hx d (by rw [srtI_len]; exact Nat.le_refl _)
  rw [List.take_of_length_le (l := srtI ys) (by rw [srtI_len]; exact Nat.le_refl _), sum_permI (srtI_perm ys)] at h
  exact h
theorem prs_sum : ∀ (q : Nat) (l : List Int), l.length = 2 * q → (prs l).sum = l.sum
  | 0, l, h => by
    have : l = [] := List.length_eq_zero_iff.mp (by omega)
    subst this
    simp [prs]
  | q + 1, [], h => by simp at h
  | q + 1, [a], h => by simp at h; omega
  | q + 1, a :: b :: r, h => by
    have := prs_sum q r (by simp at h; omega)
    simp only [prs, List.sum_cons, this]
    omega
theorem nn_sum : ∀ {xs : List Int}, (∀ x ∈ xs, 0 ≤ x) → 0 ≤ xs.sum
  | [], _ => Int.le_refl _
  | x :: xs, h => by
    have := nn_sum (xs := xs) fun y hy => h y (List.mem_cons_of_mem _ hy)
    have := h x List.mem_cons_self
    rw [List.sum_cons]; omega
theorem take_mono {xs : List Int} (h : ∀ x ∈ xs, 0 ≤ x) {q p : Nat} (hq : q ≤ p) : (xs.take q).sum ≤ (xs.take p).sum := by
  obtain ⟨r, rfl⟩ : ∃ r, p = q + r := ⟨p - q, by omega⟩
  rw [List.take_add, List.sum_append]
  have := nn_sum (xs := (xs.drop q).take r) fun x hx => h x (List.mem_of_mem_drop (List.mem_of_mem_take hx))
  omega
/-- how many a level can hold -/
def pk (s : Nat → Nat) : Nat → Nat
  | 0 => s 0
  | j + 1 => s (j + 1) + pk s j / 2
def cst (σ : Nat → Int) : Nat → Int
  | 0 => σ 0
  | j + 1 => σ (j + 1) + cst σ j
theorem level {own : List Int} (hu : Up own) (h0 : ∀ x ∈ own, 0 ≤ x) {s : Nat → Nat} {σ : Nat → Int} (hs : ∀ j, s j ≤ own.length) (hσ : ∀ j, (own.take (s j)).sum ≤ σ j) :
    ∀ j, ((lay own j).take (pk s j)).sum ≤ cst σ j ∧ pk s j ≤ (lay own j).length
  | 0 => ⟨hσ 0, hs 0⟩
  | j + 1 => by
    obtain ⟨h1, h2⟩ := level hu h0 hs hσ j
    have hj := hs (j + 1)
    have hsj := hσ (j + 1)
    have el : (lay own (j + 1)).length = own.length + (lay own j).length / 2 := by
      show (srtI _).length = _
      rw [srtI_len, List.length_append, prs_len]
    refine ⟨?_, by rw [el]; show s (j + 1) + pk s j / 2 ≤ _; omega⟩
    have p : (lay own (j + 1)).Perm ((own.take (s (j + 1)) ++ (prs (lay own j)).take (pk s j / 2)) ++ (own.drop (s (j + 1)) ++ (prs (lay own j)).drop (pk s j / 2))) := by
      refine (srtI_perm _).trans ?_
      have a : (own ++ prs (lay own j)) = (own.take (s (j + 1)) ++ own.drop (s (j + 1))) ++ ((prs (lay own j)).take (pk s j / 2) ++ (prs (lay own j)).drop (pk s j / 2)) := by rw [List.take_append_drop, List.take_append_drop]
      rw [a]
      rw [List.append_assoc, List.append_assoc]
      refine List.Perm.append_left _ ?_
      rw [← List.append_assoc, ← List.append_assoc]
      exact List.Perm.append_right _ List.perm_append_comm
    have h := least_take (lay_up hu (j + 1)) p
    have l2 : (own.take (s (j + 1)) ++ (prs (lay own j)).take (pk s j / 2)).length = pk s (j + 1) := by
      rw [List.length_append, List.length_take, List.length_take, prs_len]
      show _ = s (j + 1) + pk s j / 2
      omega
    rw [l2, List.sum_append] at h
    have e : ((prs (lay own j)).take (pk s j / 2)).sum = ((lay own j).take (2 * (pk s j / 2))).sum := by
      rw [prs_take]
      exact prs_sum (pk s j / 2) _ (by rw [List.length_take]; omega)
    have m := take_mono (lay_nn h0 j) (show 2 * (pk s j / 2) ≤ pk s j by omega)
    show _ ≤ σ (j + 1) + cst σ j
    omega
/-! the levels that lengths fill -/
/-! the rows with places -/
def LvS (us : List Int) : Nat → List It → Prop
  | 0, R => R.Perm (ownIt us) ∧ Up (R.map Prod.fst)
  | j + 1, R => ∃ R', LvS us j R' ∧ R.Perm (ownIt us ++ prI R') ∧ Up (R.map Prod.fst)
theorem LvS.lv {us : List Int} : ∀ {j : Nat} {R : List It}, LvS us j R → Lv (ownIt us) j R
  | 0, _, h => h.1
  | _ + 1, _, ⟨R', h, p, _⟩ => ⟨R', h.lv, p⟩
theorem ownIt_fst (us : List Int) : (ownIt us).map Prod.fst = us := by
  unfold ownIt
  rw [List.map_map]
  show us.zipIdx.map (fun p => p.1) = us
  exact List.zipIdx_map_fst 0 us
theorem LvS.fst {us : List Int} : ∀ {j : Nat} {R : List It}, LvS us j R → R.map Prod.fst = lay (srtI us) j
  | 0, R, h => by
    have p := h.1.map Prod.fst
    rw [ownIt_fst] at p
    exact (srtI_of h.2 p).symm
  | j + 1, R, ⟨R', h, p, u⟩ => by
    have p := p.map Prod.fst
    rw [List.map_append, ownIt_fst, prI_fst, h.fst] at p
    refine (srtI_of u (p.trans ?_)).symm
    exact (srtI_perm us).symm.append_right _
def wtI (us : List Int) (ps : List Nat) : Int := (ps.map fun i => us.getD i 0).sum
def Wt (us : List Int) (x : It) : Prop := x.1 = wtI us x.2 ∧ ∀ i ∈ x.2, i < us.length
theorem wt_own {us : List Int} {x : It} (h : x ∈ ownIt us) : Wt us x := by
  obtain ⟨p, hp, rfl⟩ := List.mem_map.mp h
  have hp := List.mem_zipIdx_iff_getElem?.mp hp
  refine ⟨?_, fun i hi => ?_⟩
  · unfold wtI
    simp [List.getD, hp]
  · have : i = p.2 := by simpa using hi
    rw [this]
    exact (List.getElem?_eq_some_iff.mp hp).1
theorem wt_prI {us : List Int} : ∀ {R : List It}, (∀ x ∈ R, Wt us x) → ∀ z ∈ prI R, Wt us z
  | [], _, z, hz => by simp [prI] at hz
  | [x], _, z, hz => by simp [prI] at hz
  | x :: y :: r, h, z, hz => by
    simp only [prI, List.mem_cons] at hz
    rcases hz with rfl | hz
    · have hx := h x (by simp)
      have hy := h y (by simp)
      refine ⟨?_, fun i hi => ?_⟩
      · show x.1 + y.1 = wtI us (x.2 ++ y.2)
        unfold wtI
        rw [List.map_append, List.sum_append, hx.1, hy.1]; rfl
      · rcases List.mem_append.mp hi with hi | hi
        · exact hx.2 i hi
        · exact hy.2 i hi
    · exact wt_prI (fun w hw => h w (by simp [hw])) z hz
theorem LvS.wt {us : List Int} : ∀ {j : Nat} {R : List It}, LvS us j R → ∀ x ∈ R, Wt us x
  | 0, R, h, x, hx => wt_own (h.1.mem_iff.mp hx)
  | j + 1, R, ⟨R', h, p, u⟩, x, hx => by
    rcases List.mem_append.mp (p.mem_iff.mp hx) with hx | hx
    · exact wt_own hx
    · exact wt_prI h.wt x hx
/-- the last m signs of c -/
def figs (m c : Nat) : Tx := (List.range m).map fun p => 48 + c / 2 ^ (m - 1 - p) % 2
theorem figs_succ (m c : Nat) : figs (m + 1) c = (48 + c / 2 ^ m % 2) :: figs m c := by
  unfold figs
  rw [List.range_succ_eq_map, List.map_cons, List.map_map]
  congr 1
  refine List.map_congr_left fun p _ => ?_
  show 48 + c / 2 ^ (m + 1 - 1 - (p + 1)) % 2 = _
  rw [show m + 1 - 1 - (p + 1) = m - 1 - p by omega]
theorem figs_len (m c : Nat) : (figs m c).length = m := by unfold figs; rw [List.length_map, List.length_range]
theorem bit_at {c : Nat} {Φ : Nat → Prop} (q : Φ (48 + c % 2)) : ex (atI [48, 49] ((c : Int) % 2)) Φ := by
  rcases Nat.mod_two_eq_zero_or_one c with h | h
  · rw [h] at q
    rw [show (c : Int) % 2 = 0 by omega]; exact q
  · rw [h] at q
    rw [show (c : Int) % 2 = 1 by omega]; exact q
theorem figures_ok {m c : Nat} {Φ : T → Od.Env → Prop} {Ψ : Exn → Od.Env → Prop} (hm : m ≤ 1000) (q : Φ (.sh (.str (figs m c))) [none, none]) : satO (f_figures [T.sh (.int c), T.sh (.int m)]) Φ Ψ := by
  simp only [f_figures, B_figures]
  sizeOf_list_dec
  refine ⟨rfl, okI_of (by omega) (by omega), ?_⟩
  have e : rngD 0 (Int.toNat m) = (List.range m).map fun j => D.int ((0 : Int) + ((j : Nat) : Int)) := rfl
  rw [e]
  refine cmp_each (xs := List.range m) (fun j : Nat => D.int ((0 : Int) + ((j : Nat) : Int))) (fun j : Nat => .str [48 + c / 2 ^ (m - 1 - j) % 2]) ?_ ?_ ?_
  · rw [List.length_range]; omega
  · intro j hj
    rw [List.mem_range] at hj
    sizeOf_list_dec
    refine ⟨by omega, by decide, ?_⟩
    have e2 : (c : Int) / 2 ^ ((m : Int) - 1 - (0 + (j : Int))).toNat = ((c / 2 ^ (m - 1 - j) : Nat) : Int) := by
      rw [show ((m : Int) - 1 - (0 + (j : Int))).toNat = m - 1 - j by omega]
      norm_cast
    rw [e2]
    exact bit_at rfl
  · sizeOf_list_dec
    have e3 : (List.range m).map (fun j : Nat => D.str [48 + c / 2 ^ (m - 1 - j) % 2]) = (((figs m c).map fun x => [x])).map D.str := by
      unfold figs
      rw [List.map_map, List.map_map]; rfl
    rw [e3, allStrs_map, ex_some, join1, sum1]
    refine ⟨by rw [List.length_map, figs_len]; simp; omega, q⟩
/-! ### codes of told lengths -/
/-- how many texts of l signs begin with these ahead -/
def cum (l : Nat) (pre : List (Nat × Nat)) : Nat := (pre.map fun q => 2 ^ (l - q.1)).sum
def srtL (ls : List Nat) : List (Nat × Nat) := srtP ls.zipIdx
def Full (ls : List Nat) : Prop := ∃ (k : Nat) (q : Nat × Nat), (srtL ls)[k]? = some q ∧ 2 ^ q.1 ≤ cum q.1 ((srtL ls).take k)
def cdAt (qs : List (Nat × Nat)) (j : Nat) : Tx := figs (qs.getD j (0, 0)).1 (cum (qs.getD j (0, 0)).1 (qs.take j))
def dk (qs : List (Nat × Nat)) (k : Nat) : List DK := (qs.take k).map fun q => .inl (q.2 : Int)
def dv (qs : List (Nat × Nat)) (k : Nat) : List D := (List.range k).map fun j => .str (cdAt qs j)
theorem dk_succ {qs : List (Nat × Nat)} {k : Nat} {q : Nat × Nat} (h : qs[k]? = some q) : dk qs (k + 1) = dk qs k ++ [.inl (q.2 : Int)] := by
  unfold dk; rw [List.take_add_one, h, List.map_append]; rfl
theorem dv_succ {qs : List (Nat × Nat)} {k : Nat} {q : Nat × Nat} (h : qs[k]? = some q) : dv qs (k + 1) = dv qs k ++ [.str (figs q.1 (cum q.1 (qs.take k)))] := by
  unfold dv cdAt
  rw [List.range_succ, List.map_append, List.map_singleton]
  rw [show qs.getD k (0, 0) = q by rw [List.getD_eq_getElem?_getD, h]; rfl]
theorem dk_len {qs : List (Nat × Nat)} {k : Nat} (h : k ≤ qs.length) : (dk qs k).length = k := by unfold dk; rw [List.length_map, List.length_take]; omega
theorem dv_len (qs : List (Nat × Nat)) (k : Nat) : (dv qs k).length = k := by unfold dv; rw [List.length_map, List.length_range]
theorem srtL_len (ls : List Nat) : (srtL ls).length = ls.length := by unfold srtL; rw [(srtP_perm _).length_eq, List.length_zipIdx]
theorem srtL_mem {ls : List Nat} {q : Nat × Nat} (h : q ∈ srtL ls) : ls[q.2]? = some q.1 := by
  have := (srtP_perm _).mem_iff.mp h
  obtain ⟨l, i⟩ := q
  have := List.mem_zipIdx_iff_getElem?.mp this
  simpa using this
theorem srtL_in {ls : List Nat} {i : Nat} (h : i < ls.length) : (ls[i], i) ∈ srtL ls := (srtP_perm _).mem_iff.mpr (List.mem_zipIdx_iff_getElem?.mpr (by simp))
theorem srtL_nd (ls : List Nat) : ((srtL ls).map Prod.snd).Nodup := by
  have p := (srtP_perm ls.zipIdx).map Prod.snd
  refine p.nodup_iff.mpr ?_
  rw [List.zipIdx_map_snd]
  exact List.nodup_range'
theorem dk_new {ls : List Nat} {k : Nat} {q : Nat × Nat} (h : (srtL ls)[k]? = some q) : (.inl (q.2 : Int) : DK) ∉ dk (srtL ls) k := by
  intro z
  unfold dk at z
  obtain ⟨r, hr, e⟩ := List.mem_map.mp z
  have e : r.2 = q.2 := by
    have := Sum.inl.inj e
    omega
  obtain ⟨j, hj, hg⟩ := List.getElem_of_mem hr
  rw [List.length_take] at hj
  rw [List.getElem_take] at hg
  obtain ⟨hk, hq⟩ := List.getElem?_eq_some_iff.mp h
  have nd := List.pairwise_iff_getElem.mp (List.nodup_iff_pairwise_ne.mp (srtL_nd ls)) j k (by rw [List.length_map]; omega) (by rw [List.length_map]; omega) (by omega)
  rw [List.getElem_map, List.getElem_map, hg, hq] at nd
  exact nd e
def lkT (ls : List Nat) (i : Nat) : Tx := match kLook (dk (srtL ls) ls.length) (dv (srtL ls) ls.length) (.inl (i : Int)) with
  | some (.str s) => s
  | _ => []
theorem lkT_ok {ls : List Nat} {i : Nat} (h : i < ls.length) : kLook (dk (srtL ls) ls.length) (dv (srtL ls) ls.length) (.inl (i : Int)) = some (.str (lkT ls i)) := by
  have hm : (.inl (i : Int) : DK) ∈ dk (srtL ls) ls.length := by
    unfold dk
    rw [List.take_of_length_le (by rw [srtL_len]; omega)]
    exact List.mem_map.mpr ⟨_, srtL_in h, rfl⟩
  obtain ⟨v, hv, hv2⟩ := kLook_some (vs := dv (srtL ls) ls.length) (by rw [dk_len (by rw [srtL_len]; omega), dv_len]) hm
  unfold dv at hv2
  obtain ⟨j, _, rfl⟩ := List.mem_map.mp hv2
  unfold lkT
  rw [hv]
/-- what is kept between two turns -/
structure Pre (qs : List (Nat × Nat)) (k num size : Nat) : Prop where
  le : ∀ q ∈ qs.take k, q.1 ≤ size
  ge : ∀ q ∈ qs.drop k, size ≤ q.1
  sum : ∀ l, size ≤ l → cum l (qs.take k) = num * 2 ^ (l - size)
theorem cum_snoc (l : Nat) (pre : List (Nat × Nat)) (q : Nat × Nat) : cum l (pre ++ [q]) = cum l pre + 2 ^ (l - q.1) := by
  unfold cum; rw [List.map_append, List.sum_append]; simp
theorem Pre.zero (qs : List (Nat × Nat)) : Pre qs 0 0 0 := ⟨fun q h => by simp at h, fun q _ => Nat.zero_le _, fun l _ => by simp [cum]⟩
theorem Pre.step {qs : List (Nat × Nat)} {k num size : Nat} {q : Nat × Nat} (p : Pre qs k num size) (so : qs.Pairwise fun a b => a.1 ≤ b.1) (h : qs[k]? = some q) : Pre qs (k + 1) (num * 2 ^ (q.1 - size) + 1) q.1 ∧ size ≤ q.1 ∧ cum q.1 (qs.take k) = num * 2 ^ (q.1 - size) := by
  obtain ⟨hk, rfl⟩ := List.getElem?_eq_some_iff.mp h
  have hd : qs.drop k = qs[k] :: qs.drop (k + 1) := List.drop_eq_getElem_cons hk
  have h1 : size ≤ qs[k].1 := p.ge _ (by rw [hd]; exact .head _)
  refine ⟨⟨?_, ?_, ?_⟩, h1, p.sum _ h1⟩
  · intro r hr
    rw [List.take_add_one, h, List.mem_append] at hr
    rcases hr with hr | hr
    · exact Nat.le_trans (p.le r hr) h1
    · simp at hr; rw [hr]; exact Nat.le_refl _
  · intro r hr
    have so := so.drop (i := k)
    rw [hd, List.pairwise_cons] at so
    exact so.1 r hr
  · intro l hl
    rw [List.take_add_one, h]
    show cum l (qs.take k ++ [qs[k]]) = _
    rw [cum_snoc, p.sum l (by omega), Nat.add_mul, Nat.mul_assoc, ← Nat.pow_add, Nat.one_mul, show qs[k].1 - size + (l - qs[k].1) = l - size by omega]
def lensD (ps : List (Tx × Nat)) : List D := ps.map fun p => .tup [.str p.1, .int (p.2 : Nat)]
def toldD (ps : List (Tx × Nat)) : List D := ps.zipIdx.map fun p => .tup [.str p.1.1, .str (lkT (ps.map Prod.snd) p.2)]
def dirD (p : (Tx × Nat) × Nat) : D := .tup [.int (p.2 : Nat), .tup [.str p.1.1, .int (p.1.2 : Nat)]]
theorem enum_lens (ps : List (Tx × Nat)) : enumD (lensD ps) = ps.zipIdx.map dirD := by
  unfold enumD lensD
  rw [List.zipIdx_map, List.map_map]; rfl
theorem codes_by_ok {ps : List (Tx × Nat)} (hn : ps.length ≤ 1000) (hl : ∀ p ∈ ps, p.2 ≤ 24) {Φ : T → Od.Env → Prop} {Ψ : Exn → Od.Env → Prop}
    (q : ¬ Full (ps.map Prod.snd) → Φ (.lst (toldD ps)) [none]) (r : Full (ps.map Prod.snd) → Ψ ⟨[84, 111, 111, 70, 117, 108, 108], []⟩ [none]) : satO (f_codes_by [T.sh (.lst (lensD ps))]) Φ Ψ := by
  simp only [f_codes_by, B_codes_by]
  sizeOf_list_dec
  rw [enum_lens]
  refine ⟨rfl, ?_⟩
  refine cmp_each (xs := ps.zipIdx) dirD (fun p => .tup [.int (p.1.2 : Nat), .int (p.2 : Nat)]) ?_ ?_ ?_
  · rw [List.length_zipIdx]; omega
  · intro p _
    unfold dirD
    sizeOf_list_dec
    simp
  · sizeOf_list_dec
    have e1 : ps.zipIdx.map (fun p => D.tup [.int (p.1.2 : Nat), .int (p.2 : Nat)]) = (ps.map Prod.snd).zipIdx.map enP := by
      rw [List.zipIdx_map, List.map_map]; rfl
    obtain ⟨a0, ha0⟩ : ∃ a0 : T, a0 = T.sh (.lst (lensD ps)) := ⟨_, rfl⟩
    rw [e1, ← ha0]
    refine sorted_ok (by rw [List.length_zipIdx, List.length_map]; omega) ?_
    rw [show srtP (ps.map Prod.snd).zipIdx = srtL (ps.map Prod.snd) from rfl]
    obtain ⟨ls, hls⟩ : ∃ ls, ls = ps.map Prod.snd := ⟨_, rfl⟩
    rw [← hls] at q r ⊢
    obtain ⟨qs, hqs⟩ : ∃ qs, qs = srtL ls := ⟨_, rfl⟩
    have so : qs.Pairwise fun a b => a.1 ≤ b.1 := by rw [hqs]; exact srtP_sorted _
    have hlen : qs.length = ps.length := by rw [hqs, srtL_len, hls, List.length_map]
    rw [← hqs]
    refine for_inv (fun k ρ => ∃ (num size : Nat) (x5 : Option T), ρ = [some a0, some (.dct (dk qs k) (dv qs k)), some (.sh (.int num)), some (.sh (.int size)), none, x5, none] ∧ Pre qs k num size ∧ (x5 = none ∨ ∃ d, x5 = some (T.sh d)) ∧ num ≤ 2 ^ 24 ∧ ∀ j q, j < k → qs[j]? = some q → cum q.1 (qs.take j) < 2 ^ q.1)
      ⟨0, 0, none, rfl, Pre.zero qs, .inl rfl, by decide, fun j q h => by omega⟩ ?_ ?_
    · rintro k x ρ hx ⟨num, size, x5, rfl, hp, _, hnum, hok⟩
      rw [List.getElem?_map] at hx
      obtain ⟨p, hpk, rfl⟩ := Option.map_eq_some_iff.mp hx
      have hk : k < qs.length := (List.getElem?_eq_some_iff.mp hpk).1
      have hp24 : p.1 ≤ 24 := by
        have := srtL_mem (ls := ls) (q := p) (by rw [← hqs]; exact List.mem_of_getElem? hpk)
        rw [hls, List.getElem?_map] at this
        obtain ⟨z, hz, e⟩ := Option.map_eq_some_iff.mp this
        rw [← e]; exact hl z (List.mem_of_getElem? hz)
      obtain ⟨hp2, hs, hc⟩ := hp.step so hpk
      unfold enP
      sizeOf_list_dec
      have e2 : (num : Int) * 2 ^ ((p.1 : Int) - (size : Int)).toNat = ((num * 2 ^ (p.1 - size) : Nat) : Int) := by
        rw [show ((p.1 : Int) - (size : Int)).toNat = p.1 - size by omega]
        norm_cast
      have e3 : (1 : Int) * 2 ^ (p.1 : Int).toNat = ((2 ^ p.1 : Nat) : Int) := by
        rw [Int.toNat_natCast, Int.one_mul]; norm_cast
      rw [e2, e3]
      generalize num * 2 ^ (p.1 - size) = c at *
      refine ⟨⟨by omega, by omega, by omega⟩, ⟨by omega, by omega, by decide⟩, fun hb => ?_, fun hb => ?_⟩
      · have hb := hb
        refine r ⟨k, p, by rw [← hqs]; exact hpk, ?_⟩
        rw [← hqs, hc]; omega
      · have hlt : c < 2 ^ p.1 := by omega
        refine ⟨rfl, figures_ok (by omega) ?_⟩
        sizeOf_list_dec
        have hdl : (dk qs k).length < 1000000 := by rw [dk_len (by omega)]; omega
        refine ⟨hdl, ?_⟩
        have nw : (.inl (p.2 : Int) : DK) ∉ dk qs k := by rw [hqs] at hpk ⊢; exact dk_new hpk
        rw [putKD_new nw]
        refine ⟨c + 1, p.1, _, by rw [dk_succ hpk, dv_succ hpk, hc]; rfl, hp2, .inr ⟨_, rfl⟩, ?_, ?_⟩
        · have := Nat.pow_le_pow_right (show 0 < 2 by decide) hp24
          omega
        · intro j q hj hq
          rcases Nat.lt_succ_iff_lt_or_eq.mp hj with h | rfl
          · exact hok j q h hq
          · rw [hpk] at hq
            cases hq
            rw [hc]; exact hlt
    · rintro ρ ⟨num, size, x5, rfl, hp, hx5, hnum, hok⟩
      rw [List.length_map] at hok ⊢
      have el : qs.length = ls.length := by rw [hlen, hls, List.length_map]
      rw [ha0, el, hqs]
      sizeOf_list_dec
      rw [enum_lens]
      have q := q fun ⟨k, p, h1, h2⟩ => by
        rw [← hqs] at h1 h2
        have := hok k p (List.getElem?_eq_some_iff.mp h1).1 h1
        omega
      refine cmp_each (xs := ps.zipIdx) dirD (fun p => .tup [.str p.1.1, .str (lkT ls p.2)]) ?_ ?_ ?_
      · rw [List.length_zipIdx]; omega
      · intro p hp
        unfold dirD
        sizeOf_list_dec
        have hi : p.2 < ls.length := by
          obtain ⟨x, i⟩ := p
          have := List.mem_zipIdx_iff_getElem?.mp hp
          have := (List.getElem?_eq_some_iff.mp this).1
          rw [hls, List.length_map]; exact this
        rw [lkT_ok hi, ex_some]
        rcases hx5 with rfl | ⟨d, rfl⟩ <;> (sizeOf_list_dec; simp)
      · sizeOf_list_dec
        unfold toldD at q
        rw [← hls] at q
        exact q
/-! lengths that fit leave codes free -/
theorem cum_mul {l M : Nat} (hM : l ≤ M) : ∀ (pre : List (Nat × Nat)), (∀ q ∈ pre, q.1 ≤ l) → cum l pre * 2 ^ (M - l) = (pre.map fun q => 2 ^ (M - q.1)).sum
  | [], _ => by simp [cum]
  | q :: pre, h => by
    have ih := cum_mul hM pre fun p hp => h p (List.mem_cons_of_mem _ hp)
    have hq := h q List.mem_cons_self
    have e : cum l (q :: pre) = 2 ^ (l - q.1) + cum l pre := by unfold cum; rw [List.map_cons, List.sum_cons]
    rw [e, Nat.add_mul, ih, List.map_cons, List.sum_cons, ← Nat.pow_add, show l - q.1 + (M - l) = M - q.1 by omega]
theorem sum_split {α : Type} (f : α → Nat) {xs : List α} {k : Nat} {x : α} (h : xs[k]? = some x) : ((xs.take k).map f).sum + f x ≤ (xs.map f).sum := by
  obtain ⟨hk, rfl⟩ := List.getElem?_eq_some_iff.mp h
  have e : (xs.map f).sum = (((xs.take k) ++ (xs[k] :: xs.drop (k + 1))).map f).sum := by rw [List.getElem_cons_drop, List.take_append_drop]
  rw [e, List.map_append, List.sum_append, List.map_cons, List.sum_cons]
  omega
theorem fits_free {ls : List Nat} {M : Nat} (hl : ∀ l ∈ ls, l ≤ M) (h : (ls.map fun l => 2 ^ (M - l)).sum ≤ 2 ^ M) : ¬ Full ls := by
  rintro ⟨k, q, hq, hf⟩
  have so : (srtL ls).Pairwise fun a b => a.1 ≤ b.1 := srtP_sorted _
  have hqm := srtL_mem (List.mem_of_getElem? hq)
  have hqM : q.1 ≤ M := hl _ (List.mem_of_getElem? hqm)
  have hpre : ∀ p ∈ (srtL ls).take k, p.1 ≤ q.1 := fun p hp => by
    obtain ⟨j, hj⟩ := List.mem_iff_getElem?.mp hp
    rw [List.getElem?_take] at hj
    split at hj
    · rename_i hjk
      obtain ⟨a, b⟩ := List.getElem?_eq_some_iff.mp hj
      obtain ⟨c, d⟩ := List.getElem?_eq_some_iff.mp hq
      have := (List.pairwise_iff_getElem.mp so) j k a c hjk
      rw [b, d] at this
      exact this
    · cases hj
  have e1 := cum_mul hqM _ hpre
  have e2 := sum_split (fun p : Nat × Nat => 2 ^ (M - p.1)) hq
  have e3 : ((srtL ls).map fun p => 2 ^ (M - p.1)).sum = (ls.map fun l => 2 ^ (M - l)).sum := by
    have p : ((srtL ls).map fun p => 2 ^ (M - p.1)).Perm (ls.zipIdx.map fun p => 2 ^ (M - p.1)) := (srtP_perm _).map _
    rw [p.sum_nat]
    have : (ls.zipIdx.map fun p => 2 ^ (M - p.1)) = (ls.zipIdx.map Prod.fst).map fun l => 2 ^ (M - l) := by rw [List.map_map]; rfl
    rw [this, List.zipIdx_map_fst]
  rw [e3] at e2
  have e4 : 2 ^ q.1 * 2 ^ (M - q.1) = 2 ^ M := by rw [← Nat.pow_add]; congr 1; omega
  have e5 := Nat.mul_le_mul_right (2 ^ (M - q.1)) hf
  have e6 := Nat.two_pow_pos (M - q.1)
  have e2 : ((List.take k (srtL ls)).map fun q => 2 ^ (M - q.1)).sum + 2 ^ (M - q.1) ≤ _ := e2
  omega
/-! rows with places, sorted -/
def itD (x : It) : D := .tup [.int x.1, .lst (x.2.map fun i => .int (i : Nat))]
theorem alike_ints : ∀ xs ys : List Nat, PySem.W.alikeAll (D.pyL (xs.map fun i => .int (i : Nat))) (D.pyL (ys.map fun i => .int (i : Nat))) = true
  | [], _ => by simp [D.pyL, PySem.W.alikeAll]
  | _ :: _, [] => by simp [D.pyL, PySem.W.alikeAll]
  | x :: xs, y :: ys => by
    have := alike_ints xs ys
    show (true && PySem.W.alikeAll _ _) = true
    rw [Bool.true_and]; exact this
theorem leD_it {x y : It} (h : leD (itD x) (itD y) = true) : x.1 ≤ y.1 := by
  obtain ⟨tx, hx⟩ : ∃ t, PySem.W.keyToks (itD x).py = .inl 1 :: .inl x.1 :: t := ⟨_, rfl⟩
  obtain ⟨ty, hy⟩ : ∃ t, PySem.W.keyToks (itD y).py = .inl 1 :: .inl y.1 :: t := ⟨_, rfl⟩
  have h1 : (!PyProof.Rows.lexLt PyProof.Rows.itemOrd (PySem.W.keyToks (itD y).py) (PySem.W.keyToks (itD x).py)) = true := h
  rw [hx, hy, PyProof.Rows.lex_cons, PyProof.Rows.lex_cons] at h1
  have e0 : PyProof.Rows.itemOrd.blt (.inl 1) (.inl 1) = false := rfl
  have e1 : PyProof.Rows.itemOrd.blt (.inl y.1) (.inl x.1) = decide (y.1 < x.1) := rfl
  rw [e1] at h1
  by_cases q : y.1 < x.1
  · simp [e0, q] at h1
  · omega
theorem it_ok (x : It) : (itD x).ok = true ∧ (itD x).dep ≤ 2 := by
  have a : D.okL (x.2.map fun i => D.int (i : Nat)) = true := okL_map fun _ _ => rfl
  have b : D.depL (x.2.map fun i => D.int (i : Nat)) ≤ 0 := depL_map fun _ _ => Nat.le_refl _
  have c : Ck 2 (itD x) := by
    unfold itD
    exact ck_tup (k := 1) (ckL_cons (ck_int 1 _) (ckL_cons (ck_lst (k := 0) (ckL_map fun _ _ => ck_int 0 _)) (ckL_nil 1)))
  exact c
theorem sortIt_ok {xs : List It} {ΦL : List D → Prop} (hl : xs.length ≤ 1000000) (q : ∀ R : List It, R.Perm xs → Up (R.map Prod.fst) → ΦL (R.map itD)) : ex (fSorted [.lst (xs.map itD)]) ΦL := by
  rw [x_sorted]
  refine ⟨⟨?_, okL_map fun x _ => (it_ok x).1, Nat.le_trans (depL_map fun x _ => (it_ok x).2) (by decide), by simpa using hl⟩, ?_⟩
  · unfold srtB
    rw [Bool.and_eq_true, Bool.or_eq_true]
    refine ⟨?_, .inl ?_⟩
    · rw [List.all_eq_true]
      intro d hd
      rw [List.all_eq_true]
      intro e he
      obtain ⟨x, _, rfl⟩ := List.mem_map.mp hd
      obtain ⟨y, _, rfl⟩ := List.mem_map.mp he
      show (true && (PySem.W.alikeAll _ _ && true)) = true
      rw [Bool.true_and, Bool.and_true]
      exact alike_ints x.2 y.2
    · rw [List.all_eq_true]
      intro d hd
      obtain ⟨x, _, rfl⟩ := List.mem_map.mp hd
      rfl
  · have e : (xs.map itD).mergeSort leD = (xs.mergeSort fun x y => leD (itD x) (itD y)).map itD :=
      (List.map_mergeSort (r := fun x y => leD (itD x) (itD y)) (s := leD) (f := itD) (l := xs) (fun _ _ _ _ => rfl)).symm
    rw [e]
    refine q _ (List.mergeSort_perm _ _) ?_
    unfold Up
    rw [List.pairwise_map]
    have := List.pairwise_mergeSort (le := fun x y : It => leD (itD x) (itD y)) (fun a b c => leD_tot.trans _ _ _) (fun a b => by rw [Bool.or_eq_true]; exact leD_tot.total _ _) xs
    exact this.imp fun h => leD_it h
theorem prI_len : ∀ R : List It, (prI R).length = R.length / 2 := fun R => by
  have := congrArg List.length (prI_fst R)
  rw [List.length_map, prs_len, List.length_map] at this
  exact this
theorem prI_get : ∀ (R : List It) (k : Nat) (x y : It), R[2 * k]? = some x → R[2 * k + 1]? = some y → (prI R)[k]? = some (x.1 + y.1, x.2 ++ y.2)
  | [], k, x, y, h, _ => by simp at h
  | [a], k, x, y, _, h => by simp at h
  | a :: b :: r, 0, x, y, h, h' => by
    simp at h h'
    subst h; subst h'
    simp [prI]
  | a :: b :: r, k + 1, x, y, h, h' => by
    have e : 2 * (k + 1) = 2 * k + 1 + 1 := by omega
    rw [e] at h h'
    simp only [prI, List.getElem?_cons_succ] at h h' ⊢
    exact prI_get r k x y h h'
theorem at_it {R : List It} {k : Nat} {x : It} {Φ : D → Prop} (h : R[k]? = some x) (q : Φ (itD x)) : ex (atI (R.map itD) (k : Int)) Φ := by
  have hk := (List.getElem?_eq_some_iff.mp h).1
  rw [atI_nat' (by simpa using hk), List.getElem?_map, h]
  exact q
theorem ppair_ok {R : List It} {Φ : T → Od.Env → Prop} {Ψ : Exn → Od.Env → Prop} (hl : R.length ≤ 1000) (hp : ∀ x ∈ R, x.2.length ≤ 10000) (q : Φ (.lst ((prI R).map itD)) [none]) : satO (f_places_paired [.sh (.lst (R.map itD))]) Φ Ψ := by
  simp only [f_places_paired, B_places_paired]
  sizeOf_list_dec
  have hml : (R.map itD).length = R.length := List.length_map _
  have en : ((((R.map itD).length : Int) - 1 - 0 + 1) / 2).toNat = R.length / 2 := by rw [hml]; omega
  refine ⟨rfl, by simp, okI_2 (by decide) (okI_of (by omega) (by omega)), ?_⟩
  refine for_inv (fun i ρ => ρ = [some (.sh (.lst (R.map itD))), some (.lst (((prI R).take i).map itD)), none, none, none]) rfl ?_ ?_
  · rintro i x ρ hx rfl
    have hi : i < R.length / 2 := by
      have := (List.getElem?_eq_some_iff.mp hx).1
      rwa [rngC_len, en] at this
    rw [rngC_get hx]
    have e1 : (0 : Int) + (i : Int) * 2 = ((2 * i : Nat) : Int) := by omega
    have e2 : (0 : Int) + (i : Int) * 2 + 1 = ((2 * i + 1 : Nat) : Int) := by omega
    obtain ⟨x, hx0⟩ : ∃ x, R[2 * i]? = some x := ⟨_, List.getElem?_eq_getElem (by omega)⟩
    obtain ⟨y, hy0⟩ : ∃ y, R[2 * i + 1]? = some y := ⟨_, List.getElem?_eq_getElem (by omega)⟩
    have lx := hp x (List.mem_of_getElem? hx0)
    have ly := hp y (List.mem_of_getElem? hy0)
    have hg := prI_get R i x y hx0 hy0
    sizeOf_list_dec
    rw [e2, e1]
    refine at_it hx0 ?_
    sizeOf_list_dec
    and_intros
    refine at_it hy0 ?_
    unfold itD
    sizeOf_list_dec
    refine ⟨rfl, by rw [List.length_map, List.length_map]; omega, by simp, ?_, ?_⟩
    · rw [List.length_map, List.length_take, prI_len]; omega
    · rw [List.take_add_one, hg, ← List.map_append, List.map_append (l₁ := (prI R).take i)]; rfl
  · rintro ρ rfl
    rw [rngC_len, en, ← prI_len, List.take_length]
    sizeOf_list_dec
    exact q
/-- what stands at each place -/
def lensI (n : Nat) (c : Nat → Nat) : List D := (List.range n).map fun i => .int (c i : Nat)
theorem lensI_len (n : Nat) (c : Nat → Nat) : (lensI n c).length = n := by unfold lensI; rw [List.length_map, List.length_range]
theorem lensI_get {n k : Nat} {c : Nat → Nat} (h : k < n) : (lensI n c)[k]? = some (.int (c k : Nat)) := by unfold lensI; rw [List.getElem?_map, List.getElem?_range h]; rfl
theorem lensI_set {n k : Nat} {c c' : Nat → Nat} {v : Int} (hv : v = (c' k : Nat)) (h : ∀ i, i ≠ k → c' i = c i) : (lensI n c).set k (.int v) = lensI n c' := by
  apply List.ext_getElem?
  intro i
  rw [List.getElem?_set, lensI_len]
  by_cases e : k = i
  · subst e
    rw [if_pos rfl]
    by_cases hk : k < n
    · rw [if_pos hk, lensI_get hk, hv]
    · rw [if_neg hk, List.getElem?_eq_none (by rw [lensI_len]; omega)]
  · rw [if_neg e]
    by_cases hi : i < n
    · rw [lensI_get hi, lensI_get hi, h i fun w => e w.symm]
    · rw [List.getElem?_eq_none (by rw [lensI_len]; omega), List.getElem?_eq_none (by rw [lensI_len]; omega)]
theorem occ_all {us : List Int} {j : Nat} {R : List It} (h : LvS us j R) {x : It} (hx : x ∈ R) : x.2.length ≤ us.length * (j + 1) := by
  obtain ⟨wd, _, hwd⟩ := coins j h.lv (List.Sublist.refl R)
  have hw := (h.wt x hx).2
  have e : x.2.length = smN us.length fun i => x.2.count i := by
    generalize x.2 = ps at hw
    induction ps with
    | nil => rw [smN_congr (g := fun _ => 0) fun i _ => by simp, smN_const]; simp
    | cons k ps ih =>
      have h1 : ∀ i, List.count i (k :: ps) = List.count i ps + if i = k then 1 else 0 := fun i => by
        rw [List.count_cons]
        by_cases z : k = i
        · subst z; simp
        · have z2 : ¬ i = k := fun w => z w.symm
          simp [z, z2]
      rw [smN_congr fun i _ => h1 i, smN_add, ← ih (fun y hy => hw y (List.mem_cons_of_mem _ hy)), smN_one, if_pos (hw k (by simp))]; rfl
  rw [e, ← smN_const]
  refine smN_le fun i _ => ?_
  have : occ i [x] ≤ occ i R := by
    obtain ⟨A, B, rfl⟩ := List.append_of_mem hx
    rw [occ_app, occ_cons, occ_cons]
    show _ + 0 ≤ _
    omega
  rw [occ_cons] at this
  have h0 : occ i ([] : List It) = 0 := rfl
  have := (hwd i).1
  omega
theorem own_it (us : List (Tx × Int)) : us.zipIdx.map (fun p => D.tup [.int p.1.2, .lst [.int (p.2 : Nat)]]) = (ownIt (us.map Prod.snd)).map itD := by
  unfold ownIt itD
  rw [List.zipIdx_map, List.map_map, List.map_map]; rfl
def dirU (p : (Tx × Int) × Nat) : D := .tup [.int (p.2 : Nat), .tup [.str p.1.1, .int p.1.2]]
theorem enum_us (us : List (Tx × Int)) : enumD (us.map fun u => .tup [.str u.1, .int u.2]) = us.zipIdx.map dirU := by
  unfold enumD
  rw [List.zipIdx_map, List.map_map]; rfl
theorem LvS.len {us : List Int} {j : Nat} {R : List It} (h : LvS us j R) : R.length ≤ 2 * us.length := by
  have e := congrArg List.length h.fst
  rw [List.length_map] at e
  have := lay_len (srtI us) j
  rw [srtI_len] at this
  omega
def lnD (us : List (Tx × Int)) (R : List It) : List D := lensI us.length fun i => occ i (R.take (max 1 (2 * us.length - 2)))
theorem taken_ok {us : List (Tx × Int)} {Φ : T → Od.Env → Prop} {Ψ : Exn → Od.Env → Prop} (hu : us.length ≤ 100) (q : Φ (.sh (.int ((max 1 (2 * us.length - 2) : Nat) : Int))) [none]) : satO (f_taken [.sh (.lst (us.map fun u => .tup [.str u.1, .int u.2]))]) Φ Ψ := by
  simp only [f_taken, B_taken]
  sizeOf_list_dec
  have e : max 1 ((2 : Int) * ((us.map fun u => D.tup [.str u.1, .int u.2]).length : Int) - 2) = ((max 1 (2 * us.length - 2) : Nat) : Int) := by rw [List.length_map]; omega
  rw [e]
  exact ⟨rfl, okMul_l (by decide) (by decide), q⟩
theorem lengths_ok {us : List (Tx × Int)} {k : Nat} {Φ : T → Od.Env → Prop} {Ψ : Exn → Od.Env → Prop} (h1 : 1 ≤ k) (hk : k ≤ 30) (hu : us.length ≤ 50)
    (q : ∀ R, LvS (us.map Prod.snd) (k - 1) R → Φ (.lst (lnD us R)) [none, none]) : satO (f_lengths_by [.sh (.lst (us.map fun u => .tup [.str u.1, .int u.2])), .sh (.int k)]) Φ Ψ := by
  obtain ⟨a0, ha0⟩ : ∃ a0 : D, a0 = .lst (us.map fun u => .tup [.str u.1, .int u.2]) := ⟨_, rfl⟩
  simp only [f_lengths_by, B_lengths_by]
  array_mem_dec
  refine ⟨rfl, ?_⟩
  refine seq_cut (fun ρ => ρ = [some (.sh (.lst (us.map fun u => .tup [.str u.1, .int u.2]))), some (.sh (.int k)), some (.lst ((ownIt (us.map Prod.snd)).map itD)), none, none, none, none, none, none, none, none]) ?_ ?_
  · sizeOf_list_dec
    rw [enum_us]
    refine cmp_each (xs := us.zipIdx) dirU (fun p => D.tup [.int p.1.2, .lst [.int (p.2 : Nat)]]) (by rw [List.length_zipIdx]; omega) (fun p _ => ?_) ?_
    · unfold dirU
      sizeOf_list_dec
      exact ⟨by simp, by simp⟩
    · rw [own_it]
      sizeOf_list_dec
  rintro ρ rfl
  have ol : (ownIt (us.map Prod.snd)).length = us.length := by unfold ownIt; rw [List.length_map, List.length_zipIdx, List.length_map]
  refine seq_cut (fun ρ => ∃ R, LvS (us.map Prod.snd) 0 R ∧ ρ = [some (.sh (.lst (us.map fun u => .tup [.str u.1, .int u.2]))), some (.sh (.int k)), some (.lst ((ownIt (us.map Prod.snd)).map itD)), some (.sh (.lst (R.map itD))), none, none, none, none, none, none, none]) ?_ ?_
  · sizeOf_list_dec
    refine sortIt_ok (by omega) fun R hp hup => ?_
    sizeOf_list_dec
    exact ⟨R, ⟨hp, hup⟩, rfl⟩
  rintro ρ ⟨R0, hR0, rfl⟩
  refine seq_cut (fun ρ => ∃ R, LvS (us.map Prod.snd) (k - 1) R ∧ ρ = [some (.sh (.lst (us.map fun u => .tup [.str u.1, .int u.2]))), some (.sh (.int k)), some (.lst ((ownIt (us.map Prod.snd)).map itD)), some (.sh (.lst (R.map itD))), none, none, none, none, none, none, none]) ?_ ?_
  · sizeOf_list_dec
    refine ⟨okI_of (by omega) (by omega), ?_⟩
    refine for_inv (fun i ρ => ∃ R, LvS (us.map Prod.snd) i R ∧ ρ = [some (.sh (.lst (us.map fun u => .tup [.str u.1, .int u.2]))), some (.sh (.int k)), some (.lst ((ownIt (us.map Prod.snd)).map itD)), some (.sh (.lst (R.map itD))), none, none, none, none, none, none, none]) ⟨R0, hR0, rfl⟩ ?_ ?_
    · rintro i x ρ hx ⟨R, hR, rfl⟩
      have hi : i < ((k : Int) - 1).toNat := by
        have := (List.getElem?_eq_some_iff.mp hx).1
        rwa [rngD_len] at this
      rw [rngD_get hx]
      have hRl := hR.len
      rw [List.length_map] at hRl
      sizeOf_list_dec
      refine ⟨rfl, ppair_ok (by omega) (fun x hx => ?_) ?_⟩
      · have := occ_all hR hx
        rw [List.length_map] at this
        have := Nat.mul_le_mul hu (show i + 1 ≤ 30 by omega)
        omega
      sizeOf_list_dec
      refine ⟨by rw [List.length_map, List.length_map, prI_len]; omega, ?_⟩
      rw [← List.map_append]
      refine sortIt_ok (by rw [List.length_append, prI_len]; omega) fun R' hp hup => ?_
      sizeOf_list_dec
      exact ⟨R', ⟨R, hR, hp, hup⟩, rfl⟩
    · rintro ρ ⟨R, hR, rfl⟩
      rw [rngD_len, show ((k : Int) - 1).toNat = k - 1 by omega] at hR
      exact ⟨R, hR, rfl⟩
  rintro ρ ⟨R, hR, rfl⟩
  have hRl := hR.len
  rw [List.length_map] at hRl
  refine seq_cut (fun ρ => ρ = [some (.sh (.lst (us.map fun u => .tup [.str u.1, .int u.2]))), some (.sh (.int k)), some (.lst ((ownIt (us.map Prod.snd)).map itD)), some (.sh (.lst (R.map itD))), none, some (.lst (lensI us.length fun _ => 0)), none, none, none, none, none]) ?_ ?_
  · sizeOf_list_dec
    refine cmp_each (xs := us) (fun u => .tup [.str u.1, .int u.2]) (fun _ => .int 0) (by omega) (fun u _ => ?_) ?_
    · sizeOf_list_dec
    sizeOf_list_dec
    have e : us.map (fun _ => D.int 0) = lensI us.length fun _ => 0 := by
      apply List.ext_getElem?
      intro i
      by_cases hi : i < us.length
      · rw [lensI_get hi, List.getElem?_map, List.getElem?_eq_getElem hi]; rfl
      · rw [List.getElem?_eq_none (by rw [List.length_map]; omega), List.getElem?_eq_none (by rw [lensI_len]; omega)]
    rw [e]
  rintro ρ rfl
  sizeOf_list_dec
  refine ⟨rfl, taken_ok (by omega) ?_⟩
  sizeOf_list_dec
  obtain ⟨m, hm⟩ : ∃ m, m = max 1 (2 * us.length - 2) := ⟨_, rfl⟩
  rw [← hm]
  have ct : cutD (R.map itD) none (some (m : Int)) = (R.take m).map itD := by
    unfold cutD
    rw [show HT.sIx (R.map itD).length 0 none = 0 from rfl, HT.sIx_nat, List.drop_zero, Nat.sub_zero, ← List.map_take, List.length_map]
    congr 1
    rcases Nat.le_total m R.length with h | h
    · rw [Nat.min_eq_left h]
    · rw [Nat.min_eq_right h, List.take_of_length_le (Nat.le_refl _), List.take_of_length_le h]
  rw [ct]
  refine for_inv (fun i ρ => ρ = [some (.sh (.lst (us.map fun u => .tup [.str u.1, .int u.2]))), some (.sh (.int k)), some (.lst ((ownIt (us.map Prod.snd)).map itD)), some (.sh (.lst (R.map itD))), none, some (.lst (lensI us.length fun p => occ p ((R.take m).take i))), none, none, none, none, none]) rfl ?_ ?_
  · rintro i x ρ hx rfl
    rw [List.getElem?_map] at hx
    obtain ⟨x, hx0, rfl⟩ := Option.map_eq_some_iff.mp hx
    have hxR : x ∈ R := List.mem_of_mem_take (List.mem_of_getElem? hx0)
    have hw := (hR.wt x hxR).2
    rw [List.length_map] at hw
    obtain ⟨A2, hA2⟩ : ∃ A2, A2 = (ownIt (us.map Prod.snd)).map itD := ⟨_, rfl⟩
    obtain ⟨A3, hA3⟩ : ∃ A3, A3 = R.map itD := ⟨_, rfl⟩
    rw [← hA2, ← hA3]
    unfold itD
    sizeOf_list_dec
    refine for_inv (fun j ρ => ρ = [some (.sh (.lst (us.map fun u => .tup [.str u.1, .int u.2]))), some (.sh (.int k)), some (.lst A2), some (.sh (.lst A3)), none, some (.lst (lensI us.length fun p => occ p ((R.take m).take i) + (x.2.take j).count p)), some (.sh (.int x.1)), some (.sh (.lst (x.2.map fun i => .int (i : Nat)))), none, none, none]) rfl ?_ ?_
    · rintro j y ρ hy rfl
      rw [List.getElem?_map] at hy
      obtain ⟨pl, hpl, rfl⟩ := Option.map_eq_some_iff.mp hy
      have hp := hw pl (List.mem_of_getElem? hpl)
      sizeOf_list_dec
      rw [lensI_len, Int.toNat_natCast, lensI_get hp]
      refine ⟨⟨by omega, by omega, by omega⟩, ?_⟩
      sizeOf_list_dec
      refine ⟨⟨by omega, by omega⟩, ?_⟩
      rw [lensI_set (c' := fun p => occ p ((R.take m).take i) + (x.2.take (j + 1)).count p) ?_ ?_]
      · rw [List.take_add_one, hpl, List.count_append]
        simp; omega
      · intro z hz
        have hz2 : ¬ pl = z := fun w => hz w.symm
        rw [List.take_add_one, hpl, List.count_append]
        simp [List.count_cons, hz2]
    · rintro ρ rfl
      rw [List.length_map, List.take_length]
      sizeOf_list_dec
      have e : (lensI us.length fun p => occ p ((R.take m).take i) + x.2.count p) = lensI us.length fun p => occ p ((R.take m).take (i + 1)) := by
        unfold lensI
        refine List.map_congr_left fun p _ => ?_
        have e2 : occ p ((R.take m).take (i + 1)) = occ p ((R.take m).take i) + x.2.count p := by
          rw [List.take_add_one, hx0, occ_app]
          congr 1
        show D.int ((occ p ((R.take m).take i) + x.2.count p : Nat) : Int) = D.int ((occ p ((R.take m).take (i + 1)) : Nat) : Int)
        rw [e2]
      rw [e]
  · rintro ρ rfl
    rw [List.length_map, List.take_length]
    sizeOf_list_dec
    subst hm
    exact q R hR
theorem zip_at {A B : List D} {i : Nat} {a b : D} (ha : A[i]? = some a) (hb : B[i]? = some b) : (zipD A B)[i]? = some (.tup [a, b]) := by
  unfold zipD
  rw [List.getElem?_map, (List.getElem?_zip_eq_some (z := (a, b))).mpr ⟨ha, hb⟩]; rfl
/-- the lengths that are taken -/
def lnN (us : List (Tx × Int)) (R : List It) (i : Nat) : Nat := occ i (R.take (max 1 (2 * us.length - 2)))
def psL (us : List (Tx × Int)) (R : List It) : List (Tx × Nat) := us.zipIdx.map fun p => (p.1.1, lnN us R p.2)
theorem fit {us : List (Tx × Int)} {k : Nat} {R : List It} (h : LvS (us.map Prod.snd) (k - 1) R) (h1 : 1 ≤ k) (hn : 1 ≤ us.length) (hk : us.length ≤ 2 ^ k) :
    smN us.length (fun i => 2 ^ (k - lnN us R i)) ≤ 2 ^ k ∧ ∀ i < us.length, 1 ≤ lnN us R i ∧ lnN us R i ≤ k := by
  have ek : k - 1 + 1 = k := by omega
  have hRl : 2 * us.length - 2 ≤ R.length ∧ 1 ≤ R.length := by
    have e := congrArg List.length h.fst
    rw [List.length_map] at e
    have l := lay_enough (own := srtI (us.map Prod.snd)) (k := k - 1) (by rw [srtI_len, List.length_map]; exact hn) (by rw [srtI_len, List.length_map, ek]; exact hk)
    have s := lay_size (own := srtI (us.map Prod.snd)) (by rw [srtI_len, List.length_map]; exact hn) (k - 1)
    rw [srtI_len, List.length_map] at l s
    have : (us.length - 1) / 2 ^ (k - 1) ≤ us.length - 1 := Nat.div_le_self ..
    omega
  by_cases h2 : 2 ≤ us.length
  · have hm : max 1 (2 * us.length - 2) = 2 * us.length - 2 := by omega
    have kr := kraft (us := us.map Prod.snd) h.lv (List.take_sublist (2 * us.length - 2) R) (by rw [List.length_map]; exact h2) (by rw [List.length_map, List.length_take]; omega)
    rw [List.length_map, ek] at kr
    unfold lnN
    rw [hm]
    exact kr
  · have e1 : us.length = 1 := by omega
    have hm : max 1 (2 * us.length - 2) = 1 := by omega
    obtain ⟨wd, w1, w2⟩ := coins (us := us.map Prod.snd) (k - 1) h.lv (List.take_sublist 1 R)
    rw [List.length_map, e1, List.length_take, show min 1 R.length = 1 by omega] at w1
    rw [ek] at w2
    have w1 : wd 0 = 1 * 2 ^ (k - 1) := by rw [← w1]; simp [smN]
    obtain ⟨c1, c2⟩ := w2 0
    have p2 : 2 ^ k = 2 ^ (k - 1) * 2 := by rw [← Nat.pow_succ]; congr 1; omega
    unfold lnN
    rw [hm, e1]
    have hc : 1 ≤ occ 0 (R.take 1) := by
      rcases Nat.eq_zero_or_pos (occ 0 (R.take 1)) with z | z
      · rw [z, Nat.sub_zero, w1] at c2
        have := Nat.two_pow_pos (k - 1)
        omega
      · exact z
    refine ⟨?_, fun i hi => ?_⟩
    · rw [show smN 1 (fun i => 2 ^ (k - occ i (R.take 1))) = 2 ^ (k - occ 0 (R.take 1)) from by simp [smN]]
      exact Nat.pow_le_pow_right (by decide) (by omega)
    · rw [show i = 0 by omega]
      exact ⟨hc, c1⟩
theorem psL_len (us : List (Tx × Int)) (R : List It) : (psL us R).length = us.length := by unfold psL; rw [List.length_map, List.length_zipIdx]
theorem psL_snd (us : List (Tx × Int)) (R : List It) : (psL us R).map Prod.snd = (List.range us.length).map (lnN us R) := by
  unfold psL
  rw [List.map_map]
  have : us.zipIdx.map (Prod.snd ∘ fun p => (p.1.1, lnN us R p.2)) = (us.zipIdx.map Prod.snd).map (lnN us R) := by rw [List.map_map]; rfl
  rw [this, List.zipIdx_map_snd, List.range_eq_range']
theorem psL_free {us : List (Tx × Int)} {k : Nat} {R : List It} (h : LvS (us.map Prod.snd) (k - 1) R) (h1 : 1 ≤ k) (hn : 1 ≤ us.length) (hk : us.length ≤ 2 ^ k) : ¬ Full ((psL us R).map Prod.snd) := by
  obtain ⟨f1, f2⟩ := fit h h1 hn hk
  rw [psL_snd]
  refine fits_free (M := k) (fun l hl => ?_) ?_
  · obtain ⟨i, hi, rfl⟩ := List.mem_map.mp hl
    exact (f2 i (List.mem_range.mp hi)).2
  · rw [List.map_map]; exact f1
theorem zip_lens (us : List (Tx × Int)) (R : List It) : zipD (us.map fun u => .tup [.str u.1, .int u.2]) (lnD us R) = us.zipIdx.map fun p => .tup [.tup [.str p.1.1, .int p.1.2], .int (lnN us R p.2 : Nat)] := by
  apply List.ext_getElem?
  intro i
  by_cases hi : i < us.length
  · have hu : us[i]? = some us[i] := List.getElem?_eq_getElem hi
    have ha : (us.map fun u => D.tup [.str u.1, .int u.2])[i]? = some (.tup [.str us[i].1, .int us[i].2]) := by rw [List.getElem?_map, hu]; rfl
    have hb : (lnD us R)[i]? = some (.int (lnN us R i : Nat)) := lensI_get hi
    rw [zip_at ha hb, List.getElem?_map, List.getElem?_zipIdx, hu]
    simp
  · rw [List.getElem?_eq_none (by simp [zipD]; omega), List.getElem?_eq_none (by simp; omega)]
theorem roomR_ok {us : List (Tx × Int)} {k : Nat} {Φ : T → Od.Env → Prop} {Ψ : Exn → Od.Env → Prop} (hu : us.length ≤ 2 ^ k) (hk : k ≤ 24) (q : Φ (.sh .non) [none, none]) : satO (f_look_room [.sh (.lst (us.map fun u => .tup [.str u.1, .int u.2])), .sh (.int k)]) Φ Ψ := by
  simp only [f_look_room, B_look_room]
  sizeOf_list_dec
  have e : (1 : Int) * 2 ^ Int.toNat (k : Int) = ((2 ^ k : Nat) : Int) := by rw [Int.toNat_natCast, Int.one_mul]; simp
  rw [e, List.length_map]
  refine ⟨rfl, ⟨by omega, by omega, by decide⟩, fun h => by omega, fun _ => q⟩
theorem pbook_ok {us : List (Tx × Int)} {k : Nat} {Φ : T → Od.Env → Prop} {Ψ : Exn → Od.Env → Prop} (h1 : 1 ≤ k) (hk : k ≤ 24) (hn : 1 ≤ us.length) (hu : us.length ≤ 50) (hk2 : us.length ≤ 2 ^ k)
    (q : ∀ R, LvS (us.map Prod.snd) (k - 1) R → Φ (.lst (toldD (psL us R))) [none, none]) : satO (f_least_book [.sh (.lst (us.map fun u => .tup [.str u.1, .int u.2])), .sh (.int k)]) Φ Ψ := by
  simp only [f_least_book, B_least_book]
  sizeOf_list_dec
  and_intros
  refine roomR_ok hk2 hk ?_
  sizeOf_list_dec
  and_intros
  refine lengths_ok h1 (by omega) hu fun R hR => ?_
  sizeOf_list_dec
  rw [zip_lens]
  refine cmp_each (xs := us.zipIdx) (fun p => .tup [.tup [.str p.1.1, .int p.1.2], .int (lnN us R p.2 : Nat)]) (fun p => D.tup [.str p.1.1, .int (lnN us R p.2 : Nat)]) (by rw [List.length_zipIdx]; omega) (fun p _ => ?_) ?_
  · sizeOf_list_dec
    simp
  have e : us.zipIdx.map (fun p => D.tup [.str p.1.1, .int (lnN us R p.2 : Nat)]) = lensD (psL us R) := by unfold lensD psL; rw [List.map_map]; rfl
  rw [e]
  sizeOf_list_dec
  obtain ⟨f1, f2⟩ := fit hR h1 hn hk2
  refine codes_by_ok (by rw [psL_len]; omega) (fun p hp => ?_) (fun _ => ?_) (fun hF => absurd hF (psL_free hR h1 hn hk2))
  · have : p.2 ∈ (psL us R).map Prod.snd := List.mem_map_of_mem hp
    rw [psL_snd] at this
    obtain ⟨i, hi, e⟩ := List.mem_map.mp this
    have := (f2 i (List.mem_range.mp hi)).2
    omega
  · sizeOf_list_dec
    exact q R hR
def usD (us : List (Tx × Int)) : List D := us.map fun u => .tup [.str u.1, .int u.2]
theorem cdAt_eq {qs : List (Nat × Nat)} {k : Nat} {q : Nat × Nat} (h : qs[k]? = some q) : cdAt qs k = figs q.1 (cum q.1 (qs.take k)) := by
  unfold cdAt
  rw [show qs.getD k (0, 0) = q by rw [List.getD_eq_getElem?_getD, h]; rfl]
/-- of which texts is one ahead a beginning -/
theorem kLook_at {ks : List DK} {vs : List D} {k : DK} {v : D} : ∀ {i : Nat}, ks.Nodup → ks[i]? = some k → vs[i]? = some v → kLook ks vs k = some v := by
  induction ks generalizing vs with
  | nil => intro i _ h; simp at h
  | cons a ks ih =>
    intro i nd h1 h2
    cases vs with
    | nil => simp at h2
    | cons w vs =>
      rw [List.nodup_cons] at nd
      cases i with
      | zero =>
        simp at h1 h2
        subst h1 h2
        unfold kLook; simp
      | succ i =>
        simp at h1 h2
        have ne : a ≠ k := fun z => nd.1 (z ▸ List.mem_of_getElem? h1)
        have := ih nd.2 h1 h2
        unfold kLook at this ⊢
        simp [ne, this]
theorem lkT_cd {ls : List Nat} {k : Nat} {q : Nat × Nat} (h : (srtL ls)[k]? = some q) : lkT ls q.2 = cdAt (srtL ls) k := by
  have hk : k < (srtL ls).length := (List.getElem?_eq_some_iff.mp h).1
  rw [srtL_len] at hk
  have nd : (dk (srtL ls) ls.length).Nodup := by
    unfold dk
    rw [List.take_of_length_le (by rw [srtL_len]; omega)]
    have e : (srtL ls).map (fun q => (.inl (q.2 : Int) : DK)) = ((srtL ls).map Prod.snd).map fun n : Nat => (.inl (n : Int) : DK) := by rw [List.map_map]; rfl
    rw [e]
    refine List.Pairwise.map _ (fun a b h z => h ?_) (srtL_nd ls)
    have := Sum.inl.inj z
    omega
  have h1 : (dk (srtL ls) ls.length)[k]? = some (.inl (q.2 : Int)) := by
    unfold dk
    rw [List.take_of_length_le (by rw [srtL_len]; omega), List.getElem?_map, h]; rfl
  have h2 : (dv (srtL ls) ls.length)[k]? = some (.str (cdAt (srtL ls) k)) := by
    unfold dv
    rw [List.getElem?_map, List.getElem?_range hk]; rfl
  unfold lkT
  rw [kLook_at nd h1 h2]
/-- where a place stands -/
theorem pos_of {ls : List Nat} {i : Nat} (h : i < ls.length) : ∃ k, (srtL ls)[k]? = some (ls[i], i) ∧ k < ls.length := by
  obtain ⟨k, hk, e⟩ := List.getElem_of_mem (srtL_in h)
  exact ⟨k, by rw [List.getElem?_eq_getElem hk, e], by rwa [srtL_len] at hk⟩
theorem sg_figs (m c : Nat) : Sg (figs m c) := fun x hx => by
  unfold figs at hx
  obtain ⟨j, _, rfl⟩ := List.mem_map.mp hx
  rcases Nat.mod_two_eq_zero_or_one (c / 2 ^ (m - 1 - j)) with h | h <;> rw [h] <;> simp
theorem lkT_len {ls : List Nat} {i : Nat} (h : i < ls.length) : (lkT ls i).length = ls[i] ∧ Sg (lkT ls i) := by
  obtain ⟨k, hk, _⟩ := pos_of h
  rw [show lkT ls i = _ from lkT_cd hk, cdAt_eq hk]
  exact ⟨figs_len _ _, sg_figs _ _⟩
/-- the least book's codes -/
def bkL (us : List (Tx × Int)) (R : List It) : List (Tx × Tx) := (psL us R).zipIdx.map fun p => (p.1.1, lkT ((psL us R).map Prod.snd) p.2)
theorem bkL_D (us : List (Tx × Int)) (R : List It) : toldD (psL us R) = bookD (bkL us R) := by unfold toldD bookD bkL; rw [List.map_map]; rfl
theorem bkL_at {us : List (Tx × Int)} {R : List It} {i : Nat} {u : Tx × Int} (h : us[i]? = some u) : ∃ c, (bkL us R)[i]? = some (u.1, c) ∧ c.length = lnN us R i ∧ Sg c := by
  have hi := (List.getElem?_eq_some_iff.mp h).1
  have e1 : (psL us R)[i]? = some (u.1, lnN us R i) := by unfold psL; rw [List.getElem?_map, List.getElem?_zipIdx, h]; simp
  have hl : i < ((psL us R).map Prod.snd).length := by rw [List.length_map, psL_len]; exact hi
  obtain ⟨l1, l2⟩ := lkT_len hl
  refine ⟨lkT ((psL us R).map Prod.snd) i, ?_, ?_, l2⟩
  · unfold bkL
    rw [List.getElem?_map, List.getElem?_zipIdx, e1]; simp
  · rw [l1]
    have : ((psL us R).map Prod.snd)[i]? = some (lnN us R i) := by rw [List.getElem?_map, e1]; rfl
    exact (List.getElem?_eq_some_iff.mp this).2
theorem cum_scale {l m : Nat} {pre : List (Nat × Nat)} (h : ∀ q ∈ pre, q.1 ≤ l) (hm : l ≤ m) : cum m pre = cum l pre * 2 ^ (m - l) := by
  unfold cum
  induction pre with
  | nil => simp
  | cons p pre ih =>
    have h1 := h p (.head _)
    simp only [List.map_cons, List.sum_cons]
    rw [ih fun q hq => h q (.tail _ hq), Nat.add_mul, ← Nat.pow_add, show l - p.1 + (m - l) = m - p.1 by omega]
theorem srt_le {qs : List (Nat × Nat)} (so : qs.Pairwise fun a b => a.1 ≤ b.1) {k : Nat} {q : Nat × Nat} (h : qs[k]? = some q) : ∀ p ∈ qs.take k, p.1 ≤ q.1 := by
  intro p hp
  obtain ⟨j, hj, rfl⟩ := List.getElem_of_mem hp
  rw [List.length_take] at hj
  obtain ⟨hk, rfl⟩ := List.getElem?_eq_some_iff.mp h
  rw [List.getElem_take]
  exact List.pairwise_iff_getElem.mp so j k (by omega) hk (by omega)
theorem figs_take {m l c : Nat} (h : l ≤ m) : (figs m c).take l = figs l (c / 2 ^ (m - l)) := by
  unfold figs
  rw [← List.map_take, List.take_range, Nat.min_eq_left h]
  refine List.map_congr_left fun p hp => ?_
  rw [List.mem_range] at hp
  rw [Nat.div_div_eq_div_mul, ← Nat.pow_add, show m - l + (l - 1 - p) = m - 1 - p by omega]
def valT : Tx → Nat
  | [] => 0
  | x :: t => (x - 48) * 2 ^ t.length + valT t
theorem val_figs : ∀ (m c : Nat), valT (figs m c) = c % 2 ^ m
  | 0, c => by rw [Nat.pow_zero, Nat.mod_one]; rfl
  | m + 1, c => by
    rw [figs_succ]
    show (48 + c / 2 ^ m % 2 - 48) * 2 ^ (figs m c).length + valT (figs m c) = _
    rw [val_figs m c, figs_len, Nat.mod_pow_succ, show 48 + c / 2 ^ m % 2 - 48 = c / 2 ^ m % 2 by omega, Nat.mul_comm, Nat.add_comm]
theorem figs_inj {m a b : Nat} (ha : a < 2 ^ m) (hb : b < 2 ^ m) : figs m a = figs m b ↔ a = b := by
  constructor
  · intro h
    have := congrArg valT h
    rwa [val_figs, val_figs, Nat.mod_eq_of_lt ha, Nat.mod_eq_of_lt hb] at this
  · rintro rfl; rfl
/-- of which texts is one ahead a beginning -/
theorem ahead_any {qs : List (Nat × Nat)} {l x : Nat} (so : qs.Pairwise fun a b => a.1 ≤ b.1) (hx : x < 2 ^ l) :
    ∀ k, k ≤ qs.length → (∀ j q, j < k → qs[j]? = some q → cum q.1 (qs.take j) < 2 ^ q.1) → (∀ q ∈ qs.take k, q.1 ≤ l) →
      ((List.range k).map fun j => cdAt qs j).any (fun c => decide ((figs l x).take c.length = c)) = decide (x < cum l (qs.take k)) := by
  intro k
  induction k with
  | zero => intro _ _ _; simp [cum]
  | succ k ih =>
    intro hk hok hle
    have hg : qs[k]? = some qs[k] := List.getElem?_eq_getElem (by omega)
    have e1 : qs.take (k + 1) = qs.take k ++ [qs[k]] := by rw [List.take_add_one, hg]; rfl
    have ih := ih (by omega) (fun j q hj => hok j q (by omega)) fun q hq => hle q (by rw [e1]; exact List.mem_append_left _ hq)
    have hc := hok k qs[k] (by omega) hg
    have hql := hle qs[k] (by rw [e1]; exact List.mem_append_right _ (.head _))
    have sc := cum_scale (srt_le so hg) hql
    rw [List.range_succ, List.map_append, List.any_append, ih, e1, cum_snoc]
    rw [List.map_singleton, List.any_cons, List.any_nil, Bool.or_false, cdAt_eq hg, figs_len, figs_take hql, sc]
    generalize cum qs[k].1 (qs.take k) = c at *
    generalize qs[k].1 = m at *
    have hd : x / 2 ^ (l - m) < 2 ^ m := by
      rw [Nat.div_lt_iff_lt_mul (Nat.two_pow_pos _), ← Nat.pow_add, show m + (l - m) = l by omega]; exact hx
    have hP := Nat.two_pow_pos (l - m)
    generalize 2 ^ (l - m) = P at *
    have e2 : decide (figs m (x / P) = figs m c) = decide (x / P = c) := by
      by_cases h : x / P = c
      · rw [h]; simp
      · rw [decide_eq_false h, decide_eq_false fun z => h ((figs_inj hd hc).mp z)]
    rw [e2]
    by_cases h1 : x < c * P
    · rw [decide_eq_true h1, decide_eq_true (show x < c * P + P by omega)]; rfl
    · rw [decide_eq_false h1, Bool.false_or]
      by_cases h2 : x < c * P + P
      · have e3 : x / P = c := (Nat.div_eq_iff hP).mpr ⟨by omega, by omega⟩
        rw [decide_eq_true h2, decide_eq_true e3]
      · have e3 : ¬ x / P = c := fun z => by
          have := (Nat.div_eq_iff hP).mp z
          omega
        rw [decide_eq_false h2, decide_eq_false e3]
theorem cd_ap {qs : List (Nat × Nat)} (so : qs.Pairwise fun a b => a.1 ≤ b.1) (hok : ∀ j q, qs[j]? = some q → cum q.1 (qs.take j) < 2 ^ q.1) {k k' : Nat} (hk : k < k') (hk' : k' < qs.length) : Ap (cdAt qs k) (cdAt qs k') := by
  have hg : qs[k]? = some qs[k] := List.getElem?_eq_getElem (by omega)
  have hg' : qs[k']? = some qs[k'] := List.getElem?_eq_getElem (by omega)
  have hle := List.pairwise_iff_getElem.mp so k k' (by omega) hk' hk
  have aa := ahead_any so (hok k' _ hg') k' (by omega) (fun j q _ h => hok j q h) (srt_le so hg')
  rw [decide_eq_false (Nat.lt_irrefl _), List.any_eq_false] at aa
  have a1 := aa (cdAt qs k) (List.mem_map.mpr ⟨k, List.mem_range.mpr hk, rfl⟩)
  have a1 : ¬ (figs qs[k'].1 (cum qs[k'].1 (qs.take k'))).take (cdAt qs k).length = cdAt qs k := by simpa using a1
  rw [← cdAt_eq hg'] at a1
  have n1 : ¬ cdAt qs k <+: cdAt qs k' := fun z => a1 (List.prefix_iff_eq_take.mp z).symm
  refine ⟨n1, fun z => n1 ?_⟩
  have e1 : (cdAt qs k).length = qs[k].1 := by rw [cdAt_eq hg, figs_len]
  have e2 : (cdAt qs k').length = qs[k'].1 := by rw [cdAt_eq hg', figs_len]
  have := z.eq_of_length_le (by omega)
  rw [this]
  exact List.prefix_refl _
theorem Ap.symm' {a b : Tx} (h : Ap a b) : Ap b a := ⟨h.2, h.1⟩
theorem lkT_ap {ls : List Nat} (nf : ¬ Full ls) {i j : Nat} (hi : i < ls.length) (hj : j < ls.length) (hij : i ≠ j) : Ap (lkT ls i) (lkT ls j) := by
  obtain ⟨k, hk, hkl⟩ := pos_of hi
  obtain ⟨k', hk', hkl'⟩ := pos_of hj
  rw [show lkT ls i = _ from lkT_cd hk, show lkT ls j = _ from lkT_cd hk']
  have so : (srtL ls).Pairwise fun a b => a.1 ≤ b.1 := srtP_sorted _
  have hok : ∀ j q, (srtL ls)[j]? = some q → cum q.1 ((srtL ls).take j) < 2 ^ q.1 := fun j q h => by
    apply Decidable.byContradiction
    intro z
    exact nf ⟨j, q, h, by omega⟩
  rcases Nat.lt_trichotomy k k' with h | h | h
  · exact cd_ap so hok h (by rw [srtL_len]; exact hkl')
  · subst h
    rw [hk] at hk'
    have := Option.some.inj hk'
    have := congrArg Prod.snd this
    exact absurd this hij
  · exact (cd_ap so hok h (by rw [srtL_len]; exact hkl)).symm'
/-! the uses of a program -/
theorem fgo_ok {n : Nat} {Φ : T → Od.Env → Prop} {Ψ : Exn → Od.Env → Prop} (hn : n ≤ 255) (q : ∀ k : Nat, k ≤ 8 → Φ (.sh (.int (k : Nat))) [none]) : satO (f_figures_of [.sh (.int (n : Nat))]) Φ Ψ := by
  simp only [f_figures_of, B_figures_of]
  sizeOf_list_dec
  and_intros
  refine wh_inv (fun m ρ => ∃ i : Nat, ρ = [some (T.sh (.int (n : Nat))), some (T.sh (.int (i : Nat)))] ∧ i ≤ 8 ∧ m = 8 - i) (m := 8) (by omega) ⟨0, rfl, Nat.zero_le _, rfl⟩ ?_
  rintro m ρ ⟨i, rfl, hi, rfl⟩
  sizeOf_list_dec
  refine ⟨by omega, fun h => ?_, fun _ => q i hi⟩
  have : i ≠ 8 := fun z => by
    subst z
    rw [show (2 : Int) ^ Int.toNat ((8 : Nat) : Int) = 256 from rfl] at h
    omega
  exact ⟨8 - (i + 1), by omega, i + 1, rfl, by omega, rfl⟩
theorem sp_in4 {s : Nat} (h : spB s) : cIn (D.str [s]) (D.tup [.str [97], .str [98], .str [99], .str [100]]) = some true := by
  obtain ⟨a, b⟩ := h
  rcases (by omega : s = 97 ∨ s = 98 ∨ s = 99 ∨ s = 100) with rfl | rfl | rfl | rfl <;> rfl
theorem int_in4 (n : Nat) : cIn (D.int (n : Nat)) (D.tup [.str [97], .str [98], .str [99], .str [100]]) = some false := rfl
theorem spots_ok {m : Nat} {r : PRow} {Φ : T → Od.Env → Prop} {Ψ : Exn → Od.Env → Prop} (h : r.ok m) (q : ∀ ss : List Tx, ss.length ≤ 2 → Φ (.lst (ss.map .str)) [none]) : satO (f_spots_in [.sh r.d]) Φ Ψ := by
  obtain ⟨hd, xs, hxs, hl, he⟩ : ∃ (hd : D) (xs : List D), r.d = .tup (hd :: xs) ∧ xs.length ≤ 2 ∧ ∀ x ∈ xs, (∃ s, spB s ∧ x = .str [s]) ∨ ∃ n : Nat, x = .int (n : Nat) := by
    cases r with
    | set s n => exact ⟨_, _, rfl, by simp, fun x hx => by simp at hx; rcases hx with rfl | rfl; exact .inl ⟨s, h.1, rfl⟩; exact .inr ⟨n, rfl⟩⟩
    | two w s t => exact ⟨_, _, rfl, by simp, fun x hx => by simp at hx; rcases hx with rfl | rfl; exact .inl ⟨s, h.1, rfl⟩; exact .inl ⟨t, h.2, rfl⟩⟩
    | one w s => exact ⟨_, _, rfl, by simp, fun x hx => by simp at hx; subst hx; exact .inl ⟨s, h, rfl⟩⟩
    | stop => exact ⟨_, [], rfl, by simp, fun x hx => by cases hx⟩
    | jump a => exact ⟨_, _, rfl, by simp, fun x hx => by simp at hx; subst hx; exact .inr ⟨a, rfl⟩⟩
    | zero s a => exact ⟨_, _, rfl, by simp, fun x hx => by simp at hx; rcases hx with rfl | rfl; exact .inl ⟨s, h.1, rfl⟩; exact .inr ⟨a, rfl⟩⟩
  rw [hxs]
  simp only [f_spots_in, B_spots_in]
  sizeOf_list_dec
  rw [show cutD (hd :: xs) (some 1) none = xs by show cutD (hd :: xs) (some ((1 : Nat) : Int)) none = _; rw [cutD_drop]; rfl]
  refine ⟨rfl, ?_⟩
  refine cmp_i (fun i acc ρ => ∃ ss : List Tx, ss.length ≤ i ∧ acc = ss.map .str ∧ ρ = [some (T.sh (.tup (hd :: xs))), none]) (by omega) ⟨[], Nat.le_refl _, rfl, rfl⟩ ?_ ?_
  · rintro i y acc ρ hy hi ⟨ss, hs, rfl, rfl⟩
    rcases he y (List.mem_of_getElem? hy) with ⟨s, hs', rfl⟩ | ⟨n, rfl⟩
    · sizeOf_list_dec
      rw [sp_in4 hs', ex_some]
      sizeOf_list_dec
      exact ⟨ss ++ [[s]], by rw [List.length_append, List.length_singleton]; omega, by rw [List.map_append]; rfl⟩
    · sizeOf_list_dec
      rw [int_in4, ex_some]
      sizeOf_list_dec
      exact ⟨ss, by omega, rfl⟩
  · rintro acc ρ hl2 ⟨ss, hs, rfl, rfl⟩
    sizeOf_list_dec
    exact q ss (by omega)
theorem counted_ok {ns xs : List Tx} {Φ : T → Od.Env → Prop} {Ψ : Exn → Od.Env → Prop} (hl : ns.length ≤ 30) (hx : xs.length ≤ 1000)
    (q : ∀ us : List (Tx × Int), us.map Prod.fst = ns → (∀ u ∈ us, 0 ≤ u.2 ∧ u.2 ≤ 1000) → Φ (.lst (usD us)) [none, none]) : satO (f_counted [.sh (.tup (ns.map .str)), .sh (.lst (xs.map .str))]) Φ Ψ := by
  simp only [f_counted, B_counted]
  sizeOf_list_dec
  refine ⟨rfl, ?_⟩
  refine cmp_each (xs := ns) _ (fun s => .tup [.str s, .int (((xs.map D.str).countP fun z => D.flatEq z (.str s) : Nat) : Int)]) (by omega) (fun s hs => ?_) ?_
  · sizeOf_list_dec
    rw [show mCount (.lst (xs.map D.str)) [.str s] = some (.int (((xs.map D.str).countP fun z => D.flatEq z (.str s) : Nat) : Int)) from by
      show (if (D.flat (.str s) && (xs.map D.str).all D.flat) = true then _ else _) = _
      rw [if_pos]
      rw [Bool.and_eq_true]
      exact ⟨rfl, by rw [List.all_eq_true]; intro d hd; obtain ⟨x, _, rfl⟩ := List.mem_map.mp hd; rfl⟩, ex_some]
    exact ⟨by simp, rfl⟩
  sizeOf_list_dec
  have e : ns.map (fun s => D.tup [.str s, .int (((xs.map D.str).countP fun z => D.flatEq z (.str s) : Nat) : Int)]) = usD (ns.map fun s => (s, (((xs.map D.str).countP fun z => D.flatEq z (.str s) : Nat) : Int))) := by unfold usD; rw [List.map_map]; rfl
  rw [e]
  refine q _ (by rw [List.map_map]; exact List.map_id _) fun u hu => ?_
  obtain ⟨s, _, rfl⟩ := List.mem_map.mp hu
  have := List.countP_le_length (p := fun z => D.flatEq z (.str s)) (l := xs.map D.str)
  rw [List.length_map] at this
  exact ⟨by omega, by omega⟩
theorem usesof_ok {rs : List PRow} {m : Nat} {Φ : T → Od.Env → Prop} {Ψ : Exn → Od.Env → Prop} (hr : ∀ r ∈ rs, r.ok m) (hl : rs.length ≤ 300)
    (q : ∀ ks ss zs : List (Tx × Int), ks.map Prod.fst = kindsN → ss.map Prod.fst = spotsN → zs.map Prod.fst = sizesN → (∀ u ∈ ks, 0 ≤ u.2 ∧ u.2 ≤ 1000) → (∀ u ∈ ss, 0 ≤ u.2 ∧ u.2 ≤ 1000) → (∀ u ∈ zs, 0 ≤ u.2 ∧ u.2 ≤ 1000) → Φ (.sh (.tup [.lst (usD ks), .lst (usD ss), .lst (usD zs)])) [none]) : satO (f_uses_of [.sh (.lst (rs.map PRow.d))]) Φ Ψ := by
  simp only [f_uses_of, B_uses_of]
  sizeOf_list_dec
  and_intros
  refine for_inv (fun i ρ => ∃ ks ss zs : List Tx, ρ = [some (T.sh (.lst (rs.map PRow.d))), some (T.lst (ks.map .str)), some (T.lst (ss.map .str)), some (T.lst (zs.map .str)), none] ∧ ks.length = i ∧ ss.length ≤ 2 * i ∧ zs.length ≤ i) ⟨[], [], [], rfl, rfl, Nat.le_refl _, Nat.le_refl _⟩ ?_ ?_
  · rintro i x ρ hx ⟨ks, ss, zs, rfl, hk, hs, hz⟩
    rw [List.getElem?_map] at hx
    obtain ⟨r, hx', rfl⟩ := Option.map_eq_some_iff.mp hx
    have hro := hr r (List.mem_of_getElem? hx')
    obtain ⟨nm, i0, hset⟩ : ∃ (nm : Tx), fIdx r.d (.int 0) = some (.str nm) ∧ (nm = wSet → ∃ n : Nat, n ≤ 255 ∧ fIdx r.d (.int 2) = some (.int (n : Nat))) := by
      cases r with
      | set s n => exact ⟨_, rfl, fun _ => ⟨n, hro.2, rfl⟩⟩
      | two w s t => exact ⟨_, rfl, fun z => by cases w <;> exact absurd z (by decide)⟩
      | one w s => exact ⟨_, rfl, fun z => by cases w <;> exact absurd z (by decide)⟩
      | stop => exact ⟨_, rfl, fun z => absurd z (by decide)⟩
      | jump a => exact ⟨_, rfl, fun z => absurd z (by decide)⟩
      | zero s a => exact ⟨_, rfl, fun z => absurd z (by decide)⟩
    have hi : i < rs.length := (List.getElem?_eq_some_iff.mp hx').1
    sizeOf_list_dec
    rw [i0, ex_some]
    refine ⟨by rw [List.length_map]; omega, rfl, spots_ok hro fun s2 hs2 => ?_⟩
    sizeOf_list_dec
    refine ext_ok (by rw [List.length_map, List.length_map]; omega) ?_
    sizeOf_list_dec
    rw [i0, ex_some]
    sizeOf_list_dec
    rw [← List.map_append]
    have en : ks.map D.str ++ [D.str nm] = (ks ++ [nm]).map D.str := by rw [List.map_append]; rfl
    rw [en]
    refine ⟨fun hs3 => ?_, fun _ => ⟨ks ++ [nm], ss ++ s2, zs, rfl, by rw [List.length_append, hk]; rfl, by rw [List.length_append]; omega, by omega⟩⟩
    obtain ⟨n, hn, i2⟩ := hset hs3
    rw [i2, ex_some]
    refine ⟨rfl, fgo_ok hn fun k hk8 => ?_⟩
    sizeOf_list_dec
    refine atI_ok (by omega) (by simp; omega) fun d hd => ?_
    obtain ⟨z, hz1, rfl⟩ : ∃ z ∈ sizesN, d = .str z := by
      have hm := List.mem_of_getElem? hd
      exact (List.mem_map (f := D.str) (l := sizesN)).mp hm |>.imp fun z h => ⟨h.1, h.2.symm⟩
    sizeOf_list_dec
    exact ⟨by rw [List.length_map]; omega, ks ++ [nm], ss ++ s2, zs ++ [z], by rw [List.map_append (l₁ := zs)]; rfl, by rw [List.length_append, hk]; rfl, by rw [List.length_append]; omega, by rw [List.length_append]; simp; omega⟩
  · rintro ρ ⟨ks, ss, zs, rfl, hk, hs, hz⟩
    rw [List.length_map] at hk hs hz
    sizeOf_list_dec
    refine ⟨rfl, counted_ok (ns := kindsN) (by decide) (by omega) fun k1 e1 h1 => ?_⟩
    sizeOf_list_dec
    refine ⟨rfl, counted_ok (ns := spotsN) (by decide) (by omega) fun k2 e2 h2 => ?_⟩
    sizeOf_list_dec
    refine ⟨rfl, counted_ok (ns := sizesN) (by decide) (by omega) fun k3 e3 h3 => ?_⟩
    sizeOf_list_dec
    exact ⟨by simp, q k1 k2 k3 e1 e2 e3 h1 h2 h3⟩
/-! codes none of which begins another one: their halves are no more than a whole -/
def tl0 (x : Nat) : Tx → Option Tx
  | y :: t => if y = x then some t else none
  | [] => none
def krS (K : Nat) (cs : List Tx) : Nat := (cs.map fun c => 2 ^ (K - c.length)).sum
theorem krS_split (K : Nat) : ∀ (cs : List Tx), (∀ c ∈ cs, Sg c ∧ c ≠ []) → krS (K + 1) cs = krS K (cs.filterMap (tl0 48)) + krS K (cs.filterMap (tl0 49))
  | [], _ => rfl
  | c :: cs, h => by
    have ih := krS_split K cs fun d hd => h d (.tail _ hd)
    obtain ⟨hs, hne⟩ := h c (.head _)
    cases c with
    | nil => exact absurd rfl hne
    | cons y t =>
      have e : krS (K + 1) ((y :: t) :: cs) = 2 ^ (K - t.length) + krS (K + 1) cs := by
        unfold krS
        rw [List.map_cons, List.sum_cons]
        congr 2
        simp
      have e2 : ∀ ds : List Tx, krS K (t :: ds) = 2 ^ (K - t.length) + krS K ds := fun ds => by unfold krS; rw [List.map_cons, List.sum_cons]
      rcases hs y (.head _) with rfl | rfl
      · rw [List.filterMap_cons, List.filterMap_cons]
        simp only [tl0, if_true, show (48 : Nat) = 49 ↔ False by decide, if_false]
        rw [e, e2, ih]; omega
      · rw [List.filterMap_cons, List.filterMap_cons]
        simp only [tl0, if_true, show (49 : Nat) = 48 ↔ False by decide, if_false]
        rw [e, e2, ih]; omega
theorem tl0_some {x : Nat} {c t : Tx} (h : tl0 x c = some t) : c = x :: t := by
  unfold tl0 at h
  split at h
  · split at h
    · rename_i e; cases h; rw [e]
    · cases h
  · cases h
theorem ap_tl {x : Nat} {a b : Tx} (h : Ap (x :: a) (x :: b)) : Ap a b := ⟨fun z => h.1 (by obtain ⟨r, rfl⟩ := z; exact ⟨r, rfl⟩), fun z => h.2 (by obtain ⟨r, rfl⟩ := z; exact ⟨r, rfl⟩)⟩
theorem kraftAp : ∀ (K : Nat) (cs : List Tx), (∀ c ∈ cs, Sg c ∧ c.length ≤ K) → cs.Pairwise Ap → krS K cs ≤ 2 ^ K
  | K, [], _, _ => Nat.zero_le _
  | K, c :: cs, h, hp => by
    by_cases hn : ([] : Tx) ∈ c :: cs
    · have one : cs = [] := by
        cases cs with
        | nil => rfl
        | cons d ds =>
          exfalso
          rw [List.pairwise_cons] at hp
          rcases List.mem_cons.mp hn with e | e
          · exact (hp.1 d (.head _)).1 (by rw [← e]; exact List.nil_prefix)
          · exact (hp.1 [] e).2 List.nil_prefix
      subst one
      show (List.map _ [c]).sum ≤ _
      simp only [List.map_cons, List.map_nil, List.sum_cons, List.sum_nil, Nat.add_zero]
      exact Nat.pow_le_pow_right (by decide) (by omega)
    · cases K with
      | zero =>
        have := (h c (.head _)).2
        have : c = [] := List.length_eq_zero_iff.mp (by omega)
        exact absurd (by rw [this]; exact .head _) hn
      | succ K =>
        rw [krS_split K (c :: cs) fun d hd => ⟨(h d hd).1, fun e => hn (by rw [← e]; exact hd)⟩]
        have part : ∀ x, krS K ((c :: cs).filterMap (tl0 x)) ≤ 2 ^ K := fun x => by
          refine kraftAp K _ (fun t ht => ?_) ?_
          · obtain ⟨d, hd, e⟩ := List.mem_filterMap.mp ht
            have := tl0_some e
            subst this
            obtain ⟨h1, h2⟩ := h _ hd
            exact ⟨fun z hz => h1 z (.tail _ hz), by simpa using h2⟩
          · rw [List.pairwise_filterMap]
            refine hp.imp fun {a b} hab t ht t' ht' => ?_
            rw [tl0_some ht, tl0_some ht'] at hab
            exact ap_tl hab
        have a := part 48
        have b := part 49
        rw [Nat.pow_succ]; omega
  termination_by K => K
  decreasing_by all_goals omega
theorem krS_sumW : ∀ (cs : List Tx), (∀ c ∈ cs, c.length ≤ 40) → krS 40 cs = sumW cs
  | [], _ => rfl
  | c :: cs, h => by
    have ih := krS_sumW cs fun x hx => h x (.tail _ hx)
    show krS 40 (c :: cs) = wt c + sumW cs
    rw [← ih]
    unfold krS wt
    simp
theorem fcOf {k : Nat} {cs : List Tx} (hk : k ≤ 40) (hc : ∀ c ∈ cs, Cd k c) (hp : cs.Pairwise Ap) : FC k cs :=
  ⟨hp, by
    rw [← krS_sumW cs fun c h => by have := (hc c h).2.2; omega]
    exact kraftAp 40 cs (fun c h => ⟨(hc c h).1, by have := (hc c h).2.2; omega⟩) hp, hc⟩
theorem swp_put {C : List (Tx × Tx)} {a b : Tx} (ha : a ∈ C.map Prod.fst) (hb : b ∈ C.map Prod.fst) : putKD (putKD (nmK C) (C.map stC) (.inr a) (.str (cd C b))).1 (putKD (nmK C) (C.map stC) (.inr a) (.str (cd C b))).2 (.inr b) (.str (cd C a)) = (nmK C, (swp C a b).map stC) := by
  rw [put_map stC _ ha]
  simp only
  rw [put_map _ _ hb]
  unfold swp
  rw [List.map_map]
  refine Prod.ext rfl (List.map_congr_left fun x _ => ?_)
  show (if x.1 = b then D.str (cd C a) else if x.1 = a then D.str (cd C b) else stC x) = .str (if x.1 = b then cd C a else if x.1 = a then cd C b else x.2)
  split
  · rfl
  · split <;> rfl
theorem swp_a {C : List (Tx × Tx)} {a b : Tx} (nd : (C.map Prod.fst).Nodup) (ha : a ∈ C.map Prod.fst) (hab : a ≠ b) : cd (swp C a b) a = cd C b := by rw [swp_cd nd ha, if_neg hab, if_pos rfl]
theorem swp_b {C : List (Tx × Tx)} {a b : Tx} (nd : (C.map Prod.fst).Nodup) (hb : b ∈ C.map Prod.fst) : cd (swp C a b) b = cd C a := by rw [swp_cd nd hb, if_pos rfl]
theorem swp_o {C : List (Tx × Tx)} {a b s : Tx} (nd : (C.map Prod.fst).Nodup) (hs : s ∈ C.map Prod.fst) (h1 : s ≠ a) (h2 : s ≠ b) : cd (swp C a b) s = cd C s := by rw [swp_cd nd hs, if_neg h2, if_neg h1]
theorem far_ok {K : List (Tx × Tx)} {Φ : T → Od.Env → Prop} {Ψ : Exn → Od.Env → Prop} (nd : (K.map Prod.fst).Nodup) (kin : ∀ s ∈ kindsN, s ∈ K.map Prod.fst) (hl : K.length ≤ 1000) (cl : ∀ p ∈ K, p.2.length ≤ 100)
    (q : ∀ C : List (Tx × Tx), C.map Prod.fst = K.map Prod.fst → (C.map Prod.snd).Perm (K.map Prod.snd) → (cd C wJump).length ≤ (cd C wFarJ).length → (cd C wZero).length ≤ (cd C wFarZ).length → Φ (.lst (bookD C)) [none]) : satO (f_far_behind [.sh (.lst (bookD K))]) Φ Ψ := by
  simp only [f_far_behind, B_far_behind]
  sizeOf_list_dec
  rw [dict_o nd]
  sizeOf_list_dec
  have hn : (nmK K).length = K.length := by unfold nmK; rw [List.length_map, List.length_map]
  refine ⟨rfl, by simp, ?_⟩
  refine for_inv (fun i ρ => ∃ C : List (Tx × Tx), ρ = [some (T.sh (.lst (bookD K))), some (T.dct (nmK K) (C.map stC)), none, none, none, none] ∧ C.map Prod.fst = K.map Prod.fst ∧ (C.map Prod.snd).Perm (K.map Prod.snd) ∧ (1 ≤ i → (cd C wJump).length ≤ (cd C wFarJ).length) ∧ (2 ≤ i → (cd C wZero).length ≤ (cd C wFarZ).length)) ⟨K, rfl, rfl, .refl _, fun z => by omega, fun z => by omega⟩ ?_ ?_
  · rintro i x ρ hx ⟨C, rfl, hC, hP, h1, h2⟩
    have nC : nmK C = nmK K := by unfold nmK; rw [hC]
    have ndC : (C.map Prod.fst).Nodup := by rw [hC]; exact nd
    have kC : ∀ s ∈ kindsN, s ∈ C.map Prod.fst := fun s h => by rw [hC]; exact kin s h
    rw [← nC]
    have cC : ∀ s ∈ kindsN, (cd C s).length ≤ 100 := fun s hs => by
      have : cd C s ∈ K.map Prod.snd := hP.mem_iff.mp (List.mem_map.mpr ⟨_, cd_in ndC (kC s hs), rfl⟩)
      obtain ⟨p, hp, e⟩ := List.mem_map.mp this
      rw [← e]; exact cl p hp
    match i, hx with
    | 0, hx =>
      cases hx
      sizeOf_list_dec
      have la : ∀ {Φ : D → Prop}, ex (fIdx (.dct (nmK C) (C.map stC)) (.str wJump)) Φ = Φ (.str (cd C wJump)) := look_cd stC ndC (kC wJump (by decide))
      have lb : ∀ {Φ : D → Prop}, ex (fIdx (.dct (nmK C) (C.map stC)) (.str wFarJ)) Φ = Φ (.str (cd C wFarJ)) := look_cd stC ndC (kC wFarJ (by decide))
      have ca := cC wJump (by decide)
      have cb := cC wFarJ (by decide)
      rw [show ([102, 97, 114] ++ [106, 117, 109, 112] : Tx) = wFarJ from rfl, show ([106, 117, 109, 112] : Tx) = wJump from rfl]
      simp only [la, lb]
      sizeOf_list_dec
      simp only [swp_put (kC wJump (by decide)) (kC wFarJ (by decide))]
      rw [put_map stC _ (kC wJump (by decide))]
      have ncl : (nmK C).length = K.length := by rw [nC]; exact hn
      have ndS : ((swp C wJump wFarJ).map Prod.fst).Nodup := by rw [swp_names]; exact ndC
      refine ⟨by decide, by omega, by omega, fun hlt => ⟨by simp, by omega, by show (nmK C).length < 1000000; omega, swp C wJump wFarJ, rfl, (swp_names _ _ _).trans hC, (swp_perm ndC (kC wJump (by decide)) (kC wFarJ (by decide))).trans hP, fun _ => ?_, fun z => by omega⟩, fun hge => ⟨C, rfl, hC, hP, fun _ => by omega, fun z => by omega⟩⟩
      rw [swp_a ndC (kC wJump (by decide)) (by decide), swp_b ndC (kC wFarJ (by decide))]
      omega
    | 1, hx =>
      cases hx
      sizeOf_list_dec
      have la : ∀ {Φ : D → Prop}, ex (fIdx (.dct (nmK C) (C.map stC)) (.str wZero)) Φ = Φ (.str (cd C wZero)) := look_cd stC ndC (kC wZero (by decide))
      have lb : ∀ {Φ : D → Prop}, ex (fIdx (.dct (nmK C) (C.map stC)) (.str wFarZ)) Φ = Φ (.str (cd C wFarZ)) := look_cd stC ndC (kC wFarZ (by decide))
      have ca := cC wZero (by decide)
      have cb := cC wFarZ (by decide)
      rw [show ([102, 97, 114] ++ [122, 101, 114, 111] : Tx) = wFarZ from rfl, show ([122, 101, 114, 111] : Tx) = wZero from rfl]
      simp only [la, lb]
      sizeOf_list_dec
      simp only [swp_put (kC wZero (by decide)) (kC wFarZ (by decide))]
      rw [put_map stC _ (kC wZero (by decide))]
      have ncl : (nmK C).length = K.length := by rw [nC]; exact hn
      have h1' := h1 (by omega)
      refine ⟨by decide, by omega, by omega, fun hlt => ⟨by simp, by omega, by show (nmK C).length < 1000000; omega, swp C wZero wFarZ, rfl, (swp_names _ _ _).trans hC, (swp_perm ndC (kC wZero (by decide)) (kC wFarZ (by decide))).trans hP, fun _ => ?_, fun _ => ?_⟩, fun hge => ⟨C, rfl, hC, hP, fun _ => h1', fun _ => by omega⟩⟩
      · rw [swp_o ndC (kC wJump (by decide)) (by decide) (by decide), swp_o ndC (kC wFarJ (by decide)) (by decide) (by decide)]
        exact h1'
      · rw [swp_a ndC (kC wZero (by decide)) (by decide), swp_b ndC (kC wFarZ (by decide))]
        omega
    | i + 2, hx => exact absurd hx (by simp)
  · rintro ρ ⟨C, rfl, hC, hP, h1, h2⟩
    have nC : nmK C = nmK K := by unfold nmK; rw [hC]
    have ndC : (C.map Prod.fst).Nodup := by rw [hC]; exact nd
    sizeOf_list_dec
    unfold bookD
    refine cmp_each (xs := K) _ (fun x => .tup [.str x.1, .str (cd C x.1)]) (by omega) (fun x hx => ?_) ?_
    · sizeOf_list_dec
      rw [← nC, look_cd stC ndC (by rw [hC]; exact List.mem_map_of_mem hx)]
      exact ⟨by simp, rfl⟩
    · sizeOf_list_dec
      have e : (K.map fun x => D.tup [.str x.1, .str (cd C x.1)]) = bookD C := by
        have e2 : (K.map fun x => D.tup [.str x.1, .str (cd C x.1)]) = (K.map Prod.fst).map fun s => D.tup [.str s, .str (cd C s)] := by rw [List.map_map]; rfl
        rw [e2, ← hC, List.map_map]
        unfold bookD
        exact List.map_congr_left fun p hp => by
          show D.tup [.str p.1, .str (cd C p.1)] = _
          rw [cd_mem ndC hp]
      rw [e]
      exact q C hC hP (h1 (by decide)) (h2 (by decide))
theorem shorter_ok {K : List (Tx × Tx)} {near far : Nat} {Φ : T → Od.Env → Prop} {Ψ : Exn → Od.Env → Prop} (nd : (K.map Prod.fst).Nodup) (kin : ∀ s ∈ kindsN, s ∈ K.map Prod.fst) (cl : ∀ s ∈ kindsN, (cd K s).length ≤ 100)
    (nf : near < far) (fj : (cd K wJump).length + near ≤ (cd K wFarJ).length + far) (fz : (cd K wZero).length + near ≤ (cd K wFarZ).length + far) (q : Φ (.sh (.bl false)) [none, none, none]) : satO (f_far_is_shorter [.sh (.lst (bookD K)), .sh (.int (near : Nat)), .sh (.int (far : Nat))]) Φ Ψ := by
  simp only [f_far_is_shorter, B_far_is_shorter]
  sizeOf_list_dec
  refine ⟨rfl, ?_⟩
  refine for_inv (fun i ρ => ρ = [some (T.sh (.lst (bookD K))), some (T.sh (.int (near : Nat))), some (T.sh (.int (far : Nat))), none, none]) rfl ?_ ?_
  · rintro i x ρ hx rfl
    match i, hx with
    | 0, hx =>
      cases hx
      sizeOf_list_dec
      refine ⟨rfl, code_l (s := wFarJ) nd (kin _ (by decide)) ?_⟩
      sizeOf_list_dec
      refine ⟨by have := cl wFarJ (by decide); omega, rfl, code_l (s := wJump) nd (kin _ (by decide)) ?_⟩
      sizeOf_list_dec
      exact ⟨by have := cl wJump (by decide); omega, fun z => by omega⟩
    | 1, hx =>
      cases hx
      sizeOf_list_dec
      refine ⟨rfl, code_l (s := wFarZ) nd (kin _ (by decide)) ?_⟩
      sizeOf_list_dec
      refine ⟨by have := cl wFarZ (by decide); omega, rfl, code_l (s := wZero) nd (kin _ (by decide)) ?_⟩
      sizeOf_list_dec
      exact ⟨by have := cl wZero (by decide); omega, fun z => by omega⟩
    | i + 2, hx => exact absurd hx (by simp)
  · rintro ρ rfl
    sizeOf_list_dec
    exact q
/-- a book of the names -/
structure Bo (K : List (Tx × Tx)) (ns : List Tx) : Prop where
  kn : (K.map Prod.fst).Perm ns
  kf : FC 24 (K.map Prod.snd)
def nfE (w : Tx) : Exn := ⟨[78, 111, 70, 111, 114, 109], [([119, 104, 121], .str w)]⟩
def fmD (K S Z : List (Tx × Tx)) (near far : Int) : D := .obj [70, 111, 114, 109] [[107, 105, 110, 100, 115], [115, 112, 111, 116, 115], [115, 105, 122, 101, 115], [110, 101, 97, 114], [102, 97, 114]] [.fn (bookD K), .fn (bookD S), .fn (bookD Z), .int near, .int far]
theorem init_ok {K S Z : List (Tx × Tx)} {near far : Int} {Φ : T → Od.Env → Prop} {Ψ : Exn → Od.Env → Prop} (hk : Bo K kindsN) (hs : Bo S spotsN) (hz : Bo Z sizesN)
    (fj : (cd K wJump).length ≤ (cd K wFarJ).length) (fz : (cd K wZero).length ≤ (cd K wFarZ).length)
    (q1 : ¬ (2 ≤ near ∧ near ≤ 8) → ∀ ρ, Ψ (nfE [110, 101, 97, 114]) ρ) (q2 : 2 ≤ near → near ≤ 8 → ¬ (near < far ∧ far ≤ 16) → ∀ ρ, Ψ (nfE [102, 97, 114]) ρ)
    (q : 2 ≤ near → near ≤ 8 → near < far → far ≤ 16 → Φ (.sh .non) [some (T.ins [70, 111, 114, 109] [([107, 105, 110, 100, 115], .sh (.fn (bookD K))), ([115, 112, 111, 116, 115], .sh (.fn (bookD S))), ([115, 105, 122, 101, 115], .sh (.fn (bookD Z))), ([110, 101, 97, 114], .sh (.int near)), ([102, 97, 114], .sh (.int far))]), none, none, none, none, none]) :
    satO (f_Form____init__ [T.ins [70, 111, 114, 109] [], .sh (.lst (bookD K)), .sh (.lst (bookD S)), .sh (.lst (bookD Z)), .sh (.int near), .sh (.int far)]) Φ Ψ := by
  simp only [f_Form____init__, B_Form____init__]
  sizeOf_list_dec
  refine ⟨rfl, by simp, by simp, by simp, by simp, ?_⟩
  refine for_inv (fun i ρ => ρ = [some (T.ins [70, 111, 114, 109] []), some (T.sh (.lst (bookD K))), some (T.sh (.lst (bookD S))), some (T.sh (.lst (bookD Z))), some (T.sh (.int near)), some (T.sh (.int far)), none, none, none]) rfl ?_ ?_
  · rintro i x ρ hx rfl
    match i, hx with
    | 0, hx =>
      cases hx
      sizeOf_list_dec
      refine ⟨rfl, isbof_ok (ns := kindsN) hk.kn hk.kf (by decide) nm_kinds nd_kinds asy_kinds (by decide) (by decide) ?_⟩
      sizeOf_list_dec
    | 1, hx =>
      cases hx
      sizeOf_list_dec
      refine ⟨rfl, isbof_ok (ns := spotsN) hs.kn hs.kf (by decide) nm_spots nd_spots asy_spots (by decide) (by decide) ?_⟩
      sizeOf_list_dec
    | 2, hx =>
      cases hx
      sizeOf_list_dec
      refine ⟨rfl, isbof_ok (ns := sizesN) hz.kn hz.kf (by decide) nm_sizes nd_sizes asy_sizes (by decide) (by decide) ?_⟩
      sizeOf_list_dec
    | i + 3, hx => exact absurd hx (by simp)
  · rintro ρ rfl
    sizeOf_list_dec
    refine ⟨rfl, isnum_ok ?_⟩
    sizeOf_list_dec
    refine ⟨fun h2 => ⟨fun z => q1 (by omega) _, fun h8 => ⟨rfl, isnum_ok ?_⟩⟩, fun z => q1 (by omega) _⟩
    sizeOf_list_dec
    refine ⟨fun h3 => ⟨fun z => q2 h2 h8 (by omega) _, fun h4 => ?_⟩, fun z => q2 h2 h8 (by omega) _⟩
    obtain ⟨a, rfl⟩ := Int.eq_ofNat_of_zero_le (show 0 ≤ near by omega)
    obtain ⟨b, rfl⟩ := Int.eq_ofNat_of_zero_le (show 0 ≤ far by omega)
    have knd : (K.map Prod.fst).Nodup := hk.kn.nodup_iff.mpr nd_kinds
    have kin : ∀ s ∈ kindsN, s ∈ K.map Prod.fst := fun s hs => hk.kn.mem_iff.mpr hs
    refine ⟨rfl, shorter_ok knd kin (fun s hs => by have := (cd_cd knd (kin s hs) hk.kf).2.2; omega) (by omega) (by omega) (by omega) ?_⟩
    sizeOf_list_dec
    exact ⟨by decide, show (1 : Nat) < 900 by omega, show (2 : Nat) < 900 by omega, show (3 : Nat) < 900 by omega, show (4 : Nat) < 900 by omega, q h2 h8 h3 h4⟩
/-- the least book: its names and codes -/
theorem bk_fst (us : List (Tx × Int)) (R : List It) : (bkL us R).map Prod.fst = us.map Prod.fst := by
  apply List.ext_getElem?
  intro i
  by_cases hi : i < us.length
  · obtain ⟨c, e1, _, _⟩ := bkL_at (R := R) (List.getElem?_eq_getElem hi)
    rw [List.getElem?_map, List.getElem?_map, e1, List.getElem?_eq_getElem hi]; rfl
  · have hl : (bkL us R).length = us.length := by unfold bkL; rw [List.length_map, List.length_zipIdx, psL_len]
    rw [List.getElem?_eq_none (by rw [List.length_map]; omega), List.getElem?_eq_none (by rw [List.length_map]; omega)]
theorem bk_fc {us : List (Tx × Int)} {k : Nat} {R : List It} (h : LvS (us.map Prod.snd) (k - 1) R) (h1 : 1 ≤ k) (h24 : k ≤ 24) (hn : 1 ≤ us.length) (hk : us.length ≤ 2 ^ k) : FC 24 ((bkL us R).map Prod.snd) := by
  have hl : (bkL us R).length = us.length := by unfold bkL; rw [List.length_map, List.length_zipIdx, psL_len]
  obtain ⟨f1, f2⟩ := fit h h1 hn hk
  refine fcOf (by omega) (fun c hc => ?_) ?_
  · obtain ⟨i, hi, e⟩ := List.getElem_of_mem hc
    rw [List.length_map, hl] at hi
    obtain ⟨c', e1, e2, e3⟩ := bkL_at (R := R) (List.getElem?_eq_getElem hi)
    rw [List.getElem_map] at e
    have := (List.getElem?_eq_some_iff.mp e1).2
    rw [this] at e
    have e : c' = c := e
    subst e
    have := f2 i hi
    exact ⟨e3, by omega, by omega⟩
  · rw [List.pairwise_iff_getElem]
    intro i j hi hj hij
    have hi' : i < us.length := by rw [List.length_map] at hi; omega
    have hj' : j < us.length := by rw [List.length_map] at hj; omega
    have hc : ∀ i (hi : i < ((bkL us R).map Prod.snd).length), ((bkL us R).map Prod.snd)[i] = lkT ((psL us R).map Prod.snd) i := fun i hi => by
      rw [List.getElem_map]
      unfold bkL
      rw [List.getElem_map, List.getElem_zipIdx]; simp
    rw [hc i hi, hc j hj]
    exact lkT_ap (psL_free h h1 hn hk) (by rw [List.length_map, psL_len]; exact hi') (by rw [List.length_map, psL_len]; exact hj') (by omega)
theorem lb_ok {us : List (Tx × Int)} {k : Nat} {Φ : T → Od.Env → Prop} {Ψ : Exn → Od.Env → Prop} (h4 : 4 ≤ k) (hk : k ≤ 24) (hn : 1 ≤ us.length) (hu : us.length ≤ 16)
    (q : ∀ K : List (Tx × Tx), K.map Prod.fst = us.map Prod.fst → FC 24 (K.map Prod.snd) → Φ (.lst (bookD K)) [none, none]) : satO (f_least_book [.sh (.lst (usD us)), .sh (.int k)]) Φ Ψ := by
  have h2 : us.length ≤ 2 ^ k := Nat.le_trans (show us.length ≤ 2 ^ 4 from hu) (Nat.pow_le_pow_right (by decide) h4)
  refine pbook_ok (by omega) hk hn (by omega) h2 fun R hR => ?_
  rw [bkL_D]
  exact q _ (bk_fst us R) (bk_fc hR (by omega) hk hn h2)
def fmT (K S Z : List (Tx × Tx)) (near far : Int) : T := .sh (fmD K S Z near far)
theorem bo_of {ns : List Tx} {K : List (Tx × Tx)} (h : K.map Prod.fst = ns) (hf : FC 24 (K.map Prod.snd)) : Bo K ns := ⟨by rw [h], hf⟩
theorem lform_ok {rs : List PRow} {m k : Nat} {near far : Int} {Φ : T → Od.Env → Prop} {Ψ : Exn → Od.Env → Prop} (hr : ∀ r ∈ rs, r.ok m) (hl : rs.length ≤ 300) (hk : k ≤ 24)
    (q0 : k < 4 → Ψ ⟨[84, 111, 111, 70, 117, 108, 108], []⟩ [none, none, none, none])
    (q1 : 4 ≤ k → ¬ (2 ≤ near ∧ near ≤ 8) → Ψ (nfE [110, 101, 97, 114]) [none, none, none, none]) (q2 : 4 ≤ k → 2 ≤ near → near ≤ 8 → ¬ (near < far ∧ far ≤ 16) → Ψ (nfE [102, 97, 114]) [none, none, none, none])
    (q : 4 ≤ k → 2 ≤ near → near ≤ 8 → near < far → far ≤ 16 → ∀ K S Z, Φ (fmT K S Z near far) [none, none, none, none]) :
    satO (f_least_form [.sh (.lst (rs.map PRow.d)), .sh (.int (k : Nat)), .sh (.int near), .sh (.int far)]) Φ Ψ := by
  simp only [f_least_form, B_least_form]
  sizeOf_list_dec
  refine ⟨rfl, fun z => q0 (by omega), fun z => ?_⟩
  refine ⟨rfl, usesof_ok hr hl fun us vs ws e1 e2 e3 h1 h2 h3 => ?_⟩
  sizeOf_list_dec
  have l1 : us.length = 11 := by have := congrArg List.length e1; rwa [List.length_map] at this
  have l2 : vs.length = 4 := by have := congrArg List.length e2; rwa [List.length_map] at this
  have l3 : ws.length = 9 := by have := congrArg List.length e3; rwa [List.length_map] at this
  refine cmp_i (fun i acc ρ => ρ = [some (T.sh (.lst (rs.map PRow.d))), some (T.sh (.int (k : Nat))), some (T.sh (.int near)), some (T.sh (.int far)), none, none, none, none] ∧
    ∃ bs : List (List (Tx × Tx)), acc = bs.map (fun K => .lst (bookD K)) ∧ bs.length = i ∧ ∀ j K, bs[j]? = some K → Bo K ([kindsN, spotsN, sizesN].getD j [])) (by simp) ⟨rfl, [], rfl, rfl, fun j K h => by simp at h⟩ ?_ ?_
  · rintro i x acc ρ hx hi ⟨rfl, bs, rfl, hbl, hB⟩
    have nxt : ∀ K : List (Tx × Tx), Bo K ([kindsN, spotsN, sizesN].getD i []) → ∃ cs : List (List (Tx × Tx)), bs.map (fun K => D.lst (bookD K)) ++ [.lst (bookD K)] = cs.map (fun K => .lst (bookD K)) ∧ cs.length = i + 1 ∧ ∀ j K, cs[j]? = some K → Bo K ([kindsN, spotsN, sizesN].getD j []) := fun K hK => by
      refine ⟨bs ++ [K], by rw [List.map_append]; rfl, by rw [List.length_append, hbl]; rfl, fun j C hj => ?_⟩
      rcases Nat.lt_or_ge j bs.length with h | h
      · rw [List.getElem?_append_left h] at hj
        exact hB j C hj
      · rw [List.getElem?_append_right h] at hj
        have : j - bs.length = 0 := by
          rcases Nat.eq_zero_or_pos (j - bs.length) with z | z
          · exact z
          · rw [List.getElem?_eq_none (by simp; omega)] at hj; cases hj
        rw [this] at hj
        cases hj
        rw [show j = i by omega]
        exact hK
    match i, hx, nxt with
    | 0, hx, nxt =>
      cases hx
      sizeOf_list_dec
      refine ⟨rfl, lb_ok (by omega) hk (by omega) (by omega) fun K hK' hF => ?_⟩
      sizeOf_list_dec
      exact nxt K (bo_of (hK'.trans e1) hF)
    | 1, hx, nxt =>
      cases hx
      sizeOf_list_dec
      refine ⟨rfl, lb_ok (by omega) hk (by omega) (by omega) fun S hK' hF => ?_⟩
      sizeOf_list_dec
      exact nxt S (bo_of (hK'.trans e2) hF)
    | 2, hx, nxt =>
      cases hx
      sizeOf_list_dec
      refine ⟨rfl, lb_ok (by omega) hk (by omega) (by omega) fun Z hK' hF => ?_⟩
      sizeOf_list_dec
      exact nxt Z (bo_of (hK'.trans e3) hF)
    | i + 3, hx, _ => exact absurd hx (by simp)
  · rintro acc ρ hl2 ⟨rfl, bs, rfl, hbl, hB⟩
    obtain ⟨K, S, Z, rfl⟩ : ∃ K S Z, bs = [K, S, Z] := by
      match bs, hbl with
      | [K, S, Z], _ => exact ⟨K, S, Z, rfl⟩
    have hK : Bo K kindsN := hB 0 K rfl
    have hS : Bo S spotsN := hB 1 S rfl
    have hZ : Bo Z sizesN := hB 2 Z rfl
    have knd : (K.map Prod.fst).Nodup := hK.kn.nodup_iff.mpr nd_kinds
    have hKl : K.length = 11 := by have := hK.kn.length_eq; rwa [List.length_map] at this
    simp only [List.map]
    sizeOf_list_dec
    refine ⟨rfl, far_ok knd (fun s hs => hK.kn.mem_iff.mpr hs) (by omega) (fun p hp => by have := (hK.kf.sg p.2 (List.mem_map_of_mem hp)).2.2; omega) fun C hC hP f1 f2 => ?_⟩
    have hC' : Bo C kindsN := ⟨by rw [hC]; exact hK.kn, hK.kf.perm hP.symm⟩
    sizeOf_list_dec
    refine init_ok hC' hS hZ f1 f2 (fun h ρ => q1 (by omega) h) (fun a b c ρ => q2 (by omega) a b c) fun a b c d => ?_
    exact ⟨rfl, q (by omega) a b c d C S Z⟩
theorem allBls_rep : ∀ k : Nat, allBls (List.replicate k (.bl true)) = some (List.replicate k true)
  | 0 => rfl
  | k + 1 => by rw [List.replicate_succ, List.replicate_succ]; simp [allBls, allBls_rep k]
theorem fAll_rep {k : Nat} {Φ : D → Prop} : ex (fAll [.lst (List.replicate k (.bl true))]) Φ = Φ (.bl true) := by
  have : fAll [.lst (List.replicate k (.bl true))] = some (.bl true) := by
    show Option.map _ (allBls _) = _
    rw [allBls_rep]
    simp
  rw [this]; rfl
theorem zipD_self_get {ds : List D} {i : Nat} {x : D} (h : (zipD ds ds)[i]? = some x) : ∃ d ∈ ds, x = .tup [d, d] := by
  unfold zipD at h
  rw [List.getElem?_map] at h
  obtain ⟨p, hp, rfl⟩ := Option.map_eq_some_iff.mp h
  obtain ⟨h1, h2⟩ := List.getElem?_zip_eq_some.mp hp
  rw [h1] at h2
  have := Option.some.inj h2
  exact ⟨p.1, List.mem_of_getElem? h1, by rw [← this]⟩
theorem zipD_self_len (ds : List D) : (zipD ds ds).length = ds.length := by simp [zipD]
theorem same_refl : ∀ (n : Nat) (d : D), gdD d = true → d.dep < n → szD d = true → ∀ {Φ : T → Od.Env → Prop} {Ψ : Exn → Od.Env → Prop}, Φ (.sh (.bl true)) [none, none] → satO (r__law_same n [T.sh d, .sh d]) Φ Ψ
  | 0, d, _, h, _, Φ, Ψ, _ => by omega
  | n + 1, d, hg, hd, hz, Φ, Ψ, q => by
    have loop : ∀ (x : D) (ds : List D) {K : T × Od.Env → Prop} {Ψ' : Exn → Od.Env → Prop}, (∀ e ∈ ds, gdD e = true) → (∀ e ∈ ds, e.dep < n) → (∀ e ∈ ds, szD e = true) → ds.length ≤ 1000000 → K (.lst (List.replicate ds.length (.bl true)), [some (T.sh x), some (T.sh x), none, none]) →
        sat (cmpL [2, 3] (gTp [gNm 2, gNm 3]) bTrue (eFz (eCall (r__law_same n) [Arg.v (eV 2), Arg.v (eV 3)])) (zipD ds ds) [] [some (T.sh x), some (T.sh x), none, none]) K Ψ' := by
      intro x ds K Ψ' h1 h2 h3 h4 k
      refine cmp_i (fun i acc ρ => ρ = [some (T.sh x), some (T.sh x), none, none] ∧ acc = List.replicate i (.bl true)) (by rw [zipD_self_len]; exact h4) ⟨rfl, rfl⟩ ?_ ?_
      · rintro i y acc ρ hy hi ⟨rfl, rfl⟩
        obtain ⟨e, he, rfl⟩ := zipD_self_get hy
        sizeOf_list_dec
        refine ⟨rfl, same_refl n e (h1 e he) (h2 e he) (h3 e he) ?_⟩
        sizeOf_list_dec
        rw [List.replicate_succ']
      · rintro acc ρ hl ⟨rfl, rfl⟩
        rw [zipD_self_len]
        exact k
    unfold r__law_same
    unfold B__law_same
    cases d with
    | non =>
      sizeOf_list_dec
      exact ⟨rfl, q⟩
    | bl b =>
      sizeOf_list_dec
      exact ⟨rfl, q⟩
    | int i =>
      sizeOf_list_dec
      exact ⟨rfl, q⟩
    | str s =>
      sizeOf_list_dec
      exact ⟨rfl, q⟩
    | tup ds =>
      unfold gdD at hg
      unfold D.dep at hd
      unfold szD at hz
      simp only [Bool.and_eq_true, decide_eq_true_eq] at hz
      sizeOf_list_dec
      refine ⟨rfl, fun z => absurd trivial z, fun z => absurd trivial z, fun z => absurd trivial z, loop _ ds (gdL_mem hg) (fun e he => by have := depL_mem e he; omega) (szL_mem hz.2) hz.1 ?_⟩
      sizeOf_list_dec
      rw [fAll_rep]
      exact q
    | lst ds =>
      unfold gdD at hg
      unfold D.dep at hd
      unfold szD at hz
      simp only [Bool.and_eq_true, decide_eq_true_eq] at hz
      sizeOf_list_dec
      refine ⟨rfl, fun z => absurd trivial z, fun z => absurd trivial z, fun z => absurd trivial z, loop _ ds (gdL_mem hg) (fun e he => by have := depL_mem e he; omega) (szL_mem hz.2) hz.1 ?_⟩
      sizeOf_list_dec
      rw [fAll_rep]
      exact q
    | rol ds => cases hg
    | dct k v => cases hg
    | exn c k v => cases hg
    | obj c k v => cases hg
    | fn x => cases hg
structure Gd (d : D) : Prop where
  g : gdD d = true
  h : d.dep < 70
  z : szD d = true
theorem same_ok {d : D} (hg : Gd d) {Φ : T → Od.Env → Prop} {Ψ : Exn → Od.Env → Prop} (q : Φ (.sh (.bl true)) [none, none]) : satO (f__law_same [T.sh d, .sh d]) Φ Ψ := same_refl 70 d hg.g hg.h hg.z q
/-- data that _law_same reads: how deep at most -/
def Gk (k : Nat) (d : D) : Prop := gdD d = true ∧ d.dep ≤ k ∧ szD d = true
theorem Gk.mono {j k : Nat} {d : D} (h : Gk j d) (hk : j ≤ k) : Gk k d := ⟨h.1, by have := h.2.1; omega, h.2.2⟩
def wForm : Tx := [102, 111, 114, 109]
def wFull : Tx := [102, 117, 108, 108]
theorem class_form {w : Tx} {Φ : T → Od.Env → Prop} {Ψ : Exn → Od.Env → Prop} (q : Φ (.sh (.tup [.str wForm, .str w])) [none]) : satO (f__law_class [.sh (.exn [78, 111, 70, 111, 114, 109] [[119, 104, 121]] [.str w])]) Φ Ψ := by
  have hin : [78, 111, 70, 111, 114, 109] ∈ rs_ := by decide
  have b1 : ([[84, 111, 111, 70, 117, 108, 108]].any (subE [78, 111, 70, 111, 114, 109])) = false := by decide
  have b2 : ([[78, 111, 80, 108, 97, 99, 101]].any (subE [78, 111, 70, 111, 114, 109])) = false := by decide
  have b3 : ([[78, 111, 78, 97, 109, 101]].any (subE [78, 111, 70, 111, 114, 109])) = false := by decide
  have b4 : ([[66, 97, 100, 84, 101, 120, 116]].any (subE [78, 111, 70, 111, 114, 109])) = false := by decide
  have b5 : ([[78, 111, 70, 111, 114, 109]].any (subE [78, 111, 70, 111, 114, 109])) = true := by decide
  have b6 : ([[84, 111, 111, 70, 97, 114]].any (subE [78, 111, 70, 111, 114, 109])) = false := by decide
  have b7 : ([[78, 111, 84, 97, 114, 103, 101, 116]].any (subE [78, 111, 70, 111, 114, 109])) = false := by decide
  have b8 : ([[66, 97, 100, 82, 111, 119]].any (subE [78, 111, 70, 111, 114, 109])) = false := by decide
  have ba : ([[86, 97, 108, 117, 101, 69, 114, 114, 111, 114]].any (subE [78, 111, 70, 111, 114, 109])) = true := by decide
  simp only [f__law_class, B__law_class]
  sizeOf_list_dec
  rw [b1, b2, b3, b4, b5, b6, b7, b8, ba]
  have c1 : mCount (D.lst ([D.bl false, D.bl false, D.bl false] ++ [D.bl false, D.bl true, D.bl false] ++ [D.bl false, D.bl false])) [D.bl true] = some (.int 1) := by rfl
  have c2 : mIndexL (D.lst ([D.bl false, D.bl false, D.bl false] ++ [D.bl false, D.bl true, D.bl false] ++ [D.bl false, D.bl false])) [D.bl true] = some (.int 4) := by rfl
  rw [c1, c2, ex_some, ex_some]
  simp_wf
  (repeat (refine And.intro ?_ ?_; focus (first | exact rfl | (simp; done)))); refine ?_
  rw [show cIn (D.str [102, 111, 114, 109]) (D.tup [D.str [116, 101, 120, 116], D.str [116, 97, 114, 103, 101, 116]]) = some false from rfl, ex_some]
  rw [show fEq (D.str [102, 111, 114, 109]) (D.str [102, 97, 114]) = some false from rfl]
  simp only [ex_some]
  rw [show fEq (D.str [102, 111, 114, 109]) (D.str [102, 111, 114, 109]) = some true from rfl]
  simp only [ex_some]
  exact ⟨fun z => (by cases z), fun _ => ⟨fun z => (by cases z), fun _ => ⟨fun _ => ⟨hin, by simp, q⟩, fun z => (by cases z)⟩⟩⟩
theorem due_ok {k : Nat} {near far : Int} {Φ : T → Od.Env → Prop} {Ψ : Exn → Od.Env → Prop}
    (q0 : k < 4 → Φ (.sh (.tup [.str wFull, .non])) [none, none, none]) (q1 : 4 ≤ k → ¬ (2 ≤ near ∧ near ≤ 8) → Φ (.sh (.tup [.str wForm, .str [110, 101, 97, 114]])) [none, none, none])
    (q2 : 4 ≤ k → 2 ≤ near → near ≤ 8 → ¬ (near < far ∧ far ≤ 16) → Φ (.sh (.tup [.str wForm, .str [102, 97, 114]])) [none, none, none])
    (q : 4 ≤ k → 2 ≤ near → near ≤ 8 → near < far → far ≤ 16 → Φ (.sh .non) [none, none, none]) : satO (f__law_due [.sh (.int (k : Nat)), .sh (.int near), .sh (.int far)]) Φ Ψ := by
  simp only [f__law_due, B__law_due]
  sizeOf_list_dec
  refine ⟨rfl, fun z => ⟨by simp, q0 (by omega)⟩, fun z => ⟨fun a => ⟨fun b => ⟨by simp, q1 (by omega) (by omega)⟩, fun b => ⟨fun c => ⟨fun d => q (by omega) a b c d, fun d => ⟨by simp, q2 (by omega) a b (by omega)⟩⟩, fun c => ⟨by simp, q2 (by omega) a b (by omega)⟩⟩⟩, fun a => ⟨by simp, q1 (by omega) (by omega)⟩⟩⟩
theorem oddn_ok {n : Nat} {fs : Fs} {a b : Int} {Φ : T → Od.Env → Prop} {Ψ : Exn → Od.Env → Prop} (hb : Bx n fs) (hn : 4 ≤ n) (ha : 0 ≤ a) (hab : a ≤ b) (hb2 : b ≤ 100)
    (q : ∀ (x : Int) fs', (x = 10 ^ 20 ∨ x = 0 - 10 ^ 20 ∨ (-1000 ≤ x ∧ x ≤ 1000)) → Bx (n - 4) fs' → Φ (.sh (.int x)) [some (.rcd fs'), none, none]) : satO (f__law_odd_number [T.rcd fs, .sh (.int a), .sh (.int b)]) Φ Ψ := by
  simp only [f__law_odd_number, B__law_odd_number]
  sizeOf_list_dec
  refine ⟨rfl, rfl, take_ok hb (by omega) (by omega) (by omega) fun w fs w0 w1 hb => ?_⟩
  sizeOf_list_dec
  refine ⟨fun h3 => ⟨rfl, take_ok hb (by omega) (by omega) (by omega) fun r fs r0 r1 hb => ?_⟩, fun h3 => ⟨by simp, rfl, take_ok hb (by omega) (by omega) (by omega) fun r fs r0 r1 hb => ?_⟩⟩
  · sizeOf_list_dec
    exact q _ _ (.inr (.inr ⟨by omega, by omega⟩)) (hb.mono (by omega))
  sizeOf_list_dec
  refine atI_ok r0 (by simpa using r1) fun d1 hd1 => ?_
  replace hd1 := List.mem_of_getElem? hd1
  refine ⟨by simp, rfl, take_ok hb (by omega) (by omega) (by omega) fun r' fs r0' r1' hb => ?_⟩
  sizeOf_list_dec
  refine atI_ok r0' (by simpa using r1') fun d2 hd2 => ?_
  replace hd2 := List.mem_of_getElem? hd2
  sizeOf_list_dec
  refine ⟨⟨by decide, by decide, by decide⟩, ⟨by decide, by decide, by decide⟩, by simp, rfl, take_ok hb (by omega) (by omega) (by omega) fun r2 fs r20 r21 hb => ?_⟩
  sizeOf_list_dec
  refine atI_ok r20 (by simpa using r21) fun d3 hd3 => ?_
  replace hd3 := List.mem_of_getElem? hd3
  refine ⟨by simp, ?_⟩
  refine atI_ok (by omega) (by simp; omega) fun d hd => ?_
  replace hd := List.mem_of_getElem? hd
  obtain ⟨x, rfl, hx⟩ : ∃ x : Int, d = .int x ∧ (x = 10 ^ 20 ∨ x = 0 - 10 ^ 20 ∨ (-1000 ≤ x ∧ x ≤ 1000)) := by
    simp only [List.mem_cons, List.not_mem_nil, or_false] at hd hd1 hd2 hd3
    rcases hd with rfl | rfl | rfl
    · rcases hd1 with rfl | rfl
      · exact ⟨_, rfl, .inr (.inr ⟨by omega, by omega⟩)⟩
      · exact ⟨_, rfl, .inr (.inr ⟨by omega, by omega⟩)⟩
    · rcases hd2 with rfl | rfl
      · exact ⟨_, rfl, .inr (.inr ⟨by omega, by omega⟩)⟩
      · exact ⟨_, rfl, .inr (.inr ⟨by omega, by omega⟩)⟩
    · rcases hd3 with rfl | rfl | rfl | rfl | rfl | rfl
      · exact ⟨_, rfl, .inr (.inr ⟨by omega, by omega⟩)⟩
      · exact ⟨_, rfl, .inr (.inr ⟨by omega, by omega⟩)⟩
      · exact ⟨_, rfl, .inr (.inr ⟨by omega, by omega⟩)⟩
      · exact ⟨_, rfl, .inl rfl⟩
      · exact ⟨_, rfl, .inr (.inl rfl)⟩
      · exact ⟨_, rfl, .inr (.inr ⟨by omega, by omega⟩)⟩
  exact q x fs hx (hb.mono (by omega))
theorem class_full {Φ : T → Od.Env → Prop} {Ψ : Exn → Od.Env → Prop} (q : Φ (.sh (.tup [.str wFull, .non])) [none]) : satO (f__law_class [.sh (.exn [84, 111, 111, 70, 117, 108, 108] [] [])]) Φ Ψ := by
  have hin : [84, 111, 111, 70, 117, 108, 108] ∈ rs_ := by decide
  have b1 : ([[84, 111, 111, 70, 117, 108, 108]].any (subE [84, 111, 111, 70, 117, 108, 108])) = true := by decide
  have b2 : ([[78, 111, 80, 108, 97, 99, 101]].any (subE [84, 111, 111, 70, 117, 108, 108])) = false := by decide
  have b3 : ([[78, 111, 78, 97, 109, 101]].any (subE [84, 111, 111, 70, 117, 108, 108])) = false := by decide
  have b4 : ([[66, 97, 100, 84, 101, 120, 116]].any (subE [84, 111, 111, 70, 117, 108, 108])) = false := by decide
  have b5 : ([[78, 111, 70, 111, 114, 109]].any (subE [84, 111, 111, 70, 117, 108, 108])) = false := by decide
  have b6 : ([[84, 111, 111, 70, 97, 114]].any (subE [84, 111, 111, 70, 117, 108, 108])) = false := by decide
  have b7 : ([[78, 111, 84, 97, 114, 103, 101, 116]].any (subE [84, 111, 111, 70, 117, 108, 108])) = false := by decide
  have b8 : ([[66, 97, 100, 82, 111, 119]].any (subE [84, 111, 111, 70, 117, 108, 108])) = false := by decide
  have ba : ([[86, 97, 108, 117, 101, 69, 114, 114, 111, 114]].any (subE [84, 111, 111, 70, 117, 108, 108])) = true := by decide
  simp only [f__law_class, B__law_class]
  sizeOf_list_dec
  rw [b1, b2, b3, b4, b5, b6, b7, b8, ba]
  have c1 : mCount (D.lst ([D.bl false, D.bl false, D.bl false] ++ [D.bl false, D.bl false, D.bl true] ++ [D.bl false, D.bl false])) [D.bl true] = some (.int 1) := by rfl
  have c2 : mIndexL (D.lst ([D.bl false, D.bl false, D.bl false] ++ [D.bl false, D.bl false, D.bl true] ++ [D.bl false, D.bl false])) [D.bl true] = some (.int 5) := by rfl
  rw [c1, c2, ex_some, ex_some]
  simp_wf
  (repeat (refine And.intro ?_ ?_; focus (first | exact rfl | (simp; done)))); refine ?_
  rw [show cIn (D.str [102, 117, 108, 108]) (D.tup [D.str [116, 101, 120, 116], D.str [116, 97, 114, 103, 101, 116]]) = some false from rfl, ex_some]
  rw [show fEq (D.str [102, 117, 108, 108]) (D.str [102, 97, 114]) = some false from rfl]
  simp only [ex_some]
  rw [show fEq (D.str [102, 117, 108, 108]) (D.str [102, 111, 114, 109]) = some false from rfl]
  simp only [ex_some]
  exact ⟨fun z => (by cases z), fun _ => ⟨fun z => (by cases z), fun _ => ⟨fun z => (by cases z), fun _ => ⟨by simp, q⟩⟩⟩⟩
def ptsD7 (K S Z : List (Tx × Tx)) (near far : Int) : D := .dct [.inr [107, 105, 110, 100, 115], .inr [115, 112, 111, 116, 115], .inr [115, 105, 122, 101, 115], .inr [110, 101, 97, 114], .inr [102, 97, 114]] [.lst (bookD K), .lst (bookD S), .lst (bookD Z), .int near, .int far]
theorem parts_ok {K S Z : List (Tx × Tx)} {near far : Int} {Φ : T → Od.Env → Prop} {Ψ : Exn → Od.Env → Prop} (q : ∀ t d, frzT t = some d → d = ptsD7 K S Z near far → Φ t [none]) : satO (f__law_parts_of [fmT K S Z near far]) Φ Ψ := by
  simp only [f__law_parts_of, B__law_parts_of, fmT]
  sizeOf_list_dec
  have f1 : ∀ {Φ : D → Prop}, ex (fFldO [70, 111, 114, 109] [107, 105, 110, 100, 115] (fmD K S Z near far)) Φ = Φ (.fn (bookD K)) := fun {_} => rfl
  have f2 : ∀ {Φ : D → Prop}, ex (fFldO [70, 111, 114, 109] [115, 112, 111, 116, 115] (fmD K S Z near far)) Φ = Φ (.fn (bookD S)) := fun {_} => rfl
  have f3 : ∀ {Φ : D → Prop}, ex (fFldO [70, 111, 114, 109] [115, 105, 122, 101, 115] (fmD K S Z near far)) Φ = Φ (.fn (bookD Z)) := fun {_} => rfl
  have f4 : ∀ {Φ : D → Prop}, ex (fFldO [70, 111, 114, 109] [110, 101, 97, 114] (fmD K S Z near far)) Φ = Φ (.int near) := fun {_} => rfl
  have f5 : ∀ {Φ : D → Prop}, ex (fFldO [70, 111, 114, 109] [102, 97, 114] (fmD K S Z near far)) Φ = Φ (.int far) := fun {_} => rfl
  simp only [f1, f2, f3, f4, f5]
  sizeOf_list_dec
  exact ⟨rfl, by simp, ⟨by decide, rfl, by simp⟩, q _ _ rfl rfl⟩
theorem told_ok {rs : List PRow} {m k : Nat} {near far : Int} {Φ : T → Od.Env → Prop} {Ψ : Exn → Od.Env → Prop} (hr : ∀ r ∈ rs, r.ok m) (hl : rs.length ≤ 300) (hk : k ≤ 24)
    (q0 : k < 4 → Φ (.sh (.tup [.str wFull, .non])) [none, none, none, none])
    (q1 : 4 ≤ k → ¬ (2 ≤ near ∧ near ≤ 8) → Φ (.sh (.tup [.str wForm, .str [110, 101, 97, 114]])) [none, none, none, none]) (q2 : 4 ≤ k → 2 ≤ near → near ≤ 8 → ¬ (near < far ∧ far ≤ 16) → Φ (.sh (.tup [.str wForm, .str [102, 97, 114]])) [none, none, none, none])
    (q : 4 ≤ k → 2 ≤ near → near ≤ 8 → near < far → far ≤ 16 → ∀ K S Z, Φ (.sh (.tup [.str [], ptsD7 K S Z near far])) [none, none, none, none]) :
    satO (f__law_told [.sh (.lst (rs.map PRow.d)), .sh (.int (k : Nat)), .sh (.int near), .sh (.int far)]) Φ Ψ := by
  simp only [f__law_told, B__law_told]
  sizeOf_list_dec
  refine ⟨rfl, rfl, rfl, rfl, lform_ok hr hl hk (fun z => ?_) (fun a b => ?_) (fun a b c d => ?_) fun a b c d e K S Z => ?_⟩
  · sizeOf_list_dec
    refine ⟨⟨by decide, by decide⟩, rfl, class_full ?_⟩
    sizeOf_list_dec
    exact q0 z
  · unfold nfE
    sizeOf_list_dec
    refine ⟨⟨by decide, by decide⟩, rfl, class_form ?_⟩
    sizeOf_list_dec
    exact q1 a b
  · unfold nfE
    sizeOf_list_dec
    refine ⟨⟨by decide, by decide⟩, rfl, class_form ?_⟩
    sizeOf_list_dec
    exact q2 a b c d
  · unfold fmT
    sizeOf_list_dec
    refine ⟨rfl, parts_ok fun t d' ht hd => ?_⟩
    subst hd
    sizeOf_list_dec
    rw [ht, ex_some]
    sizeOf_list_dec
    exact ⟨by simp, q a b c d e K S Z⟩
theorem sat_eq {o : Out} {t : T} {os : Od.Env} {Φ : T → Od.Env → Prop} {Ψ : Exn → Od.Env → Prop} (h : o = .ok t os) (q : Φ t os) : satO o Φ Ψ := by rw [h]; exact ⟨q⟩
theorem told6 {rs : List PRow} {m : Nat} (hr : ∀ r ∈ rs, r.ok m) (hl : rs.length ≤ 300) : ∃ K S Z : List (Tx × Tx), f__law_told [.sh (.lst (rs.map PRow.d)), .sh (.int 6), .sh (.int 4), .sh (.int 12)] = .ok (.sh (.tup [.str [], ptsD7 K S Z 4 12])) [none, none, none, none] := by
  have key : satO (f__law_told [.sh (.lst (rs.map PRow.d)), .sh (.int ((6 : Nat) : Int)), .sh (.int 4), .sh (.int 12)]) (fun t os => ∃ K S Z : List (Tx × Tx), t = .sh (.tup [.str [], ptsD7 K S Z 4 12]) ∧ os = [none, none, none, none]) (fun _ _ => False) :=
    told_ok hr hl (by omega) (fun z => by omega) (fun _ z => by omega) (fun _ _ _ z => by omega) fun _ _ _ _ _ K S Z => ⟨K, S, Z, rfl, rfl⟩
  obtain ⟨t, os, e, K, S, Z, rfl, rfl⟩ := key.ex
  exact ⟨K, S, Z, e⟩
theorem nice_bk : ∀ K : List (Tx × Tx), D.niceL (bookD K) = true
  | [] => rfl
  | _ :: K => by
    show (D.nice (.tup _) && D.niceL (bookD K)) = true
    rw [nice_bk K]; rfl
theorem hgt_bk : ∀ K : List (Tx × Tx), D.hgtL (bookD K) ≤ 1
  | [] => by decide
  | p :: K => by
    have := hgt_bk K
    show max (D.hgt (.tup [.str p.1, .str p.2])) (D.hgtL (bookD K)) ≤ 1
    have h : D.hgt (.tup [.str p.1, .str p.2]) = 1 := rfl
    omega
theorem nice_first (K S Z : List (Tx × Tx)) (near far : Int) : D.niceL [.str [], ptsD7 K S Z near far] = true := by
  show (true && ((D.niceL (bookD K) && (D.niceL (bookD S) && (D.niceL (bookD Z) && (true && (true && true))))) && true)) = true
  rw [nice_bk, nice_bk, nice_bk]; rfl
theorem hgt_first (K S Z : List (Tx × Tx)) (near far : Int) : D.hgtL [.str [], ptsD7 K S Z near far] ≤ 60 := by
  have a := hgt_bk K
  have b := hgt_bk S
  have c := hgt_bk Z
  show max 0 (max (max (D.hgtL (bookD K) + 1) (max (D.hgtL (bookD S) + 1) (max (D.hgtL (bookD Z) + 1) (max 0 (max 0 0)))) + 1) 0) ≤ 60
  omega
theorem law_fact (ns : List Int) (hns : ns.length ≤ 63) : ∃ os, f_law [.sh (.rol (ns.map .int))] = .ok (.sh (.bl true)) os := by
  have key : satO (f_law [T.sh (.rol (ns.map .int))]) (fun t os => t = .sh (.bl true)) (fun _ _ => False) := by
    simp only [f_law, B_law]
    obtain ⟨s0, hs0⟩ : ∃ s0, s0 = D.rol (ns.map .int) := ⟨_, rfl⟩
    rw [← hs0]
    array_mem_dec
    refine ⟨rfl, ?_⟩
    refine seq_cut (fun ρ => ∃ fs, Bx 900000000 fs ∧ ρ = [some (T.sh s0), some (T.rcd fs), none, none, none, none, none, none, none, none]) ?_ ?_
    · rw [hs0]
      sizeOf_list_dec
      refine ⟨rfl, begin_ok hns fun fs hb => ?_⟩
      rw [← hs0]
      sizeOf_list_dec
      exact ⟨fs, hb, rfl⟩
    rintro ρ ⟨fs, hb, rfl⟩
    refine seq_cut (fun ρ => ∃ (rs : List PRow) (m : Nat) (fs : Fs), rs.length ≤ 40 ∧ (∀ r ∈ rs, r.ok m) ∧ Bx 800000000 fs ∧ ρ = [some (T.sh s0), some (T.rcd fs), some (T.sh (.lst (rs.map PRow.d))), none, none, none, none, none, none, none]) ?_ ?_
    · sizeOf_list_dec
      refine ⟨rfl, rfl, lmany_ok hb (by omega) fun m fs hm hb => ?_⟩
      sizeOf_list_dec
      refine program_ok hb (by omega) (by omega) fun rs fs hl hr hb => ?_
      sizeOf_list_dec
      exact ⟨rs, m, fs, by omega, hr, hb.mono (by omega), rfl⟩
    rintro ρ ⟨rs, m, fs, hl, hr, hb, rfl⟩
    obtain ⟨K, S, Z, e6⟩ := told6 hr (by omega)
    obtain ⟨d6, hd6⟩ : ∃ d6, d6 = D.tup [.str [], ptsD7 K S Z 4 12] := ⟨_, rfl⟩
    rw [← hd6] at e6
    refine seq_cut (fun ρ => ρ = [some (T.sh s0), some (T.rcd fs), some (T.sh (.lst (rs.map PRow.d))), some (T.sh d6), none, none, none, none, none, none]) ?_ ?_
    · sizeOf_list_dec
      refine ⟨rfl, sat_eq e6 ?_⟩
      sizeOf_list_dec
    rintro ρ rfl
    obtain ⟨p0, hp0⟩ : ∃ p0, p0 = D.lst (rs.map PRow.d) := ⟨_, rfl⟩
    have tolds : ∀ (k : Nat) (near far : Int), k ≤ 24 → ∃ d, f__law_told [.sh p0, .sh (.int (k : Nat)), .sh (.int near), .sh (.int far)] = .ok (.sh d) [none, none, none, none] ∧
        ((k < 4 ∧ d = .tup [.str wFull, .non]) ∨ (4 ≤ k ∧ ¬ (2 ≤ near ∧ near ≤ 8) ∧ d = .tup [.str wForm, .str [110, 101, 97, 114]]) ∨ (4 ≤ k ∧ 2 ≤ near ∧ near ≤ 8 ∧ ¬ (near < far ∧ far ≤ 16) ∧ d = .tup [.str wForm, .str [102, 97, 114]]) ∨
          (4 ≤ k ∧ 2 ≤ near ∧ near ≤ 8 ∧ near < far ∧ far ≤ 16 ∧ ∃ K S Z, d = .tup [.str [], ptsD7 K S Z near far])) := fun k near far hk => by
      have key : satO (f__law_told [.sh (.lst (rs.map PRow.d)), .sh (.int (k : Nat)), .sh (.int near), .sh (.int far)]) (fun t os => ∃ d, t = .sh d ∧ os = [none, none, none, none] ∧
        ((k < 4 ∧ d = .tup [.str wFull, .non]) ∨ (4 ≤ k ∧ ¬ (2 ≤ near ∧ near ≤ 8) ∧ d = .tup [.str wForm, .str [110, 101, 97, 114]]) ∨ (4 ≤ k ∧ 2 ≤ near ∧ near ≤ 8 ∧ ¬ (near < far ∧ far ≤ 16) ∧ d = .tup [.str wForm, .str [102, 97, 114]]) ∨
          (4 ≤ k ∧ 2 ≤ near ∧ near ≤ 8 ∧ near < far ∧ far ≤ 16 ∧ ∃ K S Z, d = .tup [.str [], ptsD7 K S Z near far]))) (fun _ _ => False) :=
        told_ok hr (by omega) hk (fun z => ⟨_, rfl, rfl, .inl ⟨z, rfl⟩⟩) (fun a b => ⟨_, rfl, rfl, .inr (.inl ⟨a, b, rfl⟩)⟩) (fun a b c d => ⟨_, rfl, rfl, .inr (.inr (.inl ⟨a, b, c, d, rfl⟩))⟩) fun a b c d e K S Z => ⟨_, rfl, rfl, .inr (.inr (.inr ⟨a, b, c, d, e, K, S, Z, rfl⟩))⟩
      obtain ⟨t, os, e, d, rfl, rfl, h⟩ := key.ex
      rw [hp0]
      exact ⟨d, e, h⟩
    rw [← hp0] at e6 ⊢
    clear hp0
    refine seq_cut (fun ρ => ∃ fs, ρ = [some (T.sh s0), some (T.rcd fs), some (T.sh p0), some (T.sh d6), none, none, none, none, none, none]) ?_ ?_
    · sizeOf_list_dec
      refine ⟨okI_of (by omega) (by omega), ?_⟩
      refine for_inv (fun i ρ => ∃ fs, Bx (800000000 - 100 * i) fs ∧ ρ = [some (T.sh s0), some (T.rcd fs), some (T.sh p0), some (T.sh d6), none, none, none, none, none, none]) ⟨fs, hb.mono (by omega), rfl⟩ ?_ ?_
      · rintro i x ρ hx ⟨fs, hb, rfl⟩
        have hi : i < 10 := by have := (List.getElem?_eq_some_iff.mp hx).1; rwa [rngD_len] at this
        rw [rngD_get hx]
        sizeOf_list_dec
        refine ⟨rfl, take_ok hb (by omega) (by omega) (by omega) fun w fs w0 w1 hb => ?_⟩
        sizeOf_list_dec
        refine ⟨fun _ => ⟨rfl, take_ok hb (by omega) (by omega) (by omega) fun v fs v0 v1 hb => ?_⟩, fun _ => ⟨rfl, take_ok hb (by omega) (by omega) (by omega) fun v fs v0 v1 hb => ?_⟩⟩
        all_goals
          obtain ⟨v, rfl⟩ := Int.eq_ofNat_of_zero_le v0
          sizeOf_list_dec
          rw [show (1 : Int) + (v : Int) = ((1 + v : Nat) : Int) by omega]
          refine ⟨rfl, oddn_ok hb (by omega) (by omega) (by omega) (by omega) fun near fs hnear hb => ?_⟩
          sizeOf_list_dec
          refine ⟨rfl, rfl, oddn_ok hb (by omega) (by omega) (by omega) (by omega) fun far fs hfar hb => ?_⟩
          sizeOf_list_dec
          obtain ⟨d, ed, hd⟩ := tolds (1 + v) near far (by omega)
          refine ⟨rfl, rfl, sat_eq ed ?_⟩
          sizeOf_list_dec
          have hb' : Bx (800000000 - 100 * (i + 1)) fs := hb.mono (by omega)
          refine ⟨rfl, rfl, due_ok (fun z => ?_) (fun a b => ?_) (fun a b c e => ?_) fun a b c e f => ?_⟩
          · have hd1 : d = .tup [.str wFull, .non] := by
              rcases hd with ⟨_, h⟩ | ⟨h, _⟩ | ⟨h, _⟩ | ⟨h, _⟩
              · exact h
              · omega
              · omega
              · omega
            subst hd1
            sizeOf_list_dec
            refine ⟨rfl, rfl, same_ok ⟨rfl, by decide, rfl⟩ ?_⟩
            sizeOf_list_dec
            refine ⟨rfl, sat_eq e6 ?_⟩
            sizeOf_list_dec
            rw [hd6]
            refine x_neS (nice_first _ _ _ _ _) (hgt_first _ _ _ _ _) ?_
            sizeOf_list_dec
            exact ⟨fs, hb', rfl⟩
          · have hd1 : d = .tup [.str wForm, .str [110, 101, 97, 114]] := by
              rcases hd with ⟨h, _⟩ | ⟨_, _, h⟩ | ⟨_, h1, h2, _⟩ | ⟨_, h1, h2, _⟩
              · omega
              · exact h
              · exact absurd ⟨h1, h2⟩ b
              · exact absurd ⟨h1, h2⟩ b
            subst hd1
            sizeOf_list_dec
            refine ⟨rfl, rfl, same_ok ⟨rfl, by decide, rfl⟩ ?_⟩
            sizeOf_list_dec
            refine ⟨rfl, sat_eq e6 ?_⟩
            sizeOf_list_dec
            rw [hd6]
            refine x_neS (nice_first _ _ _ _ _) (hgt_first _ _ _ _ _) ?_
            sizeOf_list_dec
            exact ⟨fs, hb', rfl⟩
          · have hd1 : d = .tup [.str wForm, .str [102, 97, 114]] := by
              rcases hd with ⟨h, _⟩ | ⟨_, h, _⟩ | ⟨_, _, _, _, h⟩ | ⟨_, _, _, h1, h2, _⟩
              · omega
              · exact absurd ⟨b, c⟩ h
              · exact h
              · exact absurd ⟨h1, h2⟩ e
            subst hd1
            sizeOf_list_dec
            refine ⟨rfl, rfl, same_ok ⟨rfl, by decide, rfl⟩ ?_⟩
            sizeOf_list_dec
            refine ⟨rfl, sat_eq e6 ?_⟩
            sizeOf_list_dec
            rw [hd6]
            refine x_neS (nice_first _ _ _ _ _) (hgt_first _ _ _ _ _) ?_
            sizeOf_list_dec
            exact ⟨fs, hb', rfl⟩
          · obtain ⟨K', S', Z', hd1⟩ : ∃ K S Z, d = .tup [.str [], ptsD7 K S Z near far] := by
              rcases hd with ⟨h, _⟩ | ⟨_, h, _⟩ | ⟨_, _, _, h, _⟩ | ⟨_, _, _, _, _, h⟩
              · omega
              · exact absurd ⟨b, c⟩ h
              · exact absurd ⟨e, f⟩ h
              · exact h
            have i0 : fIdx d (.int 0) = some (.str []) := by rw [hd1]; rfl
            have i1 : fIdx d (.int 1) = some (ptsD7 K' S' Z' near far) := by rw [hd1]; rfl
            sizeOf_list_dec
            rw [i0]
            simp only [ex_some]
            refine ⟨rfl, ?_⟩
            rw [show fNe (D.str []) (D.str []) = some false from rfl, ex_some]
            refine ⟨fun z => (by cases z), fun _ => ?_⟩
            rw [i1]
            simp only [ex_some]
            rw [show fIdx (ptsD7 K' S' Z' near far) (.str [110, 101, 97, 114]) = some (.int near) from rfl, show fIdx (ptsD7 K' S' Z' near far) (.str [102, 97, 114]) = some (.int far) from rfl]
            simp only [ex_some]
            refine ⟨by simp, by simp, fNe_self (a := [D.int near, D.int far]) ⟨rfl, show (1 : Nat) ≤ 60 by omega⟩ ?_⟩
            refine ⟨fun z => (by cases z), fun _ => ?_⟩
            refine ⟨rfl, sat_eq e6 ?_⟩
            sizeOf_list_dec
            rw [hd6]
            refine x_neS (nice_first _ _ _ _ _) (hgt_first _ _ _ _ _) ?_
            sizeOf_list_dec
            exact ⟨fs, hb', rfl⟩
      · rintro ρ ⟨fs, hb, rfl⟩
        exact ⟨fs, rfl⟩
    rintro ρ ⟨fs, rfl⟩
    sizeOf_list_dec
    rw [hd6, show fIdx (D.tup [.str [], ptsD7 K S Z 4 12]) (.int 0) = some (.str []) from rfl, ex_some, show fEq (D.str []) (D.str []) = some true from rfl, ex_some]
  obtain ⟨t, os, e, h⟩ := key.ex
  subst h
  exact ⟨os, e⟩
end OdW

open PySem PySem.W PyProof.Rows
set_option maxHeartbeats 0 in
theorem PySem.Challenge.cw_oddlong_k78_forms_refused_holds : PySem.Challenge.rw_oddlong_k78_forms_refused.Holds := by
  w_on; o_law; k_head; (case hw => w_witness2)
  k_fill
  refine Od.walkG (l := PySem.Challenge.rw_oddlong_k78_forms_refused) (n := 63) (k := 72) (x := "_law_script") (CX := fun w => L2.CX PySem.Challenge.rw_oddlong_k78_forms_refused.prog w) (sp := fun w => Od.spLaw _) rfl (by decide) rfl ⟨⟨rfl, by decide, by decide⟩, rfl⟩ (fun w h Y => by first | exact PySem.W.kIn_of Y | exact PySem.W.km_in_of Y) ?F (fun _ _ a ns hl _ hS => ⟨a, ns, rfl, hS, hl, fun _ => rfl⟩) (fun _ _ _ _ _ ⟨_, _, _, _, _, _, _, _, _, _, _, _, h⟩ => h)
  case F =>
    intro w mg fa h KX G hmg
    refine' OdW.all_mk KX G hmg ?n_BadRow ?n_BadText ?n_NoForm ?n_NoName ?n_NoPlace ?n_NoTarget ?n_OddError ?n_TooFar ?n_TooFull ?xe_BadRow ?xt_BadRow ?xd_BadRow ?xe_BadText ?xt_BadText ?xd_BadText ?xe_NoForm ?xt_NoForm ?xd_NoForm ?xe_NoName ?xt_NoName ?xd_NoName ?xe_NoPlace ?xt_NoPlace ?xd_NoPlace ?xe_NoTarget ?xt_NoTarget ?xd_NoTarget ?xe_OddError ?xt_OddError ?xd_OddError ?xe_TooFar ?xt_TooFar ?xd_TooFar ?xe_TooFull ?xt_TooFull ?xd_TooFull ?xl_NoForm ?xs_NoForm ?xk_NoForm ?xg_NoForm ?xh_NoForm ?xc_NoForm ?xm_NoForm ?xv_NoForm ?xb_NoForm_BadRow ?xb_NoForm_BadText ?xb_NoForm_NoForm ?xb_NoForm_NoName ?xb_NoForm_NoPlace ?xb_NoForm_NoTarget ?xb_NoForm_OddError ?xb_NoForm_TooFar ?xb_NoForm_TooFull ?xf_NoForm_place ?xf_NoForm_row ?xf_NoForm_why ?xi_NoForm ?xj_NoForm ?xq_NoForm ?xw_NoForm ?xz_NoForm ?xl_TooFull ?xs_TooFull ?xk_TooFull ?xg_TooFull ?xh_TooFull ?xc_TooFull ?xm_TooFull ?xv_TooFull ?xb_TooFull_BadRow ?xb_TooFull_BadText ?xb_TooFull_NoForm ?xb_TooFull_NoName ?xb_TooFull_NoPlace ?xb_TooFull_NoTarget ?xb_TooFull_OddError ?xb_TooFull_TooFar ?xb_TooFull_TooFull ?xf_TooFull_place ?xf_TooFull_row ?xf_TooFull_why ?xy_TooFull ?og_ ?ot_ ?os_ ?or_ ?oi_ ?n_FAR_KINDS ?gk_FAR_KINDS ?gk_FAR_KINDS_0 ?gk_FAR_KINDS_1 ?n_KINDS_forms ?gk_KINDS_forms ?n_KINDS_uses ?gk_KINDS_uses ?n_LEAST_MOST ?n_LEAST_NEAR ?n_LETTERS ?n_MOST_FAR ?n_MOST_LETTERS ?n_MOST_NEAR ?n_SIGNS ?n_SIZES_forms ?gk_SIZES_forms ?n_SIZES_uses ?gk_SIZES_uses ?n_SPOTS ?gk_SPOTS ?n_SPOT_NAMES ?gk_SPOT_NAMES ?on_Form ?opg_Form ?ohd_Form ?opo_Form ?osa_Form ?ona_Form_kinds ?ona_Form_spots ?ona_Form_sizes ?ona_Form_near ?ona_Form_far ?omk_Form ?okp_Form ?mm_Form____init__ ?mf_Form____init__ ?l_Form____init__ ?q_Form____init__ ?k_Form____init__ ?m__law_begin ?l__law_begin ?q__law_begin ?k__law_begin ?m__law_take ?l__law_take ?q__law_take ?k__law_take ?m__law_number ?l__law_number ?q__law_number ?k__law_number ?m__law_row ?l__law_row ?q__law_row ?k__law_row ?m__law_program ?l__law_program ?q__law_program ?k__law_program ?m_code_of ?l_code_of ?q_code_of ?k_code_of ?m_far_is_shorter ?l_far_is_shorter ?q_far_is_shorter ?k_far_is_shorter ?m_is_name ?l_is_name ?q_is_name ?k_is_name ?m_is_signs ?l_is_signs ?q_is_signs ?k_is_signs ?m_is_entry ?l_is_entry ?q_is_entry ?k_is_entry ?m_is_book ?l_is_book ?q_is_book ?k_is_book ?m_begins ?l_begins ?q_begins ?k_begins ?m_clash ?l_clash ?q_clash ?k_clash ?m_free ?l_free ?q_free ?k_free ?m_is_book_of ?l_is_book_of ?q_is_book_of ?k_is_book_of ?m_is_number ?l_is_number ?q_is_number ?k_is_number ?m_look_room ?l_look_room ?q_look_room ?k_look_room ?m_figures ?l_figures ?q_figures ?k_figures ?m_codes_by ?l_codes_by ?q_codes_by ?k_codes_by ?m_taken ?l_taken ?q_taken ?k_taken ?m_places_paired ?l_places_paired ?q_places_paired ?k_places_paired ?m_lengths_by ?l_lengths_by ?q_lengths_by ?k_lengths_by ?m_least_book ?l_least_book ?q_least_book ?k_least_book ?m_far_behind ?l_far_behind ?q_far_behind ?k_far_behind ?m_counted ?l_counted ?q_counted ?k_counted ?m_spots_in ?l_spots_in ?q_spots_in ?k_spots_in ?m_figures_of ?l_figures_of ?q_figures_of ?k_figures_of ?m_uses_of ?l_uses_of ?q_uses_of ?k_uses_of ?m_least_form ?l_least_form ?q_least_form ?k_least_form ?m__law_class ?l__law_class ?q__law_class ?k__law_class ?m__law_parts_of ?l__law_parts_of ?q__law_parts_of ?k__law_parts_of ?m__law_told ?l__law_told ?q__law_told ?k__law_told ?m__law_many ?l__law_many ?q__law_many ?k__law_many ?m__law_odd_number ?l__law_odd_number ?q__law_odd_number ?k__law_odd_number ?m__law_due ?l__law_due ?q__law_due ?k__law_due ?m__law_same ?l__law_same ?q__law_same ?k__law_same ?m_law ?l_law ?q_law ?k_law ?z_ValueError ?z_all ?z_bool ?z_dict ?z_divmod ?z_enumerate ?z_int ?z_isinstance ?z_len ?z_list ?z_max ?z_range ?z_set ?z_sorted ?z_str ?z_tuple ?z_zip OdW.law_fact
    (case n_BadRow => k_is); (case n_BadText => k_is); (case n_NoForm => k_is); (case n_NoName => k_is); (case n_NoPlace => k_is); (case n_NoTarget => k_is); (case n_OddError => k_is); (case n_TooFar => k_is); (case n_TooFull => k_is); (case xe_BadRow => k_is); (case xt_BadRow => k_is); (case xd_BadRow => k_is); (case xe_BadText => k_is); (case xt_BadText => k_is); (case xd_BadText => k_is); (case xe_NoForm => k_is); (case xt_NoForm => k_is); (case xd_NoForm => k_is); (case xe_NoName => k_is); (case xt_NoName => k_is); (case xd_NoName => k_is); (case xe_NoPlace => k_is); (case xt_NoPlace => k_is); (case xd_NoPlace => k_is); (case xe_NoTarget => k_is); (case xt_NoTarget => k_is); (case xd_NoTarget => k_is); (case xe_OddError => k_is); (case xt_OddError => k_is); (case xd_OddError => k_is); (case xe_TooFar => k_is); (case xt_TooFar => k_is); (case xd_TooFar => k_is); (case xe_TooFull => k_is); (case xt_TooFull => k_is); (case xd_TooFull => k_is); (case xl_NoForm => k_is); (case xs_NoForm => k_is); (case xk_NoForm => k_is); (case xg_NoForm => k_is); (case xh_NoForm => k_is); (case xc_NoForm => k_is); (case xm_NoForm => k_is); (case xv_NoForm => k_is); (case xb_NoForm_BadRow => k_is); (case xb_NoForm_BadText => k_is); (case xb_NoForm_NoForm => k_is); (case xb_NoForm_NoName => k_is); (case xb_NoForm_NoPlace => k_is); (case xb_NoForm_NoTarget => k_is); (case xb_NoForm_OddError => k_is); (case xb_NoForm_TooFar => k_is); (case xb_NoForm_TooFull => k_is); (case xf_NoForm_place => k_is); (case xf_NoForm_row => k_is); (case xf_NoForm_why => k_is); (case xi_NoForm => k_is); (case xj_NoForm => k_is); (case xq_NoForm => k_is); (case xw_NoForm => k_is); (case xz_NoForm => k_is); (case xl_TooFull => k_is); (case xs_TooFull => k_is); (case xk_TooFull => k_is); (case xg_TooFull => k_is); (case xh_TooFull => k_is); (case xc_TooFull => k_is); (case xm_TooFull => k_is); (case xv_TooFull => k_is); (case xb_TooFull_BadRow => k_is); (case xb_TooFull_BadText => k_is); (case xb_TooFull_NoForm => k_is); (case xb_TooFull_NoName => k_is); (case xb_TooFull_NoPlace => k_is); (case xb_TooFull_NoTarget => k_is); (case xb_TooFull_OddError => k_is); (case xb_TooFull_TooFar => k_is); (case xb_TooFull_TooFull => k_is); (case xf_TooFull_place => k_is); (case xf_TooFull_row => k_is); (case xf_TooFull_why => k_is); (case xy_TooFull => k_exc); (case og_ => k_is); (case ot_ => k_is); (case os_ => k_is); (case or_ => k_is); (case oi_ => k_is); (case n_FAR_KINDS => k_is); (case gk_FAR_KINDS => k_is); (case gk_FAR_KINDS_0 => k_is); (case gk_FAR_KINDS_1 => k_is); (case n_KINDS_forms => k_is); (case gk_KINDS_forms => k_is); (case n_KINDS_uses => k_is); (case gk_KINDS_uses => k_is); (case n_LEAST_MOST => k_is); (case n_LEAST_NEAR => k_is); (case n_LETTERS => k_is); (case n_MOST_FAR => k_is); (case n_MOST_LETTERS => k_is); (case n_MOST_NEAR => k_is); (case n_SIGNS => k_is); (case n_SIZES_forms => k_is); (case gk_SIZES_forms => k_is); (case n_SIZES_uses => k_is); (case gk_SIZES_uses => k_is); (case n_SPOTS => k_is); (case gk_SPOTS => k_is); (case n_SPOT_NAMES => k_is); (case gk_SPOT_NAMES => k_is); (case on_Form => k_is); (case opg_Form => k_is); (case ohd_Form => k_is); (case opo_Form => k_is); (case osa_Form => k_is); (case ona_Form_kinds => k_is); (case ona_Form_spots => k_is); (case ona_Form_sizes => k_is); (case ona_Form_near => k_is); (case ona_Form_far => k_is); (case omk_Form => k_is); (case okp_Form => k_is); (case mm_Form____init__ => k_is); (case mf_Form____init__ => k_is); (case l_Form____init__ => k_is); (case q_Form____init__ => k_is); (case k_Form____init__ => k_is); (case m__law_begin => k_is); (case l__law_begin => k_is); (case q__law_begin => k_is); (case k__law_begin => k_is); (case m__law_take => k_is); (case l__law_take => k_is); (case q__law_take => k_is); (case k__law_take => k_is); (case m__law_number => k_is); (case l__law_number => k_is); (case q__law_number => k_is); (case k__law_number => k_is); (case m__law_row => k_is); (case l__law_row => k_is); (case q__law_row => k_is); (case k__law_row => k_is); (case m__law_program => k_is); (case l__law_program => k_is); (case q__law_program => k_is); (case k__law_program => k_is); (case m_code_of => k_is); (case l_code_of => k_is); (case q_code_of => k_is); (case k_code_of => k_is); (case m_far_is_shorter => k_is); (case l_far_is_shorter => k_is); (case q_far_is_shorter => k_is); (case k_far_is_shorter => k_is); (case m_is_name => k_is); (case l_is_name => k_is); (case q_is_name => k_is); (case k_is_name => k_is); (case m_is_signs => k_is); (case l_is_signs => k_is); (case q_is_signs => k_is); (case k_is_signs => k_is); (case m_is_entry => k_is); (case l_is_entry => k_is); (case q_is_entry => k_is); (case k_is_entry => k_is); (case m_is_book => k_is); (case l_is_book => k_is); (case q_is_book => k_is); (case k_is_book => k_is); (case m_begins => k_is); (case l_begins => k_is); (case q_begins => k_is); (case k_begins => k_is); (case m_clash => k_is); (case l_clash => k_is); (case q_clash => k_is); (case k_clash => k_is); (case m_free => k_is); (case l_free => k_is); (case q_free => k_is); (case k_free => k_is); (case m_is_book_of => k_is); (case l_is_book_of => k_is); (case q_is_book_of => k_is); (case k_is_book_of => k_is); (case m_is_number => k_is); (case l_is_number => k_is); (case q_is_number => k_is); (case k_is_number => k_is); (case m_look_room => k_is); (case l_look_room => k_is); (case q_look_room => k_is); (case k_look_room => k_is); (case m_figures => k_is); (case l_figures => k_is); (case q_figures => k_is); (case k_figures => k_is); (case m_codes_by => k_is); (case l_codes_by => k_is); (case q_codes_by => k_is); (case k_codes_by => k_is); (case m_taken => k_is); (case l_taken => k_is); (case q_taken => k_is); (case k_taken => k_is); (case m_places_paired => k_is); (case l_places_paired => k_is); (case q_places_paired => k_is); (case k_places_paired => k_is); (case m_lengths_by => k_is); (case l_lengths_by => k_is); (case q_lengths_by => k_is); (case k_lengths_by => k_is); (case m_least_book => k_is); (case l_least_book => k_is); (case q_least_book => k_is); (case k_least_book => k_is); (case m_far_behind => k_is); (case l_far_behind => k_is); (case q_far_behind => k_is); (case k_far_behind => k_is); (case m_counted => k_is); (case l_counted => k_is); (case q_counted => k_is); (case k_counted => k_is); (case m_spots_in => k_is); (case l_spots_in => k_is); (case q_spots_in => k_is); (case k_spots_in => k_is); (case m_figures_of => k_is); (case l_figures_of => k_is); (case q_figures_of => k_is); (case k_figures_of => k_is); (case m_uses_of => k_is); (case l_uses_of => k_is); (case q_uses_of => k_is); (case k_uses_of => k_is); (case m_least_form => k_is); (case l_least_form => k_is); (case q_least_form => k_is); (case k_least_form => k_is); (case m__law_class => k_is); (case l__law_class => k_is); (case q__law_class => k_is); (case k__law_class => k_is); (case m__law_parts_of => k_is); (case l__law_parts_of => k_is); (case q__law_parts_of => k_is); (case k__law_parts_of => k_is); (case m__law_told => k_is); (case l__law_told => k_is); (case q__law_told => k_is); (case k__law_told => k_is); (case m__law_many => k_is); (case l__law_many => k_is); (case q__law_many => k_is); (case k__law_many => k_is); (case m__law_odd_number => k_is); (case l__law_odd_number => k_is); (case q__law_odd_number => k_is); (case k__law_odd_number => k_is); (case m__law_due => k_is); (case l__law_due => k_is); (case q__law_due => k_is); (case k__law_due => k_is); (case m__law_same => k_is); (case l__law_same => k_is); (case q__law_same => k_is); (case k__law_same => k_is); (case m_law => k_is); (case l_law => k_is); (case q_law => k_is); (case k_law => k_is); (case z_ValueError => k_is); (case z_all => k_is); (case z_bool => k_is); (case z_dict => k_is); (case z_divmod => k_is); (case z_enumerate => k_is); (case z_int => k_is); (case z_isinstance => k_is); (case z_len => k_is); (case z_list => k_is); (case z_max => k_is); (case z_range => k_is); (case z_set => k_is); (case z_sorted => k_is); (case z_str => k_is); (case z_tuple => k_is); (case z_zip => k_is)
