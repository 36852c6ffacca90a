import PyProof.Rows.All
import Wide.All
import OpenK.AllK
import Wide.FinOn
import HandS.CallSlots
import HandS.Conv
import HandS.Deep
import HandS.Dict
import HandS.Ends
import HandS.ExcInit
import HandS.ExcOwn
import HandS.ExcValue
import HandS.Flow
import HandS.ForExc
import HandS.ForMost
import HandS.IsInst
import HandS.ListItems
import HandS.More
import HandS.RaiseMore
import HandS.Replace
import HandS.SetFor
import HandS.Small
import HandS.Sort
import HandS.SortInts
import HandS.StrMore
import HandS.Strs
import HandS.Style
import HandS.Text
import HandS.TryOnly
import HandS.TupAny
import HandS.TupLe
import HandS.Walk
import HandS.Wide
import HandS.Zip
import KE.BitLaws
import KE.DataFind
import KE.DataMinMax
import KE.GoesMore
import KE.IntTextLaws
import KE.KDictLaw
import KE.KDictPairs
import KE.KDictZip
import KE.KEqNest
import KE.KExcIs
import KE.KItemsList
import KE.SortData
import PyProof.CallStr
import PyProof.ListIndex
import PyProof.ReprLen
import PyProof.ReprRoads
import PyProof.Rows.IntBool
import PyProof.Rows.StrCase
import PyProof.Rows.StrCut
import PyProof.Rows.StrFit
import PyProof.StrBlock2
import PySem.Challenge.RW_oddlong_k45_numbers_given
set_option Elab.async false
set_option linter.all false
set_option maxRecDepth 100000
set_option maxHeartbeats 4000000
namespace Od
open PySem PySem.Spec L2
open PyProof.Rows hiding St
/-! ### data -/
abbrev Tx := List Nat
def sT (s : Tx) : Str := ⟨s.toArray⟩
theorem sT_inj {a b : Tx} (h : sT a = sT b) : a = b := by
  have := congrArg (fun s : Str => s.cps.toList) h
  simpa [sT] using this
theorem sT_cps (a : Tx) : (sT a).cps.toList = a := by simp [sT]
theorem sT_len (a : Tx) : (sT a).length = a.length := by simp [sT, Str.length]
theorem sT_of (x : Str) : sT x.cps.toList = x := by cases x; simp [sT]
theorem sT_app (a b : Tx) : sT a ++ sT b = sT (a ++ b) := by
  show Str.append _ _ = _
  simp [sT, Str.append]
abbrev DK := Sum Int Tx
def kK : DK → Key
  | .inl i => .inl i
  | .inr s => .inr (sT s)
theorem kK_inj {a b : DK} (h : kK a = kK b) : a = b := by
  cases a <;> cases b <;> simp [kK] at h
  · rw [h]
  · rw [sT_inj h]
inductive D where
  | non | bl (b : Bool) | int (i : Int) | str (s : Tx) | tup (xs : List D) | lst (xs : List D) | rol (xs : List D) | dct (ks : List DK) (vs : List D) | exn (c : Tx) (ks : List Tx) (vs : List D) | obj (c : Tx) (ks : List Tx) (vs : List D)
  -- a tuple whose object is known to the letter (made by tuple(..); what dict(..) of a tuple asks)
  | fn (xs : List D)
  -- a list's address (what stands in a record while its list is out)
  | adr (l : Addr)
/-- an exception object of the class c, its dict at d -/
def ExnO (a : Addr) (c : Value) (d : Option Addr) : HO := .ext fun h => ∃ (oe : Obj) (us : Array Value), h.get? a = some oe ∧ Zc c d oe ∧ oe.data = .fields us
/-- what the program's top calls x -/
def Top (K : PySem.W.Frag) (x : Tx) (a : Addr) : Prop := PySem.W.nsIn K mainGlobals (sT x) = some (some (.ref a))
section
variable (K : PySem.W.Frag) (P : Hp)
mutual
def Den : D → V → Prop
  | .non, v => v = .non
  | .bl b, v => v = .bl b
  | .int i, v => v = .int i
  | .str s, v => v = .str (sT s)
  | .tup ds, v => ∃ a vs, v = .ref a ∧ SqT K P a vs ∧ DenL ds vs
  | .lst ds, v => ∃ a vs, v = .ref a ∧ P a = some (.lst vs) ∧ DenL ds vs
  | .rol ds, v => ∃ a vs, v = .ref a ∧ SqL K P a vs ∧ DenL ds vs
  | .dct ks ds, v => ∃ a ws, v = .ref a ∧ P a = some (.dK ws) ∧ ws.map Prod.fst = ks.map kK ∧ DenL ds (ws.map Prod.snd)
  | .exn c ks ds, v => ∃ a C d ws, v = .ref a ∧ Top K c C ∧ P a = some (ExnO a (.ref C) d) ∧ ws.map Prod.fst = ks.map sT ∧ ((d = none ∧ ws = []) ∨ ∃ dd, d = some dd ∧ P dd = some (.xd ws)) ∧ DenL ds (ws.map Prod.snd)
  | .obj c ks ds, v => ∃ a C dx ws, v = .ref a ∧ Top K c C ∧ P a = some (.ins C dx ws) ∧ ws.map Prod.fst = ks.map sT ∧ DenL ds (ws.map Prod.snd)
  | .fn ds, v => ∃ a vs, v = .ref a ∧ (∃ o, P a = some (.frz o (.tup vs)) ∧ o.dict = none) ∧ DenL ds vs
  | .adr l, v => v = .ref l
def DenL : List D → List V → Prop
  | [], vs => vs = []
  | d :: ds, vs => ∃ v r, vs = v :: r ∧ Den d v ∧ DenL ds r
end
end
/-- what a variable holds: shared data, or an object that it alone owns -/
inductive T1 where
  | sh (d : D) | lst (ds : List D) | dct (ks : List DK) (vs : List D)
inductive T where
  | sh (d : D) | lst (ds : List D) | dct (ks : List DK) (vs : List D) | rcd (fs : List (Tx × T1)) | ins (C : Tx) (fs : List (Tx × T1)) | seq (b : Bool) (ts : List T1)
abbrev Env := List (Option T)
structure Exn where
  cls : Tx
  fs : List (Tx × D)
inductive Res (α : Type) where
  | ok (a : α) | exc (x : Exn) (ρ : Env) | fail
def Res.bind {α β : Type} : Res α → (α → Res β) → Res β
  | .ok a, f => f a
  | .exc x ρ, _ => .exc x ρ
  | .fail, _ => .fail
instance : Monad Res where
  pure := .ok
  bind := Res.bind
theorem ok_bind {α β : Type} (a : α) (f : α → Res β) : (Res.ok a >>= f) = f a := rfl
def Res.of {α : Type} : Option α → Res α
  | some a => .ok a
  | none => .fail
/-! ### the heap behind -/
def sqO (b : Bool) (vs : List V) : HO := if b then .tup vs else .lst vs
/-- who owns an address: a slot (none: the value in hand), a field -/
abbrev Own := Addr → Option (Option Nat × Option Tx)
section
variable (K : PySem.W.Frag) (mg : Str → Option Value) (P : Hp) (W : Own) (H : Hp) (r : Option Nat)
def R1 (f : Option Tx) : T1 → V → Prop
  | .sh d, v => Den K P d v
  | .lst ds, v => ∃ a vs, v = .ref a ∧ W a = some (r, f) ∧ H a = some (.lst vs) ∧ DenL K P ds vs
  | .dct ks ds, v => ∃ a ws, v = .ref a ∧ W a = some (r, f) ∧ H a = some (.dK ws) ∧ ws.map Prod.fst = ks.map kK ∧ DenL K P ds (ws.map Prod.snd)
def RF : List (Tx × T1) → List (Str × V) → Prop
  | [], ws => ws = []
  | (k, t) :: fs, ws => ∃ v w, ws = (sT k, v) :: w ∧ R1 K P W H r (some k) t v ∧ RF fs w
def RI : Nat → List T1 → List V → Prop
  | _, [], vs => vs = []
  | n, t :: ts, vs => ∃ v w, vs = v :: w ∧ R1 K P W H r (some [n]) t v ∧ RI (n + 1) ts w
def RT : T → V → Prop
  | .sh d, v => Den K P d v
  | .lst ds, v => R1 K P W H r none (.lst ds) v
  | .dct ks ds, v => R1 K P W H r none (.dct ks ds) v
  | .rcd fs, v => ∃ a ws, v = .ref a ∧ W a = some (r, none) ∧ H a = some (.dK (ws.map fun p => (.inr p.1, p.2))) ∧ (fs.map Prod.fst).Nodup ∧ RF K P W H r fs ws
  | .ins C fs, v => ∃ a c dx ws, v = .ref a ∧ W a = some (r, none) ∧ (mg (sT C) = some (.ref c) ∧ Top K C c) ∧ H a = some (.ins c dx ws) ∧ (fs.map Prod.fst).Nodup ∧ RF K P W H r fs ws
  | .seq b ts, v => ∃ a vs, v = .ref a ∧ W a = some (r, none) ∧ H a = some (sqO b vs) ∧ RI K P W H r 0 ts vs
end
structure Wd (K : PySem.W.Frag) (mg : Str → Option Value) (P : Hp) (W : Own) (H : Hp) (σ : St) (ρ : Env) : Prop where
  same : Same P H
  own : ∀ a r, W a = some r → P a = none ∧ ∃ o, H a = some o
  env : ∀ (i : Nat) (t : T), ρ[i]? = some (some t) → ∃ v, σ[i]? = some (some v) ∧ RT K mg P W H (some i) t v
  len : ρ.length ≤ σ.length
def Step (P : Hp) (W : Own) (H P' : Hp) (W' : Own) (H' : Hp) : Prop := Same P P' ∧ ∀ a o, H a = some o → W a = none → H' a = some o ∧ W' a = none ∧ P' a = P a
/-- only new objects -/
def Al (P H P' H' : Hp) : Prop := Same H H' ∧ Same P P' ∧ Same P' H' ∧ ∀ a o, H a = some o → P' a = P a
theorem same_refl (H : Hp) : Same H H := fun _ _ h => h
theorem same_trans {A B C : Hp} (h : Same A B) (g : Same B C) : Same A C := fun a o e => g a o (h a o e)
theorem same_none {A B : Hp} (h : Same A B) {a : Addr} (e : B a = none) : A a = none := by
  cases q : A a with
  | none => rfl
  | some o => rw [h a o q] at e; cases e
theorem Step.refl (P : Hp) (W : Own) (H : Hp) : Step P W H P W H := ⟨same_refl P, fun _ _ h w => ⟨h, w, rfl⟩⟩
theorem Step.trans {P P1 P2 H H1 H2 : Hp} {W W1 W2 : Own} (a : Step P W H P1 W1 H1) (b : Step P1 W1 H1 P2 W2 H2) : Step P W H P2 W2 H2 :=
  ⟨same_trans a.1 b.1, fun x o h w => by
    obtain ⟨h1, w1, p1⟩ := a.2 x o h w
    obtain ⟨h2, w2, p2⟩ := b.2 x o h1 w1
    exact ⟨h2, w2, p2.trans p1⟩⟩
theorem Al.refl {P H : Hp} (h : Same P H) : Al P H P H := ⟨same_refl H, same_refl P, h, fun _ _ _ => rfl⟩
theorem Al.trans {P P1 P2 H H1 H2 : Hp} (a : Al P H P1 H1) (b : Al P1 H1 P2 H2) : Al P H P2 H2 :=
  ⟨same_trans a.1 b.1, same_trans a.2.1 b.2.1, b.2.2.1, fun x o h => (b.2.2.2 x o (a.1 x o h)).trans (a.2.2.2 x o h)⟩
theorem Al.step {P P1 H H1 : Hp} (a : Al P H P1 H1) (W : Own) : Step P W H P1 W H1 := ⟨a.2.1, fun x o h w => ⟨a.1 x o h, w, a.2.2.2 x o h⟩⟩
/-- a new object, put into the shared part -/
theorem Al.new {P H : Hp} {p : Addr} {o : HO} (s : Same P H) (n : H p = none) : Al P H (upd P p o) (upd H p o) := by
  refine ⟨fun a u e => ?_, fun a u e => ?_, fun a u e => ?_, fun a u e => ?_⟩
  · rw [upd_ne (ne_of_none e n)]; exact e
  · rw [upd_ne (ne_of_none e (same_none s n))]; exact e
  · by_cases h : a = p
    · subst h; rw [upd_same] at e ⊢; exact e
    · rw [upd_ne h] at e ⊢; exact s a u e
  · rw [upd_ne (ne_of_none e n)]
/-- a new object that nobody knows -/
theorem Al.newH {P H : Hp} {p : Addr} {o : HO} (s : Same P H) (n : H p = none) : Al P H P (upd H p o) := by
  refine ⟨fun a u e => ?_, same_refl P, fun a u e => ?_, fun a u e => rfl⟩
  · rw [upd_ne (ne_of_none e n)]; exact e
  · rw [upd_ne (ne_of_none e (same_none s n))]; exact s a u e
section
variable {K : PySem.W.Frag} {mg : Str → Option Value} {P P' H H' : Hp} {W W' : Own} {σ : St} {ρ : Env}
theorem same_rd {a : Addr} {u : HO} (s : Same P P') (h : Rd P a u) : Rd P' a u := by
  rcases h with h | ⟨o, h⟩
  · exact .inl (s a _ h)
  · exact .inr ⟨o, s a _ h⟩
theorem same_l {a : Addr} {xs : List V} (s : Same P P') (h : SqL K P a xs) : SqL K P' a xs := by
  rcases h with h | h
  · exact .inl (same_rd s h)
  · exact .inr h
theorem same_t {a : Addr} {xs : List V} (s : Same P P') (h : SqT K P a xs) : SqT K P' a xs := by
  rcases h with h | h
  · exact .inl (same_rd s h)
  · exact .inr h
mutual
theorem Den.mono (s : Same P P') : ∀ (d : D) (v : V), Den K P d v → Den K P' d v
  | .non, v, h => h
  | .bl b, v, h => h
  | .int i, v, h => h
  | .str x, v, h => h
  | .tup ds, v, h => by
    unfold Den at h ⊢
    obtain ⟨a, vs, e, q, l⟩ := h
    exact ⟨a, vs, e, same_t s q, DenL.mono s ds vs l⟩
  | .lst ds, v, h => by
    unfold Den at h ⊢
    obtain ⟨a, vs, e, q, l⟩ := h
    exact ⟨a, vs, e, s a _ q, DenL.mono s ds vs l⟩
  | .rol ds, v, h => by
    unfold Den at h ⊢
    obtain ⟨a, vs, e, q, l⟩ := h
    exact ⟨a, vs, e, same_l s q, DenL.mono s ds vs l⟩
  | .dct ks ds, v, h => by
    unfold Den at h ⊢
    obtain ⟨a, ws, e, q, k, l⟩ := h
    exact ⟨a, ws, e, s a _ q, k, DenL.mono s ds _ l⟩
  | .exn c ks ds, v, h => by
    unfold Den at h ⊢
    obtain ⟨a, C, d, ws, e, t, q, k, m, l⟩ := h
    exact ⟨a, C, d, ws, e, t, s a _ q, k, m.imp id fun ⟨dd, e, q⟩ => ⟨dd, e, s dd _ q⟩, DenL.mono s ds _ l⟩
  | .obj c ks ds, v, h => by
    unfold Den at h ⊢
    obtain ⟨a, C, dx, ws, e, t, q, k, l⟩ := h
    exact ⟨a, C, dx, ws, e, t, s a _ q, k, DenL.mono s ds _ l⟩
  | .fn ds, v, h => by
    unfold Den at h ⊢
    obtain ⟨a, vs, e, ⟨o, q, n⟩, l⟩ := h
    exact ⟨a, vs, e, ⟨o, s a _ q, n⟩, DenL.mono s ds vs l⟩
  | .adr l, v, h => h
theorem DenL.mono (s : Same P P') : ∀ (ds : List D) (vs : List V), DenL K P ds vs → DenL K P' ds vs
  | [], vs, h => h
  | d :: ds, vs, h => by
    unfold DenL at h ⊢
    obtain ⟨v, r, e, h1, h2⟩ := h
    exact ⟨v, r, e, Den.mono s d v h1, DenL.mono s ds r h2⟩
end
theorem DenL.len : ∀ {ds : List D} {vs : List V}, DenL K P ds vs → vs.length = ds.length
  | [], vs, h => by unfold DenL at h; subst h; rfl
  | d :: ds, vs, h => by
    unfold DenL at h
    obtain ⟨v, r, e, h1, h2⟩ := h
    subst e
    simp [h2.len]
theorem DenL.get : ∀ {ds : List D} {vs : List V} {i : Nat} {d : D}, DenL K P ds vs → ds[i]? = some d → ∃ v, vs[i]? = some v ∧ Den K P d v
  | [], vs, i, d, h, e => by simp at e
  | d0 :: ds, vs, i, d, h, e => by
    unfold DenL at h
    obtain ⟨v, r, rfl, h1, h2⟩ := h
    cases i with
    | zero => simp at e; subst e; exact ⟨v, rfl, h1⟩
    | succ i => exact h2.get (by simpa using e)
theorem DenL.get' : ∀ {ds : List D} {vs : List V} {i : Nat} {v : V}, DenL K P ds vs → vs[i]? = some v → ∃ d, ds[i]? = some d ∧ Den K P d v
  | [], vs, i, d, h, e => by unfold DenL at h; subst h; simp at e
  | d0 :: ds, vs, i, d, h, e => by
    unfold DenL at h
    obtain ⟨v, r, rfl, h1, h2⟩ := h
    cases i with
    | zero => simp at e; subst e; exact ⟨d0, rfl, h1⟩
    | succ i => exact h2.get' (by simpa using e)
theorem DenL.nil : DenL K P [] [] := by unfold DenL; rfl
theorem DenL.cons {d : D} {ds : List D} {v : V} {vs : List V} (h : Den K P d v) (t : DenL K P ds vs) : DenL K P (d :: ds) (v :: vs) := by
  unfold DenL; exact ⟨v, vs, rfl, h, t⟩
theorem DenL.append : ∀ {ds es : List D} {vs ws : List V}, DenL K P ds vs → DenL K P es ws → DenL K P (ds ++ es) (vs ++ ws)
  | [], es, vs, ws, h, g => by unfold DenL at h; subst h; exact g
  | d :: ds, es, vs, ws, h, g => by
    unfold DenL at h
    obtain ⟨v, r, rfl, h1, h2⟩ := h
    exact DenL.cons h1 (DenL.append h2 g)
theorem DenL.take : ∀ {ds : List D} {vs : List V} (n : Nat), DenL K P ds vs → DenL K P (ds.take n) (vs.take n)
  | [], vs, n, h => by unfold DenL at h; subst h; simpa using DenL.nil
  | d :: ds, vs, n, h => by
    unfold DenL at h
    obtain ⟨v, r, rfl, h1, h2⟩ := h
    cases n with
    | zero => exact DenL.nil
    | succ n => exact DenL.cons h1 (DenL.take n h2)
theorem DenL.drop : ∀ {ds : List D} {vs : List V} (n : Nat), DenL K P ds vs → DenL K P (ds.drop n) (vs.drop n)
  | [], vs, n, h => by unfold DenL at h; subst h; simpa using DenL.nil
  | d :: ds, vs, n, h => by
    unfold DenL at h
    obtain ⟨v, r, rfl, h1, h2⟩ := h
    cases n with
    | zero => exact DenL.cons h1 h2
    | succ n => exact DenL.drop n h2
theorem DenL.reverse : ∀ {ds : List D} {vs : List V}, DenL K P ds vs → DenL K P ds.reverse vs.reverse
  | [], vs, h => by unfold DenL at h; subst h; exact DenL.nil
  | d :: ds, vs, h => by
    unfold DenL at h
    obtain ⟨v, r, rfl, h1, h2⟩ := h
    simp only [List.reverse_cons]
    exact DenL.append (DenL.reverse h2) (DenL.cons h1 DenL.nil)
theorem DenL.set : ∀ {ds : List D} {vs : List V} {d : D} {v : V} (i : Nat), DenL K P ds vs → Den K P d v → DenL K P (ds.set i d) (vs.set i v)
  | [], vs, d, v, i, h, g => by unfold DenL at h; subst h; simpa using DenL.nil
  | d0 :: ds, vs, d, v, i, h, g => by
    unfold DenL at h
    obtain ⟨v0, r, rfl, h1, h2⟩ := h
    cases i with
    | zero => exact DenL.cons g h2
    | succ i => exact DenL.cons h1 (DenL.set i h2 g)
theorem DenL.eraseIdx : ∀ {ds : List D} {vs : List V} (i : Nat), DenL K P ds vs → DenL K P (ds.eraseIdx i) (vs.eraseIdx i)
  | [], vs, i, h => by unfold DenL at h; subst h; simpa using DenL.nil
  | d0 :: ds, vs, i, h => by
    unfold DenL at h
    obtain ⟨v0, r, rfl, h1, h2⟩ := h
    cases i with
    | zero => exact h2
    | succ i => exact DenL.cons h1 (DenL.eraseIdx i h2)
theorem DenL.ints : ∀ {ns : List Int} {vs : List V}, DenL K P (ns.map D.int) vs → vs = ns.map V.int
  | [], vs, h => by simpa [DenL] using h
  | n :: ns, vs, h => by
    simp only [List.map_cons] at h
    unfold DenL at h
    obtain ⟨v, r, rfl, h1, h2⟩ := h
    unfold Den at h1
    rw [h1, h2.ints]; rfl
theorem DenL.of_ints : ∀ (ns : List Int), DenL K P (ns.map D.int) (ns.map V.int)
  | [] => DenL.nil
  | n :: ns => DenL.cons (by unfold Den; rfl) (DenL.of_ints ns)
theorem R1.mono {r r' : Option Nat} {f : Option Tx} (s : Same P P') (w : ∀ a, W a = some (r, f) → W' a = some (r', f) ∧ ∀ o, H a = some o → H' a = some o) : ∀ (t : T1) (v : V), R1 K P W H r f t v → R1 K P' W' H' r' f t v
  | .sh d, v, h => Den.mono s d v h
  | .lst ds, v, h => by
    obtain ⟨a, vs, e, hw, hh, l⟩ := h
    exact ⟨a, vs, e, (w a hw).1, (w a hw).2 _ hh, DenL.mono s ds vs l⟩
  | .dct ks ds, v, h => by
    obtain ⟨a, ws, e, hw, hh, k, l⟩ := h
    exact ⟨a, ws, e, (w a hw).1, (w a hw).2 _ hh, k, DenL.mono s ds _ l⟩
theorem RF.mono {r r' : Option Nat} (s : Same P P') (w : ∀ f a, W a = some (r, some f) → W' a = some (r', some f) ∧ ∀ o, H a = some o → H' a = some o) : ∀ (fs : List (Tx × T1)) (ws : List (Str × V)), RF K P W H r fs ws → RF K P' W' H' r' fs ws
  | [], ws, h => h
  | (k, t) :: fs, ws, h => by
    obtain ⟨v, q, e, h1, h2⟩ := h
    exact ⟨v, q, e, R1.mono s (w k) t v h1, RF.mono s w fs q h2⟩
theorem RI.mono {r r' : Option Nat} (s : Same P P') (w : ∀ f a, W a = some (r, some f) → W' a = some (r', some f) ∧ ∀ o, H a = some o → H' a = some o) : ∀ (n : Nat) (ts : List T1) (vs : List V), RI K P W H r n ts vs → RI K P' W' H' r' n ts vs
  | _, [], vs, h => h
  | n, t :: ts, vs, h => by
    obtain ⟨v, q, e, h1, h2⟩ := h
    exact ⟨v, q, e, R1.mono s (w [n]) t v h1, RI.mono s w (n + 1) ts q h2⟩
theorem RT.mono {r r' : Option Nat} (s : Same P P') (w : ∀ f a, W a = some (r, f) → W' a = some (r', f) ∧ ∀ o, H a = some o → H' a = some o) : ∀ (t : T) (v : V), RT K mg P W H r t v → RT K mg P' W' H' r' t v
  | .sh d, v, h => Den.mono s d v h
  | .lst ds, v, h => R1.mono s (w none) (.lst ds) v h
  | .dct ks ds, v, h => R1.mono s (w none) (.dct ks ds) v h
  | .rcd fs, v, h => by
    obtain ⟨a, ws, e, hw, hh, nd, l⟩ := h
    exact ⟨a, ws, e, (w none a hw).1, (w none a hw).2 _ hh, nd, RF.mono s (fun f => w (some f)) fs ws l⟩
  | .ins C fs, v, h => by
    obtain ⟨a, c, dx, ws, e, hw, hc, hh, nd, l⟩ := h
    exact ⟨a, c, dx, ws, e, (w none a hw).1, hc, (w none a hw).2 _ hh, nd, RF.mono s (fun f => w (some f)) fs ws l⟩
  | .seq b ts, v, h => by
    obtain ⟨a, vs, e, hw, hh, l⟩ := h
    exact ⟨a, vs, e, (w none a hw).1, (w none a hw).2 _ hh, RI.mono s (fun f => w (some f)) 0 ts vs l⟩
theorem Wd.al (w : Wd K mg P W H σ ρ) (a : Al P H P' H') : Wd K mg P' W H' σ ρ := by
  refine ⟨a.2.2.1, fun x r e => ?_, fun i t e => ?_, w.len⟩
  · obtain ⟨p, o, h⟩ := w.own x r e
    exact ⟨(a.2.2.2 x o h).trans p, o, a.1 x o h⟩
  · obtain ⟨v, hs, hr⟩ := w.env i t e
    exact ⟨v, hs, RT.mono a.2.1 (fun f x e => ⟨e, fun o h => a.1 x o h⟩) t v hr⟩
end
/-! ### what code gives -/
section
variable (K : PySem.W.Frag) (mg : Str → Option Value)
def XR (P H : Hp) (x : Exn) (c : Value) (od : Option Addr) : Prop :=
  ∃ C, mg (sT x.cls) = some (.ref C) ∧ c = .ref C ∧
    ((x.fs = [] ∧ od = none) ∨ ∃ (k : Tx) (d : D) (a : Addr) (v : V), x.fs = [(k, d)] ∧ od = some a ∧ H a = some (.xd [(sT k, v)]) ∧ P a = some (.xd [(sT k, v)]) ∧ Den K P d v)
variable {α β : Type} (E : WX) (Rel : Hp → Own → Hp → St → α → β → Prop)
def Go (r : Res α) (P : Hp) (W : Own) (H : Hp) (σ : St) (Q : β → Hp → Prop) : Prop :=
  match r with
  | .ok a => ∀ v P' W' H', Step P W H P' W' H' → Rel P' W' H' σ a v → Q v H'
  | .exc x ρ' => ∀ c od P' W' H', Step P W H P' W' H' → Wd K mg P' W' H' σ ρ' → XR K mg P' H' x c od → E c od σ H'
  | .fail => False
def rX (F : Env → Res α) : St → Hp → (β → Hp → Prop) → Prop := fun σ H Q => ∃ P W ρ, Wd K mg P W H σ ρ ∧ Go K mg E Rel (F ρ) P W H σ Q
end
section
variable {K : PySem.W.Frag} {mg : Str → Option Value} {α β γ δ : Type} {E : WX} {Rel : Hp → Own → Hp → St → α → γ → Prop} {Rel' : Hp → Own → Hp → St → β → δ → Prop} {P P' H H' : Hp} {W W' : Own} {σ : St} {ρ : Env} {Q Q' : γ → Hp → Prop} {R : δ → Hp → Prop}
theorem Go.mono {r : Res α} (h : Go K mg E Rel r P W H σ Q) (q : ∀ v H', Q v H' → Q' v H') : Go K mg E Rel r P W H σ Q' := by
  cases r with
  | ok a => exact fun v P' W' H' s r => q v H' (h v P' W' H' s r)
  | exc x ρ' => exact h
  | fail => exact h
theorem Go.step {r : Res α} (s : Step P W H P' W' H') (h : Go K mg E Rel r P W H σ Q) : Go K mg E Rel r P' W' H' σ Q := by
  cases r with
  | ok a => exact fun v P2 W2 H2 s2 r => h v P2 W2 H2 (s.trans s2) r
  | exc x ρ' => exact fun c od P2 W2 H2 s2 => h c od P2 W2 H2 (s.trans s2)
  | fail => exact h
theorem Go.bind {r : Res α} {g : α → Res β} (h : Go K mg E Rel' (r >>= g) P W H σ R) :
    Go K mg E Rel r P W H σ (fun v1 H1 => ∃ P1 W1 a, Step P W H P1 W1 H1 ∧ Rel P1 W1 H1 σ a v1 ∧ Go K mg E Rel' (g a) P1 W1 H1 σ R) := by
  cases r with
  | ok a => exact fun v P1 W1 H1 s rel => ⟨P1, W1, a, s, rel, Go.step s h⟩
  | exc x ρ' => exact h
  | fail => exact h
end
/-- results: shared data; an object in hand; a place that is read later -/
inductive Hd where
  | val (d : D) | slot (i : Nat)
section
variable (K : PySem.W.Frag) (mg : Str → Option Value)
def VRel (P : Hp) (W : Own) (H : Hp) (σ : St) (a : D × Env) (v : V) : Prop := Wd K mg P W H σ a.2 ∧ Den K P a.1 v
def TRel (P : Hp) (W : Own) (H : Hp) (σ : St) (a : T × Env) (v : V) : Prop := Wd K mg P W H σ a.2 ∧ RT K mg P W H none a.1 v
def Hok (P : Hp) (σ : St) : Hd → V → Prop
  | .val d, v => Den K P d v
  | .slot i, v => σ[i]? = some (some v)
def HRel (P : Hp) (W : Own) (H : Hp) (σ : St) (a : Hd × Env) (v : V) : Prop := Wd K mg P W H σ a.2 ∧ Hok K P σ a.1 v
end
abbrev EM := Env → Res (D × Env)
abbrev OM := Env → Res (T × Env)
abbrev HM := Env → Res (Hd × Env)
abbrev BM := Env → Res (Bool × Env)
def EV (X : Cx) (E : WX) (e : Expr) (F : EM) : Prop := PE X e (rX X.K X.mg E (VRel X.K X.mg) F)
def ET (X : Cx) (E : WX) (e : Expr) (F : OM) : Prop := PE X e (rX X.K X.mg E (TRel X.K X.mg) F)
def EH (X : Cx) (E : WX) (e : Expr) (F : HM) : Prop := PE X e (rX X.K X.mg E (HRel X.K X.mg) F)
/-- a test -/
def GoB (K : PySem.W.Frag) (mg : Str → Option Value) (E : WX) (r : Res (Bool × Env)) (P : Hp) (W : Own) (H : Hp) (σ : St) (Q : Bool → Hp → Prop) : Prop :=
  match r with
  | .ok (b, ρ') => ∀ P' W' H', Step P W H P' W' H' → Wd K mg P' W' H' σ ρ' → Q b H'
  | .exc x ρ' => ∀ c od P' W' H', Step P W H P' W' H' → Wd K mg P' W' H' σ ρ' → XR K mg P' H' x c od → E c od σ H'
  | .fail => False
def rB (K : PySem.W.Frag) (mg : Str → Option Value) (E : WX) (F : BM) : TT := fun σ H Q => ∃ P W ρ, Wd K mg P W H σ ρ ∧ GoB K mg E (F ρ) P W H σ Q
def EB (X : Cx) (E : WX) (e : Expr) (F : BM) : Prop := PT X e (rB X.K X.mg E F)
section
variable {K : PySem.W.Frag} {mg : Str → Option Value} {α γ : Type} {E : WX} {Rel : Hp → Own → Hp → St → α → γ → Prop} {P P' H H' : Hp} {W W' : Own} {σ : St} {ρ : Env} {Q Q' : Bool → Hp → Prop} {QV : γ → Hp → Prop}
theorem GoB.mono {r : Res (Bool × Env)} (h : GoB K mg E r P W H σ Q) (q : ∀ v H', Q v H' → Q' v H') : GoB K mg E r P W H σ Q' := by
  cases r with
  | ok a => exact fun P' W' H' s r => q a.1 H' (h P' W' H' s r)
  | exc x ρ' => exact h
  | fail => exact h
theorem GoB.step {r : Res (Bool × Env)} (s : Step P W H P' W' H') (h : GoB K mg E r P W H σ Q) : GoB K mg E r P' W' H' σ Q := by
  cases r with
  | ok a => exact fun P2 W2 H2 s2 r => h P2 W2 H2 (s.trans s2) r
  | exc x ρ' => exact fun c od P2 W2 H2 s2 => h c od P2 W2 H2 (s.trans s2)
  | fail => exact h
/-- a value, then a test -/
theorem Go.bindB {r : Res α} {g : α → Res (Bool × Env)} (h : GoB K mg E (r >>= g) P W H σ Q) :
    Go K mg E Rel r P W H σ (fun v1 H1 => ∃ P1 W1 a, Step P W H P1 W1 H1 ∧ Rel P1 W1 H1 σ a v1 ∧ GoB K mg E (g a) P1 W1 H1 σ Q) := by
  cases r with
  | ok a => exact fun v P1 W1 H1 s rel => ⟨P1, W1, a, s, rel, GoB.step s h⟩
  | exc x ρ' => exact h
  | fail => exact h
/-- a test, then a value -/
theorem GoB.bind {r : Res (Bool × Env)} {g : Bool × Env → Res α} (h : Go K mg E Rel (r >>= g) P W H σ QV) :
    GoB K mg E r P W H σ (fun b H1 => ∃ P1 W1 ρ1, Step P W H P1 W1 H1 ∧ Wd K mg P1 W1 H1 σ ρ1 ∧ Go K mg E Rel (g (b, ρ1)) P1 W1 H1 σ QV) := by
  cases r with
  | ok a => exact fun P1 W1 H1 s wd => ⟨P1, W1, a.2, s, wd, Go.step s h⟩
  | exc x ρ' => exact h
  | fail => exact h
theorem GoB.bindB {r : Res (Bool × Env)} {g : Bool × Env → Res (Bool × Env)} (h : GoB K mg E (r >>= g) P W H σ Q) :
    GoB K mg E r P W H σ (fun b H1 => ∃ P1 W1 ρ1, Step P W H P1 W1 H1 ∧ Wd K mg P1 W1 H1 σ ρ1 ∧ GoB K mg E (g (b, ρ1)) P1 W1 H1 σ Q) := by
  cases r with
  | ok a => exact fun P1 W1 H1 s wd => ⟨P1, W1, a.2, s, wd, GoB.step s h⟩
  | exc x ρ' => exact h
  | fail => exact h
end
theorem PE.imp {X : Cx} {e : Expr} {t t' : TE} (h : PE X e t) (q : ∀ σ H Q, t' σ H Q → t σ H Q) : PE X e t' := ⟨fun pins s σ H Q I hq => h.run pins s σ H Q I (q σ H Q hq)⟩
theorem PT.imp {X : Cx} {e : Expr} {t t' : TT} (h : PT X e t) (q : ∀ σ H Q, t' σ H Q → t σ H Q) : PT X e t' := ⟨fun pins s σ H Q I hq => h.run pins s σ H Q I (q σ H Q hq)⟩
theorem PA.imp {X : Cx} {e : List Expr} {t t' : TA} (h : PA X e t) (q : ∀ σ H Q, t' σ H Q → t σ H Q) : PA X e t' := ⟨fun pos pins s σ H Q I hq => h.run pos pins s σ H Q I (q σ H Q hq)⟩
theorem PS.imp {X : Cx} {e : Stmt} {t t' : TS} (h : PS X e t) (q : ∀ D σ H, t' D σ H → t D σ H) : PS X e t' := ⟨fun pins s σ H D I hq => h.run pins s σ H D I (q D σ H hq)⟩
theorem PSs.imp {X : Cx} {e : List Stmt} {t t' : TS} (h : PSs X e t) (q : ∀ D σ H, t' D σ H → t D σ H) : PSs X e t' := ⟨fun pins s σ H D I hq => h.run pins s σ H D I (q D σ H hq)⟩
/-! ### what stands at a place now -/
def slotD : Option (Option T) → Option D
  | some (some (.sh d)) => some d
  | some (some (.lst ds)) => some (.lst ds)
  | some (some (.dct ks ds)) => some (.dct ks ds)
  | _ => none
def getH (h : Hd) (ρ : Env) : Option D :=
  match h with
  | .val d => some d
  | .slot i => slotD ρ[i]?
def View (K : PySem.W.Frag) (P H : Hp) : D → V → Prop
  | .lst ds, v => ∃ a vs, v = .ref a ∧ H a = some (.lst vs) ∧ DenL K P ds vs
  | .dct ks ds, v => ∃ a ws, v = .ref a ∧ H a = some (.dK ws) ∧ ws.map Prod.fst = ks.map kK ∧ DenL K P ds (ws.map Prod.snd)
  | d, v => Den K P d v
section
variable {K : PySem.W.Frag} {mg : Str → Option Value} {P P' H H' : Hp} {W W' : Own} {σ : St} {ρ : Env}
theorem Den.view {d : D} {v : V} (s : Same P H) (h : Den K P d v) : View K P H d v := by
  cases d with
  | lst ds =>
    unfold Den at h
    obtain ⟨a, vs, e, q, l⟩ := h
    exact ⟨a, vs, e, s a _ q, l⟩
  | dct ks ds =>
    unfold Den at h
    obtain ⟨a, ws, e, q, k, l⟩ := h
    exact ⟨a, ws, e, s a _ q, k, l⟩
  | _ => exact h
theorem Hok.step {h : Hd} {v : V} (s : Same P P') (q : Hok K P σ h v) : Hok K P' σ h v := by
  cases h with
  | val d => exact Den.mono s d v q
  | slot i => exact q
theorem Hok.view {h : Hd} {v : V} {d : D} (w : Wd K mg P W H σ ρ) (q : Hok K P σ h v) (g : getH h ρ = some d) : View K P H d v := by
  cases h with
  | val d' =>
    have : d' = d := Option.some.inj g
    subst this
    exact Den.view w.same q
  | slot i =>
    have g : slotD ρ[i]? = some d := g
    have q : σ[i]? = some (some v) := q
    cases e : ρ[i]? with
    | none => rw [e] at g; cases g
    | some o =>
      cases o with
      | none => rw [e] at g; cases g
      | some t =>
        obtain ⟨v', hs, hr⟩ := w.env i t e
        rw [q] at hs
        cases hs
        rw [e] at g
        cases t with
        | sh d' => cases g; exact Den.view w.same hr
        | lst ds => cases g; obtain ⟨a, vs, e, hw, hh, l⟩ := hr; exact ⟨a, vs, e, hh, l⟩
        | dct ks ds => cases g; obtain ⟨a, ws, e, hw, hh, k, l⟩ := hr; exact ⟨a, ws, e, hh, k, l⟩
        | rcd fs => cases g
        | ins C fs => cases g
        | seq b ts => cases g
end
end Od
namespace Od
open PySem PySem.Spec L2
open PyProof.Rows hiding St
/-! ### new objects, frozen objects -/
def ownNew (W : Own) (p : Addr) (f : Option Tx) : Own := fun a => if a = p then some (none, f) else W a
def ownOff (W : Own) (p : Addr) : Own := fun a => if a = p then none else W a
section
variable {K : PySem.W.Frag} {mg : Str → Option Value} {P P' H H' : Hp} {W W' : Own} {σ : St} {ρ : Env}
theorem Wd.newT {o : HO} {p : Addr} (w : Wd K mg P W H σ ρ) (n : H p = none) : Wd K mg P (ownNew W p none) (upd H p o) σ ρ ∧ Step P W H P (ownNew W p none) (upd H p o) := by
  have wp : W p = none := by
    cases e : W p with
    | none => rfl
    | some r => obtain ⟨_, u, h⟩ := w.own p r e; rw [n] at h; cases h
  refine ⟨⟨(Al.newH (o := o) w.same n).2.2.1, fun a r e => ?_, fun i t e => ?_, w.len⟩, same_refl P, fun a u h wa => ?_⟩
  · unfold ownNew at e
    by_cases h : a = p
    · subst h; exact ⟨same_none w.same n, _, upd_same⟩
    · rw [if_neg h] at e
      obtain ⟨h1, u, h2⟩ := w.own a r e
      exact ⟨h1, u, by rw [upd_ne h]; exact h2⟩
  · obtain ⟨v, hs, hr⟩ := w.env i t e
    refine ⟨v, hs, RT.mono (same_refl P) (fun f x ex => ?_) t v hr⟩
    have hx : x ≠ p := fun z => by subst z; rw [wp] at ex; cases ex
    exact ⟨by unfold ownNew; rw [if_neg hx]; exact ex, fun o h => by rw [upd_ne hx]; exact h⟩
  · have ha : a ≠ p := ne_of_none h n
    exact ⟨by rw [upd_ne ha]; exact h, by unfold ownNew; rw [if_neg ha]; exact wa, rfl⟩
/-- an object of a role goes into the shared part -/
theorem Wd.frz {o : HO} {p : Addr} {r : Option Nat} {ρ' : Env} (w : Wd K mg P W H σ ρ) (hw : W p = some (r, none)) (hh : H p = some o)
    (hln : ρ'.length = ρ.length)
    (hρ : ∀ (i : Nat) (t : T), ρ'[i]? = some (some t) → ρ[i]? = some (some t) ∧ some i ≠ r ∨ ∃ v, σ[i]? = some (some v) ∧ RT K mg (upd P p o) (ownOff W p) H (some i) t v) :
    Wd K mg (upd P p o) (ownOff W p) H σ ρ' ∧ Step P W H (upd P p o) (ownOff W p) H := by
  have pp := (w.own p _ hw).1
  have sm : Same P (upd P p o) := fun a u e => by rw [upd_ne (ne_of_none e pp)]; exact e
  refine ⟨⟨fun a u e => ?_, fun a r' e => ?_, fun i t e => ?_, by rw [hln]; exact w.len⟩, sm, fun a u h wa => ?_⟩
  · by_cases h : a = p
    · subst h; rw [upd_same] at e; cases e; exact hh
    · rw [upd_ne h] at e; exact w.same a u e
  · unfold ownOff at e
    by_cases h : a = p
    · rw [if_pos h] at e; cases e
    · rw [if_neg h] at e
      obtain ⟨h1, h2⟩ := w.own a r' e
      exact ⟨by rw [upd_ne h]; exact h1, h2⟩
  · rcases hρ i t e with ⟨e1, ne⟩ | h
    · obtain ⟨v, hs, hr⟩ := w.env i t e1
      refine ⟨v, hs, RT.mono sm (fun f x ex => ⟨?_, fun _ h => h⟩) t v hr⟩
      have hx : x ≠ p := fun z => by subst z; rw [hw] at ex; cases ex; exact ne rfl
      unfold ownOff; rw [if_neg hx]; exact ex
    · exact h
  · have ha : a ≠ p := fun z => by subst z; rw [hw] at wa; cases wa
    exact ⟨h, by unfold ownOff; rw [if_neg ha]; exact wa, by rw [upd_ne ha]⟩
end
/-- all of a role goes into the shared part -/
noncomputable def frzP (P H : Hp) (W : Own) (r : Option Nat) : Hp := fun a => match W a with
  | some (r', _) => if r' = r then H a else P a
  | none => P a
noncomputable def offW (W : Own) (r : Option Nat) : Own := fun a => match W a with
  | some (r', f) => if r' = r then none else some (r', f)
  | none => none
section
variable {K : PySem.W.Frag} {mg : Str → Option Value} {P P' H H' : Hp} {W W' : Own} {σ : St} {ρ : Env}
theorem frzP_at {r : Option Nat} {a : Addr} {f : Option Tx} (h : W a = some (r, f)) : frzP P H W r a = H a := by
  unfold frzP; rw [h]; simp
theorem Wd.frzS (w : Wd K mg P W H σ ρ) (r : Option Nat) : Same P (frzP P H W r) := fun a u e => by
  unfold frzP
  cases h : W a with
  | none => exact e
  | some q => have := (w.own a q h).1; rw [e] at this; cases this
theorem Wd.frzA {r : Option Nat} {ρ' : Env} (w : Wd K mg P W H σ ρ) (hln : ρ'.length = ρ.length)
    (hρ : ∀ (i : Nat) (t : T), ρ'[i]? = some (some t) → ρ[i]? = some (some t) ∧ some i ≠ r ∨ ∃ v, σ[i]? = some (some v) ∧ RT K mg (frzP P H W r) (offW W r) H (some i) t v) :
    Wd K mg (frzP P H W r) (offW W r) H σ ρ' ∧ Step P W H (frzP P H W r) (offW W r) H := by
  have sm := w.frzS r
  refine ⟨⟨fun a u e => ?_, fun a r' e => ?_, fun i t e => ?_, by rw [hln]; exact w.len⟩, sm, fun a u h wa => ?_⟩
  · unfold frzP at e
    split at e
    · split at e
      · exact e
      · exact w.same a u e
    · exact w.same a u e
  · unfold offW at e
    split at e
    · rename_i q f hq
      split at e
      · cases e
      · rename_i hne
        obtain ⟨h1, h2⟩ := w.own a _ hq
        refine ⟨?_, h2⟩
        unfold frzP
        rw [hq]
        simp only [if_neg hne]
        exact h1
    · cases e
  · rcases hρ i t e with ⟨e1, ne⟩ | h
    · obtain ⟨v, hs, hr⟩ := w.env i t e1
      refine ⟨v, hs, RT.mono sm (fun f x ex => ⟨?_, fun _ h => h⟩) t v hr⟩
      unfold offW
      rw [ex]
      simp only [if_neg ne]
    · exact h
  · refine ⟨h, by unfold offW; rw [wa], by unfold frzP; rw [wa]⟩
end
/-- an instance's parts, all shared -/
def shs : List (Tx × T1) → Option (List Tx × List D)
  | [] => some ([], [])
  | (k, .sh d) :: fs => (shs fs).map fun p => (k :: p.1, d :: p.2)
  | _ => none
def d1 : T1 → D
  | .sh d => d
  | .lst ds => .lst ds
  | .dct ks ds => .dct ks ds
def frzT : T → Option D
  | .sh d => some d
  | .lst ds => some (.lst ds)
  | .dct ks ds => some (.dct ks ds)
  | .ins C fs => (shs fs).map fun p => .obj C p.1 p.2
  | .seq b ts => some (if b then .tup (ts.map d1) else .lst (ts.map d1))
  | _ => none
section
variable {K : PySem.W.Frag} {mg : Str → Option Value} {P P' H H' : Hp} {W W' : Own} {σ : St} {ρ : Env}
theorem RF.shs {r : Option Nat} : ∀ {fs : List (Tx × T1)} {ws : List (Str × V)} {p : List Tx × List D}, RF K P W H r fs ws → shs fs = some p → ws.map Prod.fst = p.1.map sT ∧ DenL K P p.2 (ws.map Prod.snd)
  | [], ws, p, h, e => by
    cases h
    cases (show some ([], []) = some p from e)
    exact ⟨rfl, DenL.nil⟩
  | (k, .sh d) :: fs, ws, p, h, e => by
    obtain ⟨v, w, rfl, h1, h2⟩ := h
    obtain ⟨q, hq, rfl⟩ := Option.map_eq_some_iff.mp (show (Od.shs fs).map (fun p => (k :: p.1, d :: p.2)) = some p from e)
    obtain ⟨a, b⟩ := RF.shs h2 hq
    exact ⟨by simp [a], DenL.cons h1 b⟩
  | (k, .lst ds) :: fs, ws, p, h, e => by cases (show (none : Option (List Tx × List D)) = some p from e)
  | (k, .dct ks ds) :: fs, ws, p, h, e => by cases (show (none : Option (List Tx × List D)) = some p from e)
theorem R1.den {r : Option Nat} {f : Option Tx} {t : T1} {v : V} (s : Same P P') (hp : ∀ a f, W a = some (r, f) → P' a = H a) (h : R1 K P W H r f t v) : Den K P' (d1 t) v := by
  cases t with
  | sh d => exact Den.mono s d v h
  | lst ds =>
    obtain ⟨a, vs, e, hw, hh, l⟩ := h
    show Den K P' (.lst ds) v
    unfold Den
    exact ⟨a, vs, e, by rw [hp a f hw]; exact hh, DenL.mono s ds vs l⟩
  | dct ks ds =>
    obtain ⟨a, ws, e, hw, hh, k, l⟩ := h
    show Den K P' (.dct ks ds) v
    unfold Den
    exact ⟨a, ws, e, by rw [hp a f hw]; exact hh, k, DenL.mono s ds _ l⟩
theorem RI.den {r : Option Nat} (s : Same P P') (hp : ∀ a f, W a = some (r, f) → P' a = H a) : ∀ {n : Nat} {ts : List T1} {vs : List V}, RI K P W H r n ts vs → DenL K P' (ts.map d1) vs
  | n, [], vs, h => by cases h; exact DenL.nil
  | n, t :: ts, vs, h => by
    obtain ⟨v, q, rfl, h1, h2⟩ := h
    exact DenL.cons (R1.den s hp h1) (RI.den s hp h2)
theorem seq_den {b : Bool} {ds : List D} {vs : List V} {a : Addr} (h : P a = some (sqO b vs)) (l : DenL K P ds vs) : Den K P (if b then .tup ds else .lst ds) (.ref a) := by
  cases b with
  | true => exact (by unfold Den; exact ⟨a, vs, rfl, SqT.of h, l⟩ : Den K P (.tup ds) (.ref a))
  | false => exact (by unfold Den; exact ⟨a, vs, rfl, h, l⟩ : Den K P (.lst ds) (.ref a))
theorem Wd.freezeR {t : T} {v : V} {d : D} {r : Option Nat} {ρ' : Env} (w : Wd K mg P W H σ ρ) (h : RT K mg P W H r t v) (g : frzT t = some d) (hln : ρ'.length = ρ.length)
    (hρ : ∀ P' W', Same P P' → Den K P' d v → ∀ (i : Nat) (t : T), ρ'[i]? = some (some t) → ρ[i]? = some (some t) ∧ some i ≠ r ∨ ∃ v, σ[i]? = some (some v) ∧ RT K mg P' W' H (some i) t v)
    (hr0 : ∀ P' W', Wd K mg P' W' H σ ρ → Same P P' → Den K P' d v → Wd K mg P' W' H σ ρ') :
    ∃ P' W', Step P W H P' W' H ∧ Wd K mg P' W' H σ ρ' ∧ Den K P' d v := by
  cases t with
  | sh d' => cases g; exact ⟨P, W, Step.refl P W H, hr0 P W w (same_refl P) h, h⟩
  | lst ds =>
    cases g
    obtain ⟨a, vs, e, hw, hh, l⟩ := h
    have pp := (w.own a _ hw).1
    have sm : Same P (upd P a (.lst vs)) := fun x u ex => by rw [upd_ne (ne_of_none ex pp)]; exact ex
    have dn : Den K (upd P a (.lst vs)) (.lst ds) v := by unfold Den; exact ⟨a, vs, e, upd_same, DenL.mono sm ds vs l⟩
    obtain ⟨w', st⟩ := w.frz (ρ' := ρ') hw hh hln (hρ _ _ sm dn)
    exact ⟨_, _, st, w', dn⟩
  | dct ks ds =>
    cases g
    obtain ⟨a, ws, e, hw, hh, k, l⟩ := h
    have pp := (w.own a _ hw).1
    have sm : Same P (upd P a (.dK ws)) := fun x u ex => by rw [upd_ne (ne_of_none ex pp)]; exact ex
    have dn : Den K (upd P a (.dK ws)) (.dct ks ds) v := by unfold Den; exact ⟨a, ws, e, upd_same, k, DenL.mono sm ds _ l⟩
    obtain ⟨w', st⟩ := w.frz (ρ' := ρ') hw hh hln (hρ _ _ sm dn)
    exact ⟨_, _, st, w', dn⟩
  | rcd fs => cases g
  | ins C fs =>
    obtain ⟨p, hp, rfl⟩ := Option.map_eq_some_iff.mp (show (shs fs).map (fun p => D.obj C p.1 p.2) = some d from g)
    obtain ⟨a, c, dx, ws, e, hw, hc, hh, nd, l⟩ := h
    have pp := (w.own a _ hw).1
    have sm : Same P (upd P a (.ins c dx ws)) := fun x u ex => by rw [upd_ne (ne_of_none ex pp)]; exact ex
    obtain ⟨k1, k2⟩ := RF.shs l hp
    have dn : Den K (upd P a (.ins c dx ws)) (.obj C p.1 p.2) v := by unfold Den; exact ⟨a, c, dx, ws, e, hc.2, upd_same, k1, DenL.mono sm _ _ k2⟩
    obtain ⟨w', st⟩ := w.frz (ρ' := ρ') hw hh hln (hρ _ _ sm dn)
    exact ⟨_, _, st, w', dn⟩
  | seq b ts =>
    have g := Option.some.inj (show some (if b then D.tup (ts.map d1) else .lst (ts.map d1)) = some d from g)
    subst g
    obtain ⟨a, vs, rfl, hw, hh, l⟩ := h
    have sm := w.frzS r
    have dn : Den K (frzP P H W r) (if b then .tup (ts.map d1) else .lst (ts.map d1)) (.ref a) := seq_den (by rw [frzP_at hw]; exact hh) (RI.den sm (fun x f e => frzP_at e) l)
    obtain ⟨w', st⟩ := w.frzA (ρ' := ρ') (r := r) hln (hρ _ _ sm dn)
    exact ⟨_, _, st, w', dn⟩
theorem Wd.freeze {t : T} {v : V} {d : D} (w : Wd K mg P W H σ ρ) (h : RT K mg P W H none t v) (g : frzT t = some d) :
    ∃ P' W', Step P W H P' W' H ∧ Wd K mg P' W' H σ ρ ∧ Den K P' d v :=
  w.freezeR h g rfl (fun _ _ _ _ i t e => .inl ⟨e, by simp⟩) (fun _ _ w _ _ => w)
theorem Wd.freezeS {t : T} {d : D} {i : Nat} (w : Wd K mg P W H σ ρ) (e : ρ[i]? = some (some t)) (g : frzT t = some d) :
    ∃ v, σ[i]? = some (some v) ∧ ∃ P' W', Step P W H P' W' H ∧ Wd K mg P' W' H σ (ρ.set i (some (.sh d))) ∧ Den K P' d v := by
  obtain ⟨v, hs, hr⟩ := w.env i t e
  have hi : i < ρ.length := (List.getElem?_eq_some_iff.mp e).1
  refine ⟨v, hs, w.freezeR hr g (by simp) (fun P' W' sm dn j t' ej => ?_) (fun P' W' w' sm dn => ?_)⟩
  · by_cases hj : j = i
    · subst hj
      rw [List.getElem?_set_self hi] at ej
      cases ej
      exact .inr ⟨v, hs, dn⟩
    · rw [List.getElem?_set_ne (Ne.symm hj)] at ej
      exact .inl ⟨ej, fun z => hj (Option.some.inj z)⟩
  · refine ⟨w'.same, w'.own, fun j t' ej => ?_, by simpa using w'.len⟩
    by_cases hj : j = i
    · subst hj
      rw [List.getElem?_set_self hi] at ej
      cases ej
      exact ⟨v, hs, dn⟩
    · rw [List.getElem?_set_ne (Ne.symm hj)] at ej
      exact w'.env j t' ej
/-- a slot's object becomes the one in hand -/
theorem Wd.take {t : T} {i : Nat} (w : Wd K mg P W H σ ρ) (e : ρ[i]? = some (some t)) :
    ∃ v, σ[i]? = some (some v) ∧ ∃ W', Step P W H P W' H ∧ Wd K mg P W' H σ (ρ.set i none) ∧ RT K mg P W' H none t v := by
  obtain ⟨v, hs, hr⟩ := w.env i t e
  have hi : i < ρ.length := (List.getElem?_eq_some_iff.mp e).1
  refine ⟨v, hs, fun a => match W a with | some (some j, f) => if j = i then some (none, f) else some (some j, f) | o => o, ⟨same_refl P, fun a o h wa => ⟨h, by simp only [wa], rfl⟩⟩, ⟨w.same, fun a r ea => ?_, fun j t' ej => ?_, by simpa using w.len⟩, ?_⟩
  · cases q : W a with
    | none => simp only [q] at ea; cases ea
    | some r' => exact w.own a r' q
  · have hj : j ≠ i := fun z => by subst z; rw [List.getElem?_set_self hi] at ej; cases ej
    rw [List.getElem?_set_ne (Ne.symm hj)] at ej
    obtain ⟨v', hs', hr'⟩ := w.env j t' ej
    exact ⟨v', hs', RT.mono (same_refl P) (fun f x ex => ⟨by simp only [ex, if_neg hj], fun _ h => h⟩) t' v' hr'⟩
  · exact RT.mono (same_refl P) (fun f x ex => ⟨by simp [ex], fun _ h => h⟩) t v hr
theorem Wd.forget {i : Nat} (w : Wd K mg P W H σ ρ) : Wd K mg P W H σ (ρ.set i none) := by
  refine ⟨w.same, w.own, fun j t ej => ?_, by simpa using w.len⟩
  by_cases hj : j = i
  · subst hj
    by_cases hi : j < ρ.length
    · rw [List.getElem?_set_self hi] at ej; cases ej
    · rw [List.getElem?_eq_none (by simpa using hi)] at ej; cases ej
  · rw [List.getElem?_set_ne (Ne.symm hj)] at ej
    exact w.env j t ej
end
/-! ### values -/
def eC (d : D) : EM := fun ρ => .ok (d, ρ)
def eV (i : Nat) : EM := fun ρ => match ρ[i]? with
  | some (some (.sh d)) => .ok (d, ρ)
  | _ => .fail
/-- a name whose object is shared from here on -/
def eFv (i : Nat) : EM := fun ρ => match ρ[i]? with
  | some (some t) => match frzT t with
    | some d => .ok (d, ρ.set i (some (.sh d)))
    | none => .fail
  | _ => .fail
/-- a name whose object is handed on -/
def tMv (i : Nat) : OM := fun ρ => match ρ[i]? with
  | some (some t) => .ok (t, ρ.set i none)
  | _ => .fail
def hS (i : Nat) : HM := fun ρ => .ok (.slot i, ρ)
def hV (F : EM) : HM := fun ρ => F ρ >>= fun a => .ok (.val a.1, a.2)
def eFz (F : OM) : EM := fun ρ => F ρ >>= fun a => match frzT a.1 with
  | some d => .ok (d, a.2)
  | none => .fail
def tSh (F : EM) : OM := fun ρ => F ρ >>= fun a => .ok (.sh a.1, a.2)
section
variable {X : Cx} {E : WX} {e : Expr}
theorem ev_of {d : D} {v : V} (h : PE X e (tC v)) (hd : ∀ P, Den X.K P d v) : EV X E e (eC d) := PE.imp h fun σ H Q ⟨P, W, ρ, w, g⟩ =>
  g v P W H (Step.refl P W H) ⟨w, hd P⟩
theorem ev_int {i j pos} : EV X E (.Constant (.int i) j pos) (eC (.int i)) := ev_of pe_int fun _ => by unfold Den; rfl
theorem ev_bl {b j pos} : EV X E (.Constant (.bool b) j pos) (eC (.bl b)) := ev_of pe_bl fun _ => by unfold Den; rfl
theorem ev_str {s : Tx} {x j pos} (hx : x = sT s) : EV X E (.Constant (.str x) j pos) (eC (.str s)) := ev_of pe_str fun _ => by unfold Den; rw [hx]
theorem ev_glob {d : D} {x : Str} {v : V} {u : Value} {pos : Pos} (hg : Gl X x) (hm : X.mg x = some u) (r : RelV v u) (hd : ∀ P, Den X.K P d v) (hdb : (x == ("__debug__" : Str)) = false := by decide) : EV X E (.Name x pos) (eC d) :=
  ev_of (pe_glob hg hm r hdb) hd
theorem ev_var {i : Nat} {x : Str} {pos : Pos} (hN : X.N[i]? = some x) (hv : Vis X.env.scope x) (hd : (x == ("__debug__" : Str)) = false := by decide) (hcd : (x == ("__classdict__" : Str)) = false := by decide) : EV X E (.Name x pos) (eV i) :=
  PE.imp (pe_var hN hv hd hcd) fun σ H Q ⟨P, W, ρ, w, g⟩ => by
    unfold eV at g
    cases er : ρ[i]? with
    | none => rw [er] at g; exact g.elim
    | some o =>
      cases o with
      | none => rw [er] at g; exact g.elim
      | some t =>
        rw [er] at g
        obtain ⟨v, hs, hr⟩ := w.env i t er
        cases t with
        | sh d => exact ⟨v, hs, g v P W H (Step.refl P W H) ⟨w, hr⟩⟩
        | _ => exact g.elim
theorem ev_fv {i : Nat} {x : Str} {pos : Pos} (hN : X.N[i]? = some x) (hv : Vis X.env.scope x) (hd : (x == ("__debug__" : Str)) = false := by decide) (hcd : (x == ("__classdict__" : Str)) = false := by decide) : EV X E (.Name x pos) (eFv i) :=
  PE.imp (pe_var hN hv hd hcd) fun σ H Q ⟨P, W, ρ, w, g⟩ => by
    unfold eFv at g
    cases er : ρ[i]? with
    | none => rw [er] at g; exact g.elim
    | some o =>
      cases o with
      | none => rw [er] at g; exact g.elim
      | some t =>
        rw [er] at g
        cases ef : frzT t with
        | none => simp only [ef] at g; exact g.elim
        | some d =>
          simp only [ef] at g
          obtain ⟨v, hs, P', W', st, w', dn⟩ := w.freezeS er ef
          exact ⟨v, hs, g v P' W' H st ⟨w', dn⟩⟩
theorem et_mv {i : Nat} {x : Str} {pos : Pos} (hN : X.N[i]? = some x) (hv : Vis X.env.scope x) (hd : (x == ("__debug__" : Str)) = false := by decide) (hcd : (x == ("__classdict__" : Str)) = false := by decide) : ET X E (.Name x pos) (tMv i) :=
  PE.imp (pe_var hN hv hd hcd) fun σ H Q ⟨P, W, ρ, w, g⟩ => by
    unfold tMv at g
    cases er : ρ[i]? with
    | none => rw [er] at g; exact g.elim
    | some o =>
      cases o with
      | none => rw [er] at g; exact g.elim
      | some t =>
        rw [er] at g
        obtain ⟨v, hs, W', st, w', rt⟩ := w.take er
        exact ⟨v, hs, g v P W' H st ⟨w', rt⟩⟩
/-- the slot must hold something -/
def hSc (i : Nat) : HM := fun ρ => match ρ[i]? with
  | some (some _) => .ok (.slot i, ρ)
  | _ => .fail
theorem eh_s {i : Nat} {x : Str} {pos : Pos} (hN : X.N[i]? = some x) (hv : Vis X.env.scope x) (hd : (x == ("__debug__" : Str)) = false := by decide) (hcd : (x == ("__classdict__" : Str)) = false := by decide) : EH X E (.Name x pos) (hSc i) :=
  PE.imp (pe_var hN hv hd hcd) fun σ H Q ⟨P, W, ρ, w, g⟩ => by
    unfold hSc at g
    cases er : ρ[i]? with
    | none => rw [er] at g; exact g.elim
    | some o =>
      cases o with
      | none => rw [er] at g; exact g.elim
      | some t =>
        rw [er] at g
        obtain ⟨v, hs, hr⟩ := w.env i t er
        exact ⟨v, hs, g v P W H (Step.refl P W H) ⟨w, hs⟩⟩
theorem eh_v {F : EM} (h : EV X E e F) : EH X E e (hV F) := PE.imp h fun σ H Q ⟨P, W, ρ, w, g⟩ =>
  ⟨P, W, ρ, w, (Go.bind g).mono fun v H1 ⟨P1, W1, a, st, ⟨w1, d1⟩, k⟩ => k v P1 W1 H1 (Step.refl P1 W1 H1) ⟨w1, d1⟩⟩
theorem ev_fz {F : OM} (h : ET X E e F) : EV X E e (eFz F) := PE.imp h fun σ H Q ⟨P, W, ρ, w, g⟩ =>
  ⟨P, W, ρ, w, (Go.bind g).mono fun v H1 ⟨P1, W1, a, st, ⟨w1, t1⟩, k⟩ => by
    cases ef : frzT a.1 with
    | none => simp only [ef] at k; exact k.elim
    | some d =>
      simp only [ef] at k
      obtain ⟨P2, W2, s2, w2, dn⟩ := w1.freeze t1 ef
      exact k v P2 W2 H1 s2 ⟨w2, dn⟩⟩
theorem et_sh {F : EM} (h : EV X E e F) : ET X E e (tSh F) := PE.imp h fun σ H Q ⟨P, W, ρ, w, g⟩ =>
  ⟨P, W, ρ, w, (Go.bind g).mono fun v H1 ⟨P1, W1, a, st, ⟨w1, d1⟩, k⟩ => k v P1 W1 H1 (Step.refl P1 W1 H1) ⟨w1, d1⟩⟩
end
/-! ### operations -/
def e1 (f : D → Option D) (A : HM) : EM := fun ρ => A ρ >>= fun a => Res.of ((getH a.1 a.2).bind f) >>= fun r => .ok (r, a.2)
def e2 (f : D → D → Option D) (A B : HM) : EM := fun ρ => A ρ >>= fun a => B a.2 >>= fun b => Res.of ((getH a.1 b.2).bind fun d => (getH b.1 b.2).bind fun e => f d e) >>= fun r => .ok (r, b.2)
def e3 (f : D → D → D → Option D) (A B C : HM) : EM := fun ρ => A ρ >>= fun a => B a.2 >>= fun b => C b.2 >>= fun c =>
  Res.of ((getH a.1 c.2).bind fun d => (getH b.1 c.2).bind fun e => (getH c.1 c.2).bind fun g => f d e g) >>= fun r => .ok (r, c.2)
def t1 (f : D → Option (List D)) (A : HM) : OM := fun ρ => A ρ >>= fun a => Res.of ((getH a.1 a.2).bind f) >>= fun r => .ok (.lst r, a.2)
def t2 (f : D → D → Option (List D)) (A B : HM) : OM := fun ρ => A ρ >>= fun a => B a.2 >>= fun b => Res.of ((getH a.1 b.2).bind fun d => (getH b.1 b.2).bind fun e => f d e) >>= fun r => .ok (.lst r, b.2)
def b2 (f : D → D → Option Bool) (A B : HM) : BM := fun ρ => A ρ >>= fun a => B a.2 >>= fun b => Res.of ((getH a.1 b.2).bind fun d => (getH b.1 b.2).bind fun e => f d e) >>= fun r => .ok (r, b.2)
section
variable (K : PySem.W.Frag)
def Op1V (r : V → Hp → VK → Prop) (f : D → Option D) : Prop := ∀ (P H : Hp) (x : V) (d res : D) (Q : VK), Same P H → View K P H d x → f d = some res → (∀ v P' H', Al P H P' H' → Den K P' res v → Q v H') → r x H Q
def Op2V (r : R2) (f : D → D → Option D) : Prop := ∀ (P H : Hp) (x y : V) (d e res : D) (Q : VK), Same P H → View K P H d x → View K P H e y → f d e = some res → (∀ v P' H', Al P H P' H' → Den K P' res v → Q v H') → r x y H Q
def Op2L (r : R2) (f : D → D → Option (List D)) : Prop := ∀ (P H : Hp) (x y : V) (d e : D) (res : List D) (Q : VK), Same P H → View K P H d x → View K P H e y → f d e = some res → (∀ p vs, H p = none → DenL K P res vs → Q (.ref p) (upd H p (.lst vs))) → r x y H Q
end
section
variable {K : PySem.W.Frag} {mg : Str → Option Value} {E : WX} {P H : Hp} {W : Own} {σ : St} {ρ : Env} {Q : VK}
theorem opt2 {f : D → D → Option α} {a b : Option D} {r : α} (h : (a.bind fun d => b.bind fun e => f d e) = some r) : ∃ d e, a = some d ∧ b = some e ∧ f d e = some r := by
  cases a with
  | none => cases h
  | some d =>
    cases b with
    | none => cases h
    | some e => exact ⟨d, e, rfl, rfl, h⟩
theorem opt1 {f : D → Option α} {a : Option D} {r : α} (h : a.bind f = some r) : ∃ d, a = some d ∧ f d = some r := by
  cases a with
  | none => cases h
  | some d => exact ⟨d, rfl, h⟩
theorem Go.of {α β γ : Type} {Rel : Hp → Own → Hp → St → β → γ → Prop} {o : Option α} {g : α → Res β} {R : γ → Hp → Prop} (h : Go K mg E Rel (Res.of o >>= g) P W H σ R) : ∃ r, o = some r ∧ Go K mg E Rel (g r) P W H σ R := by
  cases o with
  | none => exact h.elim
  | some r => exact ⟨r, rfl, h⟩
theorem GoB.of {α : Type} {o : Option α} {g : α → Res (Bool × Env)} {Q : Bool → Hp → Prop} (h : GoB K mg E (Res.of o >>= g) P W H σ Q) : ∃ r, o = some r ∧ GoB K mg E (g r) P W H σ Q := by
  cases o with
  | none => exact h.elim
  | some r => exact ⟨r, rfl, h⟩
/-- one operand -/
theorem r1_of {α : Type} {f : D → Option α} {A : HM} {β : Type} {Rel : Hp → Own → Hp → St → β → V → Prop} {G : α → Env → Res β}
    (h : rX K mg E Rel (fun ρ => A ρ >>= fun a => Res.of ((getH a.1 a.2).bind f) >>= fun r => G r a.2) σ H Q) :
    rX K mg E (HRel K mg) A σ H fun x H1 => ∃ P1 W1 ρ1 d res, Wd K mg P1 W1 H1 σ ρ1 ∧ View K P1 H1 d x ∧ f d = some res ∧ Go K mg E Rel (G res ρ1) P1 W1 H1 σ Q := by
  obtain ⟨P, W, ρ, w, g⟩ := h
  refine ⟨P, W, ρ, w, (Go.bind g).mono fun x H1 ⟨P1, W1, a, s1, ⟨w1, k1⟩, g1⟩ => ?_⟩
  obtain ⟨r, e, g2⟩ := Go.of g1
  obtain ⟨d, ha, hf⟩ := opt1 e
  exact ⟨P1, W1, a.2, d, r, w1, Hok.view w1 k1 ha, hf, g2⟩
theorem r2_of {α : Type} {f : D → D → Option α} {A B : HM} {β : Type} {Rel : Hp → Own → Hp → St → β → V → Prop} {G : α → Env → Res β}
    (h : rX K mg E Rel (fun ρ => A ρ >>= fun a => B a.2 >>= fun b => Res.of ((getH a.1 b.2).bind fun d => (getH b.1 b.2).bind fun e => f d e) >>= fun r => G r b.2) σ H Q) :
    rX K mg E (HRel K mg) A σ H fun x H1 => rX K mg E (HRel K mg) B σ H1 fun y H2 => ∃ P2 W2 ρ2 d e res, Wd K mg P2 W2 H2 σ ρ2 ∧ View K P2 H2 d x ∧ View K P2 H2 e y ∧ f d e = some res ∧ Go K mg E Rel (G res ρ2) P2 W2 H2 σ Q := by
  obtain ⟨P, W, ρ, w, g⟩ := h
  refine ⟨P, W, ρ, w, (Go.bind g).mono fun x H1 ⟨P1, W1, a, s1, ⟨w1, k1⟩, g1⟩ => ⟨P1, W1, a.2, w1, (Go.bind g1).mono fun y H2 ⟨P2, W2, b, s2, ⟨w2, k2⟩, g2⟩ => ?_⟩⟩
  obtain ⟨r, e, g3⟩ := Go.of g2
  obtain ⟨d, e', ha, hb, hf⟩ := opt2 e
  exact ⟨P2, W2, b.2, d, e', r, w2, Hok.view w2 (Hok.step s2.1 k1) ha, Hok.view w2 k2 hb, hf, g3⟩
theorem rb2_of {f : D → D → Option Bool} {A B : HM} {Q : Bool → Hp → Prop}
    (h : rB K mg E (b2 f A B) σ H Q) :
    rX K mg E (HRel K mg) A σ H fun x H1 => rX K mg E (HRel K mg) B σ H1 fun y H2 => ∃ P2 W2 ρ2 d e res, Wd K mg P2 W2 H2 σ ρ2 ∧ View K P2 H2 d x ∧ View K P2 H2 e y ∧ f d e = some res ∧ GoB K mg E (.ok (res, ρ2)) P2 W2 H2 σ Q := by
  obtain ⟨P, W, ρ, w, g⟩ := h
  refine ⟨P, W, ρ, w, (Go.bindB g).mono fun x H1 ⟨P1, W1, a, s1, ⟨w1, k1⟩, g1⟩ => ⟨P1, W1, a.2, w1, (Go.bindB g1).mono fun y H2 ⟨P2, W2, b, s2, ⟨w2, k2⟩, g2⟩ => ?_⟩⟩
  obtain ⟨r, e, g3⟩ := GoB.of g2
  obtain ⟨d, e', ha, hb, hf⟩ := opt2 e
  exact ⟨P2, W2, b.2, d, e', r, w2, Hok.view w2 (Hok.step s2.1 k1) ha, Hok.view w2 k2 hb, hf, g3⟩
theorem fin_v {d : D} (w : Wd K mg P W H σ ρ) (g : Go K mg E (VRel K mg) (.ok (d, ρ)) P W H σ Q) : ∀ v P' H', Al P H P' H' → Den K P' d v → Q v H' :=
  fun v P' H' al dn => g v P' W H' (al.step W) ⟨w.al al, dn⟩
theorem fin_l {ds : List D} (w : Wd K mg P W H σ ρ) (g : Go K mg E (TRel K mg) (.ok (.lst ds, ρ)) P W H σ Q) : ∀ p vs, H p = none → DenL K P ds vs → Q (.ref p) (upd H p (.lst vs)) :=
  fun p vs n l => g (.ref p) P (ownNew W p none) _ (w.newT n).2 ⟨(w.newT n).1, p, vs, rfl, by unfold ownNew; rw [if_pos rfl], upd_same, l⟩
end
section
variable {X : Cx} {E : WX} {a b c : Expr} {A B C : HM} {pos : Pos}
theorem ev_op {op : Operator} {r : R2} {f : D → D → Option D} (hr : OpR X (binaryOp op) r) (hf : Op2V X.K r f) (ha : EH X E a A) (hb : EH X E b B) : EV X E (.BinOp a op b pos) (e2 f A B) :=
  PE.imp (pe_op hr ha hb) fun σ H Q h => by
    obtain ⟨P, W, ρ, w, g⟩ := r2_of (G := fun r ρ => .ok (r, ρ)) h
    exact ⟨P, W, ρ, w, g.mono fun x H1 ⟨P1, W1, ρ1, w1, g1⟩ => ⟨P1, W1, ρ1, w1, g1.mono fun y H2 ⟨P2, W2, ρ2, d, e, res, w2, v1, v2, hfe, g2⟩ =>
      hf P2 H2 x y d e res Q w2.same v1 v2 hfe (fin_v w2 g2)⟩⟩
theorem et_op {op : Operator} {r : R2} {f : D → D → Option (List D)} (hr : OpR X (binaryOp op) r) (hf : Op2L X.K r f) (ha : EH X E a A) (hb : EH X E b B) : ET X E (.BinOp a op b pos) (t2 f A B) :=
  PE.imp (pe_op hr ha hb) fun σ H Q h => by
    obtain ⟨P, W, ρ, w, g⟩ := r2_of (G := fun r ρ => .ok (T.lst r, ρ)) h
    exact ⟨P, W, ρ, w, g.mono fun x H1 ⟨P1, W1, ρ1, w1, g1⟩ => ⟨P1, W1, ρ1, w1, g1.mono fun y H2 ⟨P2, W2, ρ2, d, e, res, w2, v1, v2, hfe, g2⟩ =>
      hf P2 H2 x y d e res Q w2.same v1 v2 hfe (fin_l w2 g2)⟩⟩
theorem ev_un {op : UnaryOp} {r : V → Hp → VK → Prop} {f : D → Option D} (hr : UnR X (unaryOp op) r) (hf : Op1V X.K r f) (ha : EH X E a A) : EV X E (.UnaryOp op a pos) (e1 f A) :=
  PE.imp (pe_un hr ha) fun σ H Q h => by
    obtain ⟨P, W, ρ, w, g⟩ := r1_of (G := fun r ρ => .ok (r, ρ)) h
    exact ⟨P, W, ρ, w, g.mono fun x H1 ⟨P1, W1, ρ1, d, res, w1, v1, hfe, g1⟩ => hf P1 H1 x d res Q w1.same v1 hfe (fin_v w1 g1)⟩
theorem ev_cmp {op : CmpOp} {r : R2} {f : D → D → Option D} (hr : OpR X (compareOp op) r) (hf : Op2V X.K r f) (ha : EH X E a A) (hb : EH X E b B) (hm : behindInMarks op b = false) : EV X E (.Compare a [op] [b] pos) (e2 f A B) :=
  PE.imp (pe_cmpR hr ha hb hm) fun σ H Q h => by
    obtain ⟨P, W, ρ, w, g⟩ := r2_of (G := fun r ρ => .ok (r, ρ)) h
    exact ⟨P, W, ρ, w, g.mono fun x H1 ⟨P1, W1, ρ1, w1, g1⟩ => ⟨P1, W1, ρ1, w1, g1.mono fun y H2 ⟨P2, W2, ρ2, d, e, res, w2, v1, v2, hfe, g2⟩ =>
      hf P2 H2 x y d e res Q w2.same v1 v2 hfe (fin_v w2 g2)⟩⟩
def Op2B (K : PySem.W.Frag) (r : R2) (f : D → D → Option Bool) : Prop := ∀ (P H : Hp) (x y : V) (d e : D) (res : Bool) (Q : VK), Same P H → View K P H d x → View K P H e y → f d e = some res → Q (.bl res) H → r x y H Q
def blOf (f : D → D → Option Bool) : D → D → Option D := fun d e => (f d e).map D.bl
theorem Op2B.toV {K : PySem.W.Frag} {r : R2} {f : D → D → Option Bool} (h : Op2B K r f) : Op2V K r (blOf f) := fun P H x y d e res Q s v1 v2 hf q => by
  unfold blOf at hf
  cases hb : f d e with
  | none => rw [hb] at hf; cases hf
  | some b =>
    rw [hb] at hf
    cases hf
    exact h P H x y d e b Q s v1 v2 hb (q (.bl b) P H (Al.refl s) (by unfold Den; rfl))
theorem eb_cmp {op : CmpOp} {r : R2} {f : D → D → Option Bool} (hr : OpR X (compareOp op) r) (hf : Op2B X.K r f) (ha : EH X E a A) (hb : EH X E b B) (hm : behindInMarks op b = false) : EB X E (.Compare a [op] [b] pos) (b2 f A B) :=
  PT.imp (pt_cmpR hr ha hb hm) fun σ H Q h => by
    obtain ⟨P, W, ρ, w, g⟩ := rb2_of h
    exact ⟨P, W, ρ, w, g.mono fun x H1 ⟨P1, W1, ρ1, w1, g1⟩ => ⟨P1, W1, ρ1, w1, g1.mono fun y H2 ⟨P2, W2, ρ2, d, e, res, w2, v1, v2, hfe, g2⟩ =>
      hf P2 H2 x y d e res _ w2.same v1 v2 hfe ⟨res, rfl, g2 P2 W2 H2 (Step.refl P2 W2 H2) w2⟩⟩⟩
end
end Od
namespace Od
open PySem PySem.Spec L2
open PyProof.Rows hiding St
theorem szOf {n : Nat} (h : n ≤ 1000000) : n ≤ sizeLine := Nat.le_trans h (by decide)
theorem szLt {n : Nat} (h : n < 1000000) : n < sizeLine := Nat.lt_of_lt_of_le h (by decide)
/-! ### numbers, sums of texts, lists, tuples -/
def fAdd : D → D → Option D
  | .int i, .int j => some (.int (i + j))
  | .str a, .str b => if a.length + b.length ≤ 1000000 then some (.str (a ++ b)) else none
  | .lst a, .lst b => if a.length + b.length ≤ 1000000 then some (.lst (a ++ b)) else none
  | .tup a, .tup b => if a.length + b.length ≤ 1000000 then some (.tup (a ++ b)) else none
  | .bl k, .int j => some (.int ((if k = true then (1 : Int) else 0) + j))
  | _, _ => none
def lAdd : D → D → Option (List D)
  | .lst a, .lst b => if a.length + b.length ≤ 1000000 then some (a ++ b) else none
  | _, _ => none
def fSub : D → D → Option D
  | .int i, .int j => some (.int (i - j))
  | _, _ => none
def okMul (i j : Int) : Bool := (decide (-18446744073709551616 < i) && decide (i < 18446744073709551616)) || (decide (-18446744073709551616 < j) && decide (j < 18446744073709551616))
def fMul : D → D → Option D
  | .int i, .int j => if okMul i j then some (.int (i * j)) else none
  | _, _ => none
def lRep : D → D → Option (List D)
  | .lst a, .int k => if k < 1000000 ∧ -1000000 < k ∧ a.length * k.toNat ≤ 1000000 then some (List.replicate k.toNat a).flatten else none
  | _, _ => none
def fFdiv : D → D → Option D
  | .int i, .int j => if 0 < j ∧ j < 1073741824 then some (.int (i / j)) else none
  | _, _ => none
def fMod : D → D → Option D
  | .int i, .int j => if 0 < j then some (.int (i % j)) else none
  | _, _ => none
def fPow : D → D → Option D
  | .int i, .int j => if 0 ≤ j ∧ j ≤ 1000000 ∧ i.natAbs < 18446744073709551616 then some (.int (i ^ j.toNat)) else none
  | _, _ => none
def fNeg : D → Option D
  | .int i => some (.int (-i))
  | _ => none
section
variable {K : PySem.W.Frag} {P H : Hp}
theorem vint {i : Int} {v : V} (h : View K P H (.int i) v) : v = .int i := by unfold View at h; unfold Den at h; exact h
theorem vstr {i : Tx} {v : V} (h : View K P H (.str i) v) : v = .str (sT i) := by unfold View at h; unfold Den at h; exact h
theorem vbl {i : Bool} {v : V} (h : View K P H (.bl i) v) : v = .bl i := by unfold View at h; unfold Den at h; exact h
theorem vnon {v : V} (h : View K P H .non v) : v = .non := by unfold View at h; unfold Den at h; exact h
theorem dint {i : Int} : Den K P (.int i) (.int i) := by unfold Den; rfl
theorem dstr {i : Tx} : Den K P (.str i) (.str (sT i)) := by unfold Den; rfl
theorem dnon : Den K P .non .non := by unfold Den; rfl
theorem dnewL {p : Addr} {ds : List D} {vs : List V} (s : Same P H) (n : H p = none) (h : DenL K P ds vs) : Al P H (upd P p (.lst vs)) (upd H p (.lst vs)) ∧ Den K (upd P p (.lst vs)) (.lst ds) (.ref p) := by
  have a := Al.new (o := .lst vs) s n
  exact ⟨a, by unfold Den; exact ⟨p, vs, rfl, upd_same, DenL.mono a.2.1 ds vs h⟩⟩
theorem dnewT {p : Addr} {ds : List D} {vs : List V} (s : Same P H) (n : H p = none) (h : DenL K P ds vs) : Al P H (upd P p (.tup vs)) (upd H p (.tup vs)) ∧ Den K (upd P p (.tup vs)) (.tup ds) (.ref p) := by
  have a := Al.new (o := .tup vs) s n
  exact ⟨a, by unfold Den; exact ⟨p, vs, rfl, SqT.of upd_same, DenL.mono a.2.1 ds vs h⟩⟩
/-- a tuple seen in the shared part -/
theorem vtup {ds : List D} {v : V} (s : Same P H) (h : View K P H (.tup ds) v) : ∃ a vs, v = .ref a ∧ SqT K H a vs ∧ DenL K P ds vs := by
  unfold View at h; unfold Den at h
  obtain ⟨a, vs, e, q, l⟩ := h
  exact ⟨a, vs, e, same_t s q, l⟩
theorem vtupD {ds : List D} {v : V} (h : View K P H (.tup ds) v) : Den K P (.tup ds) v := by
  unfold View at h; exact h
theorem vlst {ds : List D} {v : V} (h : View K P H (.lst ds) v) : ∃ a vs, v = .ref a ∧ H a = some (.lst vs) ∧ DenL K P ds vs := h
theorem vrol {ds : List D} {v : V} (s : Same P H) (h : View K P H (.rol ds) v) : ∃ a vs, v = .ref a ∧ SqL K H a vs ∧ DenL K P ds vs := by
  unfold View at h; unfold Den at h
  obtain ⟨a, vs, e, q, l⟩ := h
  exact ⟨a, vs, e, same_l s q, l⟩
end
/-- True + 1 -/
def rAddBI : R2 := fun x y H Q => ∃ k j, x = V.bl k ∧ y = V.int j ∧ Q (.int ((if k = true then (1 : Int) else 0) + j)) H
theorem op_addBI {X : Cx} : OpR X (binaryOp .Add) rAddBI := by
  rintro pins s σ H x y v u Q I rx ry ⟨k, j, rfl, rfl, q⟩
  obtain ⟨t, rfl⟩ := ry
  cases rx
  exact PySem.IntBool.add_bool_int ⟨.int ((if k = true then (1 : Int) else 0) + j), H, I.tok _, ⟨_, rfl⟩, q⟩
def rAddA (K : PySem.W.Frag) : R2 := fun x y H Q => (rI0 (fun i j => .int (i + j))) x y H Q ∨ (∃ i j, x = V.str i ∧ y = V.str j ∧ i.length + j.length ≤ sizeLine ∧ Q (.str (i ++ j)) H) ∨ rCatA K x y H Q ∨ rCat x y H Q ∨ rAddBI x y H Q
theorem op_addA {X : Cx} : OpR X (binaryOp .Add) (rAddA X.K) := op_add.or (op_add_str.or (op_catA.or (op_cat.or op_addBI)))
theorem f_add {K : PySem.W.Frag} : Op2V K (rAddA K) fAdd := by
  intro P H x y d e res Q s v1 v2 hf q
  unfold fAdd at hf
  split at hf
  · cases hf
    exact .inl ⟨_, _, vint v1, vint v2, q _ P H (Al.refl s) dint⟩
  · rename_i a b
    split at hf
    · rename_i hl
      cases hf
      refine .inr (.inl ⟨_, _, vstr v1, vstr v2, by rw [sT_len, sT_len]; exact szOf hl, ?_⟩)
      rw [sT_app]
      exact q _ P H (Al.refl s) dstr
    · cases hf
  · rename_i a b
    split at hf
    · rename_i hl
      cases hf
      obtain ⟨l, vs, e1, h1, l1⟩ := vlst v1
      obtain ⟨m, ws, e2, h2, l2⟩ := vlst v2
      refine .inr (.inr (.inr (.inl ⟨l, m, vs, ws, e1, e2, h1, h2, by rw [l1.len, l2.len]; exact szOf hl, fun p n => ?_⟩)))
      obtain ⟨al, dn⟩ := dnewL s n (DenL.append l1 l2)
      exact q _ _ _ al dn
    · cases hf
  · rename_i a b
    split at hf
    · rename_i hl
      cases hf
      obtain ⟨l, vs, e1, h1, l1⟩ := vtup s v1
      obtain ⟨m, ws, e2, h2, l2⟩ := vtup s v2
      refine .inr (.inr (.inl ⟨l, m, vs, ws, e1, e2, h1, h2, by rw [l1.len, l2.len]; exact szOf hl, fun z => ?_, fun z z2 => ?_, fun z z2 p n => ?_⟩))
      · have za : a = [] := List.eq_nil_of_length_eq_zero (by rw [← l1.len, z]; rfl)
        subst za
        rw [← e2]
        exact q _ P H (Al.refl s) (vtupD v2)
      · have zb : b = [] := List.eq_nil_of_length_eq_zero (by rw [← l2.len, z2]; rfl)
        subst zb
        rw [← e1, List.append_nil] at *
        exact q _ P H (Al.refl s) (vtupD v1)
      · obtain ⟨al, dn⟩ := dnewT s n (DenL.append l1 l2)
        exact q _ _ _ al dn
    · cases hf
  · rename_i a b
    cases hf
    exact .inr (.inr (.inr (.inr ⟨_, _, vbl v1, vint v2, q _ P H (Al.refl s) dint⟩)))
  · cases hf
theorem l_add {K : PySem.W.Frag} : Op2L K (rAddA K) lAdd := by
  intro P H x y d e res Q s v1 v2 hf q
  unfold lAdd at hf
  split at hf
  · rename_i a b
    split at hf
    · rename_i hl
      cases hf
      obtain ⟨l, vs, e1, h1, l1⟩ := vlst v1
      obtain ⟨m, ws, e2, h2, l2⟩ := vlst v2
      exact .inr (.inr (.inr (.inl ⟨l, m, vs, ws, e1, e2, h1, h2, by rw [l1.len, l2.len]; exact szOf hl, fun p n => q p _ n (DenL.append l1 l2)⟩)))
    · cases hf
  · cases hf
theorem f_sub {K : PySem.W.Frag} : Op2V K (rI0 fun i j => .int (i - j)) fSub := by
  intro P H x y d e res Q s v1 v2 hf q
  unfold fSub at hf
  split at hf
  · cases hf
    exact ⟨_, _, vint v1, vint v2, q _ P H (Al.refl s) dint⟩
  · cases hf
theorem okMul_c {i j : Int} (h : okMul i j = true) : CMul i j := by
  unfold okMul at h
  simp only [Bool.or_eq_true, Bool.and_eq_true, decide_eq_true_eq] at h
  exact h
theorem f_mul {K : PySem.W.Frag} : Op2V K (rI CMul fun i j => .int (i * j)) fMul := by
  intro P H x y d e res Q s v1 v2 hf q
  unfold fMul at hf
  split at hf
  · split at hf
    · rename_i h
      cases hf
      exact ⟨_, _, vint v1, vint v2, okMul_c h, q _ P H (Al.refl s) dint⟩
    · cases hf
  · cases hf
theorem l_rep {K : PySem.W.Frag} : Op2L K rRep lRep := by
  intro P H x y d e res Q s v1 v2 hf q
  unfold lRep at hf
  split at hf
  · rename_i a k
    split at hf
    · rename_i h
      cases hf
      obtain ⟨l, vs, e1, h1, l1⟩ := vlst v1
      have rep : ∀ n : Nat, DenL K P (List.replicate n a).flatten (List.replicate n vs).flatten := fun n => by
        induction n with
        | zero => exact DenL.nil
        | succ n ih => rw [List.replicate_succ, List.replicate_succ, List.flatten_cons, List.flatten_cons]; exact DenL.append l1 ih
      refine ⟨l, k, vs, e1, vint v2, h1, by omega, by omega, ?_, fun p n => q p _ n (rep _)⟩
      rw [l1.len]; exact szOf h.2.2
    · cases hf
  · cases hf
theorem f_fdiv {K : PySem.W.Frag} : Op2V K (rI CDiv fun i j => .int (i / j)) fFdiv := by
  intro P H x y d e res Q s v1 v2 hf q
  unfold fFdiv at hf
  split at hf
  · split at hf
    · rename_i h
      cases hf
      exact ⟨_, _, vint v1, vint v2, h, q _ P H (Al.refl s) dint⟩
    · cases hf
  · cases hf
theorem f_mod {K : PySem.W.Frag} : Op2V K (rI (fun _ j => 0 < j) fun i j => .int (i % j)) fMod := by
  intro P H x y d e res Q s v1 v2 hf q
  unfold fMod at hf
  split at hf
  · split at hf
    · rename_i h
      cases hf
      exact ⟨_, _, vint v1, vint v2, h, q _ P H (Al.refl s) dint⟩
    · cases hf
  · cases hf
theorem f_pow {K : PySem.W.Frag} : Op2V K (rI CPow fun i j => .int (i ^ j.toNat)) fPow := by
  intro P H x y d e res Q s v1 v2 hf q
  unfold fPow at hf
  split at hf
  · split at hf
    · rename_i h
      cases hf
      exact ⟨_, _, vint v1, vint v2, h, q _ P H (Al.refl s) dint⟩
    · cases hf
  · cases hf
theorem f_neg {K : PySem.W.Frag} : Op1V K (rU fun i => .int (-i)) fNeg := by
  intro P H x d res Q s v1 hf q
  unfold fNeg at hf
  split at hf
  · cases hf
    exact ⟨_, vint v1, q _ P H (Al.refl s) dint⟩
  · cases hf
/-! ### comparisons -/
mutual
def D.py : D → PyData
  | .non => .none
  | .bl b => .bool b
  | .int i => .int i
  | .str s => .str (sT s)
  | .tup ds => .tuple (D.pyL ds)
  | .lst ds => .list (D.pyL ds)
  | .rol ds => .list (D.pyL ds)
  | _ => .dict []
def D.pyL : List D → List PyData
  | [] => []
  | d :: ds => D.py d :: D.pyL ds
end
mutual
def D.ok : D → Bool
  | .str s => s.all (· < 1114112)
  | .tup ds => D.okL ds
  | .lst ds => D.okL ds
  | .rol ds => D.okL ds
  | .dct _ _ => false
  | .exn _ _ _ => false
  | .obj _ _ _ => false
  | .fn _ => false
  | .adr _ => false
  | _ => true
def D.okL : List D → Bool
  | [] => true
  | d :: ds => D.ok d && D.okL ds
end
mutual
def D.dep : D → Nat
  | .tup ds => D.depL ds + 1
  | .lst ds => D.depL ds + 1
  | .rol ds => D.depL ds + 1
  | _ => 0
def D.depL : List D → Nat
  | [] => 0
  | d :: ds => max (D.dep d) (D.depL ds)
end
mutual
theorem py_ok : ∀ d : D, d.ok = true → d.py.canLay0 = true ∧ d.py.depth = d.dep
  | .non, h => ⟨rfl, rfl⟩
  | .bl b, h => ⟨rfl, rfl⟩
  | .int i, h => ⟨rfl, rfl⟩
  | .str s, h => by
    refine ⟨?_, rfl⟩
    unfold D.ok at h
    show PyData.strOk (sT s) = true
    unfold PyData.strOk sT
    rw [Array.all_eq_true']
    intro x hx
    rw [List.all_eq_true] at h
    exact h x (by simpa using hx)
  | .tup ds, h => by
    unfold D.ok at h
    obtain ⟨a, b⟩ := pyL_ok ds h
    unfold D.py D.dep
    exact ⟨by unfold PyData.canLay0; exact a, by unfold PyData.depth; rw [b]⟩
  | .lst ds, h => by
    unfold D.ok at h
    obtain ⟨a, b⟩ := pyL_ok ds h
    unfold D.py D.dep
    exact ⟨by unfold PyData.canLay0; exact a, by unfold PyData.depth; rw [b]⟩
  | .rol ds, h => by
    unfold D.ok at h
    obtain ⟨a, b⟩ := pyL_ok ds h
    unfold D.py D.dep
    exact ⟨by unfold PyData.canLay0; exact a, by unfold PyData.depth; rw [b]⟩
  | .dct _ _, h => by cases h
  | .exn _ _ _, h => by cases h
  | .obj _ _ _, h => by cases h
  | .fn _, h => by cases h
  | .adr _, h => by cases h
theorem pyL_ok : ∀ ds : List D, D.okL ds = true → PyData.canLayAll0 (D.pyL ds) = true ∧ PyData.depthAll (D.pyL ds) = D.depL ds
  | [], h => ⟨rfl, rfl⟩
  | d :: ds, h => by
    unfold D.okL at h
    rw [Bool.and_eq_true] at h
    obtain ⟨a, b⟩ := py_ok d h.1
    obtain ⟨a', b'⟩ := pyL_ok ds h.2
    unfold D.pyL D.depL
    exact ⟨by unfold PyData.canLayAll0; rw [a, a']; rfl, by unfold PyData.depthAll; rw [b, b']⟩
end
section
variable {K : PySem.W.Frag} {P H : Hp}
mutual
theorem den_dp (s : Same P H) : ∀ (d : D) (v : V), d.ok = true → Den K P d v → Dp K H v d.py
  | .non, v, o, h => by unfold Den at h; subst h; exact .non
  | .bl b, v, o, h => by unfold Den at h; subst h; exact .bl b
  | .int i, v, o, h => by unfold Den at h; subst h; exact .int i
  | .str x, v, o, h => by unfold Den at h; subst h; exact .str _
  | .tup ds, v, o, h => by
    unfold Den at h
    obtain ⟨a, vs, rfl, q, l⟩ := h
    unfold D.ok at o
    unfold D.py
    exact .tup (same_t s q) (denL_dp s ds vs o l)
  | .lst ds, v, o, h => by
    unfold Den at h
    obtain ⟨a, vs, rfl, q, l⟩ := h
    unfold D.ok at o
    unfold D.py
    exact .lst (SqL.of (s a _ q)) (denL_dp s ds vs o l)
  | .rol ds, v, o, h => by
    unfold Den at h
    obtain ⟨a, vs, rfl, q, l⟩ := h
    unfold D.ok at o
    unfold D.py
    exact .lst (same_l s q) (denL_dp s ds vs o l)
  | .dct _ _, v, o, h => by cases o
  | .exn _ _ _, v, o, h => by cases o
  | .obj _ _ _, v, o, h => by cases o
  | .fn _, v, o, h => by cases o
  | .adr _, v, o, h => by cases o
theorem denL_dp (s : Same P H) : ∀ (ds : List D) (vs : List V), D.okL ds = true → DenL K P ds vs → DpAll K H vs (D.pyL ds)
  | [], vs, o, h => by unfold DenL at h; subst h; exact .nil
  | d :: ds, vs, o, h => by
    unfold DenL at h
    obtain ⟨v, r, rfl, h1, h2⟩ := h
    unfold D.okL at o
    rw [Bool.and_eq_true] at o
    unfold D.pyL
    exact .cons (den_dp s d v o.1 h1) (denL_dp s ds r o.2 h2)
end
theorem view_dp (s : Same P H) {d : D} {v : V} (o : d.ok = true) (h : View K P H d v) : Dp K H v d.py := by
  cases d with
  | lst ds =>
    obtain ⟨a, vs, rfl, q, l⟩ := vlst h
    unfold D.ok at o
    unfold D.py
    exact .lst (SqL.of q) (denL_dp s ds vs o l)
  | dct _ _ => cases o
  | exn _ _ _ => cases o
  | obj _ _ _ => cases o
  | fn _ => cases o
  | _ => exact den_dp s _ v o h
end
def D.eqB (d e : D) : Bool := PyData.eqv d.py e.py
def okCmp (d e : D) : Bool := d.ok && e.ok && decide (d.dep ≤ 60) && decide (e.dep ≤ 60)
def fEq : D → D → Option Bool
  | .int i, .int j => some (decide (i = j))
  | .str a, .str b => some (decide (a = b))
  | .bl a, .bl b => some (decide (a = b))
  | .non, .int j => some false
  | .int j, .non => some false
  | .non, .str j => some false
  | .str j, .non => some false
  | .int j, .str k => some false
  | .str j, .int k => some false
  | d, e => if okCmp d e then some (D.eqB d e) else none
def fNe (d e : D) : Option Bool := (fEq d e).map (! ·)
theorem eq_cases (d e : D) : (∃ i j, d = .int i ∧ e = .int j ∧ fEq d e = some (decide (i = j))) ∨ (∃ i j, d = .str i ∧ e = .str j ∧ fEq d e = some (decide (i = j))) ∨ (∃ i j, d = .bl i ∧ e = .bl j ∧ fEq d e = some (decide (i = j))) ∨
    (fEq d e = some false ∧ ((d = .non ∧ ∃ j, e = .int j) ∨ (e = .non ∧ ∃ j, d = .int j) ∨ (d = .non ∧ ∃ j, e = .str j) ∨ (e = .non ∧ ∃ j, d = .str j) ∨ (∃ i j, d = .int i ∧ e = .str j) ∨ (∃ i j, d = .str i ∧ e = .int j))) ∨
    fEq d e = (if okCmp d e then some (D.eqB d e) else none) := by
  cases d <;> cases e <;> first
    | exact .inl ⟨_, _, rfl, rfl, rfl⟩
    | exact .inr (.inl ⟨_, _, rfl, rfl, rfl⟩)
    | exact .inr (.inr (.inl ⟨_, _, rfl, rfl, rfl⟩))
    | exact .inr (.inr (.inr (.inl ⟨rfl, .inl ⟨rfl, _, rfl⟩⟩)))
    | exact .inr (.inr (.inr (.inl ⟨rfl, .inr (.inl ⟨rfl, _, rfl⟩)⟩)))
    | exact .inr (.inr (.inr (.inl ⟨rfl, .inr (.inr (.inl ⟨rfl, _, rfl⟩))⟩)))
    | exact .inr (.inr (.inr (.inl ⟨rfl, .inr (.inr (.inr (.inl ⟨rfl, _, rfl⟩)))⟩)))
    | exact .inr (.inr (.inr (.inl ⟨rfl, .inr (.inr (.inr (.inr (.inl ⟨_, _, rfl, rfl⟩))))⟩)))
    | exact .inr (.inr (.inr (.inl ⟨rfl, .inr (.inr (.inr (.inr (.inr ⟨_, _, rfl, rfl⟩))))⟩)))
    | exact .inr (.inr (.inr (.inr rfl)))
def rEqA (K : PySem.W.Frag) : R2 := fun x y H Q => rEq x y H Q ∨ rEqD K x y H Q
def rNeA (K : PySem.W.Frag) : R2 := fun x y H Q => rNe x y H Q ∨ rNeD K x y H Q
theorem op_eqA {X : Cx} (hu : X.A.units + 64 < cLine) : OpR X (compareOp .Eq) (rEqA X.K) := op_eq.or (op_eqD hu)
theorem op_neA {X : Cx} (hu : X.A.units + 64 < cLine) : OpR X (compareOp .NotEq) (rNeA X.K) := op_ne.or (op_neD hu)
theorem shaped_of {d : D} (o : d.ok = true) (h : d.dep ≤ 60) : SeqAt.shaped d.py = true := by
  unfold SeqAt.shaped
  obtain ⟨a, b⟩ := py_ok d o
  rw [a, b]
  simp; omega
theorem str_eq {i j : Tx} : decide (V.str (sT i) = V.str (sT j)) = decide (i = j) := by
  by_cases h : i = j
  · subst h; simp
  · rw [decide_eq_false h, decide_eq_false]
    intro e
    exact h (sT_inj (by injection e))
theorem f_eqG {K : PySem.W.Frag} {P H : Hp} {x y : V} {d e : D} {res : Bool} {Q : VK} (s : Same P H) (v1 : View K P H d x) (v2 : View K P H e y) (hf : fEq d e = some res) (q : Q (.bl res) H) : rEqA K x y H Q := by
  rcases eq_cases d e with ⟨i, j, rfl, rfl, h⟩ | ⟨i, j, rfl, rfl, h⟩ | ⟨i, j, rfl, rfl, h⟩ | ⟨h, h2⟩ | h <;> rw [h] at hf
  · cases hf
    rw [vint v1, vint v2]
    refine .inl ⟨rfl, ?_⟩
    simpa using q
  · cases hf
    rw [vstr v1, vstr v2]
    refine .inl ⟨rfl, ?_⟩
    rw [str_eq]; exact q
  · cases hf
    rw [vbl v1, vbl v2]
    refine .inl ⟨rfl, ?_⟩
    simpa using q
  · cases hf
    rcases h2 with ⟨rfl, j, rfl⟩ | ⟨rfl, j, rfl⟩ | ⟨rfl, j, rfl⟩ | ⟨rfl, j, rfl⟩ | ⟨i, j, rfl, rfl⟩ | ⟨i, j, rfl, rfl⟩
    · rw [vnon v1, vint v2]; exact .inl ⟨rfl, by simpa using q⟩
    · rw [vint v1, vnon v2]; exact .inl ⟨rfl, by simpa using q⟩
    · rw [vnon v1, vstr v2]; exact .inl ⟨rfl, by simpa using q⟩
    · rw [vstr v1, vnon v2]; exact .inl ⟨rfl, by simpa using q⟩
    · rw [vint v1, vstr v2]; exact .inl ⟨rfl, by simpa using q⟩
    · rw [vstr v1, vint v2]; exact .inl ⟨rfl, by simpa using q⟩
  · split at hf
    · rename_i o
      unfold okCmp at o
      simp only [Bool.and_eq_true, decide_eq_true_eq] at o
      obtain ⟨⟨⟨o1, o2⟩, o3⟩, o4⟩ := o
      cases hf
      exact .inr ⟨d.py, e.py, view_dp s o1 v1, view_dp s o2 v2, shaped_of o1 o3, shaped_of o2 o4, q⟩
    · cases hf
theorem f_eq {K : PySem.W.Frag} : Op2B K (rEqA K) fEq := fun P H x y d e res Q s v1 v2 hf q => f_eqG s v1 v2 hf q
theorem f_ne {K : PySem.W.Frag} : Op2B K (rNeA K) fNe := fun P H x y d e res Q s v1 v2 hf q => by
  unfold fNe at hf
  cases h : fEq d e with
  | none => rw [h] at hf; cases hf
  | some b =>
    rw [h] at hf
    cases hf
    have g := f_eqG (Q := fun v H' => ∃ b, v = .bl b ∧ Q (.bl (!b)) H') s v1 v2 h ⟨b, rfl, q⟩
    rcases g with ⟨h1, b', e1, q1⟩ | ⟨d', e', h1, h2, h3, h4, b', e1, q1⟩
    · cases e1; exact .inl ⟨h1, q1⟩
    · cases e1; exact .inr ⟨d', e', h1, h2, h3, h4, q1⟩
def cLt : D → D → Option Bool
  | .int i, .int j => some (decide (i < j))
  | .str i, .str j => some (decide (i < j))
  | _, _ => none
def cLe : D → D → Option Bool
  | .int i, .int j => some (decide (i ≤ j))
  | _, _ => none
def cGt : D → D → Option Bool
  | .int i, .int j => some (decide (j < i))
  | _, _ => none
def cGe : D → D → Option Bool
  | .int i, .int j => some (decide (j ≤ i))
  | _, _ => none
def rLtA : R2 := fun x y H Q => (rI0 fun i j => .bl (decide (i < j))) x y H Q ∨ ∃ i j, x = V.str i ∧ y = V.str j ∧ Q (.bl (decide (i.cps.toList < j.cps.toList))) H
theorem op_ltA {X : Cx} : OpR X (compareOp .Lt) rLtA := op_lt.or op_lt_str
theorem f_lt {K : PySem.W.Frag} : Op2B K rLtA cLt := fun P H x y d e res Q s v1 v2 hf q => by
  unfold cLt at hf
  split at hf
  · cases hf; exact .inl ⟨_, _, vint v1, vint v2, q⟩
  · cases hf
    refine .inr ⟨_, _, vstr v1, vstr v2, ?_⟩
    rw [sT_cps, sT_cps]; exact q
  · cases hf
theorem f_le {K : PySem.W.Frag} : Op2B K (rI0 fun i j => .bl (decide (i ≤ j))) cLe := fun P H x y d e res Q s v1 v2 hf q => by
  unfold cLe at hf
  split at hf
  · cases hf; exact ⟨_, _, vint v1, vint v2, q⟩
  · cases hf
theorem f_gt {K : PySem.W.Frag} : Op2B K (rI0 fun i j => .bl (decide (j < i))) cGt := fun P H x y d e res Q s v1 v2 hf q => by
  unfold cGt at hf
  split at hf
  · cases hf; exact ⟨_, _, vint v1, vint v2, q⟩
  · cases hf
theorem f_ge {K : PySem.W.Frag} : Op2B K (rI0 fun i j => .bl (decide (j ≤ i))) cGe := fun P H x y d e res Q s v1 v2 hf q => by
  unfold cGe at hf
  split at hf
  · cases hf; exact ⟨_, _, vint v1, vint v2, q⟩
  · cases hf
end Od
namespace Od
open PySem PySem.Spec L2
open PyProof.Rows hiding St
/-! ### in -/
section
variable {K : PySem.W.Frag} {P H : Hp}
end
/-! ### subscripts -/
def kLook (ks : List DK) (vs : List D) (k : DK) : Option D := ((ks.zip vs).find? fun p => decide (p.1 = k)).map Prod.snd
def fIdx : D → D → Option D
  | .lst ds, .int i => atI ds i
  | .rol ds, .int i => atI ds i
  | .tup ds, .int i => atI ds i
  | .str s, .int i => if s.length ≤ 1000000 then (atI s i).map fun c => .str [c] else none
  | .dct ks vs, .int i => kLook ks vs (.inl i)
  | .dct ks vs, .str i => kLook ks vs (.inr i)
  | _, _ => none
theorem ix_dct {X : Cx} (hu : X.A.units + 1 < cLine) : IxR X (fun x y H Q => ∃ a v, x = .ref a ∧ DGet H a y (some v) ∧ Q v H) := by
  intro value slice pins s σ H x y v u Q I rx ry h hs
  obtain ⟨a, z, rfl, g, q⟩ := h
  cases rx
  have hT := dict_typeIs I g
  unfold subscriptTail
  refine wpAny_bind ?_
  rw [getitemInPython_of_ne hT.not_modules]
  refine wpAny_bind (wpAny_specialOf hT PySem.F.slot_dict_getitem.lookup ?_)
  have fin : wpAny (model X.prog X.w) X.A (subscripted slice false (.ref a) u) (fun r s₃ => wpAny (model X.prog X.w) X.A (letTemporaryGo value (.ref a) r >>= fun _ => pure r) (EP X pins σ Q) X.xe s₃) X.xe s := by
    rw [hs]
    exact wpAny_operating (wpAny_mono (d_getItem hu I g ry fun w' s' I' r' => (show EP X pins σ Q w' s' from ⟨z, H, I', r', q⟩)) (fun r s₃ h₃ => wpAny_bind (wpAny_letTemporaryGo (wpAny_pure h₃))) fun _ _ x => x)
  first
    | exact wpAny_pure (wpAny_bind fin)
    | exact wpAny_bind (wpAny_pure (wpAny_bind fin))
    | exact wpAny_bind fin
def rIxA (K : PySem.W.Frag) : R2 := fun x y H Q => rIx K x y H Q ∨ ∃ a v, x = V.ref a ∧ DGet H a y (some v) ∧ Q v H
theorem ix_A {X : Cx} (hu : X.A.units + 1 < cLine) : IxR X (rIxA X.K) := ix_seq.or (ix_dct hu)
theorem atI_den {K : PySem.W.Frag} {P : Hp} {ds : List D} {vs : List V} {i : Int} {d : D} (l : DenL K P ds vs) (h : atI ds i = some d) : ∃ v, atI vs i = some v ∧ Den K P d v := by
  unfold atI at h ⊢
  rw [l.len]
  cases e : ixN ds.length i with
  | none => rw [e] at h; cases h
  | some j =>
    rw [e] at h
    exact l.get h
theorem kLook_v {K : PySem.W.Frag} {P : Hp} : ∀ {ks : List DK} {ds : List D} {ws : List (Key × V)} {k : DK} {d : D}, ws.map Prod.fst = ks.map kK → DenL K P ds (ws.map Prod.snd) → kLook ks ds k = some d → ∃ v, valV ws (kK k) = some v ∧ Den K P d v
  | [], ds, ws, k, d, _, _, h => by simp [kLook] at h
  | k0 :: ks, [], ws, k, d, _, _, h => by simp [kLook] at h
  | k0 :: ks, d0 :: ds, [], k, d, e, _, h => by simp at e
  | k0 :: ks, d0 :: ds, (j, v) :: ws, k, d, e, l, h => by
    simp only [List.map_cons, List.cons.injEq] at e
    simp only [List.map_cons] at l
    unfold DenL at l
    obtain ⟨v', r, e2, h1, h2⟩ := l
    simp only [List.cons.injEq] at e2
    obtain ⟨rfl, rfl⟩ := e2
    unfold kLook at h
    rw [List.zip_cons_cons, List.find?_cons] at h
    by_cases hk : k0 = k
    · subst hk
      rw [decide_eq_true rfl] at h
      simp only [Option.map_some, Option.some.injEq] at h
      subst h
      exact ⟨v, valV_pos (p := (j, v)) e.1, h1⟩
    · rw [decide_eq_false hk] at h
      have hj : ¬ (j, v).1 = kK k := fun z => hk (kK_inj (e.1.symm.trans z))
      rw [valV_neg hj]
      exact kLook_v e.2 h2 h
theorem f_idx {K : PySem.W.Frag} : Op2V K (rIxA K) fIdx := by
  intro P H x y d e res Q s v1 v2 hf q
  unfold fIdx at hf
  split at hf
  · obtain ⟨a, vs, rfl, h, l⟩ := vlst v1
    obtain ⟨v, hv, dn⟩ := atI_den l hf
    exact .inl (.inl ⟨a, vs, _, v, rfl, vint v2, SqL.of h, hv, q v P H (Al.refl s) dn⟩)
  · obtain ⟨a, vs, rfl, h, l⟩ := vrol s v1
    obtain ⟨v, hv, dn⟩ := atI_den l hf
    exact .inl (.inl ⟨a, vs, _, v, rfl, vint v2, h, hv, q v P H (Al.refl s) dn⟩)
  · obtain ⟨a, vs, rfl, h, l⟩ := vtup s v1
    obtain ⟨v, hv, dn⟩ := atI_den l hf
    exact .inl (.inr (.inl ⟨a, vs, _, v, rfl, vint v2, h, hv, q v P H (Al.refl s) dn⟩))
  · rename_i z i
    split at hf
    · rename_i hz
      cases e : atI z i with
      | none => rw [e] at hf; cases hf
      | some c =>
        rw [e] at hf
        cases hf
        exact .inl (.inr (.inr ⟨sT z, i, c, vstr v1, vint v2, by rw [sT_len]; exact szOf hz, by rw [sT_cps]; exact e, q _ P H (Al.refl s) dstr⟩))
    · cases hf
  · obtain ⟨a, ws, rfl, h, k, l⟩ := v1
    obtain ⟨v, hv, dn⟩ := kLook_v k l hf
    rw [vint v2]
    exact .inr ⟨a, v, rfl, by rw [← hv]; exact DGet.k (k := .inl _) h, q v P H (Al.refl s) dn⟩
  · obtain ⟨a, ws, rfl, h, k, l⟩ := v1
    obtain ⟨v, hv, dn⟩ := kLook_v k l hf
    rw [vstr v2]
    exact .inr ⟨a, v, rfl, by rw [← hv]; exact DGet.k (k := .inr _) h, q v P H (Al.refl s) dn⟩
  · cases hf
section
variable {X : Cx} {E : WX} {a b c : Expr} {A B C : HM} {pos : Pos}
theorem ev_ix {r : R2} {f : D → D → Option D} (hr : IxR X r) (hf : Op2V X.K r f) (ha : EH X E a A) (hb : EH X E b B) (hs : PlainIx b) : EV X E (.Subscript a b pos) (e2 f A B) :=
  PE.imp (pe_ix hr ha hb hs) fun σ H Q h => by
    obtain ⟨P, W, ρ, w, g⟩ := r2_of (G := fun r ρ => .ok (r, ρ)) h
    exact ⟨P, W, ρ, w, g.mono fun x H1 ⟨P1, W1, ρ1, w1, g1⟩ => ⟨P1, W1, ρ1, w1, g1.mono fun y H2 ⟨P2, W2, ρ2, d, e, res, w2, v1, v2, hfe, g2⟩ =>
      hf P2 H2 x y d e res Q w2.same v1 v2 hfe (fin_v w2 g2)⟩⟩
end
/-! slices -/
def cutD {α : Type} (xs : List α) (lo hi : Option Int) : List α := (xs.drop (HT.sIx xs.length 0 lo)).take (HT.sIx xs.length xs.length hi - HT.sIx xs.length 0 lo)
def lCut (lo hi : Option Int) : D → Option (List D)
  | .lst ds => some (cutD ds lo hi)
  | .rol ds => some (cutD ds lo hi)
  | _ => none
def intOf : D → Option Int
  | .int i => some i
  | _ => none
def oN : Env → Res (Option Int × Env) := fun ρ => .ok (none, ρ)
def oS (F : EM) : Env → Res (Option Int × Env) := fun ρ => F ρ >>= fun a => Res.of (intOf a.1) >>= fun i => .ok (some i, a.2)
def tCut (A : HM) (lo hi : Env → Res (Option Int × Env)) : OM := fun ρ => A ρ >>= fun a => lo a.2 >>= fun l => hi l.2 >>= fun u => Res.of ((getH a.1 u.2).bind (lCut l.1 u.1)) >>= fun r => .ok (.lst r, u.2)
def ORel (K : PySem.W.Frag) (mg : Str → Option Value) (P : Hp) (W : Own) (H : Hp) (σ : St) (a : Option Int × Env) (v : Option Int) : Prop := Wd K mg P W H σ a.2 ∧ a.1 = v
def EO (X : Cx) (E : WX) (e : Option Expr) (F : Env → Res (Option Int × Env)) : Prop := PO X e (rX X.K X.mg E (ORel X.K X.mg) F)
theorem PO.imp {X : Cx} {e : Option Expr} {t t' : TO} (h : PO X e t) (q : ∀ σ H Q, t' σ H Q → t σ H Q) : PO X e t' := ⟨fun pins s σ H Q I hq => h.run pins s σ H Q I (q σ H Q hq)⟩
theorem intOf_some {d : D} {i : Int} (h : intOf d = some i) : d = .int i := by cases d <;> simp [intOf] at h; rw [h]
section
variable {X : Cx} {E : WX} {a b c : Expr} {A B C : HM} {pos : Pos}
theorem eo_n : EO X E none oN := PO.imp po_none fun σ H Q ⟨P, W, ρ, w, g⟩ => g none P W H (Step.refl P W H) ⟨w, rfl⟩
theorem eo_s {e : Expr} {F : EM} (h : EV X E e F) : EO X E (some e) (oS F) := PO.imp (po_some h) fun σ H Q ⟨P, W, ρ, w, g⟩ =>
  ⟨P, W, ρ, w, (Go.bind g).mono fun v H1 ⟨P1, W1, a, st, ⟨w1, d1⟩, k⟩ => by
    obtain ⟨i, e, k⟩ := Go.of k
    rw [intOf_some e] at d1
    unfold Den at d1
    exact ⟨i, d1, k (some i) P1 W1 H1 (Step.refl P1 W1 H1) ⟨w1, rfl⟩⟩⟩
def rSlX (K : PySem.W.Frag) : V → Option Int → Option Int → Hp → VK → Prop := fun x lo hi H Q => rSlL K x lo hi H Q ∨ rSlA K x lo hi H Q ∨ rSlS x lo hi H Q
theorem sl_X {X : Cx} : SlR X (rSlX X.K) := sl_list.or (sl_tupA.or sl_str)
theorem cutV_den {K : PySem.W.Frag} {P : Hp} {ds : List D} {vs : List V} {lo hi : Option Int} (l : DenL K P ds vs) : DenL K P (cutD ds lo hi) (cutV vs lo hi) := by
  unfold cutD cutV
  rw [l.len]
  exact DenL.take _ (DenL.drop _ l)
theorem l_cut {K : PySem.W.Frag} {P H : Hp} {x : V} {d : D} {res : List D} {lo hi : Option Int} {Q : VK} (s : Same P H) (v1 : View K P H d x) (hf : lCut lo hi d = some res) (q : ∀ p vs, H p = none → DenL K P res vs → Q (.ref p) (upd H p (.lst vs))) : rSlX K x lo hi H Q := by
  unfold lCut at hf
  split at hf
  · cases hf
    obtain ⟨a, vs, rfl, h, l⟩ := vlst v1
    exact .inl ⟨a, vs, rfl, SqL.of h, fun p n => q p _ n (cutV_den l)⟩
  · cases hf
    obtain ⟨a, vs, rfl, h, l⟩ := vrol s v1
    exact .inl ⟨a, vs, rfl, h, fun p n => q p _ n (cutV_den l)⟩
  · cases hf
theorem et_cut {e : Expr} {lo hi : Option Expr} {p2 : Pos} {L U : Env → Res (Option Int × Env)} (he : EH X E e A) (hl : EO X E lo L) (hu : EO X E hi U) : ET X E (.Subscript e (.Slice lo hi none p2) pos) (tCut A L U) :=
  PE.imp (pe_slice sl_X he hl hu) fun σ H Q ⟨P, W, ρ, w, g⟩ =>
    ⟨P, W, ρ, w, (Go.bind g).mono fun x H1 ⟨P1, W1, a, s1, ⟨w1, k1⟩, g1⟩ => ⟨P1, W1, a.2, w1, (Go.bind g1).mono fun l H2 ⟨P2, W2, b, s2, ⟨w2, k2⟩, g2⟩ =>
      ⟨P2, W2, b.2, w2, (Go.bind g2).mono fun u H3 ⟨P3, W3, c, s3, ⟨w3, k3⟩, g3⟩ => by
        obtain ⟨r, e, g4⟩ := Go.of g3
        obtain ⟨d, hd, hf⟩ := opt1 e
        subst k2; subst k3
        exact l_cut w3.same (Hok.view w3 (Hok.step (s2.trans s3).1 k1) hd) hf (fin_l w3 g4)⟩⟩⟩
end
/-! ### tests -/
def bVal (F : EM) : BM := fun ρ => F ρ >>= fun a => match a.1 with
  | .bl b => .ok (b, a.2)
  | _ => .fail
def bNot (F : BM) : BM := fun ρ => F ρ >>= fun a => .ok (!a.1, a.2)
def bAnd (F G : BM) : BM := fun ρ => F ρ >>= fun a => if a.1 then G a.2 else .ok (false, a.2)
def bOr (F G : BM) : BM := fun ρ => F ρ >>= fun a => if a.1 then .ok (true, a.2) else G a.2
def eIf (T : BM) (A B : EM) : EM := fun ρ => T ρ >>= fun a => if a.1 then A a.2 else B a.2
/-- and, or of truths, as values -/
def eAnd (A B : EM) : EM := fun ρ => A ρ >>= fun a => match a.1 with
  | .bl true => B a.2
  | .bl false => .ok (.bl false, a.2)
  | _ => .fail
def eOr (A B : EM) : EM := fun ρ => A ρ >>= fun a => match a.1 with
  | .bl true => .ok (.bl true, a.2)
  | .bl false => B a.2
  | _ => .fail
def EW (X : Cx) (E : WX) (e : Expr) (F : BM) : Prop := PW X e (rB X.K X.mg E F)
theorem PW.imp {X : Cx} {e : Expr} {t t' : TT} (h : PW X e t) (q : ∀ σ H Q, t' σ H Q → t σ H Q) : PW X e t' := ⟨fun wh pins s σ H Q I hq => h.run wh pins s σ H Q I (q σ H Q hq)⟩
section
variable {X : Cx} {E : WX} {a b c : Expr} {F G : BM} {A B : EM} {pos : Pos} {rest : List Expr}
theorem eb_val {e : Expr} (h : EV X E e A) (he : ∀ whole, isTrue e X.env whole = (do let v ← whole; standAt e.pos; holding [v] (truthy v)) := by intro _; rfl) : EB X E e (bVal A) :=
  PT.imp (pt_val h he) fun σ H Q ⟨P, W, ρ, w, g⟩ => ⟨P, W, ρ, w, (Go.bindB g).mono fun v H1 ⟨P1, W1, a, st, ⟨w1, d1⟩, k⟩ => by
    obtain ⟨d, ρ1⟩ := a
    cases d with
    | bl b =>
      unfold Den at d1
      exact ⟨b, d1, k P1 W1 H1 (Step.refl P1 W1 H1) w1⟩
    | _ => exact k.elim⟩
theorem eb_not (h : EB X E a F) : EB X E (.UnaryOp .Not a pos) (bNot F) :=
  PT.imp (pt_not h) fun σ H Q ⟨P, W, ρ, w, g⟩ => ⟨P, W, ρ, w, (GoB.bindB g).mono fun b H1 ⟨P1, W1, ρ1, st, w1, k⟩ => k P1 W1 H1 (Step.refl P1 W1 H1) w1⟩
theorem eb_w (h : EW X E a F) : EB X E a F := h.pt
theorem ew_and1 (h : EB X E a F) : EW X E (.BoolOp .And [a] pos) F := pw_and1 h
theorem ew_or1 (h : EB X E a F) : EW X E (.BoolOp .Or [a] pos) F := pw_or1 h
theorem ew_and (h : EB X E a F) (g : EW X E (.BoolOp .And (b :: rest) pos) G) : EW X E (.BoolOp .And (a :: b :: rest) pos) (bAnd F G) :=
  PW.imp (pw_and h g) fun σ H Q ⟨P, W, ρ, w, g⟩ => ⟨P, W, ρ, w, (GoB.bindB g).mono fun b H1 ⟨P1, W1, ρ1, st, w1, k⟩ => by
    cases b with
    | true => exact ⟨P1, W1, ρ1, w1, k⟩
    | false => exact k P1 W1 H1 (Step.refl P1 W1 H1) w1⟩
theorem ew_or (h : EB X E a F) (g : EW X E (.BoolOp .Or (b :: rest) pos) G) : EW X E (.BoolOp .Or (a :: b :: rest) pos) (bOr F G) :=
  PW.imp (pw_or h g) fun σ H Q ⟨P, W, ρ, w, g⟩ => ⟨P, W, ρ, w, (GoB.bindB g).mono fun b H1 ⟨P1, W1, ρ1, st, w1, k⟩ => by
    cases b with
    | true => exact k P1 W1 H1 (Step.refl P1 W1 H1) w1
    | false => exact ⟨P1, W1, ρ1, w1, k⟩⟩
theorem ev_one {op} (h : EV X E a A) : EV X E (.BoolOp op [a] pos) A := pe_one h
theorem ev_and (h : EV X E a A) (g : EV X E (.BoolOp .And (b :: rest) pos) B) : EV X E (.BoolOp .And (a :: b :: rest) pos) (eAnd A B) :=
  PE.imp (pe_and h g) fun σ H Q ⟨P, W, ρ, w, g⟩ => ⟨P, W, ρ, w, (Go.bind g).mono fun v H1 ⟨P1, W1, a, st, ⟨w1, d1⟩, k⟩ => by
    obtain ⟨d, ρ1⟩ := a
    cases d with
    | bl b =>
      unfold Den at d1
      refine ⟨b, d1, ?_⟩
      cases b with
      | true => exact ⟨P1, W1, ρ1, w1, k⟩
      | false => exact k (.bl false) P1 W1 H1 (Step.refl P1 W1 H1) ⟨w1, by unfold Den; rfl⟩
    | _ => exact k.elim⟩
theorem ev_or (h : EV X E a A) (g : EV X E (.BoolOp .Or (b :: rest) pos) B) : EV X E (.BoolOp .Or (a :: b :: rest) pos) (eOr A B) :=
  PE.imp (pe_or h g) fun σ H Q ⟨P, W, ρ, w, g⟩ => ⟨P, W, ρ, w, (Go.bind g).mono fun v H1 ⟨P1, W1, a, st, ⟨w1, d1⟩, k⟩ => by
    obtain ⟨d, ρ1⟩ := a
    cases d with
    | bl b =>
      unfold Den at d1
      refine ⟨b, d1, ?_⟩
      cases b with
      | false => exact ⟨P1, W1, ρ1, w1, k⟩
      | true => exact k (.bl true) P1 W1 H1 (Step.refl P1 W1 H1) ⟨w1, by unfold Den; rfl⟩
    | _ => exact k.elim⟩
theorem ev_if (h : EB X E c F) (ha : EV X E a A) (hb : EV X E b B) : EV X E (.IfExp c a b pos) (eIf F A B) :=
  PE.imp (pe_ifExp h ha hb) fun σ H Q ⟨P, W, ρ, w, g⟩ => ⟨P, W, ρ, w, (GoB.bind g).mono fun b H1 ⟨P1, W1, ρ1, st, w1, k⟩ => by
    cases b with
    | true => exact ⟨P1, W1, ρ1, w1, k⟩
    | false => exact ⟨P1, W1, ρ1, w1, k⟩⟩
end
end Od
namespace Od
open PySem PySem.Spec L2
open PyProof.Rows hiding St
/-! ### lists of arguments -/
def hL : List HM → Env → Res (List Hd × Env)
  | [], ρ => .ok ([], ρ)
  | A :: As, ρ => A ρ >>= fun a => hL As a.2 >>= fun r => .ok (a.1 :: r.1, r.2)
def vL : List EM → Env → Res (List D × Env)
  | [], ρ => .ok ([], ρ)
  | A :: As, ρ => A ρ >>= fun a => vL As a.2 >>= fun r => .ok (a.1 :: r.1, r.2)
def getL : List Hd → Env → Option (List D)
  | [], _ => some []
  | h :: hs, ρ => (getH h ρ).bind fun d => (getL hs ρ).bind fun ds => some (d :: ds)
section
variable (K : PySem.W.Frag) (mg : Str → Option Value)
def HokL (P : Hp) (σ : St) : List Hd → List V → Prop
  | [], vs => vs = []
  | h :: hs, vs => ∃ v r, vs = v :: r ∧ Hok K P σ h v ∧ HokL P σ hs r
def ViewL (P H : Hp) : List D → List V → Prop
  | [], vs => vs = []
  | d :: ds, vs => ∃ v r, vs = v :: r ∧ View K P H d v ∧ ViewL P H ds r
def HLRel (P : Hp) (W : Own) (H : Hp) (σ : St) (a : List Hd × Env) (vs : List V) : Prop := Wd K mg P W H σ a.2 ∧ HokL K P σ a.1 vs
def VLRel (P : Hp) (W : Own) (H : Hp) (σ : St) (a : List D × Env) (vs : List V) : Prop := Wd K mg P W H σ a.2 ∧ DenL K P a.1 vs
end
def EAH (X : Cx) (E : WX) (es : List Expr) (As : List HM) : Prop := PA X es (rX X.K X.mg E (HLRel X.K X.mg) (hL As))
def EAV (X : Cx) (E : WX) (es : List Expr) (As : List EM) : Prop := PA X es (rX X.K X.mg E (VLRel X.K X.mg) (vL As))
section
variable {K : PySem.W.Frag} {mg : Str → Option Value} {P P' H H' : Hp} {W W' : Own} {σ : St} {ρ : Env}
theorem HokL.step (s : Same P P') : ∀ {hs : List Hd} {vs : List V}, HokL K P σ hs vs → HokL K P' σ hs vs
  | [], vs, h => h
  | h0 :: hs, vs, h => by
    obtain ⟨v, r, e, h1, h2⟩ := h
    exact ⟨v, r, e, Hok.step s h1, HokL.step s h2⟩
theorem HokL.view (w : Wd K mg P W H σ ρ) : ∀ {hs : List Hd} {vs : List V} {ds : List D}, HokL K P σ hs vs → getL hs ρ = some ds → ViewL K P H ds vs
  | [], vs, ds, h, g => by
    have : ([] : List D) = ds := Option.some.inj g
    subst this
    exact h
  | h0 :: hs, vs, ds, h, g => by
    obtain ⟨v, r, e, h1, h2⟩ := h
    unfold getL at g
    obtain ⟨d, g1, g2⟩ := opt1 g
    cases e3 : getL hs ρ with
    | none => rw [e3] at g2; cases g2
    | some ds' =>
      rw [e3] at g2
      have : d :: ds' = ds := Option.some.inj g2
      subst this
      exact ⟨v, r, e, Hok.view w h1 g1, HokL.view w h2 e3⟩
end
section
variable {X : Cx} {E : WX} {e : Expr} {es : List Expr}
theorem eah_nil : EAH X E [] [] := PA.imp pa_nil fun σ H Q ⟨P, W, ρ, w, g⟩ => g [] P W H (Step.refl P W H) ⟨w, rfl⟩
theorem eah_cons {A : HM} {As : List HM} (ha : EH X E e A) (hr : EAH X E es As) (hs : starEach (e :: es) X.env = (false, eval e X.env) :: starEach es X.env := by rfl) : EAH X E (e :: es) (A :: As) :=
  PA.imp (pa_cons ha hr hs) fun σ H Q ⟨P, W, ρ, w, g⟩ => ⟨P, W, ρ, w, (Go.bind g).mono fun x H1 ⟨P1, W1, a, s1, ⟨w1, k1⟩, g1⟩ => ⟨P1, W1, a.2, w1, (Go.bind g1).mono fun vs H2 ⟨P2, W2, b, s2, ⟨w2, k2⟩, g2⟩ =>
    g2 (x :: vs) P2 W2 H2 (Step.refl P2 W2 H2) ⟨w2, x, vs, rfl, Hok.step s2.1 k1, k2⟩⟩⟩
theorem eav_nil : EAV X E [] [] := PA.imp pa_nil fun σ H Q ⟨P, W, ρ, w, g⟩ => g [] P W H (Step.refl P W H) ⟨w, DenL.nil⟩
theorem eav_cons {A : EM} {As : List EM} (ha : EV X E e A) (hr : EAV X E es As) (hs : starEach (e :: es) X.env = (false, eval e X.env) :: starEach es X.env := by rfl) : EAV X E (e :: es) (A :: As) :=
  PA.imp (pa_cons ha hr hs) fun σ H Q ⟨P, W, ρ, w, g⟩ => ⟨P, W, ρ, w, (Go.bind g).mono fun x H1 ⟨P1, W1, a, s1, ⟨w1, k1⟩, g1⟩ => ⟨P1, W1, a.2, w1, (Go.bind g1).mono fun vs H2 ⟨P2, W2, b, s2, ⟨w2, k2⟩, g2⟩ =>
    g2 (x :: vs) P2 W2 H2 (Step.refl P2 W2 H2) ⟨w2, DenL.cons (Den.mono s2.1 _ _ k1) k2⟩⟩⟩
end
/-! ### displays -/
def eTup (As : List EM) : EM := fun ρ => vL As ρ >>= fun a => if a.1.length ≤ 1000000 then .ok (.tup a.1, a.2) else .fail
def tLst (As : List EM) : OM := fun ρ => vL As ρ >>= fun a => if a.1.length ≤ 1000000 then .ok (.lst a.1, a.2) else .fail
section
variable {X : Cx} {E : WX} {es : List Expr} {As : List EM} {pos : Pos}
theorem ev_tup {k} (h : EAV X E es As) : EV X E (.Tuple es k pos) (eTup As) := PE.imp (pe_tup h) fun σ H Q ⟨P, W, ρ, w, g⟩ =>
  ⟨P, W, ρ, w, (Go.bind g).mono fun vs H1 ⟨P1, W1, a, s1, ⟨w1, k1⟩, g1⟩ => by
    split at g1
    · rename_i hl
      refine ⟨by rw [k1.len]; exact szOf hl, fun p n => ?_⟩
      obtain ⟨al, dn⟩ := dnewT w1.same n k1
      exact fin_v w1 g1 _ _ _ al dn
    · exact g1.elim⟩
theorem et_lst (h : EAV X E es As) : ET X E (.List es pos) (tLst As) := PE.imp (pe_lst h) fun σ H Q ⟨P, W, ρ, w, g⟩ =>
  ⟨P, W, ρ, w, (Go.bind g).mono fun vs H1 ⟨P1, W1, a, s1, ⟨w1, k1⟩, g1⟩ => by
    split at g1
    · rename_i hl
      exact ⟨by rw [k1.len]; exact szOf hl, fun p n => fin_l w1 g1 p _ n k1⟩
    · exact g1.elim⟩
end
/-! ### calls of built-ins -/
def eCB (f : List D → Option D) (As : List HM) : EM := fun ρ => hL As ρ >>= fun a => Res.of ((getL a.1 a.2).bind f) >>= fun r => .ok (r, a.2)
def tCBL (f : List D → Option (List D)) (As : List HM) : OM := fun ρ => hL As ρ >>= fun a => Res.of ((getL a.1 a.2).bind f) >>= fun r => .ok (.lst r, a.2)
def CbV (K : PySem.W.Frag) (r : List V → Hp → VK → Prop) (f : List D → Option D) : Prop := ∀ (P H : Hp) (vs : List V) (ds : List D) (res : D) (Q : VK), Same P H → ViewL K P H ds vs → f ds = some res → (∀ v P' H', Al P H P' H' → Den K P' res v → Q v H') → r vs H Q
def CbL (K : PySem.W.Frag) (r : List V → Hp → VK → Prop) (f : List D → Option (List D)) : Prop := ∀ (P H : Hp) (vs : List V) (ds : List D) (res : List D) (Q : VK), Same P H → ViewL K P H ds vs → f ds = some res → (∀ p vs, H p = none → DenL K P res vs → Q (.ref p) (upd H p (.lst vs))) → r vs H Q
theorem optL {α : Type} {f : List D → Option α} {a : Option (List D)} {r : α} (h : a.bind f = some r) : ∃ d, a = some d ∧ f d = some r := by
  cases a with
  | none => cases h
  | some d => exact ⟨d, rfl, h⟩
section
variable {X : Cx} {E : WX} {e : Expr} {As : List HM} {r : List V → Hp → VK → Prop}
theorem ev_cb {f : List D → Option D} (hf : CbV X.K r f) (hp : PE X e (L2.tCB r (rX X.K X.mg E (HLRel X.K X.mg) (hL As)))) : EV X E e (eCB f As) := PE.imp hp fun σ H Q ⟨P, W, ρ, w, g⟩ =>
  ⟨P, W, ρ, w, (Go.bind g).mono fun vs H1 ⟨P1, W1, a, s1, ⟨w1, k1⟩, g1⟩ => by
    obtain ⟨res, e, g2⟩ := Go.of g1
    obtain ⟨ds, hd, hfe⟩ := optL e
    exact hf P1 H1 vs ds res Q w1.same (HokL.view w1 k1 hd) hfe (fin_v w1 g2)⟩
theorem et_cb {f : List D → Option (List D)} (hf : CbL X.K r f) (hp : PE X e (L2.tCB r (rX X.K X.mg E (HLRel X.K X.mg) (hL As)))) : ET X E e (tCBL f As) := PE.imp hp fun σ H Q ⟨P, W, ρ, w, g⟩ =>
  ⟨P, W, ρ, w, (Go.bind g).mono fun vs H1 ⟨P1, W1, a, s1, ⟨w1, k1⟩, g1⟩ => by
    obtain ⟨res, e, g2⟩ := Go.of g1
    obtain ⟨ds, hd, hfe⟩ := optL e
    exact hf P1 H1 vs ds res Q w1.same (HokL.view w1 k1 hd) hfe (fin_l w1 g2)⟩
end
/-! methods that change nothing -/
inductive Ty where | str | lst | dct | tup
def Ty.name : Ty → String
  | .str => "str" | .lst => "list" | .dct => "dict" | .tup => "tuple"
def isTy : Ty → D → Bool
  | .str, .str _ => true
  | .lst, .lst _ => true
  | .lst, .rol _ => true
  | .dct, .dct _ _ => true
  | _, _ => false
theorem tyV_of {K : PySem.W.Frag} {P H : Hp} {t : Ty} {d : D} {v : V} (s : Same P H) (h : View K P H d v) (ht : isTy t d = true) : L2.tyV K t.name v H := by
  unfold isTy at ht
  split at ht
  · rw [vstr h]; exact rfl
  · obtain ⟨a, vs, rfl, q, l⟩ := vlst h
    exact .inl ⟨rfl, vs, SqL.of q⟩
  · obtain ⟨a, vs, rfl, q, l⟩ := vrol s h
    exact .inl ⟨rfl, vs, q⟩
  · obtain ⟨a, ws, rfl, q, _⟩ := h
    exact .inr (.inr (.inl ⟨rfl, .inl ⟨ws, q⟩⟩))
  · cases ht
def eBM (t : Ty) (f : D → List D → Option D) (A : HM) (As : List HM) : EM := fun ρ => A ρ >>= fun a => if ((getH a.1 a.2).map (isTy t)) = some true then
    hL As a.2 >>= fun b => Res.of ((getH a.1 b.2).bind fun d => (getL b.1 b.2).bind fun ds => f d ds) >>= fun r => .ok (r, b.2) else .fail
def MtV (K : PySem.W.Frag) (r : V → List V → Hp → VK → Prop) (f : D → List D → Option D) : Prop := ∀ (P H : Hp) (x : V) (vs : List V) (d : D) (ds : List D) (res : D) (Q : VK), Same P H → View K P H d x → ViewL K P H ds vs → f d ds = some res → (∀ v P' H', Al P H P' H' → Den K P' res v → Q v H') → r x vs H Q
theorem optM {α : Type} {f : D → List D → Option α} {a : Option D} {b : Option (List D)} {r : α} (h : (a.bind fun d => b.bind fun ds => f d ds) = some r) : ∃ d ds, a = some d ∧ b = some ds ∧ f d ds = some r := by
  cases a with
  | none => cases h
  | some d =>
    cases b with
    | none => cases h
    | some e => exact ⟨d, e, rfl, rfl, h⟩
theorem ty_of {t : Ty} {o : Option D} (h : o.map (isTy t) = some true) : ∃ d, o = some d ∧ isTy t d = true := by
  cases o with
  | none => cases h
  | some d => exact ⟨d, rfl, Option.some.inj h⟩
section
variable {X : Cx} {E : WX} {e : Expr} {A : HM} {As : List HM} {r : V → List V → Hp → VK → Prop} {t : Ty}
theorem ev_bm {f : D → List D → Option D} (hf : MtV X.K r f) (hp : PE X e (tBM X.K t.name r (rX X.K X.mg E (HRel X.K X.mg) A) (rX X.K X.mg E (HLRel X.K X.mg) (hL As)))) : EV X E e (eBM t f A As) := PE.imp hp fun σ H Q ⟨P, W, ρ, w, g⟩ =>
  ⟨P, W, ρ, w, (Go.bind g).mono fun x H1 ⟨P1, W1, a, s1, ⟨w1, k1⟩, g1⟩ => by
    split at g1
    · rename_i ht
      obtain ⟨d1, hd1, ht⟩ := ty_of ht
      refine ⟨tyV_of w1.same (Hok.view w1 k1 hd1) ht, P1, W1, a.2, w1, (Go.bind g1).mono fun vs H2 ⟨P2, W2, b, s2, ⟨w2, k2⟩, g2⟩ => ?_⟩
      obtain ⟨res, e, g3⟩ := Go.of g2
      obtain ⟨d, ds, h1, h2, hfe⟩ := optM e
      exact hf P2 H2 x vs d ds res Q w2.same (Hok.view w2 (Hok.step s2.1 k1) h1) (HokL.view w2 k2 h2) hfe (fin_v w2 g3)
    · exact g1.elim⟩
end
/-! ### methods that change a list of the variable's own -/
def eMut (i : Nat) (m : List D → List D → Option (List D × D)) (As : List EM) : EM := fun ρ => match ρ[i]? with
  | some (some (.lst _)) => vL As ρ >>= fun a => match a.2[i]? with
    | some (some (.lst ds)) => Res.of (m ds a.1) >>= fun r => .ok (r.2, a.2.set i (some (.lst r.1)))
    | _ => .fail
  | _ => .fail
def MutOk (K : PySem.W.Frag) (r : V → List V → Hp → VK → Prop) (m : List D → List D → Option (List D × D)) : Prop := ∀ (P H : Hp) (l : Addr) (vs avs : List V) (ds as ds' : List D) (d : D) (Q : VK), Same P H → H l = some (.lst vs) → DenL K P ds vs → DenL K P as avs → m ds as = some (ds', d) →
  (∀ v vs', DenL K P ds' vs' → Den K P d v → Q v (upd H l (.lst vs'))) → r (.ref l) avs H Q
section
variable {K : PySem.W.Frag} {mg : Str → Option Value} {P P' H H' : Hp} {W W' : Own} {σ : St} {ρ : Env}
theorem Wd.mut {i : Nat} {l : Addr} {o : HO} {t : T} (w : Wd K mg P W H σ ρ) (hl : i < ρ.length) (hs : σ[i]? = some (some (.ref l))) (hw : W l = some (some i, none)) (ht : RT K mg P W (upd H l o) (some i) t (.ref l)) :
    Wd K mg P W (upd H l o) σ (ρ.set i (some t)) ∧ Step P W H P W (upd H l o) := by
  have pl := (w.own l _ hw).1
  refine ⟨⟨fun a u e => ?_, fun a r e => ?_, fun j t' ej => ?_, by simpa using w.len⟩, same_refl P, fun a u h wa => ?_⟩
  · rw [upd_ne (ne_of_none e pl)]; exact w.same a u e
  · obtain ⟨h1, u, h2⟩ := w.own a r e
    refine ⟨h1, ?_⟩
    by_cases h : a = l
    · subst h; exact ⟨_, upd_same⟩
    · exact ⟨u, by rw [upd_ne h]; exact h2⟩
  · by_cases hj : j = i
    · subst hj
      rw [List.getElem?_set_self hl] at ej
      cases ej
      exact ⟨_, hs, ht⟩
    · rw [List.getElem?_set_ne (Ne.symm hj)] at ej
      obtain ⟨v, hs', hr⟩ := w.env j t' ej
      refine ⟨v, hs', RT.mono (same_refl P) (fun f x ex => ⟨ex, fun o h => ?_⟩) t' v hr⟩
      have hx : x ≠ l := fun z => by subst z; rw [hw] at ex; cases ex; exact hj rfl
      rw [upd_ne hx]; exact h
  · have ha : a ≠ l := fun z => by subst z; rw [hw] at wa; cases wa
    exact ⟨by rw [upd_ne ha]; exact h, wa, rfl⟩
theorem Wd.lstAt {i : Nat} {ds : List D} (w : Wd K mg P W H σ ρ) (e : ρ[i]? = some (some (.lst ds))) : ∃ l vs, σ[i]? = some (some (.ref l)) ∧ W l = some (some i, none) ∧ H l = some (.lst vs) ∧ DenL K P ds vs ∧ i < ρ.length := by
  obtain ⟨v, hs, hr⟩ := w.env i _ e
  obtain ⟨a, vs, rfl, hw, hh, l⟩ := hr
  exact ⟨a, vs, hs, hw, hh, l, (List.getElem?_eq_some_iff.mp e).1⟩
end
section
variable {X : Cx} {E : WX} {e : Expr} {As : List EM} {r : V → List V → Hp → VK → Prop} {i : Nat}
theorem mut_core {m : List D → List D → Option (List D × D)} {P H : Hp} {W : Own} {ρ : Env} {σ : St} {Q : VK} {ds0 : List D} (hf : MutOk X.K r m) (w : Wd X.K X.mg P W H σ ρ) (hs : σ[i]? = some (some (.ref l)))
    (g : Go X.K X.mg E (VRel X.K X.mg) (vL As ρ >>= fun a => match a.2[i]? with
    | some (some (T.lst ds)) => Res.of (m ds a.1) >>= fun r => Res.ok (r.2, a.2.set i (some (T.lst r.1)))
    | _ => .fail) P W H σ Q) : rX X.K X.mg E (VLRel X.K X.mg) (vL As) σ H fun vs H2 => r (.ref l) vs H2 Q :=
  ⟨P, W, ρ, w, (Go.bind g).mono fun avs H2 ⟨P2, W2, b, s2, ⟨w2, k2⟩, g2⟩ => by
    cases e : b.2[i]? with
    | none => rw [e] at g2; exact g2.elim
    | some o =>
      cases o with
      | none => rw [e] at g2; exact g2.elim
      | some t =>
        rw [e] at g2
        cases t with
        | lst ds =>
          simp only at g2
          obtain ⟨res, e3, g3⟩ := Go.of g2
          obtain ⟨l', vs, hs', hw, hh, dn, hi⟩ := w2.lstAt e
          rw [hs] at hs'
          cases hs'
          refine hf P2 H2 l vs avs ds b.1 res.1 res.2 Q w2.same hh dn k2 e3 fun v vs' dn' dv => ?_
          obtain ⟨w3, s3⟩ := w2.mut (o := .lst vs') (t := .lst res.1) hi hs hw ⟨l, vs', rfl, hw, upd_same, dn'⟩
          exact g3 v P2 W2 _ s3 ⟨w3, dv⟩
        | _ => exact g2.elim⟩
theorem ev_mut {m : List D → List D → Option (List D × D)} (hf : MutOk X.K r m) (hp : PE X e (tBM X.K "list" r (tVar i) (rX X.K X.mg E (VLRel X.K X.mg) (vL As)))) : EV X E e (eMut i m As) := PE.imp hp fun σ H Q ⟨P, W, ρ, w, g⟩ => by
  unfold eMut at g
  cases e : ρ[i]? with
  | none => rw [e] at g; exact g.elim
  | some o =>
    cases o with
    | none => rw [e] at g; exact g.elim
    | some t =>
      rw [e] at g
      cases t with
      | lst ds =>
        simp only at g
        obtain ⟨l, vs, hs, hw, hh, dn, hi⟩ := w.lstAt e
        exact ⟨.ref l, hs, .inl ⟨rfl, vs, SqL.of hh⟩, mut_core (ds0 := ds) hf w hs g⟩
      | _ => exact g.elim
end
def mAppend : List D → List D → Option (List D × D)
  | ds, [d] => if ds.length < 1000000 then some (ds ++ [d], .non) else none
  | _, _ => none
def mPop : List D → List D → Option (List D × D)
  | ds, [] => (ds[ds.length - 1]?).map fun d => (ds.dropLast, d)
  | ds, [.int i] => if -1000000 ≤ i ∧ i ≤ 1000000 then (ixN ds.length i).bind fun j => (ds[j]?).map fun d => (ds.eraseIdx j, d) else none
  | _, _ => none
theorem DenL.one {K : PySem.W.Frag} {P : Hp} {d : D} {vs : List V} (h : DenL K P [d] vs) : ∃ v, vs = [v] ∧ Den K P d v := by
  unfold DenL at h
  obtain ⟨v, r, rfl, h1, h2⟩ := h
  unfold DenL at h2
  subst h2
  exact ⟨v, rfl, h1⟩
theorem DenL.two {K : PySem.W.Frag} {P : Hp} {d e : D} {vs : List V} (h : DenL K P [d, e] vs) : ∃ v u, vs = [v, u] ∧ Den K P d v ∧ Den K P e u := by
  unfold DenL at h
  obtain ⟨v, r, rfl, h1, h2⟩ := h
  obtain ⟨u, rfl, h3⟩ := DenL.one h2
  exact ⟨v, u, rfl, h1, h3⟩
theorem DenL.dropLast {K : PySem.W.Frag} {P : Hp} {ds : List D} {vs : List V} (h : DenL K P ds vs) : DenL K P ds.dropLast vs.dropLast := by
  rw [List.dropLast_eq_take, List.dropLast_eq_take, h.len]
  exact DenL.take _ h
section
variable {K : PySem.W.Frag}
theorem m_append : MutOk K rAppend mAppend := by
  intro P H l vs avs ds as ds' d Q s hh dn da hm q
  unfold mAppend at hm
  split at hm
  · split at hm
    · rename_i hl
      cases hm
      obtain ⟨v, rfl, dv⟩ := DenL.one da
      exact ⟨l, vs, v, rfl, rfl, hh, by rw [dn.len]; exact szLt hl, q .non _ (DenL.append dn (DenL.cons dv DenL.nil)) dnon⟩
    · cases hm
  · cases hm
def rPopA : V → List V → Hp → VK → Prop := fun x vs H Q => rPop x vs H Q ∨ rPopAt x vs H Q
theorem mt_popA {X : Cx} : MtR X "list.pop" rPopA := MtR.or mt_pop mt_popAt
theorem m_pop : MutOk K rPopA mPop := by
  intro P H l vs avs ds as ds' d Q s hh dn da hm q
  unfold mPop at hm
  split at hm
  · cases e : ds[ds.length - 1]? with
    | none => rw [e] at hm; cases hm
    | some d0 =>
      rw [e] at hm
      cases hm
      obtain ⟨v, hv, dv⟩ := dn.get e
      unfold DenL at da
      subst da
      exact .inl ⟨l, vs, v, rfl, rfl, hh, by rw [dn.len]; exact hv, q v _ (DenL.dropLast dn) dv⟩
  · rename_i i
    split at hm
    · rename_i hi
      cases e : ixN ds.length i with
      | none => rw [e] at hm; cases hm
      | some j =>
        rw [e] at hm
        cases e2 : ds[j]? with
        | none => simp only [Option.bind_some, e2, Option.map_none] at hm; cases hm
        | some d0 =>
          simp only [Option.bind_some, e2, Option.map_some, Option.some.injEq, Prod.mk.injEq] at hm
          obtain ⟨rfl, rfl⟩ := hm
          obtain ⟨v, hv, dv⟩ := dn.get e2
          obtain ⟨u, rfl, du⟩ := DenL.one da
          unfold Den at du
          subst du
          refine .inr ⟨l, vs, i, j, v, rfl, rfl, hh, by omega, by omega, ?_, hv, q v _ (DenL.eraseIdx j dn) dv⟩
          rw [dn.len]
          exact (ixN_seq e).1
    · cases hm
  · cases hm
end
end Od
namespace Od
open PySem PySem.Spec L2
open PyProof.Rows hiding St
/-! ### statements -/
inductive Fl where
  | nx (ρ : Env) | rt (t : T) (ρ : Env) | bk (ρ : Env) | ct (ρ : Env)
abbrev SM := Env → Res Fl
/-- slots of the parameters that are handed back keep their value -/
def Kp (md : List Bool) (σ σ' : St) : Prop := σ'.length = σ.length ∧ ∀ i : Nat, md[i]? = some true → σ'[i]? = σ[i]?
theorem Kp.refl (md : List Bool) (σ : St) : Kp md σ σ := ⟨rfl, fun _ _ => rfl⟩
theorem Kp.trans {md : List Bool} {σ σ1 σ2 : St} (a : Kp md σ σ1) (b : Kp md σ1 σ2) : Kp md σ σ2 := ⟨b.1.trans a.1, fun i h => (b.2 i h).trans (a.2 i h)⟩
def GoS (K : PySem.W.Frag) (mg : Str → Option Value) (E : WX) (md : List Bool) (r : Res Fl) (P : Hp) (W : Own) (H : Hp) (σ : St) (D : Ends) : Prop :=
  match r with
  | .ok (.nx ρ') => ∀ σ' P' W' H', Step P W H P' W' H' → Wd K mg P' W' H' σ' ρ' → Kp md σ σ' → D.nx σ' H'
  | .ok (.bk ρ') => ∀ σ' P' W' H', Step P W H P' W' H' → Wd K mg P' W' H' σ' ρ' → Kp md σ σ' → D.bk σ' H'
  | .ok (.ct ρ') => ∀ σ' P' W' H', Step P W H P' W' H' → Wd K mg P' W' H' σ' ρ' → Kp md σ σ' → D.ct σ' H'
  | .ok (.rt t ρ') => ∀ v σ' P' W' H', Step P W H P' W' H' → Wd K mg P' W' H' σ' ρ' → Kp md σ σ' → RT K mg P' W' H' none t v → D.rt v H'
  | .exc x ρ' => ∀ c od σ' P' W' H', Step P W H P' W' H' → Wd K mg P' W' H' σ' ρ' → Kp md σ σ' → XR K mg P' H' x c od → E c od σ' H'
  | .fail => False
def rS (K : PySem.W.Frag) (mg : Str → Option Value) (E : WX) (md : List Bool) (F : SM) : TS := fun D σ H => ∃ P W ρ, Wd K mg P W H σ ρ ∧ GoS K mg E md (F ρ) P W H σ D
def SD (X : Cx) (E : WX) (md : List Bool) (st : Stmt) (F : SM) : Prop := PS X st (rS X.K X.mg E md F)
def SDs (X : Cx) (E : WX) (md : List Bool) (st : List Stmt) (F : SM) : Prop := PSs X st (rS X.K X.mg E md F)
section
variable {K : PySem.W.Frag} {mg : Str → Option Value} {α γ : Type} {E : WX} {md : List Bool} {Rel : Hp → Own → Hp → St → α → γ → Prop} {P P' H H' : Hp} {W W' : Own} {σ σ' : St} {ρ : Env} {D D' : Ends}
theorem GoS.step {r : Res Fl} (s : Step P W H P' W' H') (k : Kp md σ σ') (h : GoS K mg E md r P W H σ D) : GoS K mg E md r P' W' H' σ' D := by
  cases r with
  | ok f =>
    cases f with
    | nx ρ' => exact fun σ2 P2 W2 H2 s2 w k2 => h σ2 P2 W2 H2 (s.trans s2) w (k.trans k2)
    | bk ρ' => exact fun σ2 P2 W2 H2 s2 w k2 => h σ2 P2 W2 H2 (s.trans s2) w (k.trans k2)
    | ct ρ' => exact fun σ2 P2 W2 H2 s2 w k2 => h σ2 P2 W2 H2 (s.trans s2) w (k.trans k2)
    | rt t ρ' => exact fun v σ2 P2 W2 H2 s2 w k2 => h v σ2 P2 W2 H2 (s.trans s2) w (k.trans k2)
  | exc x ρ' => exact fun c od σ2 P2 W2 H2 s2 w k2 => h c od σ2 P2 W2 H2 (s.trans s2) w (k.trans k2)
  | fail => exact h
/-- a value, then a statement's end -/
theorem GoS.val {r : Res α} {g : α → Res Fl} (h : GoS K mg E md (r >>= g) P W H σ D) :
    Go K mg E Rel r P W H σ (fun v1 H1 => ∃ P1 W1 a, Step P W H P1 W1 H1 ∧ Rel P1 W1 H1 σ a v1 ∧ GoS K mg E md (g a) P1 W1 H1 σ D) := by
  cases r with
  | ok a => exact fun v P1 W1 H1 s rel => ⟨P1, W1, a, s, rel, GoS.step s (Kp.refl md σ) h⟩
  | exc x ρ' => exact fun c od P1 W1 H1 s w x => h c od σ P1 W1 H1 s w (Kp.refl md σ) x
  | fail => exact h
theorem GoS.valB {r : Res (Bool × Env)} {g : Bool × Env → Res Fl} (h : GoS K mg E md (r >>= g) P W H σ D) :
    GoB K mg E r P W H σ (fun b H1 => ∃ P1 W1 ρ1, Step P W H P1 W1 H1 ∧ Wd K mg P1 W1 H1 σ ρ1 ∧ GoS K mg E md (g (b, ρ1)) P1 W1 H1 σ D) := by
  cases r with
  | ok a => exact fun P1 W1 H1 s w => ⟨P1, W1, a.2, s, w, GoS.step s (Kp.refl md σ) h⟩
  | exc x ρ' => exact fun c od P1 W1 H1 s w x => h c od σ P1 W1 H1 s w (Kp.refl md σ) x
  | fail => exact h
end
def sSeq (F G : SM) : SM := fun ρ => match F ρ with
  | .ok (.nx ρ1) => G ρ1
  | r => r
def sNil : SM := fun ρ => .ok (.nx ρ)
def sExpr (F : EM) : SM := fun ρ => F ρ >>= fun a => .ok (.nx a.2)
def sRet (F : OM) : SM := fun ρ => F ρ >>= fun a => .ok (.rt a.1 a.2)
def sRetV (F : EM) : SM := fun ρ => F ρ >>= fun a => .ok (.rt (.sh a.1) a.2)
def sIf (C : BM) (F G : SM) : SM := fun ρ => C ρ >>= fun b => if b.1 then F b.2 else G b.2
def putE (i : Nat) (t : T) (ρ : Env) : Option Env := if i < ρ.length then some (ρ.set i (some t)) else none
def sSet (i : Nat) (F : OM) : SM := fun ρ => F ρ >>= fun a => Res.of (putE i a.1 a.2) >>= fun ρ1 => .ok (.nx ρ1)
def sSetV (i : Nat) (F : EM) : SM := fun ρ => F ρ >>= fun a => Res.of (putE i (.sh a.1) a.2) >>= fun ρ1 => .ok (.nx ρ1)
/-- names that are not asked again -/
def wipeE (is : List Nat) (ρ : Env) : Env := is.foldl (fun ρ i => ρ.set i none) ρ
def wipeF (is : List Nat) : Fl → Fl
  | .nx ρ => .nx (wipeE is ρ)
  | .bk ρ => .bk (wipeE is ρ)
  | .ct ρ => .ct (wipeE is ρ)
  | .rt t ρ => .rt t ρ
def sWipe (is : List Nat) (F : SM) : SM := fun ρ => match F ρ with
  | .ok f => .ok (wipeF is f)
  | r => r
section
variable {K : PySem.W.Frag} {mg : Str → Option Value} {P P' H H' : Hp} {W W' : Own} {σ : St} {ρ : Env}
theorem Wd.wipe (w : Wd K mg P W H σ ρ) (is : List Nat) : Wd K mg P W H σ (wipeE is ρ) := by
  induction is generalizing ρ with
  | nil => exact w
  | cons i is ih => exact ih w.forget
/-- the object in hand goes to a slot -/
theorem Wd.put {i : Nat} {t : T} {v : V} (w : Wd K mg P W H σ ρ) (h : RT K mg P W H none t v) (hi : i < ρ.length) :
    ∃ W', Wd K mg P W' H (σ.set i (some v)) (ρ.set i (some t)) ∧ Step P W H P W' H := by
  have hσ : i < σ.length := Nat.lt_of_lt_of_le hi w.len
  refine ⟨fun a => match W a with | some (none, f) => some (some i, f) | some (some j, f) => if j = i then some (none, f) else some (some j, f) | none => none,
    ⟨w.same, fun a r ea => ?_, fun j t' ej => ?_, by simpa using w.len⟩, same_refl P, fun a o h wa => ⟨h, by simp only [wa], rfl⟩⟩
  · cases q : W a with
    | none => simp only [q] at ea; cases ea
    | some r' => exact w.own a r' q
  · by_cases hj : j = i
    · subst hj
      rw [List.getElem?_set_self hi] at ej
      cases ej
      exact ⟨v, by rw [List.getElem?_set_self hσ], RT.mono (same_refl P) (fun f x ex => ⟨by simp only [ex], fun _ h => h⟩) t v h⟩
    · rw [List.getElem?_set_ne (Ne.symm hj)] at ej
      obtain ⟨v', hs', hr'⟩ := w.env j t' ej
      exact ⟨v', by rw [List.getElem?_set_ne (Ne.symm hj)]; exact hs', RT.mono (same_refl P) (fun f x ex => ⟨by simp only [ex, if_neg hj], fun _ h => h⟩) t' v' hr'⟩
theorem putE_some {i : Nat} {t : T} {ρ1 : Env} (h : putE i t ρ = some ρ1) : i < ρ.length ∧ ρ1 = ρ.set i (some t) := by
  unfold putE at h
  split at h
  · rename_i hi; exact ⟨hi, (Option.some.inj h).symm⟩
  · cases h
theorem Kp.set {md : List Bool} {i : Nat} {v : Option V} (h : md[i]? ≠ some true) : Kp md σ (σ.set i v) :=
  ⟨by simp, fun j hj => by
    have : j ≠ i := fun z => by subst z; exact h hj
    rw [List.getElem?_set_ne (Ne.symm this)]⟩
theorem GoS.of {α : Type} {E : WX} {md : List Bool} {D : Ends} {o : Option α} {g : α → Res Fl} (h : GoS K mg E md (Res.of o >>= g) P W H σ D) : ∃ r, o = some r ∧ GoS K mg E md (g r) P W H σ D := by
  cases o with
  | none => exact h.elim
  | some r => exact ⟨r, rfl, h⟩
end
section
variable {X : Cx} {E : WX} {md : List Bool} {st : Stmt} {rest : List Stmt} {F G : SM} {e : Expr} {A : EM} {B : OM} {C : BM} {pos : Pos}
theorem sds_nil : SDs X E md [] sNil := PSs.imp pss_nil fun D σ H ⟨P, W, ρ, w, g⟩ => g σ P W H (Step.refl P W H) w (Kp.refl md σ)
theorem sds_cons (h : SD X E md st F) (g : SDs X E md rest G) : SDs X E md (st :: rest) (sSeq F G) := PSs.imp (pss_cons h g) fun D σ H ⟨P, W, ρ, w, g⟩ => by
  refine ⟨P, W, ρ, w, ?_⟩
  unfold sSeq at g
  cases hf : F ρ with
  | ok f =>
    rw [hf] at g
    cases f with
    | nx ρ1 => exact fun σ' P' W' H' s w' k => ⟨P', W', ρ1, w', GoS.step s k g⟩
    | bk ρ1 => exact g
    | ct ρ1 => exact g
    | rt t ρ1 => exact g
  | exc x ρ1 => rw [hf] at g; exact g
  | fail => rw [hf] at g; exact g
theorem sds_one (h : SD X E md st F) : SDs X E md [st] F := pss_one h
theorem sds_wipe (is : List Nat) (h : SDs X E md rest F) : SDs X E md rest (sWipe is F) := PSs.imp h fun D σ H ⟨P, W, ρ, w, g⟩ => by
  refine ⟨P, W, ρ, w, ?_⟩
  unfold sWipe at g
  cases hf : F ρ with
  | ok f =>
    rw [hf] at g
    cases f with
    | nx ρ1 => exact fun σ' P' W' H' s w' k => g σ' P' W' H' s (w'.wipe is) k
    | bk ρ1 => exact fun σ' P' W' H' s w' k => g σ' P' W' H' s (w'.wipe is) k
    | ct ρ1 => exact fun σ' P' W' H' s w' k => g σ' P' W' H' s (w'.wipe is) k
    | rt t ρ1 => exact g
  | exc x ρ1 => rw [hf] at g; exact g
  | fail => rw [hf] at g; exact g
theorem sd_expr (h : EV X E e A) (hs : swapsWith e none pos.line X.env = pure false := by rfl) : SD X E md (.Expr e pos) (sExpr A) := PS.imp (ps_expr h hs) fun D σ H ⟨P, W, ρ, w, g⟩ =>
  ⟨P, W, ρ, w, (GoS.val g).mono fun v H1 ⟨P1, W1, a, s, ⟨w1, d1⟩, k⟩ => k σ P1 W1 H1 (Step.refl P1 W1 H1) w1 (Kp.refl md σ)⟩
theorem sd_ret (h : ET X E e B) : SD X E md (.Return (some e) pos) (sRet B) := PS.imp (ps_ret h) fun D σ H ⟨P, W, ρ, w, g⟩ =>
  ⟨P, W, ρ, w, (GoS.val g).mono fun v H1 ⟨P1, W1, a, s, ⟨w1, d1⟩, k⟩ => k v σ P1 W1 H1 (Step.refl P1 W1 H1) w1 (Kp.refl md σ) d1⟩
theorem sd_retV (h : EV X E e A) : SD X E md (.Return (some e) pos) (sRetV A) := PS.imp (ps_ret h) fun D σ H ⟨P, W, ρ, w, g⟩ =>
  ⟨P, W, ρ, w, (GoS.val g).mono fun v H1 ⟨P1, W1, a, s, ⟨w1, d1⟩, k⟩ => k v σ P1 W1 H1 (Step.refl P1 W1 H1) w1 (Kp.refl md σ) d1⟩
theorem sd_if {c : Expr} {a b : List Stmt} (hc : EB X E c C) (ha : SDs X E md a F) (hb : SDs X E md b G) : SD X E md (.If c a b pos) (sIf C F G) := PS.imp (ps_if hc ha hb) fun D σ H ⟨P, W, ρ, w, g⟩ =>
  ⟨P, W, ρ, w, (GoS.valB g).mono fun b H1 ⟨P1, W1, ρ1, s, w1, k⟩ => by
    cases b with
    | true => exact ⟨P1, W1, ρ1, w1, k⟩
    | false => exact ⟨P1, W1, ρ1, w1, k⟩⟩
/-- name = e, whatever rule gives it -/
theorem sd_set {i : Nat} (hp : PS X st (tAsg (rX X.K X.mg E (TRel X.K X.mg) B) (gName i))) (hk : md[i]? ≠ some true) : SD X E md st (sSet i B) := PS.imp hp fun D σ H ⟨P, W, ρ, w, g⟩ =>
  ⟨P, W, ρ, w, (GoS.val g).mono fun v H1 ⟨P1, W1, a, s, ⟨w1, d1⟩, k⟩ => by
    obtain ⟨ρ2, e, k⟩ := GoS.of k
    obtain ⟨hi, rfl⟩ := putE_some e
    obtain ⟨W2, w2, s2⟩ := w1.put d1 hi
    exact k _ P1 W2 H1 s2 w2 (Kp.set hk)⟩
theorem sd_setV {i : Nat} (hp : PS X st (tAsg (rX X.K X.mg E (VRel X.K X.mg) A) (gName i))) (hk : md[i]? ≠ some true) : SD X E md st (sSetV i A) := PS.imp hp fun D σ H ⟨P, W, ρ, w, g⟩ =>
  ⟨P, W, ρ, w, (GoS.val g).mono fun v H1 ⟨P1, W1, a, s, ⟨w1, d1⟩, k⟩ => by
    obtain ⟨ρ2, e, k⟩ := GoS.of k
    obtain ⟨hi, rfl⟩ := putE_some e
    obtain ⟨W2, w2, s2⟩ := w1.put (t := .sh a.1) d1 hi
    exact k _ P1 W2 H1 s2 w2 (Kp.set hk)⟩
end
/-! ### targets -/
abbrev GM := D → Env → Option Env
def gNm (i : Nat) : GM := fun d ρ => putE i (.sh d) ρ
def gEach : List GM → List D → Env → Option Env
  | [], [], ρ => some ρ
  | g :: gs, d :: ds, ρ => (g d ρ).bind (gEach gs ds)
  | _, _, _ => none
def gTp (gs : List GM) : GM := fun d ρ => match d with
  | .tup ds => gEach gs ds ρ
  | _ => none
/-- slots but these keep their values -/
def Ke (sl : List Nat) (σ σ' : St) : Prop := σ'.length = σ.length ∧ ∀ i : Nat, i ∉ sl → σ'[i]? = σ[i]?
theorem Ke.refl (sl : List Nat) (σ : St) : Ke sl σ σ := ⟨rfl, fun _ _ => rfl⟩
theorem Ke.trans {sl : List Nat} {σ σ1 σ2 : St} (a : Ke sl σ σ1) (b : Ke sl σ1 σ2) : Ke sl σ σ2 := ⟨b.1.trans a.1, fun i h => (b.2 i h).trans (a.2 i h)⟩
def rG (K : PySem.W.Frag) (mg : Str → Option Value) (sl : List Nat) (g : GM) : TG := fun v σ H Q => ∃ P W ρ d ρ', Wd K mg P W H σ ρ ∧ Den K P d v ∧ g d ρ = some ρ' ∧ ∀ σ' P' W' H', Step P W H P' W' H' → Wd K mg P' W' H' σ' ρ' → Ke sl σ σ' → Q σ' H'
def rGs (K : PySem.W.Frag) (mg : Str → Option Value) (sl : List Nat) (gs : List GM) : TGs := fun vs σ H Q => ∃ P W ρ ds ρ', Wd K mg P W H σ ρ ∧ DenL K P ds vs ∧ gEach gs ds ρ = some ρ' ∧ ∀ σ' P' W' H', Step P W H P' W' H' → Wd K mg P' W' H' σ' ρ' → Ke sl σ σ' → Q σ' H'
def GD (X : Cx) (sl : List Nat) (tg : Expr) (g : GM) : Prop := PG X tg (rG X.K X.mg sl g)
def GDs (X : Cx) (sl : List Nat) (tg : List Expr) (gs : List GM) : Prop := PGs X tg (rGs X.K X.mg sl gs)
theorem PG.imp {X : Cx} {e : Expr} {t t' : TG} (h : PG X e t) (q : ∀ v σ H Q, t' v σ H Q → t v σ H Q) : PG X e t' := ⟨fun pins s σ H v u Q I r hq => h.run pins s σ H v u Q I r (q v σ H Q hq)⟩
theorem PGs.imp {X : Cx} {e : List Expr} {t t' : TGs} (h : PGs X e t) (q : ∀ v σ H Q, t' v σ H Q → t v σ H Q) : PGs X e t' := ⟨fun pins s σ H v u Q I r hq => h.run pins s σ H v u Q I r (q v σ H Q hq)⟩
section
variable {X : Cx} {sl : List Nat} {pos : Pos} {e : Expr} {es : List Expr} {g : GM} {gs : List GM}
theorem gd_name {i : Nat} {x : Str} (hN : X.N.Nodup) (hi : X.N[i]? = some x) (hx : Loc X.env.scope x) (hs : i ∈ sl) (hf : X.fn x = true ∨ X.env.scope.names.lookup x = some .local := by first | exact .inl rfl | exact .inr rfl | assumption) : GD X sl (.Name x pos) (gNm i) :=
  PG.imp (pg_name hN hi hx hf) fun v σ H Q ⟨P, W, ρ, d, ρ', w, dn, e, q⟩ => by
    obtain ⟨hl, rfl⟩ := putE_some e
    obtain ⟨W2, w2, s2⟩ := w.put (t := .sh d) dn hl
    exact q _ P W2 H s2 w2 ⟨by simp, fun j hj => by
      have : j ≠ i := fun z => by subst z; exact hj hs
      rw [List.getElem?_set_ne (Ne.symm this)]⟩
theorem gds_nil : GDs X sl [] [] := PGs.imp pgs_nil fun vs σ H Q ⟨P, W, ρ, ds, ρ', w, dn, e, q⟩ => by
  cases ds with
  | nil =>
    have : ρ = ρ' := Option.some.inj e
    subst this
    unfold DenL at dn
    exact ⟨dn, q σ P W H (Step.refl P W H) w (Ke.refl sl σ)⟩
  | cons d ds => cases e
theorem gds_cons (h : GD X sl e g) (h2 : GDs X sl es gs) (hs : (assignEach (e :: es) X.env).map (·.2) = assign e X.env :: (assignEach es X.env).map (·.2) := by rfl) : GDs X sl (e :: es) (g :: gs) :=
  PGs.imp (pgs_cons h h2 hs) fun vs σ H Q ⟨P, W, ρ, ds, ρ', w, dn, e, q⟩ => by
    cases ds with
    | nil => cases e
    | cons d ds =>
      unfold DenL at dn
      obtain ⟨v, r, rfl, d1, d2⟩ := dn
      unfold gEach at e
      cases e1 : g d ρ with
      | none => rw [e1] at e; cases e
      | some ρ1 =>
        rw [e1] at e
        exact ⟨v, r, rfl, P, W, ρ, d, ρ1, w, d1, e1, fun σ1 P1 W1 H1 s1 w1 k1 => ⟨P1, W1, ρ1, ds, ρ', w1, DenL.mono s1.1 _ _ d2, e, fun σ2 P2 W2 H2 s2 w2 k2 => q σ2 P2 W2 H2 (s1.trans s2) w2 (k1.trans k2)⟩⟩
theorem gEach_len : ∀ {gs : List GM} {ds : List D} {ρ ρ' : Env}, gEach gs ds ρ = some ρ' → ds.length = gs.length
  | [], [], _, _, _ => rfl
  | [], _ :: _, _, _, h => by cases h
  | _ :: _, [], _, _, h => by cases h
  | g :: gs, d :: ds, ρ, ρ', h => by
    unfold gEach at h
    cases e1 : g d ρ with
    | none => rw [e1] at h; cases h
    | some ρ1 =>
      rw [e1] at h
      simp [gEach_len h]
theorem gd_tup {k : Nat} {n : Nat} (hc : X.calm = true) (h : GDs X sl es gs) (hl : gs.length = n) (hn : (assignEach es X.env).length = n := by rfl) (hst : (assignEach es X.env).findIdx? (·.1) = none := by rfl) : GD X sl (.Tuple es k pos) (gTp gs) :=
  PG.imp (pg_tup hc h hn hst) fun v σ H Q ⟨P, W, ρ, d, ρ', w, dn, e, q⟩ => by
    cases d with
    | tup ds =>
      unfold Den at dn
      obtain ⟨a, vs, rfl, t, l⟩ := dn
      have e : gEach gs ds ρ = some ρ' := e
      exact ⟨a, vs, rfl, same_t w.same t, by rw [l.len, gEach_len e, hl], P, W, ρ, ds, ρ', w, l, e, q⟩
    | _ => cases e
end
/-- target = e -/
def sAsg (g : GM) (F : EM) : SM := fun ρ => F ρ >>= fun a => Res.of (g a.1 a.2) >>= fun ρ1 => .ok (.nx ρ1)
theorem Kp.ke {md : List Bool} {sl : List Nat} {σ σ' : St} (k : Ke sl σ σ') (h : ∀ i ∈ sl, md[i]? ≠ some true) : Kp md σ σ' := ⟨k.1, fun i hi => k.2 i fun z => h i z hi⟩
section
variable {X : Cx} {E : WX} {md : List Bool} {sl : List Nat} {pos : Pos} {e tg : Expr} {g : GM} {F : EM}
theorem sd_asg (he : EV X E e F) (hg : GD X sl tg g) (hk : ∀ i ∈ sl, md[i]? ≠ some true) (hs : swapsWithSole [tg] e pos.line X.env = pure false := by rfl) (hw : swappedStores [tg] e X.env = pure none := by rfl)
    (h1 : (assignEach [tg] X.env).map (·.2) = [assign tg X.env] := by rfl) : SD X E md (.Assign [tg] e pos) (sAsg g F) := PS.imp (ps_asg he hg hs hw h1) fun D σ H ⟨P, W, ρ, w, g0⟩ =>
  ⟨P, W, ρ, w, (GoS.val g0).mono fun v H1 ⟨P1, W1, a, s, ⟨w1, d1⟩, k⟩ => by
    obtain ⟨ρ2, e, k⟩ := GoS.of k
    exact ⟨P1, W1, a.2, a.1, ρ2, w1, d1, e, fun σ' P' W' H' s' w' k' => k σ' P' W' H' s' w' (Kp.ke k' hk)⟩⟩
end
/-! ### what is walked -/
structure ItOk (K : PySem.W.Frag) (J : It) (P : Hp) (xs : List D) : Prop where
  go : ∀ (i : Nat) (P2 H2 : Hp), Same P P2 → Same P2 H2 → i < xs.length → J.go i H2
  stop : ∀ (P2 H2 : Hp), Same P P2 → Same P2 H2 → J.stop xs.length H2
  yld : ∀ (i : Nat) (P2 H2 : Hp) (x : V) (H3 : Hp) (d : D), Same P P2 → Same P2 H2 → xs[i]? = some d → J.yld i H2 x H3 → ∃ P3, Al P2 H2 P3 H3 ∧ Den K P3 d x
abbrev IM := Env → Res (List D × Env)
def IRel (K : PySem.W.Frag) (mg : Str → Option Value) (P : Hp) (W : Own) (H : Hp) (σ : St) (a : List D × Env) (J : It) : Prop := Wd K mg P W H σ a.2 ∧ ItOk K J P a.1
def EI (X : Cx) (E : WX) (tg iter : Expr) (I : IM) : Prop := PI X tg iter (rX X.K X.mg E (IRel X.K X.mg) I)
theorem PI.imp {X : Cx} {tg e : Expr} {t t' : TI} (h : PI X tg e t) (q : ∀ σ H Q, t' σ H Q → t σ H Q) : PI X tg e t' := ⟨fun pins s σ H R I hq => h.run pins s σ H R I (q σ H R hq)⟩
def forL (g : GM) (B : SM) : List D → SM
  | [], ρ => .ok (.nx ρ)
  | x :: xs, ρ => Res.of (g x ρ) >>= fun ρ1 => match B ρ1 with
    | .ok (.nx ρ2) => forL g B xs ρ2
    | .ok (.ct ρ2) => forL g B xs ρ2
    | .ok (.bk ρ2) => .ok (.nx ρ2)
    | r => r
def sFor (g : GM) (I : IM) (B : SM) : SM := fun ρ => I ρ >>= fun a => forL g B a.1 a.2
section
variable {X : Cx} {E : WX} {md : List Bool} {sl : List Nat} {pos : Pos} {tg iter : Expr} {body : List Stmt} {g : GM} {I : IM} {B : SM}
theorem sd_for (hp : PassesOwn (model X.prog X.w) X.A X.env X.xe) (hc : X.calm = true) (hi : EI X E tg iter I) (hg : GD X sl tg g) (hb : SDs X E md body B) (hk : ∀ i ∈ sl, md[i]? ≠ some true)
    (hs : ∀ x, foldedSetIterable iter X.env x = pure x := by intro _; rfl) : SD X E md (.For tg iter body [] pos) (sFor g I B) := PS.imp (ps_for hp hc hi hg hb hs) fun D σ H ⟨P, W, ρ, w, g0⟩ => by
  refine ⟨P, W, ρ, w, (GoS.val g0).mono fun J H1 ⟨P1, W1, a, s1, ⟨w1, ok⟩, k⟩ => ?_⟩
  refine ⟨fun i m σ2 H2 => m = a.1.length - i ∧ i ≤ a.1.length ∧ ∃ P2 W2 ρ2, Wd X.K X.mg P2 W2 H2 σ2 ρ2 ∧ Same P1 P2 ∧ GoS X.K X.mg E md (forL g B (a.1.drop i) ρ2) P2 W2 H2 σ2 D, ⟨a.1.length, by simp, Nat.zero_le _, P1, W1, a.2, w1, same_refl P1, k⟩, ?_⟩
  rintro i m σ2 H2 ⟨rfl, hi, P2, W2, ρ2, w2, sm, k2⟩
  by_cases hlt : i < a.1.length
  · rw [List.drop_eq_getElem_cons hlt] at k2
    unfold forL at k2
    obtain ⟨ρ3, eg, k3⟩ := GoS.of k2
    refine .inr ⟨ok.go i P2 H2 sm w2.same hlt, fun σ' H' => ∃ P3 W3 ρ4, Wd X.K X.mg P3 W3 H' σ' ρ4 ∧ Same P1 P3 ∧ GoS X.K X.mg E md (forL g B (a.1.drop (i + 1)) ρ4) P3 W3 H' σ' D, fun σ' H' q => ⟨a.1.length - (i + 1), by omega, rfl, hlt, q⟩, fun x H' y => ?_⟩
    obtain ⟨P3, al, dn⟩ := ok.yld i P2 H2 x H' _ sm w2.same (List.getElem?_eq_getElem hlt) y
    refine ⟨P3, W2, ρ2, _, ρ3, w2.al al, dn, eg, fun σ4 P4 W4 H4 s4 w4 k4 => ?_⟩
    have st : Step P2 W2 H2 P4 W4 H4 := (al.step W2).trans s4
    have kp := Kp.ke k4 hk
    refine ⟨P4, W4, ρ3, w4, ?_⟩
    have k5 := GoS.step st kp k3
    cases hB : B ρ3 with
    | ok f =>
      rw [hB] at k5
      cases f with
      | nx ρ5 => exact fun σ' P' W' H'' s' w' k' => ⟨P', W', ρ5, w', same_trans (same_trans sm st.1) s'.1, GoS.step s' k' k5⟩
      | ct ρ5 => exact fun σ' P' W' H'' s' w' k' => ⟨P', W', ρ5, w', same_trans (same_trans sm st.1) s'.1, GoS.step s' k' k5⟩
      | bk ρ5 => exact k5
      | rt t ρ5 => exact k5
    | exc x ρ5 => rw [hB] at k5; exact k5
    | fail => rw [hB] at k5; exact k5
  · have e : i = a.1.length := by omega
    subst e
    rw [List.drop_length] at k2
    exact .inl ⟨ok.stop P2 H2 sm w2.same, k2 σ2 P2 W2 H2 (Step.refl P2 W2 H2) w2 (Kp.refl md σ2)⟩
end
/-! while: so many turns at most -/
def whL (C : BM) (B : SM) : Nat → SM
  | 0, _ => .fail
  | n + 1, ρ => C ρ >>= fun b => if b.1 then (match B b.2 with
    | .ok (.nx ρ2) => whL C B n ρ2
    | .ok (.ct ρ2) => whL C B n ρ2
    | .ok (.bk ρ2) => .ok (.nx ρ2)
    | r => r) else .ok (.nx b.2)
def sWhile (n : Nat) (C : BM) (B : SM) : SM := whL C B n
section
variable {X : Cx} {E : WX} {md : List Bool} {pos : Pos} {c : Expr} {body : List Stmt} {C : BM} {B : SM}
theorem sd_while (n : Nat) (hp : PassesOwn (model X.prog X.w) X.A X.env X.xe) (hc : EB X E c C) (hb : SDs X E md body B) : SD X E md (.While c body [] pos) (sWhile n C B) := PS.imp (ps_while hp hc hb) fun D σ H ⟨P, W, ρ, w, g0⟩ => by
  refine ⟨fun m σ2 H2 => ∃ P2 W2 ρ2, Wd X.K X.mg P2 W2 H2 σ2 ρ2 ∧ GoS X.K X.mg E md (whL C B m ρ2) P2 W2 H2 σ2 D, ⟨n, P, W, ρ, w, g0⟩, ?_⟩
  rintro m σ2 H2 ⟨P2, W2, ρ2, w2, k2⟩
  cases m with
  | zero => exact k2.elim
  | succ m =>
    unfold whL at k2
    refine ⟨P2, W2, ρ2, w2, (GoS.valB k2).mono fun b H3 ⟨P3, W3, ρ3, s3, w3, k3⟩ => ?_⟩
    cases b with
    | false => exact k3 σ2 P3 W3 H3 (Step.refl P3 W3 H3) w3 (Kp.refl md σ2)
    | true =>
      refine ⟨fun σ' H' => ∃ P' W' ρ', Wd X.K X.mg P' W' H' σ' ρ' ∧ GoS X.K X.mg E md (whL C B m ρ') P' W' H' σ' D, fun σ' H' q => ⟨m, Nat.lt_succ_self m, q⟩, P3, W3, ρ3, w3, ?_⟩
      simp only [if_true] at k3
      cases hB : B ρ3 with
      | ok f =>
        rw [hB] at k3
        cases f with
        | nx ρ5 => exact fun σ' P' W' H'' s' w' k' => ⟨P', W', ρ5, w', GoS.step s' k' k3⟩
        | ct ρ5 => exact fun σ' P' W' H'' s' w' k' => ⟨P', W', ρ5, w', GoS.step s' k' k3⟩
        | bk ρ5 => exact k3
        | rt t ρ5 => exact k3
      | exc x ρ5 => rw [hB] at k3; exact k3
      | fail => rw [hB] at k3; exact k3
end
end Od
namespace Od
open PySem PySem.Spec L2
open PyProof.Rows hiding St
/-! ### what is walked: lists, tuples, texts, ranges, enumerate, zip -/
def iSeq (F : EM) : IM := fun ρ => F ρ >>= fun a => match a.1 with
  | .lst ds => .ok (ds, a.2)
  | .rol ds => .ok (ds, a.2)
  | _ => .fail
def iTupD (F : EM) : IM := fun ρ => F ρ >>= fun a => match a.1 with
  | .tup ds => .ok (ds, a.2)
  | _ => .fail
def rngD (lo : Int) (n : Nat) : List D := (List.range n).map fun k => .int (lo + (k : Nat))
def okI (j : Int) : Bool := decide (-1000000000 ≤ j) && decide (j ≤ 1000000000)
def rng1 : List D → Option (List D)
  | [.int j] => if okI j then some (rngD 0 j.toNat) else none
  | _ => none
def iArg (f : List D → Option (List D)) (As : List EM) : IM := fun ρ => vL As ρ >>= fun a => Res.of (f a.1) >>= fun xs => .ok (xs, a.2)
def seqD : D → Option (List D)
  | .lst ds => some ds
  | .rol ds => some ds
  | _ => none
theorem rngD_get {lo : Int} {n i : Nat} {d : D} (h : (rngD lo n)[i]? = some d) : d = .int (lo + (i : Nat)) := by
  unfold rngD at h
  rw [List.getElem?_map] at h
  by_cases hi : i < n
  · rw [List.getElem?_range hi] at h
    cases h; rfl
  · rw [List.getElem?_eq_none (by simpa using hi)] at h; cases h
theorem rngD_len {lo : Int} {n : Nat} : (rngD lo n).length = n := by simp [rngD]
section
variable {K : PySem.W.Frag} {P : Hp}
theorem it_list {a : Addr} {ds : List D} {vs : List V} (q : SqL K P a vs) (l : DenL K P ds vs) : ItOk K (Itl K a) P ds where
  go := fun i P2 H2 s s2 hi => walk_list.goes i H2 (by rw [l.len]; exact hi) (same_l s2 (same_l s q))
  stop := fun P2 H2 s s2 => by rw [← l.len]; exact walk_list.stops H2 (same_l s2 (same_l s q))
  yld := fun i P2 H2 x H3 d s s2 hd y => by
    have hi : i < ds.length := (List.getElem?_eq_some_iff.mp hd).1
    obtain ⟨rfl, hx⟩ := walk_list.yields i H2 x H3 (by rw [l.len]; exact hi) (same_l s2 (same_l s q)) y
    obtain ⟨d', e, dn⟩ := l.get' hx
    rw [hd] at e; cases e
    exact ⟨P2, Al.refl s2, Den.mono s _ _ dn⟩
theorem it_tup {a : Addr} {ds : List D} {vs : List V} (q : SqT K P a vs) (l : DenL K P ds vs) : ItOk K (Itt K a) P ds where
  go := fun i P2 H2 s s2 hi => walk_tup.goes i H2 (by rw [l.len]; exact hi) (same_t s2 (same_t s q))
  stop := fun P2 H2 s s2 => by rw [← l.len]; exact walk_tup.stops H2 (same_t s2 (same_t s q))
  yld := fun i P2 H2 x H3 d s s2 hd y => by
    have hi : i < ds.length := (List.getElem?_eq_some_iff.mp hd).1
    obtain ⟨rfl, hx⟩ := walk_tup.yields i H2 x H3 (by rw [l.len]; exact hi) (same_t s2 (same_t s q)) y
    obtain ⟨d', e, dn⟩ := l.get' hx
    rw [hd] at e; cases e
    exact ⟨P2, Al.refl s2, Den.mono s _ _ dn⟩
theorem it_range {lo : Int} {n : Nat} : ItOk K (Itr lo n) P (rngD lo n) where
  go := fun i P2 H2 s s2 hi => by rw [rngD_len] at hi; exact hi
  stop := fun P2 H2 s s2 => by rw [rngD_len]; exact Nat.le_refl n
  yld := fun i P2 H2 x H3 d s s2 hd y => by
    obtain ⟨rfl, rfl⟩ := y
    rw [rngD_get hd]
    exact ⟨P2, Al.refl s2, dint⟩
end
theorem seqD_v {K : PySem.W.Frag} {P : Hp} {d : D} {v : V} {ds : List D} (h : Den K P d v) (e : seqD d = some ds) : ∃ a vs, v = .ref a ∧ SqL K P a vs ∧ DenL K P ds vs := by
  cases d <;> simp [seqD] at e
  · subst e
    unfold Den at h
    obtain ⟨a, vs, rfl, q, l⟩ := h
    exact ⟨a, vs, rfl, SqL.of q, l⟩
  · subst e
    unfold Den at h
    exact h
section
variable {K : PySem.W.Frag} {X : Cx} {E : WX} {tg e : Expr} {F : EM} {As : List EM}
theorem ei_seq (h : EV X E e F) : EI X E tg e (iSeq F) := PI.imp (pi_list h) fun σ H Q ⟨P, W, ρ, w, g⟩ => ⟨P, W, ρ, w, (Go.bind g).mono fun v H1 ⟨P1, W1, a, s1, ⟨w1, d1⟩, k⟩ => by
  obtain ⟨d, ρ1⟩ := a
  cases d with
  | lst ds =>
    obtain ⟨a, vs, rfl, q, l⟩ := seqD_v d1 (ds := ds) rfl
    exact ⟨a, rfl, ⟨vs, same_l w1.same q⟩, k _ P1 W1 H1 (Step.refl P1 W1 H1) ⟨w1, it_list q l⟩⟩
  | rol ds =>
    obtain ⟨a, vs, rfl, q, l⟩ := seqD_v d1 (ds := ds) rfl
    exact ⟨a, rfl, ⟨vs, same_l w1.same q⟩, k _ P1 W1 H1 (Step.refl P1 W1 H1) ⟨w1, it_list q l⟩⟩
  | _ => exact k.elim⟩
theorem ei_tup (h : EV X E e F) : EI X E tg e (iTupD F) := PI.imp (pi_tup h) fun σ H Q ⟨P, W, ρ, w, g⟩ => ⟨P, W, ρ, w, (Go.bind g).mono fun v H1 ⟨P1, W1, a, s1, ⟨w1, d1⟩, k⟩ => by
  obtain ⟨d, ρ1⟩ := a
  cases d with
  | tup ds =>
    unfold Den at d1
    obtain ⟨a, vs, rfl, q, l⟩ := d1
    exact ⟨a, rfl, ⟨vs, same_t w1.same q⟩, k _ P1 W1 H1 (Step.refl P1 W1 H1) ⟨w1, it_tup q l⟩⟩
  | _ => exact k.elim⟩
/-- by arguments -/
theorem ei_arg {t : TA → TI} {f : List D → Option (List D)} (hp : PI X tg e (t (rX X.K X.mg E (VLRel X.K X.mg) (vL As))))
    (ht : ∀ (ta : TA) σ H R, (ta σ H fun vs H1 => ∃ P ds xs, Same P H1 ∧ DenL X.K P ds vs ∧ f ds = some xs ∧ ∀ J, ItOk X.K J P xs → R J H1) → (∀ Q Q' : List V → Hp → Prop, (∀ vs H1, Q vs H1 → Q' vs H1) → ta σ H Q → ta σ H Q') → t ta σ H R) :
    EI X E tg e (iArg f As) := PI.imp hp fun σ H R ⟨P, W, ρ, w, g⟩ => by
  refine ht _ σ H R ⟨P, W, ρ, w, (Go.bind g).mono fun vs H1 ⟨P1, W1, a, s1, ⟨w1, l1⟩, k⟩ => ?_⟩ (fun Q Q' h ⟨P, W, ρ, w, g⟩ => ⟨P, W, ρ, w, g.mono h⟩)
  obtain ⟨xs, e, k⟩ := Go.of k
  exact ⟨P1, a.1, xs, w1.same, l1, e, fun J ok => k J P1 W1 H1 (Step.refl P1 W1 H1) ⟨w1, ok⟩⟩
theorem okI_b {j : Int} (h : okI j = true) : -(2 ^ 62) ≤ j ∧ j < 2 ^ 62 := by
  unfold okI at h
  simp only [Bool.and_eq_true, decide_eq_true_eq] at h
  omega
theorem DenL.iint {K : PySem.W.Frag} {P : Hp} {i : Int} {v : V} (h : Den K P (.int i) v) : v = .int i := by unfold Den at h; exact h
theorem ht_rng1 (ta : TA) (σ : St) (H : Hp) (R : It → Hp → Prop) (h : ta σ H fun vs H1 => ∃ P ds xs, Same P H1 ∧ DenL K P ds vs ∧ rng1 ds = some xs ∧ ∀ J, ItOk K J P xs → R J H1)
    (mo : ∀ Q Q' : List V → Hp → Prop, (∀ vs H1, Q vs H1 → Q' vs H1) → ta σ H Q → ta σ H Q') : iRng1 ta σ H R := by
  refine mo _ _ (fun vs H1 ⟨P, ds, xs, s, l, e, k⟩ => ?_) h
  unfold rng1 at e
  split at e
  · split at e
    · rename_i hj
      cases e
      obtain ⟨v, rfl, dv⟩ := DenL.one l
      rw [DenL.iint dv]
      exact ⟨_, rfl, (okI_b hj).1, (okI_b hj).2, k _ it_range⟩
    · cases e
  · cases e
end
/-! ### comprehensions -/
def noX {α : Type} : Res α → Res α
  | .ok a => .ok a
  | _ => .fail
theorem noX_ok {α : Type} (a : α) : noX (.ok a) = .ok a := rfl
def shE : Option T → Option T
  | some (.sh d) => some (.sh d)
  | _ => none
def backE (own : List Nat) (ρ0 ρ : Env) : Env := own.foldl (fun ρ i => ρ.set i (shE (ρ0.getD i none))) ρ
def bTrue : BM := fun ρ => .ok (true, ρ)
def cmpL (own : List Nat) (g : GM) (C : BM) (F : EM) : List D → List D → Env → Res (T × Env)
  | [], acc, ρ => .ok (.lst acc, ρ)
  | x :: xs, acc, ρ => Res.of (g x (wipeE own ρ)) >>= fun ρ1 => noX (C ρ1) >>= fun b => if b.1 then noX (F b.2) >>= fun d => if acc.length < 1000000 then cmpL own g C F xs (acc ++ [d.1]) (backE own ρ d.2) else .fail
    else cmpL own g C F xs acc (backE own ρ b.2)
def tComp (own : List Nat) (g : GM) (I : IM) (C : BM) (F : EM) : OM := fun ρ => I ρ >>= fun a => cmpL own g C F a.1 [] a.2
def E0 : WX := fun _ _ _ _ => False
section
variable {K : PySem.W.Frag} {mg : Str → Option Value} {P P' H H' : Hp} {W W' : Own} {σ σ' : St} {ρ ρ' : Env}
theorem wipeE_len (is : List Nat) : ∀ ρ : Env, (wipeE is ρ).length = ρ.length := by
  induction is with
  | nil => intro ρ; rfl
  | cons i is ih => intro ρ; show (wipeE is (ρ.set i none)).length = _; rw [ih]; simp
theorem wipeE_some (is : List Nat) : ∀ {ρ : Env} {i : Nat} {t : T}, (wipeE is ρ)[i]? = some (some t) → ρ[i]? = some (some t) ∧ i ∉ is := by
  induction is with
  | nil => intro ρ i t h; exact ⟨h, by simp⟩
  | cons k is ih =>
    intro ρ i t h
    obtain ⟨h1, h2⟩ := ih (ρ := ρ.set k none) h
    by_cases e : k = i
    · subst e
      by_cases hl : k < ρ.length
      · rw [List.getElem?_set_self hl] at h1; cases h1
      · rw [List.getElem?_eq_none (by simpa using hl)] at h1; cases h1
    · rw [List.getElem?_set_ne e] at h1
      exact ⟨h1, by simp [h2, Ne.symm e]⟩
theorem Wd.inBlk (w : Wd K mg P W H σ ρ) (own : List Nat) : Wd K mg P W H (L2.wipe σ own) (wipeE own ρ) := by
  refine ⟨w.same, w.own, fun i t e => ?_, by rw [wipeE_len, wipe_length]; exact w.len⟩
  obtain ⟨h1, h2⟩ := wipeE_some own e
  obtain ⟨v, hs, hr⟩ := w.env i t h1
  exact ⟨v, by rw [wipe_out h2]; exact hs, hr⟩
theorem backE_len (own : List Nat) (ρ0 : Env) : ∀ ρ : Env, (backE own ρ0 ρ).length = ρ.length := by
  induction own with
  | nil => intro ρ; rfl
  | cons i is ih => intro ρ; show (backE is ρ0 (ρ.set i _)).length = _; rw [ih]; simp
theorem backE_some (own : List Nat) (ρ0 : Env) : ∀ {ρ : Env} {i : Nat} {t : T}, (backE own ρ0 ρ)[i]? = some (some t) → (ρ[i]? = some (some t) ∧ i ∉ own) ∨ (∃ d, t = .sh d ∧ ρ0[i]? = some (some (.sh d))) := by
  induction own with
  | nil => intro ρ i t h; exact .inl ⟨h, by simp⟩
  | cons k is ih =>
    intro ρ i t h
    rcases ih (ρ := ρ.set k (shE (ρ0.getD k none))) h with ⟨h1, h2⟩ | h1
    · by_cases e : k = i
      · subst e
        by_cases hl : k < ρ.length
        · rw [List.getElem?_set_self hl] at h1
          have h1 := Option.some.inj h1
          rw [List.getD_eq_getElem?_getD] at h1
          cases q : ρ0[k]? with
          | none => rw [q] at h1; cases h1
          | some o =>
            cases o with
            | none => rw [q] at h1; cases h1
            | some t' =>
              rw [q] at h1
              cases t' with
              | sh d => cases h1; exact .inr ⟨d, rfl, rfl⟩
              | _ => cases h1
        · rw [List.getElem?_eq_none (by simpa using hl)] at h1; cases h1
      · rw [List.getElem?_set_ne e] at h1
        exact .inl ⟨h1, by simp [h2, Ne.symm e]⟩
    · exact .inr h1
theorem Wd.outBlk {own : List Nat} {ρ0 : Env} {P0 H0 : Hp} {W0 : Own} (w : Wd K mg P W H σ' ρ) (w0 : Wd K mg P0 W0 H0 σ ρ0) (s : Same P0 P) (hw : L2.wipe σ' own = L2.wipe σ own) : Wd K mg P W H σ (backE own ρ0 ρ) := by
  refine ⟨w.same, w.own, fun i t e => ?_, ?_⟩
  · rcases backE_some own ρ0 e with ⟨h1, h2⟩ | ⟨d, rfl, h1⟩
    · obtain ⟨v, hs, hr⟩ := w.env i t h1
      have q := congrArg (fun l : St => l[i]?) hw
      simp only [wipe_out h2] at q
      exact ⟨v, by rw [← q]; exact hs, hr⟩
    · obtain ⟨v, hs, hr⟩ := w0.env i _ h1
      exact ⟨v, hs, Den.mono s _ _ hr⟩
  · rw [backE_len]
    have q := congrArg List.length hw
    rw [wipe_length, wipe_length] at q
    rw [← q]; exact w.len
/-- an object that nobody owns changes -/
theorem Wd.other {D : Addr} {o : HO} (w : Wd K mg P W H σ ρ) (hp : P D = none) (hw : W D = none) : Wd K mg P W (upd H D o) σ ρ := by
  refine ⟨fun a u e => ?_, fun a r e => ?_, fun i t e => ?_, w.len⟩
  · rw [upd_ne (ne_of_none e hp)]; exact w.same a u e
  · obtain ⟨h1, u, h2⟩ := w.own a r e
    have : a ≠ D := fun z => by subst z; rw [hw] at e; cases e
    exact ⟨h1, u, by rw [upd_ne this]; exact h2⟩
  · obtain ⟨v, hs, hr⟩ := w.env i t e
    refine ⟨v, hs, RT.mono (same_refl P) (fun f x ex => ⟨ex, fun o h => ?_⟩) t v hr⟩
    have : x ≠ D := fun z => by subst z; rw [hw] at ex; cases ex
    rw [upd_ne this]; exact h
/-- an object that nobody owns is taken in hand -/
theorem Wd.adopt {A : Addr} {ds : List D} {vs : List V} (w : Wd K mg P W H σ ρ) (hp : P A = none) (hw : W A = none) (hh : H A = some (.lst vs)) (l : DenL K P ds vs) : Wd K mg P (ownNew W A none) H σ ρ ∧ RT K mg P (ownNew W A none) H none (.lst ds) (.ref A) := by
  refine ⟨⟨w.same, fun a r e => ?_, fun i t e => ?_, w.len⟩, A, vs, rfl, by unfold ownNew; rw [if_pos rfl], hh, l⟩
  · unfold ownNew at e
    by_cases h : a = A
    · subst h; exact ⟨hp, _, hh⟩
    · rw [if_neg h] at e; exact w.own a r e
  · obtain ⟨v, hs, hr⟩ := w.env i t e
    refine ⟨v, hs, RT.mono (same_refl P) (fun f x ex => ⟨?_, fun o h => h⟩) t v hr⟩
    have : x ≠ A := fun z => by subst z; rw [hw] at ex; cases ex
    unfold ownNew; rw [if_neg this]; exact ex
end
section
variable {X : Cx} {E : WX}
theorem go_no {α β γ : Type} {K : PySem.W.Frag} {mg : Str → Option Value} {Rel : Hp → Own → Hp → St → β → γ → Prop} {r : Res α} {k : α → Res β} {P H : Hp} {W : Own} {σ : St} {Q : γ → Hp → Prop} (h : Go K mg E Rel (noX r >>= k) P W H σ Q) : ∃ a, r = .ok a ∧ Go K mg E Rel (k a) P W H σ Q := by
  cases r with
  | ok a => exact ⟨a, rfl, h⟩
  | exc x ρ => exact h.elim
  | fail => exact h.elim
theorem comp_red {own : List Nat} {g : GM} {I : IM} {C : BM} {F : EM} {sl : List Nat} {σ : St} {H : Hp} {Q : VK} {K : PySem.W.Frag} {mg : Str → Option Value} (hsl : ∀ i ∈ sl, i ∈ own)
    (h : rX K mg E (TRel K mg) (tComp own g I C F) σ H Q) : tLc (rX K mg E (IRel K mg) I) (rG K mg sl g) (rB K mg E0 C) (rX K mg E0 (VRel K mg) F) own σ H Q := by
  obtain ⟨P, W, ρ, w, g0⟩ := h
  refine ⟨P, W, ρ, w, (Go.bind g0).mono fun J H1 ⟨P1, W1, a, s1, ⟨w1, ok⟩, k⟩ => fun D hD => ?_⟩
  have wD : W1 D = none := by
    cases q : W1 D with
    | none => rfl
    | some r => obtain ⟨_, u, e⟩ := w1.own D r q; rw [hD] at e; cases e
  have pD : P1 D = none := same_none w1.same hD
  refine ⟨fun i m H2 => m = a.1.length - i ∧ i ≤ a.1.length ∧ ∃ P2 W2 ρ2 acc vacc, Wd K mg P2 W2 H2 σ ρ2 ∧ Step P1 W1 H1 P2 W2 H2 ∧ H2 D = some (.lst vacc) ∧ P2 D = none ∧ W2 D = none ∧ DenL K P2 acc vacc ∧
    Go K mg E (TRel K mg) (cmpL own g C F (a.1.drop i) acc ρ2) P1 W1 H1 σ Q, ⟨a.1.length, by simp, Nat.zero_le _, P1, W1, a.2, [], [], w1.other pD wD, ?_, upd_same, pD, wD, DenL.nil, k⟩, ?_⟩
  · exact ⟨same_refl P1, fun x o hx wx => ⟨by rw [upd_ne (ne_of_none hx hD)]; exact hx, wx, rfl⟩⟩
  · rintro i m H2 ⟨rfl, hi, P2, W2, ρ2, acc, vacc, w2, st, hD2, pD2, wD2, dn, k2⟩
    by_cases hlt : i < a.1.length
    · rw [List.drop_eq_getElem_cons hlt] at k2
      unfold cmpL at k2
      obtain ⟨ρ3, eg, k3⟩ := Go.of k2
      refine .inr ⟨ok.go i P2 H2 st.1 w2.same hlt, fun H3 => ∃ P3 W3 ρ4 acc' vacc', Wd K mg P3 W3 H3 σ ρ4 ∧ Step P1 W1 H1 P3 W3 H3 ∧ H3 D = some (.lst vacc') ∧ P3 D = none ∧ W3 D = none ∧ DenL K P3 acc' vacc' ∧
        Go K mg E (TRel K mg) (cmpL own g C F (a.1.drop (i + 1)) acc' ρ4) P1 W1 H1 σ Q, fun H3 q => ⟨a.1.length - (i + 1), by omega, rfl, hlt, q⟩, fun x H3 y => ?_⟩
      obtain ⟨P3, al, dx⟩ := ok.yld i P2 H2 x H3 _ st.1 w2.same (List.getElem?_eq_getElem hlt) y
      refine ⟨P3, W2, wipeE own ρ2, _, ρ3, (w2.al al).inBlk own, dx, eg, fun σ4 P4 W4 H4 s4 w4 k4 => ?_⟩
      have hw4 : L2.wipe σ4 own = L2.wipe σ own := by
        apply List.ext_getElem?
        intro j
        by_cases hj : j ∈ own
        · have none_of : ∀ τ : St, j ∈ own → τ.length = σ.length → (L2.wipe τ own)[j]? = if j < σ.length then some none else none := fun τ hm hl => by
            cases q : (L2.wipe τ own)[j]? with
            | none =>
              have : (L2.wipe τ own).length ≤ j := List.getElem?_eq_none_iff.mp q
              rw [wipe_length, hl] at this
              rw [if_neg (by omega)]
            | some o =>
              have hl2 : j < (L2.wipe τ own).length := (List.getElem?_eq_some_iff.mp q).1
              rw [wipe_length, hl] at hl2
              rw [if_pos hl2]
              cases o with
              | none => rfl
              | some v => exact absurd hm (wipe_some q).2
          rw [none_of σ4 hj (by have := k4.1; rw [wipe_length] at this; exact this), none_of σ hj rfl]
        · rw [wipe_out hj, wipe_out hj]
          have := k4.2 j (fun z => hj (hsl j z))
          rw [this, wipe_out hj]
      refine ⟨hw4, ?_⟩
      have st4 : Step P2 W2 H2 P4 W4 H4 := (al.step W2).trans s4
      obtain ⟨b, eb, k5⟩ := go_no k3
      refine ⟨P4, W4, ρ3, w4, ?_⟩
      rw [eb]
      refine fun P5 W5 H5 s5 w5 => ?_
      have st5 : Step P2 W2 H2 P5 W5 H5 := st4.trans s5
      have hD5 := st5.2 D _ hD2 wD2
      dsimp only
      by_cases hb : b.1 = true
      · rw [if_pos hb] at k5
        rw [if_pos hb]
        obtain ⟨d, ed, k6⟩ := go_no k5
        refine ⟨P5, W5, b.2, w5, ?_⟩
        rw [ed]
        refine fun v P6 W6 H6 s6 ⟨w6, d6⟩ => ?_
        have st6 : Step P2 W2 H2 P6 W6 H6 := st5.trans s6
        obtain ⟨h1, h2, h3⟩ := st6.2 D _ hD2 wD2
        split at k6
        · rename_i hlen
          refine ⟨vacc, h1, by rw [dn.len]; exact szLt hlen, P6, W6, _, acc ++ [d.1], vacc ++ [v], (w6.outBlk w2 st6.1 hw4).other (h3.trans pD2) h2, ?_, upd_same, h3.trans pD2, h2, DenL.append (DenL.mono st6.1 _ _ dn) (DenL.cons d6 DenL.nil), k6⟩
          have s0 := st.trans st6
          refine ⟨s0.1, fun z o hz wz => ?_⟩
          obtain ⟨a1, a2, a3⟩ := s0.2 z o hz wz
          exact ⟨by rw [upd_ne (ne_of_none hz hD)]; exact a1, a2, a3⟩
        · exact k6.elim
      · rw [if_neg hb] at k5
        rw [if_neg hb]
        obtain ⟨h1, h2, h3⟩ := hD5
        exact ⟨P5, W5, _, acc, vacc, w5.outBlk w2 st5.1 hw4, st.trans st5, h1, h3.trans pD2, h2, DenL.mono st5.1 _ _ dn, k5⟩
    · have e : i = a.1.length := by omega
      subst e
      rw [List.drop_length] at k2
      refine .inl ⟨ok.stop P2 H2 st.1 w2.same, ?_⟩
      obtain ⟨wa, ra⟩ := w2.adopt pD2 wD2 hD2 dn
      refine k2 (.ref D) P2 (ownNew W2 D none) H2 ⟨st.1, fun z o hz wz => ?_⟩ ⟨wa, ra⟩
      obtain ⟨a1, a2, a3⟩ := st.2 z o hz wz
      have : z ≠ D := ne_of_none hz hD
      exact ⟨a1, by unfold ownNew; rw [if_neg this]; exact a2, a3⟩
end
section
variable {X : Cx} {E : WX} {md : List Bool} {elt tg iter : Expr} {ifs : List Expr} {scope : Scope} {own : List (Str × Nat)} {pos : Pos} {g : GM} {I : IM} {C : BM} {F : EM} {sl : List Nat}
theorem PTs.imp {X : Cx} {e : List Expr} {t t' : TT} (h : PTs X e t) (q : ∀ σ H Q, t' σ H Q → t σ H Q) : PTs X e t' := ⟨fun pins s σ H Q I hq => h.run pins s σ H Q I (q σ H Q hq)⟩
def ETs (X : Cx) (E : WX) (e : List Expr) (C : BM) : Prop := PTs X e (rB X.K X.mg E C)
theorem ets_nil {X : Cx} : ETs X E0 [] bTrue := PTs.imp pts_nil fun σ H Q ⟨P, W, ρ, w, g⟩ => g P W H (Step.refl P W H) w
theorem ets_one {X : Cx} {c : Expr} {C : BM} (h : EB X E0 c C) : ETs X E0 [c] C := pts_one h
abbrev Blk (X : Cx) (scope : Scope) (s : Shared) (H : Hp) (C : Addr) (cl : List (Str × Addr)) (fp : List Addr) : Cx := X.blk s H scope (compEnvC scope cl C X.env) fp
theorem et_comp (hc : X.calm = true) (hN : X.N.Nodup) (hi : EI X E tg iter I) (ok : BlkOk X.N X.env.scope scope own) (hsl : ∀ i ∈ sl, i ∈ own.map (·.2))
    (hg : ∀ s H A cl fp, GD (Blk X scope s H A cl fp) sl tg g) (ht : ∀ s H A cl fp, ETs (Blk X scope s H A cl fp) E0 ifs C) (he : ∀ s H A cl fp, EV (Blk X scope s H A cl fp) E0 elt F)
    (hs : ∀ x, foldedSetIterable iter X.env x = pure x := by intro _; rfl) : ET X E (.ListComp elt [⟨tg, iter, ifs, 0⟩] scope pos) (tComp (own.map (·.2)) g I C F) :=
  PE.imp (pe_lc (g := rG X.K X.mg sl g) (tt := rB X.K X.mg E0 C) (te := rX X.K X.mg E0 (VRel X.K X.mg) F) hc hN hi ok hg ht he hs) fun σ H Q h => comp_red hsl h
theorem sd_setC {i : Nat} {y : Str} {py spos : Pos} (hc : X.calm = true) (hN : X.N.Nodup) (hy : X.N[i]? = some y) (hyl : X.env.scope.names.lookup y = some .local)
    (hsw : swapsWith (.ListComp elt [⟨tg, iter, ifs, 0⟩] scope pos) (some (.Name y py)) spos.line X.env = pure true) (hi : EI X E tg iter I) (ok : BlkOk X.N X.env.scope scope own) (hsl : ∀ i ∈ sl, i ∈ own.map (·.2))
    (hg : ∀ s H A cl fp, GD (Blk X scope s H A cl fp) sl tg g) (ht : ∀ s H A cl fp, ETs (Blk X scope s H A cl fp) E0 ifs C) (he : ∀ s H A cl fp, EV (Blk X scope s H A cl fp) E0 elt F)
    (hk : md[i]? ≠ some true) (hs : ∀ x, foldedSetIterable iter X.env x = pure x := by intro _; rfl) : SD X E md (.Assign [.Name y py] (.ListComp elt [⟨tg, iter, ifs, 0⟩] scope pos) spos) (sSet i (tComp (own.map (·.2)) g I C F)) :=
  sd_set (PS.imp (ps_setLc (g := rG X.K X.mg sl g) (tt := rB X.K X.mg E0 C) (te := rX X.K X.mg E0 (VRel X.K X.mg) F) hc hN hy hyl hsw hi ok hg ht he hs) fun D σ H h => comp_red hsl h) hk
end
end Od
namespace Od
open PySem PySem.Spec L2
open PyProof.Rows hiding St
/-! ### defs that are called while no text of a list is in the making -/
structure RoomG (k : Nat) (A : Around) : Prop extends Room k A where
  gd : A.guards = some []
theorem RoomG.mono {j k : Nat} {A : Around} (r : RoomG k A) (h : j ≤ k) : RoomG j A := ⟨r.toRoom.mono h, r.gd⟩
structure FnG (P : Program) (w : World) (K : PySem.W.Frag) (mg : Str → Option Value) (base : Heap) (CX : CXT) (k : Nat) (f : Addr) (fd : FuncData) (ps : List Str) (sp : Sp) : Prop where
  ln : ∀ vs H Q E, sp vs H Q E → vs.length = ps.length
  go : ∀ {A : Around} {outer : List PySem.Env} {s : Shared} {H : Hp} {ar : Args} {us : List Value} {vs : List V} {Q : VK} {E : XK}, RoomG k A → Env0 P w K mg base A outer s H → BindsTo s fd ar (ps.zip us) → Vals vs us → sp vs H Q E → codeAny (model P w) A (.call (.ref f) ar) (CR CX outer P w H s Q E) s
section
variable {P : Program} {w : World} {K : PySem.W.Frag} {mg : Str → Option Value} {base : Heap} {CX : CXT} {j k : Nat} {f : Addr} {fd : FuncData} {ps : List Str} {sp sp' : Sp}
theorem FnG.mono (F : FnG P w K mg base CX j f fd ps sp) (h : j ≤ k) : FnG P w K mg base CX k f fd ps sp := ⟨F.ln, fun hr => F.go (hr.mono h)⟩
theorem FnG.imp (F : FnG P w K mg base CX k f fd ps sp) (h : ∀ vs H Q E, sp' vs H Q E → sp vs H Q E) : FnG P w K mg base CX k f fd ps sp' := ⟨fun vs H Q E q => F.ln vs H Q E (h vs H Q E q), fun hr he hb hv q => F.go hr he hb hv (h _ _ _ _ q)⟩
theorem okG {x qual : Str} {st : Stmt} {N : List Str} (F : Fun K x qual st f fd) (S : FnScope N ps (defScope st)) (len : ∀ vs H Q E, sp vs H Q E → vs.length = ps.length)
    (hbody : ∀ (cdv : Value) (A : Around) (outer : List PySem.Env) (s : Shared) (H : Hp) (vs : List V) (Q : VK) (E : XK), RoomG k (A.deeper (envOfC qual (defScope st) s.heap.objs.size f cdv)) → sp vs H Q E →
      ∃ t, PSs (cxOf (L2.CX P w) P w K mg base N qual (defScope st) f cdv A outer s H E) (defBody st) t ∧ t { nx := fun _ H' => Q .non H', rt := Q } (start N vs) H) : FnG P w K mg base (L2.CX P w) (k + 1) f fd ps sp := by
  obtain ⟨oc, od, kV, doc, pm, an, cdv, ct, osl, rfl, lk, hcd⟩ := F.ex
  refine ⟨len, ?_⟩
  intro A outer s H ar us vs Q E hr e0 hb rv q
  have ln := len _ _ _ _ q
  have all : ∀ b o, base.get? b = some o → s.heap.get? b = some o := fun b o e => (e0.bs b o e).1
  have kin : K.In s.heap := e0.mod.kin.keeps all
  have nol : s.heap.NoLimit := e0.mod.nolimit.keeps all
  refine codeAny_call_function hr.toRoom.depth (kin _ _ lk) rfl S.co S.gen rfl (PySem.W.codeRec_of kin hcd) (hb _ _ _ _ ?_)
  refine wpAny_newFunctionEnv_cells S.kind (fun z hz => ?_) ?_
  · obtain ⟨n, u⟩ := z
    rcases S.par n (List.of_mem_zip hz).1 with g | g
    · exact Or.inl g
    · exact Or.inr ⟨g, PySem.W.cellsFrom_some _ _ _ (Or.inl g)⟩
  intro env he s1 fresh
  subst he
  refine ⟨nol.keeps fresh.toInCall.keep, codeAny_func ?_⟩
  obtain ⟨t, pt, qt⟩ := hbody cdv A outer s H vs Q E ⟨hr.toRoom.deeper _, hr.gd⟩ q
  have I := inv_start (CX := L2.CX P w) (E := E) S hr.hd e0 ln rv fresh
  refine wpAny_mono (pt.run [] s1 (start N vs) H _ I qt) ?_ fun _ _ z => z
  intro fl s2 z
  cases fl with
  | next =>
    obtain ⟨σ2, H2, J, y⟩ := z
    exact ⟨V.non, H2, J.os, J.bare, J.base, J.hok, rfl, y⟩
  | ret u =>
    obtain ⟨v, σ2, H2, J, r2, y⟩ := z
    exact ⟨v, H2, J.os, J.bare, J.base, J.hok, r2, y⟩
  | brk => exact z.elim fun _ z => z.elim fun _ z => z.2.elim
  | cont => exact z.elim fun _ z => z.elim fun _ z => z.2.elim
end
section
variable {X : Cx} {CX : CXT} {k : Nat} {f : Addr} {fd : FuncData} {ps : List Str} {sp : Sp} {E : St → XK} {x : Str} {p pos : Pos} {e : Expr} {es : List Expr} {t : TA}
theorem runG {pins : List (Addr × Obj)} {σ : St} {H : Hp} {s : Shared} {Q : VK} {us : List Value} {vs : List V} (F : FnG X.prog X.w X.K X.mg X.base CX k f fd ps sp) (hr : RoomG k X.A) (hb : Binds X.K fd ps []) (hx : PassesAt CX X σ (E σ))
    (I : Inv X pins σ H s) (rv : Vals vs us) (q : sp vs H Q (E σ)) : wpAny (model X.prog X.w) X.A (call (.ref f) us) (EP X pins σ Q) X.xe s := by
  have ln : us.length = ps.length := by rw [← rv.length]; exact F.ln _ _ _ _ q
  have bt : BindsTo s fd ⟨us, []⟩ (ps.zip us) := by
    have := hb s us I.kIn (by rw [List.append_nil]; exact ln)
    rwa [List.append_nil] at this
  refine wpAny_call (codeAny_mono (F.go hr I.env0 bt rv q) ?_)
  rintro (e | fl) s2 z
  · exact hx pins H s e s2 I z
  · cases fl with
    | ret u => exact I.after z
    | next => exact z.elim
    | brk => exact z.elim
    | cont => exact z.elim
def tCallG (sp : Sp) (E : St → XK) (t : TA) : TE := fun σ H Q => t σ H fun vs H1 => sp vs H1 Q (E σ)
theorem pe_callG (F : FnG X.prog X.w X.K X.mg X.base CX k f fd ps sp) (hr : RoomG k X.A) (hg : Gl X x) (hm : X.mg x = some (.ref f)) (hk : PySem.W.keepIn X.K (.ref f) = true) (hb : Binds X.K fd ps []) (hx : ∀ σ, PassesAt CX X σ (E σ))
    (ha : PA X (e :: es) t) (hdb : (x == ("__debug__" : Str)) = false) (he : starEach (e :: es) X.env = (false, eval e X.env) :: starEach es X.env) (hpl : (backTo pos (starEach es X.env)).any (·.1) = false) :
    PE X (.Call (.Name x p) (e :: es) [] pos) (tCallG sp E t) := by
  constructor
  intro pins s σ H Q I q
  refine wpAny_Call_Name_kw (ld_glob I hg hm ?_ hdb)
  refine PySem.W.callWith_K (h₀ := X.base) I.ok.mod.kin hk (thn (ha.run pos pins s σ H _ I q) ?_) he hpl
  rintro us s1 ⟨vs, H1, J, rv, z⟩
  exact ⟨J.kIn, runG F hr hb (hx σ) J rv z⟩
end
/-! ### defs: what they give, as a function of what they are handed -/
inductive Out where
  | ok (t : T) (os : Env) | exc (x : Exn) (os : Env) | fail
abbrev Fn := List T → Out
def spF (K : PySem.W.Frag) (mg : Str → Option Value) (f : Fn) : Sp := fun vs H Q E => ∃ P W ts, Wd K mg P W H (vs.map some) (ts.map some) ∧ ts.length = vs.length ∧ match f ts with
  | .ok t os => ∀ v P' W' H', Step P W H P' W' H' → Wd K mg P' W' H' (vs.map some) os → RT K mg P' W' H' none t v → Q v H'
  | .exc x os => ∀ c od P' W' H', Step P W H P' W' H' → Wd K mg P' W' H' (vs.map some) os → XR K mg P' H' x c od → E c od H'
  | .fail => False
def maskE : List Bool → Env → Env
  | [], _ => []
  | b :: bs, ρ => (if b then ρ.head?.join else none) :: maskE bs ρ.tail
def fnOf (N n : Nat) (md : List Bool) (B : SM) : Fn := fun ts => if ts.length = n then match B (ts.map some ++ List.replicate (N - n) none) with
  | .ok (.rt t ρ) => .ok t (maskE md ρ)
  | .ok (.nx ρ) => .ok (.sh .non) (maskE md ρ)
  | .exc x ρ => .exc x (maskE md ρ)
  | _ => .fail else .fail
theorem maskE_len : ∀ (md : List Bool) (ρ : Env), (maskE md ρ).length = md.length
  | [], _ => rfl
  | b :: bs, ρ => by show (maskE bs ρ.tail).length + 1 = _; rw [maskE_len bs]; rfl
theorem maskE_some : ∀ {md : List Bool} {ρ : Env} {i : Nat} {t : T}, (maskE md ρ)[i]? = some (some t) → md[i]? = some true ∧ ρ[i]? = some (some t)
  | [], ρ, i, t, h => by simp [maskE] at h
  | b :: bs, ρ, 0, t, h => by
    simp only [maskE, List.getElem?_cons_zero, Option.some.injEq] at h
    split at h
    · rename_i hb
      cases ρ with
      | nil => cases h
      | cons o r => simp at h; subst h; simp [hb]
    · cases h
  | b :: bs, ρ, i + 1, t, h => by
    simp only [maskE, List.getElem?_cons_succ] at h
    obtain ⟨h1, h2⟩ := maskE_some h
    refine ⟨by simpa using h1, ?_⟩
    cases ρ with
    | nil => simp at h2
    | cons o r => simpa using h2
section
variable {P : Program} {w : World} {K : PySem.W.Frag} {mg : Str → Option Value} {base : Heap}
theorem start_get {N : List Str} {vs : List V} {i : Nat} (h : i < vs.length) : (L2.start N vs)[i]? = (vs.map some)[i]? := by
  unfold L2.start
  rw [List.getElem?_append_left (by simpa using h)]
theorem fn_ok {x qual : Str} {st : Stmt} {f : Addr} {fd : FuncData} {N ps : List Str} {k : Nat} {md : List Bool} {B : SM} (F : Fun K x qual st f fd) (S : FnScope N ps (defScope st)) (hmd : md.length ≤ ps.length)
    (hB : ∀ (cdv : Value) (A : Around) (outer : List PySem.Env) (s : Shared) (H : Hp) (E : XK), RoomG k (A.deeper (envOfC qual (defScope st) s.heap.objs.size f cdv)) → SDs (cxOf (L2.CX P w) P w K mg base N qual (defScope st) f cdv A outer s H E) (fun c d _ H => E c d H) md (defBody st) B) :
    FnG P w K mg base (L2.CX P w) (k + 1) f fd ps (spF K mg (fnOf N.length ps.length md B)) := by
  refine okG F S (fun vs H Q E h => ?_) (fun cdv A outer s H vs Q E hr h => ⟨_, hB cdv A outer s H E hr, ?_⟩)
  · obtain ⟨P', W, ts, _, hl, m⟩ := h
    unfold fnOf at m
    by_cases e : ts.length = ps.length
    · rw [← hl]; exact e
    · rw [if_neg e] at m; exact m.elim
  · obtain ⟨P', W, ts, wd, hl, m⟩ := h
    unfold fnOf at m
    by_cases e : ts.length = ps.length
    · rw [if_pos e] at m
      have hvl : vs.length = ps.length := hl.symm.trans e
      have hpl : ps.length ≤ N.length := by have := congrArg List.length S.pre; rw [List.length_take] at this; omega
      have wd0 : Wd K mg P' W H (L2.start N vs) (ts.map some ++ List.replicate (N.length - ps.length) none) := by
        refine ⟨wd.same, wd.own, fun i t ei => ?_, ?_⟩
        · by_cases hi : i < ts.length
          · rw [List.getElem?_append_left (by simpa using hi)] at ei
            obtain ⟨v, hs, hr⟩ := wd.env i t ei
            exact ⟨v, by rw [start_get (by omega)]; exact hs, hr⟩
          · rw [List.getElem?_append_right (by simpa using hi)] at ei
            rw [List.getElem?_replicate] at ei
            split at ei <;> cases ei
        · unfold L2.start
          simp only [List.length_append, List.length_map, List.length_replicate]
          omega
      have back : ∀ {σ' : St} {P2 : Hp} {W2 : Own} {H2 : Hp} {ρ2 : Env}, Wd K mg P2 W2 H2 σ' ρ2 → Kp md (L2.start N vs) σ' → Wd K mg P2 W2 H2 (vs.map some) (maskE md ρ2) := fun {σ' P2 W2 H2 ρ2} w2 kp => by
        refine ⟨w2.same, w2.own, fun i t ei => ?_, by rw [maskE_len]; simp; omega⟩
        obtain ⟨h1, h2⟩ := maskE_some ei
        obtain ⟨v, hs, hr⟩ := w2.env i t h2
        have hi : i < vs.length := by
          have := (List.getElem?_eq_some_iff.mp h1).1
          omega
        rw [kp.2 i h1, start_get hi] at hs
        exact ⟨v, hs, hr⟩
      refine ⟨P', W, _, wd0, ?_⟩
      cases hb : B (ts.map some ++ List.replicate (N.length - ps.length) none) with
      | ok fl =>
        rw [hb] at m
        cases fl with
        | rt t ρ2 => exact fun v σ' P2 W2 H2 st w2 kp rt => m v P2 W2 H2 st (back w2 kp) rt
        | nx ρ2 => exact fun σ' P2 W2 H2 st w2 kp => m .non P2 W2 H2 st (back w2 kp) (show Den K P2 .non .non from dnon)
        | bk ρ2 => exact m.elim
        | ct ρ2 => exact m.elim
      | exc x ρ2 =>
        rw [hb] at m
        exact fun c od σ' P2 W2 H2 st w2 kp xr => m c od P2 W2 H2 st (back w2 kp) xr
      | fail => rw [hb] at m; exact m.elim
    · rw [if_neg e] at m; exact m.elim
end
structure Cal (P : Program) (w : World) (K : PySem.W.Frag) (mg : Str → Option Value) (base : Heap) (k : Nat) (x : Str) (fn : Fn) : Prop where
  ex : ∃ (f : Addr) (fd : FuncData) (ps : List Str), FnG P w K mg base (L2.CX P w) k f fd ps (spF K mg fn) ∧ mg x = some (.ref f) ∧ PySem.W.keepIn K (.ref f) = true ∧ Binds K fd ps []
theorem spF_of {K : PySem.W.Frag} {mg : Str → Option Value} {f g : Fn} (h : ∀ ts, g ts ≠ .fail → f ts = g ts) : ∀ vs H Q E, spF K mg g vs H Q E → spF K mg f vs H Q E := fun vs H Q E ⟨P, W, ts, wd, hl, m⟩ => by
  refine ⟨P, W, ts, wd, hl, ?_⟩
  by_cases e : g ts = .fail
  · rw [e] at m; exact m.elim
  · rw [h ts e]; exact m
/-- the same where the function given is another one that agrees -/
theorem Cal.of {P : Program} {w : World} {K : PySem.W.Frag} {mg : Str → Option Value} {base : Heap} {k : Nat} {x : Str} {f g : Fn} (c : Cal P w K mg base k x f) (h : ∀ ts, g ts ≠ .fail → f ts = g ts) : Cal P w K mg base k x g := by
  obtain ⟨a, fd, ps, F, h1, h2, h3⟩ := c.ex
  exact ⟨a, fd, ps, F.imp (spF_of h), h1, h2, h3⟩
theorem Cal.mono {P : Program} {w : World} {K : PySem.W.Frag} {mg : Str → Option Value} {base : Heap} {k j : Nat} {x : Str} {f : Fn} (c : Cal P w K mg base k x f) (h : k ≤ j) : Cal P w K mg base j x f := by
  obtain ⟨a, fd, ps, F, h1, h2, h3⟩ := c.ex
  exact ⟨a, fd, ps, F.mono h, h1, h2, h3⟩
theorem Cal.mk' {P : Program} {w : World} {K : PySem.W.Frag} {mg : Str → Option Value} {base : Heap} {x qual : Str} {st : Stmt} {f : Addr} {fd : FuncData} {N ps : List Str} {k : Nat} {md : List Bool} {B : SM} (F : Fun K x qual st f fd) (hm : mg x = some (.ref f)) (hb : Binds K fd ps []) (S : FnScope N ps (defScope st)) (hmd : md.length ≤ ps.length)
    (hB : ∀ (cdv : Value) (A : Around) (outer : List PySem.Env) (s : Shared) (H : Hp) (E : XK), RoomG k (A.deeper (envOfC qual (defScope st) s.heap.objs.size f cdv)) → SDs (cxOf (L2.CX P w) P w K mg base N qual (defScope st) f cdv A outer s H E) (fun c d _ H => E c d H) md (defBody st) B) :
    Cal P w K mg base (k + 1) x (fnOf N.length ps.length md B) := ⟨f, fd, ps, fn_ok F S hmd hB, hm, F.kp, hb⟩
/-! ### calls -/
inductive Arg where
  | v (F : EM) | io (i : Nat)
def aL : List Arg → Env → Res (List (Option D) × Env)
  | [], ρ => .ok ([], ρ)
  | .v F :: as, ρ => F ρ >>= fun a => aL as a.2 >>= fun r => .ok (some a.1 :: r.1, r.2)
  | .io i :: as, ρ => match ρ[i]? with
    | some (some _) => aL as ρ >>= fun r => .ok (none :: r.1, r.2)
    | _ => .fail
def mkT : List Arg → List (Option D) → Env → Option (List T)
  | [], [], _ => some []
  | .v _ :: as, some d :: r, ρ => (mkT as r ρ).map (.sh d :: ·)
  | .io i :: as, none :: r, ρ => match ρ[i]? with
    | some (some t) => (mkT as r ρ).map (t :: ·)
    | _ => none
  | _, _, _ => none
def putB : List Arg → Env → Env → Env
  | [], _, ρ => ρ
  | .v _ :: as, os, ρ => putB as os.tail ρ
  | .io i :: as, os, ρ => putB as os.tail (ρ.set i os.head?.join)
def iosOf : List Arg → List Nat
  | [] => []
  | .v _ :: as => iosOf as
  | .io i :: as => i :: iosOf as
def nodupB : List Nat → Bool
  | [] => true
  | i :: is => !is.contains i && nodupB is
def eCall (f : Fn) (As : List Arg) : OM := fun ρ => if nodupB (iosOf As) = true then aL As ρ >>= fun a => Res.of (mkT As a.1 a.2) >>= fun ts => match f ts with
  | .ok t os => .ok (t, putB As os a.2)
  | .exc x os => .exc x (putB As os a.2)
  | .fail => .fail else .fail
section
variable (K : PySem.W.Frag) (mg : Str → Option Value)
def AOk (P : Hp) (σ : St) : List Arg → List (Option D) → List V → Prop
  | [], os, vs => os = [] ∧ vs = []
  | .v _ :: as, os, vs => ∃ d r v s, os = some d :: r ∧ vs = v :: s ∧ Den K P d v ∧ AOk P σ as r s
  | .io i :: as, os, vs => ∃ r v s, os = none :: r ∧ vs = v :: s ∧ σ[i]? = some (some v) ∧ AOk P σ as r s
def ARel (As : List Arg) (P : Hp) (W : Own) (H : Hp) (σ : St) (a : List (Option D) × Env) (vs : List V) : Prop := Wd K mg P W H σ a.2 ∧ AOk K P σ As a.1 vs
end
def EAA (X : Cx) (E : WX) (es : List Expr) (As : List Arg) : Prop := PA X es (rX X.K X.mg E (ARel X.K X.mg As) (aL As))
section
variable {K : PySem.W.Frag} {mg : Str → Option Value} {P P' H H' : Hp} {W W' : Own} {σ : St} {ρ : Env}
theorem AOk.step (s : Same P P') : ∀ {As : List Arg} {os : List (Option D)} {vs : List V}, AOk K P σ As os vs → AOk K P' σ As os vs
  | [], os, vs, h => h
  | .v _ :: as, os, vs, h => by
    obtain ⟨d, r, v, t, e1, e2, h1, h2⟩ := h
    exact ⟨d, r, v, t, e1, e2, Den.mono s _ _ h1, AOk.step s h2⟩
  | .io i :: as, os, vs, h => by
    obtain ⟨r, v, t, e1, e2, h1, h2⟩ := h
    exact ⟨r, v, t, e1, e2, h1, AOk.step s h2⟩
end
section
variable {X : Cx} {E : WX} {e : Expr} {es : List Expr}
theorem eaa_nil : EAA X E [] [] := PA.imp pa_nil fun σ H Q ⟨P, W, ρ, w, g⟩ => g [] P W H (Step.refl P W H) ⟨w, rfl, rfl⟩
theorem eaa_v {A : EM} {As : List Arg} (ha : EV X E e A) (hr : EAA X E es As) (hs : starEach (e :: es) X.env = (false, eval e X.env) :: starEach es X.env := by rfl) : EAA X E (e :: es) (.v A :: As) :=
  PA.imp (pa_cons ha hr hs) fun σ H Q ⟨P, W, ρ, w, g⟩ => ⟨P, W, ρ, w, (Go.bind g).mono fun x H1 ⟨P1, W1, a, s1, ⟨w1, k1⟩, g1⟩ => ⟨P1, W1, a.2, w1, (Go.bind g1).mono fun vs H2 ⟨P2, W2, b, s2, ⟨w2, k2⟩, g2⟩ =>
    g2 (x :: vs) P2 W2 H2 (Step.refl P2 W2 H2) ⟨w2, a.1, b.1, x, vs, rfl, rfl, Den.mono s2.1 _ _ k1, k2⟩⟩⟩
theorem eaa_io {i : Nat} {x : Str} {pos : Pos} {As : List Arg} (hN : X.N[i]? = some x) (hv : Vis X.env.scope x) (hr : EAA X E es As) (hs : starEach (.Name x pos :: es) X.env = (false, eval (.Name x pos) X.env) :: starEach es X.env := by rfl)
    (hd : (x == ("__debug__" : Str)) = false := by decide) (hcd : (x == ("__classdict__" : Str)) = false := by decide) : EAA X E (.Name x pos :: es) (.io i :: As) :=
  PA.imp (pa_cons (pe_var hN hv hd hcd) hr hs) fun σ H Q ⟨P, W, ρ, w, g⟩ => by
    unfold aL at g
    cases e : ρ[i]? with
    | none => rw [e] at g; exact g.elim
    | some o =>
      cases o with
      | none => rw [e] at g; exact g.elim
      | some t =>
        rw [e] at g
        obtain ⟨v, hσ, _⟩ := w.env i t e
        exact ⟨v, hσ, P, W, ρ, w, (Go.bind g).mono fun vs H2 ⟨P2, W2, b, s2, ⟨w2, k2⟩, g2⟩ => g2 (v :: vs) P2 W2 H2 (Step.refl P2 W2 H2) ⟨w2, b.1, v, vs, rfl, rfl, hσ, k2⟩⟩
end
/-! the callee's world -/
def posA : List Arg → Nat → Nat → Option Nat
  | [], _, _ => none
  | .v _ :: as, i, k => posA as i (k + 1)
  | .io j :: as, i, k => if j = i then some k else posA as i (k + 1)
theorem posA_some : ∀ {As : List Arg} {i k m : Nat}, posA As i k = some m → ∃ j, m = k + j ∧ As[j]? = some (.io i)
  | [], _, _, _, h => by cases h
  | .v _ :: as, i, k, m, h => by
    obtain ⟨j, e1, e2⟩ := posA_some (As := as) h
    exact ⟨j + 1, by omega, by simpa using e2⟩
  | .io j0 :: as, i, k, m, h => by
    unfold posA at h
    split at h
    · rename_i e
      cases h
      exact ⟨0, rfl, by rw [e]; rfl⟩
    · obtain ⟨j, e1, e2⟩ := posA_some (As := as) h
      exact ⟨j + 1, by omega, by simpa using e2⟩
theorem mem_ios : ∀ {As : List Arg} {i j : Nat}, As[j]? = some (.io i) → i ∈ iosOf As
  | [], _, _, h => by simp at h
  | .v _ :: as, i, 0, h => by simp at h
  | .v _ :: as, i, j + 1, h => mem_ios (As := as) (by simpa using h)
  | .io j0 :: as, i, 0, h => by simp at h; subst h; exact List.mem_cons_self
  | .io j0 :: as, i, j + 1, h => List.mem_cons_of_mem _ (mem_ios (As := as) (by simpa using h))
theorem posA_of : ∀ {As : List Arg} {i k j : Nat}, nodupB (iosOf As) = true → As[j]? = some (.io i) → posA As i k = some (k + j)
  | [], _, _, _, _, h => by simp at h
  | .v _ :: as, i, k, 0, _, h => by simp at h
  | .v _ :: as, i, k, j + 1, n, h => by
    have := posA_of (As := as) (k := k + 1) n (by simpa using h)
    show posA as i (k + 1) = _
    rw [this]; congr 1; omega
  | .io j0 :: as, i, k, 0, n, h => by simp at h; subst h; unfold posA; rw [if_pos rfl]; rfl
  | .io j0 :: as, i, k, j + 1, n, h => by
    have n' : (!(iosOf as).contains j0 && nodupB (iosOf as)) = true := n
    rw [Bool.and_eq_true] at n'
    have hm : i ∈ iosOf as := mem_ios (j := j) (by simpa using h)
    have ne : ¬ j0 = i := fun z => by
      subst z
      have := n'.1
      simp [hm] at this
    unfold posA
    rw [if_neg ne, posA_of (As := as) (k := k + 1) n'.2 (by simpa using h)]
    congr 1; omega
theorem posA_none {As : List Arg} {i k : Nat} (h : i ∉ iosOf As) : posA As i k = none := by
  cases e : posA As i k with
  | none => rfl
  | some m =>
    obtain ⟨j, _, e2⟩ := posA_some e
    exact absurd (mem_ios e2) h
theorem putB_out : ∀ {As : List Arg} {os ρ : Env} {k : Nat}, k ∉ iosOf As → (putB As os ρ)[k]? = ρ[k]?
  | [], os, ρ, k, _ => rfl
  | .v _ :: as, os, ρ, k, h => putB_out (As := as) h
  | .io j0 :: as, os, ρ, k, h => by
    have h1 : k ≠ j0 := fun z => h (by rw [z]; exact List.mem_cons_self)
    have h2 : k ∉ iosOf as := fun z => h (List.mem_cons_of_mem _ z)
    show (putB as os.tail (ρ.set j0 os.head?.join))[k]? = _
    rw [putB_out h2, List.getElem?_set_ne (Ne.symm h1)]
theorem putB_in : ∀ {As : List Arg} {os ρ : Env} {j k : Nat} {t : T}, nodupB (iosOf As) = true → As[j]? = some (.io k) → (putB As os ρ)[k]? = some (some t) → os[j]? = some (some t)
  | [], _, _, _, _, _, _, h, _ => by simp at h
  | .v _ :: as, os, ρ, 0, k, t, _, h, _ => by simp at h
  | .v _ :: as, os, ρ, j + 1, k, t, n, h, g => by
    have := putB_in (As := as) (os := os.tail) n (by simpa using h) g
    cases os with
    | nil => simp at this
    | cons o r => simpa using this
  | .io j0 :: as, os, ρ, 0, k, t, n, h, g => by
    simp at h
    subst h
    have n' : (!(iosOf as).contains j0 && nodupB (iosOf as)) = true := n
    rw [Bool.and_eq_true] at n'
    have hm : j0 ∉ iosOf as := fun z => by
      have := n'.1
      simp [z] at this
    have g : (putB as os.tail (ρ.set j0 os.head?.join))[j0]? = some (some t) := g
    rw [putB_out hm] at g
    by_cases hl : j0 < ρ.length
    · rw [List.getElem?_set_self hl] at g
      cases os with
      | nil => simp at g
      | cons o r => simpa using g
    · rw [List.getElem?_eq_none (by simpa using hl)] at g; cases g
  | .io j0 :: as, os, ρ, j + 1, k, t, n, h, g => by
    have n' : (!(iosOf as).contains j0 && nodupB (iosOf as)) = true := n
    rw [Bool.and_eq_true] at n'
    have := putB_in (As := as) (os := os.tail) n'.2 (by simpa using h) g
    cases os with
    | nil => simp at this
    | cons o r => simpa using this
theorem putB_len : ∀ (As : List Arg) (os ρ : Env), (putB As os ρ).length = ρ.length
  | [], _, _ => rfl
  | .v _ :: as, os, ρ => putB_len as os.tail ρ
  | .io j0 :: as, os, ρ => by show (putB as os.tail (ρ.set j0 _)).length = _; rw [putB_len]; simp
def ownIn (As : List Arg) (W : Own) : Own := fun a => match W a with
  | some (some i, f) => (match posA As i 0 with | some j => some (some j, f) | none => none)
  | _ => none
def ownBack (As : List Arg) (W W' : Own) : Own := fun a => match W' a with
  | some (some j, f) => (match As[j]? with | some (.io i) => some (some i, f) | _ => none)
  | some (none, f) => some (none, f)
  | none => (match ownIn As W a with | none => W a | some _ => none)
section
variable {K : PySem.W.Frag} {mg : Str → Option Value} {P P' H H' : Hp} {W W' : Own} {σ : St} {ρ os : Env}
theorem ownIn_io {As : List Arg} {a : Addr} {i j : Nat} {f : Option Tx} (n : nodupB (iosOf As) = true) (h : As[j]? = some (.io i)) (e : W a = some (some i, f)) : ownIn As W a = some (some j, f) := by
  unfold ownIn
  simp only [e, posA_of (k := 0) n h, Nat.zero_add]
theorem ownIn_out {As : List Arg} {a : Addr} {i : Nat} {f : Option Tx} (h : i ∉ iosOf As) (e : W a = some (some i, f)) : ownIn As W a = none := by
  unfold ownIn
  simp only [e, posA_none h]
theorem ownIn_some {As : List Arg} {a : Addr} {r} (h : ownIn As W a = some r) : ∃ r', W a = some r' := by
  unfold ownIn at h
  cases e : W a with
  | none => rw [e] at h; cases h
  | some r' => exact ⟨r', rfl⟩
theorem args_env : ∀ {As : List Arg} {os : List (Option D)} {vs : List V} {ts : List T}, AOk K P σ As os vs → mkT As os ρ = some ts → ts.length = vs.length ∧ As.length = vs.length ∧ ∀ (j : Nat) (t : T), ts[j]? = some t → ∃ v, vs[j]? = some v ∧
    ((∃ d, t = .sh d ∧ Den K P d v) ∨ ∃ i, As[j]? = some (.io i) ∧ ρ[i]? = some (some t) ∧ σ[i]? = some (some v))
  | [], os, vs, ts, h, m => by
    obtain ⟨rfl, rfl⟩ := h
    have : ([] : List T) = ts := Option.some.inj m
    subst this
    exact ⟨rfl, rfl, fun j t e => by simp at e⟩
  | .v F :: as, os, vs, ts, h, m => by
    obtain ⟨d, r, v, s, rfl, rfl, h1, h2⟩ := h
    obtain ⟨ts', m', rfl⟩ := Option.map_eq_some_iff.mp (show (mkT as r ρ).map (.sh d :: ·) = some ts from m)
    obtain ⟨l1, l2, ih⟩ := args_env h2 m'
    refine ⟨by simp [l1], by simp [l2], fun j t e => ?_⟩
    cases j with
    | zero => simp at e; subst e; exact ⟨v, rfl, .inl ⟨d, rfl, h1⟩⟩
    | succ j =>
      obtain ⟨u, e1, e2⟩ := ih j t (by simpa using e)
      exact ⟨u, by simpa using e1, by simpa using e2⟩
  | .io i :: as, os, vs, ts, h, m => by
    obtain ⟨r, v, s, rfl, rfl, h1, h2⟩ := h
    unfold mkT at m
    cases e : ρ[i]? with
    | none => rw [e] at m; cases m
    | some o =>
      cases o with
      | none => rw [e] at m; cases m
      | some t0 =>
        rw [e] at m
        obtain ⟨ts', m', rfl⟩ := Option.map_eq_some_iff.mp (show (mkT as r ρ).map (t0 :: ·) = some ts from m)
        obtain ⟨l1, l2, ih⟩ := args_env h2 m'
        refine ⟨by simp [l1], by simp [l2], fun j t e' => ?_⟩
        cases j with
        | zero => simp at e'; subst e'; exact ⟨v, rfl, .inr ⟨i, rfl, e, h1⟩⟩
        | succ j =>
          obtain ⟨u, e1, e2⟩ := ih j t (by simpa using e')
          exact ⟨u, by simpa using e1, by simpa using e2⟩
theorem aok_io : ∀ {As : List Arg} {os : List (Option D)} {vs : List V} {j i : Nat}, AOk K P σ As os vs → As[j]? = some (.io i) → ∃ v, vs[j]? = some v ∧ σ[i]? = some (some v)
  | [], _, _, _, _, _, h => by simp at h
  | .v F :: as, os, vs, 0, i, h, e => by simp at e
  | .v F :: as, os, vs, j + 1, i, h, e => by
    obtain ⟨d, r, v, s, rfl, rfl, h1, h2⟩ := h
    obtain ⟨u, e1, e2⟩ := aok_io h2 (show as[j]? = some (.io i) by simpa using e)
    exact ⟨u, by simpa using e1, e2⟩
  | .io i0 :: as, os, vs, 0, i, h, e => by
    obtain ⟨r, v, s, rfl, rfl, h1, h2⟩ := h
    simp at e; subst e
    exact ⟨v, rfl, h1⟩
  | .io i0 :: as, os, vs, j + 1, i, h, e => by
    obtain ⟨r, v, s, rfl, rfl, h1, h2⟩ := h
    obtain ⟨u, e1, e2⟩ := aok_io h2 (show as[j]? = some (.io i) by simpa using e)
    exact ⟨u, by simpa using e1, e2⟩
theorem Wd.callee {As : List Arg} {os : List (Option D)} {vs : List V} {ts : List T} (w : Wd K mg P W H σ ρ) (n : nodupB (iosOf As) = true) (h : AOk K P σ As os vs) (m : mkT As os ρ = some ts) : Wd K mg P (ownIn As W) H (vs.map some) (ts.map some) := by
  obtain ⟨l1, l2, ae⟩ := args_env h m
  refine ⟨w.same, fun a r e => ?_, fun j t e => ?_, by simp [l1]⟩
  · obtain ⟨r', e'⟩ := ownIn_some e
    exact w.own a r' e'
  · rw [List.getElem?_map] at e
    cases q : ts[j]? with
    | none => rw [q] at e; cases e
    | some t' =>
      rw [q] at e
      cases e
      obtain ⟨v, hv, hh⟩ := ae j t q
      refine ⟨v, by rw [List.getElem?_map, hv]; rfl, ?_⟩
      rcases hh with ⟨d, rfl, dn⟩ | ⟨i, hi, he, hs⟩
      · exact dn
      · obtain ⟨v', hs', hr⟩ := w.env i t he
        rw [hs] at hs'
        cases hs'
        exact RT.mono (same_refl P) (fun f x ex => ⟨ownIn_io n hi ex, fun o h => h⟩) t v hr
theorem Wd.back {As : List Arg} {os0 : List (Option D)} {vs : List V} (w : Wd K mg P W H σ ρ) (n : nodupB (iosOf As) = true) (h : AOk K P σ As os0 vs) (st : Step P (ownIn As W) H P' W' H') (w' : Wd K mg P' W' H' (vs.map some) os) :
    Wd K mg P' (ownBack As W W') H' σ (putB As os ρ) ∧ Step P W H P' (ownBack As W W') H' ∧ ∀ t v, RT K mg P' W' H' none t v → RT K mg P' (ownBack As W W') H' none t v := by
  have keepOwn : ∀ a r, W a = some r → ownIn As W a = none → H' a = H a ∧ W' a = none ∧ P' a = P a := fun a r e1 e2 => by
    obtain ⟨_, o, ho⟩ := w.own a r e1
    obtain ⟨h1, h2, h3⟩ := st.2 a o ho e2
    exact ⟨h1.trans ho.symm, h2, h3⟩
  refine ⟨⟨w'.same, fun a r e => ?_, fun k t e => ?_, by rw [putB_len]; exact w.len⟩, ⟨st.1, fun a o ho wa => ?_⟩, fun t v hr => RT.mono (same_refl P') (fun f x ex => ⟨by unfold ownBack; simp only [ex], fun o h => h⟩) t v hr⟩
  · unfold ownBack at e
    cases q : W' a with
    | some r' => exact w'.own a r' q
    | none =>
      simp only [q] at e
      cases q2 : ownIn As W a with
      | some r2 => simp only [q2] at e; cases e
      | none =>
        simp only [q2] at e
        obtain ⟨h1, o, h2⟩ := w.own a r e
        obtain ⟨k1, k2, k3⟩ := keepOwn a r e q2
        exact ⟨k3.trans h1, o, k1.trans h2⟩
  · by_cases hk : k ∈ iosOf As
    · have : ∃ j : Nat, As[j]? = some (Arg.io k) := by
        have aux : ∀ {As : List Arg}, k ∈ iosOf As → ∃ j : Nat, As[j]? = some (Arg.io k) := by
          intro As
          induction As with
          | nil => intro h; cases h
          | cons x as ih =>
            intro h
            cases x with
            | v F => obtain ⟨j, e⟩ := ih h; exact ⟨j + 1, by simpa using e⟩
            | io i0 =>
              rcases List.mem_cons.mp h with rfl | h
              · exact ⟨0, rfl⟩
              · obtain ⟨j, e⟩ := ih h; exact ⟨j + 1, by simpa using e⟩
        exact aux hk
      obtain ⟨j, hj⟩ := this
      have ho := putB_in n hj e
      obtain ⟨v, hv, hr⟩ := w'.env j t ho
      obtain ⟨v2, hv2, hs2⟩ := aok_io h hj
      rw [List.getElem?_map, hv2] at hv
      have hv : v2 = v := by simpa using hv
      subst hv
      exact ⟨v2, hs2, RT.mono (same_refl P') (fun f x ex => ⟨by unfold ownBack; simp only [ex, hj], fun o h => h⟩) t v2 hr⟩
    · rw [putB_out hk] at e
      obtain ⟨v, hs, hr⟩ := w.env k t e
      refine ⟨v, hs, RT.mono st.1 (fun f x ex => ?_) t v hr⟩
      have q := ownIn_out (As := As) hk ex
      obtain ⟨k1, k2, k3⟩ := keepOwn x _ ex q
      refine ⟨?_, fun o h => by rw [k1]; exact h⟩
      unfold ownBack
      simp only [k2, q]
      exact ex
  · have q : ownIn As W a = none := by unfold ownIn; simp only [wa]
    obtain ⟨h1, h2, h3⟩ := st.2 a o ho q
    exact ⟨h1, by unfold ownBack; simp only [h2, q]; exact wa, h3⟩
end
section
variable {X : Cx} {E : WX} {k : Nat} {x : Str} {fn : Fn} {p pos : Pos} {e : Expr} {es : List Expr} {As : List Arg}
theorem call_red {K : PySem.W.Frag} {mg : Str → Option Value} {σ : St} {H : Hp} {Q : VK} {E : WX} {As : List Arg} (h : rX K mg E (TRel K mg) (eCall fn As) σ H Q) : tCallG (spF K mg fn) (WE E) (rX K mg E (ARel K mg As) (aL As)) σ H Q := by
  obtain ⟨P, W, ρ, w, g⟩ := h
  unfold eCall at g
  by_cases n : nodupB (iosOf As) = true
  · rw [if_pos n] at g
    refine ⟨P, W, ρ, w, (Go.bind g).mono fun vs H1 ⟨P1, W1, a, s1, ⟨w1, k1⟩, g1⟩ => ?_⟩
    obtain ⟨ts, m, g2⟩ := Go.of g1
    refine ⟨P1, ownIn As W1, ts, w1.callee n k1 m, (args_env k1 m).1, ?_⟩
    cases hf : fn ts with
    | ok t os =>
      rw [hf] at g2
      exact fun v P' W' H' st w' rt => by
        obtain ⟨wb, sb, rb⟩ := w1.back n k1 st w'
        exact g2 v P' _ H' sb ⟨wb, rb t v rt⟩
    | exc x os =>
      rw [hf] at g2
      exact fun c od P' W' H' st w' xr => by
        obtain ⟨wb, sb, rb⟩ := w1.back n k1 st w'
        exact g2 c od P' _ H' sb wb xr
    | fail => rw [hf] at g2; exact g2.elim
  · rw [if_neg n] at g; exact g.elim
theorem et_call (C : Cal X.prog X.w X.K X.mg X.base k x fn) (hr : RoomG k X.A) (hg : Gl X x) (tk : Takes X E) (ha : EAA X E (e :: es) As)
    (hdb : (x == ("__debug__" : Str)) = false := by decide) (he : starEach (e :: es) X.env = (false, eval e X.env) :: starEach es X.env := by rfl) (hpl : (backTo pos (starEach es X.env)).any (·.1) = false := by rfl) : ET X E (.Call (.Name x p) (e :: es) [] pos) (eCall fn As) := by
  obtain ⟨f, fd, ps, F, hm, hk, hb⟩ := C.ex
  exact PE.imp (pe_callG F hr hg hm hk hb (fun σ => passAt tk σ) ha hdb he hpl) fun σ H Q h => call_red h
end
/-- the law's own promise -/
def spLaw (K : PySem.W.Frag) : Sp := fun vs H Q _ => ∃ (a : Addr) (ns : List Int), vs = [.ref a] ∧ SqL K H a (ns.map V.int) ∧ ns.length ≤ 63 ∧ ∀ H', Q (.bl true) H'
theorem law_ok {P : Program} {w : World} {K : PySem.W.Frag} {mg : Str → Option Value} {base : Heap} {CX : CXT} {k : Nat} {f : Addr} {fd : FuncData} {ps : List Str} {fn : Fn} (F : FnG P w K mg base CX k f fd ps (spF K mg fn))
    (h : ∀ ns : List Int, ns.length ≤ 63 → ∃ os, fn [.sh (.rol (ns.map .int))] = .ok (.sh (.bl true)) os) : FnG P w K mg base CX k f fd ps (spLaw K) := F.imp fun vs H Q E ⟨a, ns, e, hs, hl, q⟩ => by
  subst e
  obtain ⟨os, ho⟩ := h ns hl
  have sm : Same (fun x => if x = a then H a else none) H := fun x o e => by
    by_cases hx : x = a
    · subst hx; dsimp only at e; rw [if_pos rfl] at e; exact e
    · dsimp only at e; rw [if_neg hx] at e; cases e
  have hq : SqL K (fun x => if x = a then H a else none) a (ns.map V.int) := by
    rcases hs with hs | hs
    · left
      unfold Rd at hs ⊢
      simpa using hs
    · right; exact hs
  refine ⟨fun x => if x = a then H a else none, fun _ => none, [.sh (.rol (ns.map .int))], ⟨sm, fun x r e => (by cases e), fun i t e => ?_, by simp⟩, rfl, ?_⟩
  · cases i with
    | zero =>
      simp at e
      subst e
      exact ⟨.ref a, rfl, a, ns.map V.int, rfl, hq, DenL.of_ints ns⟩
    | succ i => simp at e
  · rw [ho]
    intro v P' W' H' st w' rt
    have rt : Den K P' (.bl true) v := rt
    unfold Den at rt
    rw [rt]
    exact q H'
end Od
/-! list(zip(a, b)) of two lists -/
namespace PySem.W
open PySem PySem.Calls PyProof.Rows PyProof.V PySem.Spec
/-- the zip object after i turns; S the list that is made -/
structure ZlSt (h : Heap) (z TI TO i1 i2 l1 l2 S : Addr) (xs ys : Array Value) (i : Nat) : Prop where
  ti : IsPair h TI (.ref i1) (.ref i2)
  it1 : h.IsListIter i1 l1 i
  it2 : h.IsListIter i2 l2 i
  ls1 : h.IsList l1 xs
  ls2 : h.IsList l2 ys
  z : (i = 0 ∧ IsZip h z TI TO .none ∧ IsPair h TO .none .none) ∨ ∃ T f oT, IsZipHeld h z TI TO T f ∧ h.get? T = some oT ∧ S < T
/-- all parts lie below S -/
structure ZlLow (z TI TO i1 i2 l1 l2 S : Addr) : Prop where
  z : z < S
  TI : TI < S
  TO : TO < S
  i1 : i1 < S
  i2 : i2 < S
  l1 : l1 < S
  l2 : l2 < S
section
variable {h h' : Heap} {z TI TO i1 i2 l1 l2 S : Addr} {xs ys : Array Value} {i : Nat}
theorem ZlSt.keep (st : ZlSt h z TI TO i1 i2 l1 l2 S xs ys i) (L : ZlLow z TI TO i1 i2 l1 l2 S) (k : ∀ b o, b ≠ S → h.get? b = some o → h'.get? b = some o) : ZlSt h' z TI TO i1 i2 l1 l2 S xs ys i where
  ti := k _ _ (Nat.ne_of_lt L.TI) st.ti
  it1 := st.it1.at fun o e => k _ o (Nat.ne_of_lt L.i1) e
  it2 := st.it2.at fun o e => k _ o (Nat.ne_of_lt L.i2) e
  ls1 := st.ls1.at fun o e => k _ o (Nat.ne_of_lt L.l1) e
  ls2 := st.ls2.at fun o e => k _ o (Nat.ne_of_lt L.l2) e
  z := by
    rcases st.z with ⟨e, a, b⟩ | ⟨T, f, oT, a, b, c⟩
    · exact .inl ⟨e, k _ _ (Nat.ne_of_lt L.z) a, k _ _ (Nat.ne_of_lt L.TO) b⟩
    · exact .inr ⟨T, f, oT, k _ _ (Nat.ne_of_lt L.z) a, k _ _ (Nat.ne_of_gt c) b, c⟩
end
section
variable {prog : Program} {w : World} {A : Around} {E : Value → Shared → Prop} {s : Shared} {z TI TO i1 i2 l1 l2 S : Addr} {xs ys : Array Value} {i : Nat}
end
section
variable {prog : Program} {w : World} {A : Around} {s : Shared} {R : Result → Shared → Prop} {z TI TO i1 i2 l1 l2 S : Addr} {xs ys : Array Value}
end
section
variable {prog : Program} {w : World} {A : Around} {E : Value → Shared → Prop} {s : Shared} {z TI TO i1 i2 l1 l2 : Addr} {xs ys : Array Value}
end
end PySem.W
namespace LiZ
open PySem PySem.Spec PyProof.Rows L2
section
variable {X : Cx}
end
end LiZ
namespace Od
open PySem PySem.Spec L2
open PyProof.Rows hiding St
/-! ### built-in functions -/
section
variable {K : PySem.W.Frag} {P H : Hp}
theorem vl1 {d : D} {vs : List V} (h : ViewL K P H [d] vs) : ∃ v, vs = [v] ∧ View K P H d v := by
  obtain ⟨v, r, rfl, h1, h2⟩ := h
  cases h2
  exact ⟨v, rfl, h1⟩
theorem vl2 {d e : D} {vs : List V} (h : ViewL K P H [d, e] vs) : ∃ v w, vs = [v, w] ∧ View K P H d v ∧ View K P H e w := by
  obtain ⟨v, r, rfl, h1, w, r', rfl, h2, h3⟩ := h
  cases h3
  exact ⟨v, w, rfl, h1, h2⟩
end
def allInts : List D → Option (List Int)
  | [] => some []
  | .int i :: ds => (allInts ds).map (i :: ·)
  | _ => none
theorem allInts_of : ∀ {ds : List D} {ns : List Int}, allInts ds = some ns → ds = ns.map D.int
  | [], ns, h => by cases h; rfl
  | d :: ds, ns, h => by
    cases d <;> simp only [allInts, Option.map_eq_some_iff] at h <;> try (cases h; done)
    obtain ⟨ms, h1, h2⟩ := h
    subst h2
    rw [allInts_of h1]; rfl
def fLen : List D → Option D
  | [.str s] => if s.length ≤ 1000000 then some (.int s.length) else none
  | [.lst ds] => some (.int ds.length)
  | [.rol ds] => some (.int ds.length)
  | [.tup ds] => some (.int ds.length)
  | [.dct ks _] => some (.int ks.length)
  | _ => none
def rLenA (K : PySem.W.Frag) : List V → Hp → VK → Prop := fun xs H Q => (∃ x n, xs = [x] ∧ LenV K x H n ∧ Q (.int n) H) ∨ ∃ a kvs, xs = [V.ref a] ∧ H a = some (.dK kvs) ∧ Q (.int kvs.length) H
theorem cr_lenA {X : Cx} : CallR X (.builtin "len") (rLenA X.K) := CallR.or call_len call_lenD
theorem f_len {K : PySem.W.Frag} : CbV K (rLenA K) fLen := by
  intro P H vs ds res Q s v hf q
  unfold fLen at hf
  split at hf
  · split at hf
    · cases hf
      rename_i hl
      obtain ⟨v, rfl, h⟩ := vl1 v
      rw [vstr h]
      exact .inl ⟨_, _, rfl, ⟨by rw [sT_len]; exact szOf hl, rfl⟩, by rw [sT_len]; exact q _ P H (Al.refl s) dint⟩
    · cases hf
  · cases hf
    obtain ⟨v, rfl, h⟩ := vl1 v
    obtain ⟨a, vs, rfl, e, l⟩ := vlst h
    exact .inl ⟨_, _, rfl, .inl ⟨vs, SqL.of e, rfl⟩, by rw [l.len]; exact q _ P H (Al.refl s) dint⟩
  · cases hf
    obtain ⟨v, rfl, h⟩ := vl1 v
    obtain ⟨a, vs, rfl, e, l⟩ := vrol s h
    exact .inl ⟨_, _, rfl, .inl ⟨vs, e, rfl⟩, by rw [l.len]; exact q _ P H (Al.refl s) dint⟩
  · cases hf
    obtain ⟨v, rfl, h⟩ := vl1 v
    obtain ⟨a, vs, rfl, e, l⟩ := vtup s h
    exact .inl ⟨_, _, rfl, .inr ⟨vs, e, rfl⟩, by rw [l.len]; exact q _ P H (Al.refl s) dint⟩
  · cases hf
    obtain ⟨v, rfl, h⟩ := vl1 v
    obtain ⟨a, ws, rfl, e, k, l⟩ := h
    refine .inr ⟨a, ws, rfl, e, ?_⟩
    have : ws.length = (ws.map Prod.fst).length := by simp
    rw [this, k, List.length_map]
    exact q _ P H (Al.refl s) dint
  · cases hf
/-- max, min: of two ints, of a list of ints -/
def maxI : List Int → Option Int
  | [] => none
  | x :: xs => some (xs.foldl max x)
def minI : List Int → Option Int
  | [] => none
  | x :: xs => some (xs.foldl min x)
theorem foldmax : ∀ (xs : List Int) (x : Int), (xs.foldl max x) ∈ x :: xs ∧ ∀ y ∈ x :: xs, y ≤ xs.foldl max x
  | [], x => by simp
  | y :: ys, x => by
    obtain ⟨h1, h2⟩ := foldmax ys (max x y)
    simp only [List.foldl_cons]
    refine ⟨?_, fun z hz => ?_⟩
    · rcases List.mem_cons.mp h1 with h | h
      · rw [h]
        rcases Int.le_total x y with q | q
        · rw [Int.max_eq_right q]; simp
        · rw [Int.max_eq_left q]; simp
      · exact List.mem_cons_of_mem _ (List.mem_cons_of_mem _ h)
    · have hm := h2 (max x y) List.mem_cons_self
      rcases List.mem_cons.mp hz with rfl | hz
      · omega
      · rcases List.mem_cons.mp hz with rfl | hz
        · omega
        · exact h2 z (List.mem_cons_of_mem _ hz)
theorem foldmin : ∀ (xs : List Int) (x : Int), (xs.foldl min x) ∈ x :: xs ∧ ∀ y ∈ x :: xs, xs.foldl min x ≤ y
  | [], x => by simp
  | y :: ys, x => by
    obtain ⟨h1, h2⟩ := foldmin ys (min x y)
    simp only [List.foldl_cons]
    refine ⟨?_, fun z hz => ?_⟩
    · rcases List.mem_cons.mp h1 with h | h
      · rw [h]
        rcases Int.le_total x y with q | q
        · rw [Int.min_eq_left q]; simp
        · rw [Int.min_eq_right q]; simp
      · exact List.mem_cons_of_mem _ (List.mem_cons_of_mem _ h)
    · have hm := h2 (min x y) List.mem_cons_self
      rcases List.mem_cons.mp hz with rfl | hz
      · omega
      · rcases List.mem_cons.mp hz with rfl | hz
        · omega
        · exact h2 z (List.mem_cons_of_mem _ hz)
theorem maxI_eq {xs : List Int} {m r : Int} (h : m ∈ xs) (h' : ∀ y ∈ xs, y ≤ m) (e : maxI xs = some r) : m = r := by
  cases xs with
  | nil => cases e
  | cons x xs =>
    cases e
    obtain ⟨h1, h2⟩ := foldmax xs x
    have := h2 m h
    have := h' _ h1
    omega
theorem minI_eq {xs : List Int} {m r : Int} (h : m ∈ xs) (h' : ∀ y ∈ xs, m ≤ y) (e : minI xs = some r) : m = r := by
  cases xs with
  | nil => cases e
  | cons x xs =>
    cases e
    obtain ⟨h1, h2⟩ := foldmin xs x
    have := h2 m h
    have := h' _ h1
    omega
def fMax : List D → Option D
  | [.int i, .int j] => some (.int (max i j))
  | [.lst ds] => (allInts ds).bind fun ns => (maxI ns).map D.int
  | _ => none
def fMin : List D → Option D
  | [.int i, .int j] => some (.int (min i j))
  | [.lst ds] => (allInts ds).bind fun ns => (minI ns).map D.int
  | _ => none
def rMaxA (K : PySem.W.Frag) : List V → Hp → VK → Prop := fun xs H Q => (∃ i j, xs = [.int i, .int j] ∧ Q (.int (if j > i then j else i)) H) ∨ rMax K xs H Q
def rMinA (K : PySem.W.Frag) : List V → Hp → VK → Prop := fun xs H Q => (∃ i j, xs = [.int i, .int j] ∧ Q (.int (if j < i then j else i)) H) ∨ rMin K xs H Q
theorem cr_maxA {X : Cx} (hc : X.calm = true) : CallR X (.builtin "max") (rMaxA X.K) := CallR.or (call_max2 hc) (cr_max hc)
theorem cr_minA {X : Cx} (hc : X.calm = true) : CallR X (.builtin "min") (rMinA X.K) := CallR.or (call_min2 hc) (cr_min hc)
theorem f_max {K : PySem.W.Frag} : CbV K (rMaxA K) fMax := by
  intro P H vs ds res Q s v hf q
  unfold fMax at hf
  split at hf
  · cases hf
    rename_i i j
    obtain ⟨v, w, rfl, h1, h2⟩ := vl2 v
    refine .inl ⟨i, j, by rw [vint h1, vint h2], ?_⟩
    have : (if j > i then j else i) = max i j := by split <;> omega
    rw [this]
    exact q _ P H (Al.refl s) dint
  · rename_i es
    obtain ⟨v, rfl, h⟩ := vl1 v
    obtain ⟨a, vs, rfl, e, l⟩ := vlst h
    obtain ⟨ns, h1, h2⟩ := Option.bind_eq_some_iff.mp hf
    obtain ⟨m, h3, rfl⟩ := Option.map_eq_some_iff.mp h2
    have := allInts_of h1
    subst this
    rw [l.ints] at e
    refine .inr ⟨a, ns, rfl, SqL.of e, ?_, fun m' h4 h5 => ?_⟩
    · cases ns with
      | nil => cases h3
      | cons => simp
    · rw [maxI_eq h4 h5 h3]; exact q _ P H (Al.refl s) dint
  · cases hf
theorem f_min {K : PySem.W.Frag} : CbV K (rMinA K) fMin := by
  intro P H vs ds res Q s v hf q
  unfold fMin at hf
  split at hf
  · cases hf
    rename_i i j
    obtain ⟨v, w, rfl, h1, h2⟩ := vl2 v
    refine .inl ⟨i, j, by rw [vint h1, vint h2], ?_⟩
    have : (if j < i then j else i) = min i j := by split <;> omega
    rw [this]
    exact q _ P H (Al.refl s) dint
  · rename_i es
    obtain ⟨v, rfl, h⟩ := vl1 v
    obtain ⟨a, vs, rfl, e, l⟩ := vlst h
    obtain ⟨ns, h1, h2⟩ := Option.bind_eq_some_iff.mp hf
    obtain ⟨m, h3, rfl⟩ := Option.map_eq_some_iff.mp h2
    have := allInts_of h1
    subst this
    rw [l.ints] at e
    refine .inr ⟨a, ns, rfl, SqL.of e, ?_, fun m' h4 h5 => ?_⟩
    · cases ns with
      | nil => cases h3
      | cons => simp
    · rw [minI_eq h4 h5 h3]; exact q _ P H (Al.refl s) dint
  · cases hf
def fInt : List D → Option D
  | [.int i] => some (.int i)
  | [.bl b] => some (.int (if b then 1 else 0))
  | _ => none
theorem f_int {K : PySem.W.Frag} : CbV K (fun xs H Q => (∃ i, xs = [.int i] ∧ Q (.int i) H) ∨ ∃ k, xs = [.bl k] ∧ Q (.int (if k then 1 else 0)) H) fInt := by
  intro P H vs ds res Q s v hf q
  unfold fInt at hf
  split at hf
  · cases hf
    obtain ⟨v, rfl, h⟩ := vl1 v
    exact .inl ⟨_, by rw [vint h], q _ P H (Al.refl s) dint⟩
  · cases hf
    obtain ⟨v, rfl, h⟩ := vl1 v
    exact .inr ⟨_, by rw [vbl h], q _ P H (Al.refl s) dint⟩
  · cases hf
def fDivmod : List D → Option D
  | [.int i, .int j] => if 0 < j ∧ j < 1073741824 then some (.tup [.int (i / j), .int (i % j)]) else none
  | _ => none
theorem cdiv_of {i j : Int} (h : 0 < j ∧ j < 1073741824) : CDiv i j := ⟨h.1, by omega⟩
theorem f_divmod {K : PySem.W.Frag} : CbV K (fun xs H Q => ∃ i j, xs = [.int i, .int j] ∧ CDiv i j ∧ ∀ p, H p = none → Q (.ref p) (upd H p (.tup [.int (i / j), .int (i % j)]))) fDivmod := by
  intro P H vs ds res Q s v hf q
  unfold fDivmod at hf
  split at hf
  · split at hf
    · cases hf
      rename_i hj
      obtain ⟨v, w, rfl, h1, h2⟩ := vl2 v
      refine ⟨_, _, by rw [vint h1, vint h2], cdiv_of hj, fun p n => ?_⟩
      obtain ⟨al, dn⟩ := dnewT s n (DenL.cons (K := K) (P := P) dint (DenL.cons dint DenL.nil))
      exact q _ _ _ al dn
    · cases hf
  · cases hf
/-- list(x): a copy -/
def fList : List D → Option (List D)
  | [.lst ds] => some ds
  | [.rol ds] => some ds
  | [.tup ds] => some ds
  | _ => none
theorem f_list {K : PySem.W.Frag} : CbL K (fun xs H Q => ∃ p ys, xs = [.ref p] ∧ (SqL K H p ys ∨ SqT K H p ys) ∧ ∀ l, H l = none → Q (.ref l) (upd H l (.lst ys))) fList := by
  intro P H vs ds res Q s v hf q
  unfold fList at hf
  split at hf
  · cases hf
    obtain ⟨v, rfl, h⟩ := vl1 v
    obtain ⟨a, vs, rfl, e, l⟩ := vlst h
    exact ⟨a, vs, rfl, .inl (SqL.of e), fun p n => q p vs n l⟩
  · cases hf
    obtain ⟨v, rfl, h⟩ := vl1 v
    obtain ⟨a, vs, rfl, e, l⟩ := vrol s h
    exact ⟨a, vs, rfl, .inl e, fun p n => q p vs n l⟩
  · cases hf
    obtain ⟨v, rfl, h⟩ := vl1 v
    obtain ⟨a, vs, rfl, e, l⟩ := vtup s h
    exact ⟨a, vs, rfl, .inr e, fun p n => q p vs n l⟩
  · cases hf
def fTuple : List D → Option D
  | [.lst ds] => some (.tup ds)
  | [.rol ds] => some (.tup ds)
  | [.tup ds] => some (.tup ds)
  | _ => none
theorem f_tuple {K : PySem.W.Frag} : CbV K (fun xs H Q => ∃ p ys, xs = [.ref p] ∧ ((SqL K H p ys ∧ ∀ l, H l = none → Q (.ref l) (upd H l (.tup ys))) ∨ (SqT K H p ys ∧ Q (.ref p) H))) fTuple := by
  intro P H vs ds res Q s v hf q
  unfold fTuple at hf
  split at hf
  · cases hf
    obtain ⟨v, rfl, h⟩ := vl1 v
    obtain ⟨a, vs, rfl, e, l⟩ := vlst h
    exact ⟨a, vs, rfl, .inl ⟨SqL.of e, fun p n => q _ _ _ (dnewT s n l).1 (dnewT s n l).2⟩⟩
  · cases hf
    obtain ⟨v, rfl, h⟩ := vl1 v
    obtain ⟨a, vs, rfl, e, l⟩ := vrol s h
    exact ⟨a, vs, rfl, .inl ⟨e, fun p n => q _ _ _ (dnewT s n l).1 (dnewT s n l).2⟩⟩
  · cases hf
    obtain ⟨v, rfl, h⟩ := vl1 v
    have h' := h
    obtain ⟨a, vs, rfl, e, l⟩ := vtup s h
    exact ⟨a, vs, rfl, .inr ⟨e, q _ P H (Al.refl s) (vtupD h')⟩⟩
  · cases hf
/-! ### isinstance -/
section
variable {K : PySem.W.Frag} {P H : Hp}
end
section
variable {X : Cx} {E : WX} {e : Expr} {A : HM} {p p2 pos : Pos}
end
end Od
namespace Od
open PySem PySem.Spec L2
open PyProof.Rows hiding St
/-! ### list(zip(a, b)) -/
section
variable {K : PySem.W.Frag}
end
section
variable {X : Cx} {E : WX} {e e2 : Expr} {As : List HM} {p p2 zpos pos : Pos}
end
/-! ### is, of truths -/
/-! ### methods of texts -/
end Od
namespace Od
open PySem PySem.Spec L2
open PyProof.Rows hiding St
/-! ### records: a dict of written keys, with its parts -/
def gK (p : Str × V) : Key × V := (.inr p.1, p.2)
def getF : List (Tx × T1) → Tx → Option T1
  | [], _ => none
  | (j, t) :: fs, k => if j = k then some t else getF fs k
def setF : List (Tx × T1) → Tx → T1 → List (Tx × T1)
  | [], _, _ => []
  | (j, u) :: fs, k, t => if j = k then (j, t) :: fs else (j, u) :: setF fs k t
theorem setF_keys : ∀ (fs : List (Tx × T1)) (k : Tx) (t : T1), (setF fs k t).map Prod.fst = fs.map Prod.fst
  | [], _, _ => rfl
  | (j, u) :: fs, k, t => by
    unfold setF
    split
    · rfl
    · simp [setF_keys fs k t]
section
variable {K : PySem.W.Frag} {P P' : Hp} {W W' : Own} {H H' : Hp} {r : Option Nat}
theorem RF.get : ∀ {fs : List (Tx × T1)} {ws : List (Str × V)} {k : Tx} {t : T1}, RF K P W H r fs ws → getF fs k = some t → ∃ v, valV (ws.map gK) (.inr (sT k)) = some v ∧ R1 K P W H r (some k) t v
  | [], ws, k, t, h, e => by cases e
  | (j, u) :: fs, ws, k, t, h, e => by
    obtain ⟨v, w, rfl, h1, h2⟩ := h
    unfold getF at e
    split at e
    · rename_i hj
      cases e
      subst hj
      exact ⟨v, by simp only [List.map_cons]; exact valV_pos (p := gK (sT j, v)) rfl, h1⟩
    · rename_i hj
      obtain ⟨v', h3, h4⟩ := RF.get h2 e
      exact ⟨v', by simp only [List.map_cons]; rw [valV_neg (p := gK (sT j, v)) (fun z => hj (sT_inj (Sum.inr.inj z)))]; exact h3, h4⟩
theorem RF.keys : ∀ {fs : List (Tx × T1)} {ws : List (Str × V)}, RF K P W H r fs ws → ws.map Prod.fst = fs.map fun p => sT p.1
  | [], ws, h => by cases h; rfl
  | (j, u) :: fs, ws, h => by
    obtain ⟨v, w, rfl, h1, h2⟩ := h
    simp [RF.keys h2]
theorem RF.mono' {N : Tx → Prop} (s : Same P P') (w : ∀ f a, N f → W a = some (r, some f) → W' a = some (r, some f) ∧ ∀ o, H a = some o → H' a = some o) : ∀ (fs : List (Tx × T1)) (ws : List (Str × V)), (∀ f ∈ fs.map Prod.fst, N f) → RF K P W H r fs ws → RF K P' W' H' r fs ws
  | [], ws, _, h => h
  | (k, t) :: fs, ws, n, h => by
    obtain ⟨v, q, e, h1, h2⟩ := h
    exact ⟨v, q, e, R1.mono s (fun a => w k a (n k (by simp))) t v h1, RF.mono' s w fs q (fun f hf => n f (by simp at hf ⊢; exact .inr hf)) h2⟩
/-- one part is another one, the rest stays -/
theorem RF.set {k : Tx} {t0 t : T1} {v : V} (s : Same P P') (w : ∀ f a, f ≠ k → W a = some (r, some f) → W' a = some (r, some f) ∧ ∀ o, H a = some o → H' a = some o) (hv : R1 K P' W' H' r (some k) t v) :
    ∀ {fs : List (Tx × T1)} {ws : List (Str × V)}, getF fs k = some t0 → (fs.map Prod.fst).Nodup → RF K P W H r fs ws → ∃ ws', (ws.map gK).map (fun kv => if kv.1 = (.inr (sT k) : Key) then (kv.1, v) else kv) = ws'.map gK ∧ RF K P' W' H' r (setF fs k t) ws'
  | [], ws, e, _, _ => by cases e
  | (j, u) :: fs, ws, e, nd, h => by
    obtain ⟨v', q, rfl, h1, h2⟩ := h
    simp only [List.map_cons, List.nodup_cons] at nd
    unfold getF at e
    unfold setF
    by_cases hj : j = k
    · rw [if_pos hj]
      subst hj
      refine ⟨(sT j, v) :: q, ?_, v, q, rfl, hv, RF.mono' (N := fun f => f ≠ j) s w fs q (fun f hf z => nd.1 (by rw [← z]; exact hf)) h2⟩
      simp only [List.map_cons]
      have e1 : (gK (sT j, v')).1 = (Sum.inr (sT j) : Key) := rfl
      rw [if_pos e1]
      congr 1
      have kk := RF.keys h2
      have : ∀ p ∈ q.map gK, ¬ p.1 = (Sum.inr (sT j) : Key) := fun p hp z => by
        obtain ⟨x, hx, rfl⟩ := List.mem_map.mp hp
        have hx1 : x.1 ∈ q.map Prod.fst := List.mem_map.mpr ⟨x, hx, rfl⟩
        rw [kk] at hx1
        obtain ⟨y, hy, e3⟩ := List.mem_map.mp hx1
        have : sT y.1 = sT j := e3.trans (Sum.inr.inj z)
        exact nd.1 (by rw [← sT_inj this]; exact List.mem_map.mpr ⟨y, hy, rfl⟩)
      conv => rhs; rw [← List.map_id (q.map gK)]
      exact List.map_congr_left fun p hp => by rw [if_neg (this p hp)]; rfl
    · rw [if_neg hj] at e ⊢
      obtain ⟨ws', e2, h3⟩ := RF.set s w hv e nd.2 h2
      refine ⟨(sT j, v') :: ws', ?_, v', ws', rfl, R1.mono s (fun a => w j a hj) u v' h1, h3⟩
      simp only [List.map_cons]
      have e1 : ¬ (gK (sT j, v')).1 = (Sum.inr (sT k) : Key) := fun z => hj (sT_inj (Sum.inr.inj z))
      rw [if_neg e1, e2]
theorem RF.same {k : Tx} {t0 t : T1} {v : V} (s : Same P P') (w : ∀ f a, f ≠ k → W a = some (r, some f) → W' a = some (r, some f) ∧ ∀ o, H a = some o → H' a = some o) (hv : R1 K P' W' H' r (some k) t v) :
    ∀ {fs : List (Tx × T1)} {ws : List (Str × V)}, getF fs k = some t0 → valV (ws.map gK) (.inr (sT k)) = some v → (fs.map Prod.fst).Nodup → RF K P W H r fs ws → RF K P' W' H' r (setF fs k t) ws
  | [], ws, e, _, _, _ => by cases e
  | (j, u) :: fs, ws, e, hw, nd, h => by
    obtain ⟨v', q, rfl, h1, h2⟩ := h
    simp only [List.map_cons, List.nodup_cons] at nd hw
    unfold getF at e
    unfold setF
    by_cases hj : j = k
    · rw [if_pos hj]
      subst hj
      have e1 : valV (gK (sT j, v') :: q.map gK) (Sum.inr (sT j)) = some v' := valV_pos (p := gK (sT j, v')) rfl
      rw [e1] at hw
      have hw := Option.some.inj hw
      subst hw
      exact ⟨v', q, rfl, hv, RF.mono' (N := fun f => f ≠ j) s w fs q (fun f hf z => nd.1 (by rw [← z]; exact hf)) h2⟩
    · rw [if_neg hj] at e ⊢
      rw [valV_neg (p := gK (sT j, v')) (fun z => hj (sT_inj (Sum.inr.inj z)))] at hw
      exact ⟨v', q, rfl, R1.mono s (fun a => w j a hj) u v' h1, RF.same s w hv e hw nd.2 h2⟩
theorem RF.put {k : Tx} {t0 t : T1} {v : V} {fs : List (Tx × T1)} {ws : List (Str × V)} (s : Same P P') (w : ∀ f a, f ≠ k → W a = some (r, some f) → W' a = some (r, some f) ∧ ∀ o, H a = some o → H' a = some o) (hv : R1 K P' W' H' r (some k) t v)
    (e : getF fs k = some t0) (nd : (fs.map Prod.fst).Nodup) (h : RF K P W H r fs ws) : ∃ ws', putK (ws.map gK) (.inr (sT k)) v = ws'.map gK ∧ RF K P' W' H' r (setF fs k t) ws' := by
  obtain ⟨ws', e1, h1⟩ := RF.set s w hv e nd h
  refine ⟨ws', ?_, h1⟩
  obtain ⟨v0, e2, _⟩ := RF.get h e
  unfold putK
  rw [if_pos (by rw [valV_any, e2]; rfl)]
  exact e1
end
def rcdOf (ρ : Env) (i : Nat) : Option (List (Tx × T1)) := match ρ[i]? with
  | some (some (.rcd fs)) => some fs
  | _ => none
theorem rcdOf_some {ρ : Env} {i : Nat} {fs : List (Tx × T1)} (h : rcdOf ρ i = some fs) : ρ[i]? = some (some (.rcd fs)) := by
  unfold rcdOf at h
  split at h
  · rename_i e; cases h; exact e
  · cases h
def fldOf (ρ : Env) (i : Nat) (k : Tx) : Option T1 := (rcdOf ρ i).bind fun fs => getF fs k
section
variable {K : PySem.W.Frag} {mg : Str → Option Value} {P P' H H' : Hp} {W W' : Own} {σ : St} {ρ : Env}
theorem Wd.rcdAt {i : Nat} {fs : List (Tx × T1)} (w : Wd K mg P W H σ ρ) (e : rcdOf ρ i = some fs) : ∃ (a : Addr) (ws : List (Str × V)), σ[i]? = some (some (.ref a)) ∧ W a = some (some i, none) ∧ H a = some (.dK (ws.map gK)) ∧ (fs.map Prod.fst).Nodup ∧ RF K P W H (some i) fs ws ∧ i < ρ.length := by
  have e := rcdOf_some e
  obtain ⟨v, hs, hr⟩ := w.env i _ e
  obtain ⟨a, ws, rfl, hw, hh, nd, l⟩ := hr
  exact ⟨a, ws, hs, hw, hh, nd, l, (List.getElem?_eq_some_iff.mp e).1⟩
theorem Wd.fldAt {i : Nat} {k : Tx} {t : T1} (w : Wd K mg P W H σ ρ) (e : fldOf ρ i k = some t) : ∃ (a : Addr) (ws : List (Str × V)) (v : V), σ[i]? = some (some (.ref a)) ∧ H a = some (.dK (ws.map gK)) ∧ valV (ws.map gK) (.inr (sT k)) = some v ∧ R1 K P W H (some i) (some k) t v := by
  unfold fldOf at e
  obtain ⟨fs, e1, e2⟩ := Option.bind_eq_some_iff.mp e
  obtain ⟨a, ws, hs, hw, hh, nd, l, hi⟩ := w.rcdAt e1
  obtain ⟨v, h1, h2⟩ := RF.get l e2
  exact ⟨a, ws, v, hs, hh, h1, h2⟩
/-- an owned object is another one -/
theorem Wd.mutF {i : Nat} {l : Addr} {f : Option Tx} {o : HO} {t : T} {v : V} (w : Wd K mg P W H σ ρ) (hl : i < ρ.length) (hs : σ[i]? = some (some v)) (hw : W l = some (some i, f)) (ht : RT K mg P W (upd H l o) (some i) t v) :
    Wd K mg P W (upd H l o) σ (ρ.set i (some t)) ∧ Step P W H P W (upd H l o) := by
  have pl := (w.own l _ hw).1
  refine ⟨⟨fun a u e => ?_, fun a r e => ?_, fun j t' ej => ?_, by simpa using w.len⟩, same_refl P, fun a u h wa => ?_⟩
  · rw [upd_ne (ne_of_none e pl)]; exact w.same a u e
  · obtain ⟨h1, u, h2⟩ := w.own a r e
    refine ⟨h1, ?_⟩
    by_cases h : a = l
    · subst h; exact ⟨_, upd_same⟩
    · exact ⟨u, by rw [upd_ne h]; exact h2⟩
  · by_cases hj : j = i
    · subst hj
      rw [List.getElem?_set_self hl] at ej
      cases ej
      exact ⟨_, hs, ht⟩
    · rw [List.getElem?_set_ne (Ne.symm hj)] at ej
      obtain ⟨v, hs', hr⟩ := w.env j t' ej
      refine ⟨v, hs', RT.mono (same_refl P) (fun f x ex => ⟨ex, fun o h => ?_⟩) t' v hr⟩
      have hx : x ≠ l := fun z => by subst z; rw [hw] at ex; cases ex; exact hj rfl
      rw [upd_ne hx]; exact h
  · have ha : a ≠ l := fun z => by subst z; rw [hw] at wa; cases wa
    exact ⟨by rw [upd_ne ha]; exact h, wa, rfl⟩
end
/-- x['k'] -/
def eFld (i : Nat) (k : Tx) : EM := fun ρ => match fldOf ρ i k with
  | some (.sh d) => .ok (d, ρ)
  | _ => .fail
/-- len(x['k']) -/
def eFldLen (i : Nat) (k : Tx) : EM := fun ρ => match fldOf ρ i k with
  | some (.lst ds) => .ok (.int ds.length, ρ)
  | _ => .fail
/-- x['k'][j] -/
def eFldIx (i : Nat) (k : Tx) (j : Nat) : EM := fun ρ => match fldOf ρ i k, ρ[j]? with
  | some (.lst ds), some (some (.sh (.int n))) => match atI ds n with
    | some d => .ok (d, ρ)
    | none => .fail
  | _, _ => .fail
/-- x['k'] = e -/
def sFld (i : Nat) (k : Tx) (F : EM) : SM := fun ρ => F ρ >>= fun a => match rcdOf a.2 i with
  | some fs => match getF fs k with
    | some (.sh _) => if fs.length < 1000 then .ok (.nx (a.2.set i (some (.rcd (setF fs k (.sh a.1)))))) else .fail
    | _ => .fail
  | none => .fail
/-- x['k'][j] as a target -/
def gFldIx (i : Nat) (k : Tx) (j : Nat) : GM := fun d ρ => match rcdOf ρ i, ρ[j]? with
  | some fs, some (some (.sh (.int n))) => match getF fs k with
    | some (.lst ds) => if 0 ≤ n ∧ n < ds.length then some (ρ.set i (some (.rcd (setF fs k (.lst (ds.set n.toNat d)))))) else none
    | _ => none
  | _, _ => none
section
variable {X : Cx} {E : WX} {i j : Nat} {x y ks : Str} {k : Tx} {p1 p2 p3 p4 p5 : Pos} {n : Nat}
theorem ev_fld (hu : X.A.units + 1 < cLine) (hN : X.N[i]? = some x) (hv : Vis X.env.scope x) (hk : ks = sT k) (hd : (x == ("__debug__" : Str)) = false := by decide) (hcd : (x == ("__classdict__" : Str)) = false := by decide) :
    EV X E (.Subscript (.Name x p1) (.Constant (.str ks) n p2) p3) (eFld i k) :=
  PE.imp (pe_ix (ix_A hu) (pe_var hN hv hd hcd) pe_str (fun _ _ => rfl)) fun σ H Q ⟨P, W, ρ, w, g⟩ => by
    unfold eFld at g
    split at g
    · rename_i d e
      obtain ⟨a, ws, v, h1, h2, h3, h4⟩ := w.fldAt e
      refine ⟨_, h1, .inr ⟨a, v, rfl, ?_, g v P W H (Step.refl P W H) ⟨w, h4⟩⟩⟩
      rw [← h3, hk]
      exact DGet.k (k := .inr _) h2
    · exact g.elim
theorem ev_flen (hu : X.A.units + 1 < cLine) (hgl : Gl X "len") (hml : X.mg "len" = none) (hN : X.N[i]? = some x) (hv : Vis X.env.scope x) (hk : ks = sT k) (hd : (x == ("__debug__" : Str)) = false := by decide) (hcd : (x == ("__classdict__" : Str)) = false := by decide)
    (he : starEach [.Subscript (.Name x p1) (.Constant (.str ks) n p2) p3] X.env = (false, eval (.Subscript (.Name x p1) (.Constant (.str ks) n p2) p3) X.env) :: starEach [] X.env := by rfl) (hpl : (backTo p5 (starEach [] X.env)).any (·.1) = false := by rfl) :
    EV X E (.Call (.Name "len" p4) [.Subscript (.Name x p1) (.Constant (.str ks) n p2) p3] [] p5) (eFldLen i k) :=
  PE.imp (pe_callB cr_lenA hgl hml (by decide +kernel) (pa_cons (pe_ix (ix_A hu) (pe_var hN hv hd hcd) pe_str (fun _ _ => rfl)) pa_nil he) (by decide) (by decide) he hpl) fun σ H Q ⟨P, W, ρ, w, g⟩ => by
    unfold eFldLen at g
    split at g
    · rename_i ds e
      obtain ⟨a, ws, v, h1, h2, h3, h4⟩ := w.fldAt e
      obtain ⟨l, vs, rfl, hw, hh, dn⟩ := h4
      refine ⟨_, h1, .inr ⟨a, .ref l, rfl, ?_, .inl ⟨.ref l, vs.length, rfl, .inl ⟨vs, SqL.of hh, rfl⟩, ?_⟩⟩⟩
      · rw [← h3, hk]
        exact DGet.k (k := .inr _) h2
      · rw [dn.len]
        exact g _ P W H (Step.refl P W H) ⟨w, dint⟩
    · exact g.elim
theorem ev_fix (hu : X.A.units + 1 < cLine) (hN : X.N[i]? = some x) (hv : Vis X.env.scope x) (hk : ks = sT k) (hN2 : X.N[j]? = some y) (hv2 : Vis X.env.scope y) (hd : (x == ("__debug__" : Str)) = false := by decide) (hcd : (x == ("__classdict__" : Str)) = false := by decide)
    (hd2 : (y == ("__debug__" : Str)) = false := by decide) (hcd2 : (y == ("__classdict__" : Str)) = false := by decide) :
    EV X E (.Subscript (.Subscript (.Name x p1) (.Constant (.str ks) n p2) p3) (.Name y p4) p5) (eFldIx i k j) :=
  PE.imp (pe_ix (ix_A hu) (pe_ix (ix_A hu) (pe_var hN hv hd hcd) pe_str (fun _ _ => rfl)) (pe_var hN2 hv2 hd2 hcd2) (fun _ _ => rfl)) fun σ H Q ⟨P, W, ρ, w, g⟩ => by
    unfold eFldIx at g
    split at g
    · rename_i ds m e1 e2
      split at g
      · rename_i d e3
        obtain ⟨a, ws, v, h1, h2, h3, h4⟩ := w.fldAt e1
        obtain ⟨l, vs, rfl, hw, hh, dn⟩ := h4
        obtain ⟨v2, h5, h6⟩ := w.env j _ e2
        have h6 : Den X.K P (.int m) v2 := h6
        unfold Den at h6
        subst h6
        obtain ⟨v3, h7, h8⟩ := atI_den dn e3
        refine ⟨_, h1, .inr ⟨a, .ref l, rfl, ?_, _, h5, .inl (.inl ⟨l, vs, m, v3, rfl, rfl, SqL.of hh, h7, g v3 P W H (Step.refl P W H) ⟨w, h8⟩⟩)⟩⟩
        rw [← h3, hk]
        exact DGet.k (k := .inr _) h2
      · exact g.elim
    · exact g.elim
theorem sd_fld {md : List Bool} {value : Expr} {F : EM} {pos : Pos} (hu : X.A.units + 1 < cLine) (hN : X.N[i]? = some x) (hv : Vis X.env.scope x) (hk : ks = sT k) (he : EV X E value F) (hd : (x == ("__debug__" : Str)) = false := by decide) (hcd : (x == ("__classdict__" : Str)) = false := by decide)
    (hs : swapsWith value (some (.Subscript (.Name x p1) (.Constant (.str ks) n p2) p3)) pos.line X.env = pure false := by rfl) :
    SD X E md (.Assign [.Subscript (.Name x p1) (.Constant (.str ks) n p2) p3] value pos) (sFld i k F) :=
  PS.imp (ps_dput hu (pe_var hN hv hd hcd) pe_str he hs) fun D σ H ⟨P, W, ρ, w, g⟩ =>
    ⟨P, W, ρ, w, (GoS.val g).mono fun v H1 ⟨P1, W1, b, s1, ⟨w1, d1⟩, g1⟩ => by
      split at g1
      · rename_i fs e1
        split at g1
        · rename_i d0 e2
          split at g1
          · rename_i hlen
            obtain ⟨a, ws, h1, h2, h3, nd, l, hi⟩ := w1.rcdAt e1
            have hwl : ws.length = fs.length := by
              have := congrArg List.length (RF.keys l)
              simpa using this
            refine ⟨_, h1, a, upd H1 a (.dK (putK (ws.map gK) (.inr (sT k)) v)), rfl, ?_, ?_⟩
            · rw [hk]
              refine DPut.k (k := .inr _) h3 ?_
              rw [List.length_map, hwl]
              exact Nat.lt_of_lt_of_le hlen (by decide)
            · obtain ⟨ws', e3, l'⟩ := RF.put (H' := upd H1 a (.dK (putK (ws.map gK) (.inr (sT k)) v))) (same_refl P1) (fun f b _ hb => ⟨hb, fun o ho => by
                have : b ≠ a := fun z => by subst z; rw [h2] at hb; cases hb
                rw [upd_ne this]; exact ho⟩) (show R1 X.K P1 W1 _ (some i) (some k) (.sh b.1) v from d1) e2 nd l
              obtain ⟨w2, s2⟩ := w1.mutF (mg := X.mg) (o := .dK (putK (ws.map gK) (.inr (sT k)) v)) (t := .rcd (setF fs k (.sh b.1))) hi h1 h2 ⟨a, ws', rfl, h2, by rw [e3]; exact upd_same, by rw [setF_keys]; exact nd, l'⟩
              exact g1 σ P1 W1 _ s2 w2 (Kp.refl md σ)
          · exact g1.elim
        · exact g1.elim
      · exact g1.elim⟩
theorem ixN_of {n : Nat} {k : Int} (h : 0 ≤ k ∧ k < n) : ixN n k = some k.toNat := by
  unfold ixN
  first
    | (simp only [h.1, h.2, if_true, and_self]; done)
    | (split <;> first | rfl | omega)
theorem gd_fix {sl : List Nat} (hu : X.A.units + 1 < cLine) (hN : X.N[i]? = some x) (hv : Vis X.env.scope x) (hk : ks = sT k) (hN2 : X.N[j]? = some y) (hv2 : Vis X.env.scope y) (hd : (x == ("__debug__" : Str)) = false := by decide) (hcd : (x == ("__classdict__" : Str)) = false := by decide)
    (hd2 : (y == ("__debug__" : Str)) = false := by decide) (hcd2 : (y == ("__classdict__" : Str)) = false := by decide) :
    GD X sl (.Subscript (.Subscript (.Name x p1) (.Constant (.str ks) n p2) p3) (.Name y p4) p5) (gFldIx i k j) :=
  PG.imp (pg_sub (pe_ix (ix_A hu) (pe_var hN hv hd hcd) pe_str (fun _ _ => rfl)) (pe_var hN2 hv2 hd2 hcd2) set_list) fun v σ H Q ⟨P, W, ρ, d, ρ', w, dn, e, q⟩ => by
    unfold gFldIx at e
    split at e
    · rename_i fs m e1 e2
      split at e
      · rename_i ds e3
        split at e
        · rename_i hm
          cases e
          obtain ⟨a, ws, h1, h2, h3, nd, l, hi⟩ := w.rcdAt e1
          obtain ⟨v1, h4, h5⟩ := RF.get l e3
          obtain ⟨b, vs, rfl, hw, hh, dl⟩ := h5
          obtain ⟨v2, h6, h7⟩ := w.env j _ e2
          have h7 : Den X.K P (.int m) v2 := h7
          unfold Den at h7
          subst h7
          refine ⟨_, h1, .inr ⟨a, .ref b, rfl, ?_, _, h6, b, vs, m, m.toNat, rfl, rfl, hh, ixN_of (by rw [dl.len]; exact hm), ?_⟩⟩
          · rw [← h4, hk]
            exact DGet.k (k := .inr _) h3
          · have hab : a ≠ b := fun z => by subst z; rw [h2] at hw; cases hw
            have dl' := DenL.set m.toNat dl dn
            have l' := RF.same (v := .ref b) (H' := upd H b (.lst (vs.set m.toNat v))) (same_refl P) (fun f c hf hb => ⟨hb, fun o ho => by
              have : c ≠ b := fun z => by subst z; rw [hw] at hb; cases hb; exact hf rfl
              rw [upd_ne this]; exact ho⟩) (show R1 X.K P W _ (some i) (some k) (.lst (ds.set m.toNat d)) (.ref b) from ⟨b, _, rfl, hw, upd_same, dl'⟩) e3 h4 nd l
            obtain ⟨w2, s2⟩ := w.mutF (mg := X.mg) (o := .lst (vs.set m.toNat v)) (t := .rcd (setF fs k (.lst (ds.set m.toNat d)))) hi h1 hw ⟨a, ws, rfl, h2, by rw [upd_ne hab]; exact h3, by rw [setF_keys]; exact nd, l'⟩
            exact q σ P W _ s2 w2 (Ke.refl sl σ)
        · cases e
      · cases e
    · cases e
end
/-- {'k1': a list of its own, 'k2': e} -/
def tRcd2 (k1 : Tx) (C : OM) (k2 : Tx) (F : EM) : OM := fun ρ => C ρ >>= fun a => match a.1 with
  | .lst ds => F a.2 >>= fun b => if k1 ≠ k2 then .ok (.rcd [(k1, .lst ds), (k2, .sh b.1)], b.2) else .fail
  | _ => .fail
theorem Wd.disown {K : PySem.W.Frag} {mg : Str → Option Value} {P H : Hp} {W : Own} {σ : St} {ρ : Env} {b : Addr} {f : Option Tx} (w : Wd K mg P W H σ ρ) (h : W b = some (none, f)) : Wd K mg P (ownOff W b) H σ ρ := by
  refine ⟨w.same, fun a r e => ?_, fun i t e => ?_, w.len⟩
  · unfold ownOff at e
    split at e
    · cases e
    · exact w.own a r e
  · obtain ⟨v, hs, hr⟩ := w.env i t e
    refine ⟨v, hs, RT.mono (same_refl P) (fun f x ex => ⟨?_, fun _ h => h⟩) t v hr⟩
    unfold ownOff
    rw [if_neg (fun z => by subst z; rw [h] at ex; cases ex)]
    exact ex
section
variable {X : Cx} {E : WX} {a b : Expr} {k1 k2 : Tx} {s1 s2 : Str} {C : OM} {F : EM} {n1 n2 : Nat} {p1 p2 pos : Pos}
theorem et_rcd2 (h1 : s1 = sT k1) (h2 : s2 = sT k2) (ha : ET X E a C) (hb : EV X E b F) : ET X E (.Dict [some (.Constant (.str s1) n1 p1), some (.Constant (.str s2) n2 p2)] [a, b] pos) (tRcd2 k1 C k2 F) :=
  PE.imp (pe_disp (pps_cons pe_str ha (pps_cons pe_str hb pps_nil)) rfl rfl (by simp) (by simp)) fun σ H Q ⟨P, W, ρ, w, g⟩ p hp => by
    have al := Al.newH (P := P) (o := .dK []) w.same hp
    have wp : W p = none := by
      cases e : W p with
      | none => rfl
      | some r => obtain ⟨_, u, h⟩ := w.own p r e; rw [hp] at h; cases h
    refine ⟨P, W, ρ, w.al al, ?_⟩
    unfold tRcd2 at g
    cases hC : C ρ with
    | fail => rw [hC] at g; exact g.elim
    | exc x ρ' => rw [hC] at g; exact fun c od P' W' H' s => g c od P' W' H' ((al.step W).trans s)
    | ok r =>
      rw [hC, ok_bind] at g
      intro v P1 W1 H1 st1 ⟨w1, r1⟩
      obtain ⟨t, ρ1⟩ := r
      cases t with
      | lst ds =>
        simp only at g
        obtain ⟨c, vs, rfl, hw, hh, dl⟩ := r1
        obtain ⟨q1, q2, q3⟩ := st1.2 p _ upd_same wp
        have hcp : c ≠ p := fun z => by subst z; rw [hw] at q2; cases q2
        have pc := (w1.own c _ hw).1
        have w2 := w1.disown hw
        have st2 : Step P1 W1 H1 P1 (ownOff W1 c) H1 := ⟨same_refl P1, fun x o hx wx => ⟨hx, by
          unfold ownOff
          split
          · rfl
          · exact wx, rfl⟩⟩
        refine ⟨P1, ownOff W1 c, ρ1, w2, ?_⟩
        have off : ownOff W1 c c = none := by unfold ownOff; rw [if_pos rfl]
        have offp : ownOff W1 c p = none := by unfold ownOff; rw [if_neg (Ne.symm hcp)]; exact q2
        cases hF : F ρ1 with
        | fail => rw [hF] at g; exact g.elim
        | exc x ρ' => rw [hF] at g; exact fun c' od P' W' H' s => g c' od P' W' H' ((((al.step W).trans st1).trans st2).trans s)
        | ok r2 =>
          rw [hF, ok_bind] at g
          intro v2 P3 W3 H3 st3 ⟨w3, d3⟩
          split at g
          · rename_i hkk
            obtain ⟨c1, c2, c3⟩ := st3.2 c _ hh off
            obtain ⟨e1, e2, e3⟩ := st3.2 p _ q1 offp
            have pp3 : P3 p = none := by rw [e3, q3]; exact same_none w.same hp
            have pc3 : P3 c = none := by rw [c3]; exact pc
            refine ⟨e1, [(.inr (sT k1), .ref c), (.inr (sT k2), v2)], by rw [h1, h2]; rfl, by simp, ?_⟩
            have hm : mergeK [] [((.inr (sT k1) : Key), V.ref c), (.inr (sT k2), v2)] = [(sT k1, V.ref c), (sT k2, v2)].map gK := by
              have : ¬ (Sum.inr (sT k1) : Key) = Sum.inr (sT k2) := fun z => hkk (sT_inj (Sum.inr.inj z))
              simp [mergeK, putK, gK, this]
            rw [hm]
            refine g (.ref p) P3 (fun x => if x = p then some (none, none) else if x = c then some (none, some k1) else W3 x) _ ?_ ⟨⟨fun x o hx => ?_, fun x r hx => ?_, fun i t hi => ?_, w3.len⟩, p, [(sT k1, V.ref c), (sT k2, v2)], rfl, by simp, upd_same, by simpa using hkk, .ref c, [(sT k2, v2)], rfl, ?_, v2, [], rfl, d3, rfl⟩
            · refine ⟨((((al.step W).trans st1).trans st2).trans st3).1, fun x o hx wx => ?_⟩
              have hxp : x ≠ p := ne_of_none hx hp
              obtain ⟨z1, z2, z3⟩ := ((al.step W).trans st1).2 x o hx wx
              have hxc : x ≠ c := fun z => by subst z; rw [hw] at z2; cases z2
              obtain ⟨y1, y2, y3⟩ := ((((al.step W).trans st1).trans st2).trans st3).2 x o hx wx
              exact ⟨by rw [upd_ne hxp]; exact y1, by simp only [if_neg hxp, if_neg hxc]; exact y2, y3⟩
            · rw [upd_ne (ne_of_none hx pp3)]
              exact w3.same x o hx
            · by_cases hxp : x = p
              · subst hxp; exact ⟨pp3, _, upd_same⟩
              · simp only [if_neg hxp] at hx
                rw [upd_ne hxp]
                by_cases hxc : x = c
                · subst hxc; exact ⟨pc3, _, c1⟩
                · rw [if_neg hxc] at hx
                  exact w3.own x r hx
            · obtain ⟨v', hs, hr⟩ := w3.env i t hi
              refine ⟨v', hs, RT.mono (same_refl P3) (fun f x ex => ?_) t v' hr⟩
              have hxp : x ≠ p := fun z => by subst z; rw [e2] at ex; cases ex
              have hxc : x ≠ c := fun z => by subst z; rw [c2] at ex; cases ex
              exact ⟨by simp only [if_neg hxp, if_neg hxc]; exact ex, fun o ho => by rw [upd_ne hxp]; exact ho⟩
            · exact ⟨c, vs, rfl, by simp only [if_neg hcp, if_true], by rw [upd_ne hcp]; exact c1, DenL.mono st3.1 _ _ dl⟩
          · exact g.elim
      | _ => exact g.elim
end
end Od
namespace Od
open PySem PySem.Spec L2
open PyProof.Rows hiding St
/-! ### x, y = a, b: objects in hand wait -/
def rootT : T → Bool
  | .sh _ => true | .lst _ => true | .dct _ _ => true
  | _ => false
def Pend (K : PySem.W.Frag) (P : Hp) (W : Own) (H : Hp) : T → V → Prop
  | .sh d, v => Den K P d v
  | .lst ds, v => ∃ c vs, v = .ref c ∧ W c = none ∧ P c = none ∧ H c = some (.lst vs) ∧ DenL K P ds vs
  | .dct ks ds, v => ∃ c ws, v = .ref c ∧ W c = none ∧ P c = none ∧ H c = some (.dK ws) ∧ ws.map Prod.fst = ks.map kK ∧ DenL K P ds (ws.map Prod.snd)
  | _, _ => False
def RootAt : T → V → Addr → Prop
  | .lst _, v, x => v = .ref x
  | .dct _ _, v, x => v = .ref x
  | _, _, _ => False
section
variable {K : PySem.W.Frag} {mg : Str → Option Value} {P P' H H' : Hp} {W W' : Own} {σ : St} {ρ : Env} {t : T} {v : V}
theorem Wd.pend (w : Wd K mg P W H σ ρ) (h : RT K mg P W H none t v) (g : rootT t = true) : ∃ W', Wd K mg P W' H σ ρ ∧ Step P W H P W' H ∧ Pend K P W' H t v ∧ ∀ x, RootAt t v x → W x ≠ none := by
  have st : ∀ c, Step P W H P (ownOff W c) H := fun c => ⟨same_refl P, fun x o hx wx => ⟨hx, by
    unfold ownOff
    split
    · rfl
    · exact wx, rfl⟩⟩
  cases t with
  | sh d => exact ⟨W, w, Step.refl P W H, h, fun x z => z.elim⟩
  | lst ds =>
    obtain ⟨c, vs, rfl, hw, hh, l⟩ := h
    exact ⟨ownOff W c, w.disown hw, st c, ⟨c, vs, rfl, by unfold ownOff; rw [if_pos rfl], (w.own c _ hw).1, hh, l⟩, fun x z => by cases z; rw [hw]; simp⟩
  | dct ks ds =>
    obtain ⟨c, ws, rfl, hw, hh, k, l⟩ := h
    exact ⟨ownOff W c, w.disown hw, st c, ⟨c, ws, rfl, by unfold ownOff; rw [if_pos rfl], (w.own c _ hw).1, hh, k, l⟩, fun x z => by cases z; rw [hw]; simp⟩
  | _ => cases g
theorem Pend.step (h : Pend K P W H t v) (s : Step P W H P' W' H') : Pend K P' W' H' t v := by
  cases t with
  | sh d => exact Den.mono s.1 d v h
  | lst ds =>
    obtain ⟨c, vs, e, hw, hp, hh, l⟩ := h
    obtain ⟨a1, a2, a3⟩ := s.2 c _ hh hw
    exact ⟨c, vs, e, a2, by rw [a3]; exact hp, a1, DenL.mono s.1 _ _ l⟩
  | dct ks ds =>
    obtain ⟨c, vs, e, hw, hp, hh, k, l⟩ := h
    obtain ⟨a1, a2, a3⟩ := s.2 c _ hh hw
    exact ⟨c, vs, e, a2, by rw [a3]; exact hp, a1, k, DenL.mono s.1 _ _ l⟩
  | _ => exact h
theorem Pend.root {x : Addr} (h : Pend K P W H t v) (r : RootAt t v x) : W x = none ∧ P x = none ∧ ∃ o, H x = some o := by
  cases t with
  | lst ds =>
    obtain ⟨c, vs, e, hw, hp, hh, l⟩ := h
    cases r; cases e
    exact ⟨hw, hp, _, hh⟩
  | dct ks ds =>
    obtain ⟨c, vs, e, hw, hp, hh, k, l⟩ := h
    cases r; cases e
    exact ⟨hw, hp, _, hh⟩
  | _ => exact r.elim
/-- the waiting object goes to a slot -/
theorem Wd.adoptR {i : Nat} (w : Wd K mg P W H σ ρ) (h : Pend K P W H t v) (hi : i < ρ.length) :
    ∃ W', Wd K mg P W' H (σ.set i (some v)) (ρ.set i (some t)) ∧ ∀ x, W x = none → ¬ RootAt t v x → W' x = none := by
  have hσ : i < σ.length := Nat.lt_of_lt_of_le hi w.len
  classical
  refine ⟨fun a => if RootAt t v a then some (some i, none) else match W a with | some (some j, f) => if j = i then some (none, f) else some (some j, f) | o => o,
    ⟨w.same, fun a r ea => ?_, fun j t' ej => ?_, by simpa using w.len⟩, fun x hx nr => by simp only [if_neg nr, hx]⟩
  · by_cases hr : RootAt t v a
    · exact (h.root hr).2
    · simp only [if_neg hr] at ea
      cases q : W a with
      | none => simp only [q] at ea; cases ea
      | some r' => exact w.own a r' q
  · by_cases hj : j = i
    · subst hj
      rw [List.getElem?_set_self hi] at ej
      cases ej
      refine ⟨v, by rw [List.getElem?_set_self hσ], ?_⟩
      cases t with
      | sh d => exact h
      | lst ds =>
        obtain ⟨c, vs, e, hw, hp, hh, l⟩ := h
        exact ⟨c, vs, e, by simp only [if_pos (show RootAt (.lst ds) v c from e)], hh, l⟩
      | dct ks ds =>
        obtain ⟨c, vs, e, hw, hp, hh, k, l⟩ := h
        exact ⟨c, vs, e, by simp only [if_pos (show RootAt (.dct ks ds) v c from e)], hh, k, l⟩
      | _ => exact h.elim
    · rw [List.getElem?_set_ne (Ne.symm hj)] at ej
      obtain ⟨v', hs', hr'⟩ := w.env j t' ej
      refine ⟨v', by rw [List.getElem?_set_ne (Ne.symm hj)]; exact hs', RT.mono (same_refl P) (fun f x ex => ⟨?_, fun _ h => h⟩) t' v' hr'⟩
      have nr : ¬ RootAt t v x := fun z => by rw [(h.root z).1] at ex; cases ex
      simp only [if_neg nr, ex, if_neg hj]
end
section
variable {X : Cx} {E : WX} {md : List Bool} {i j : Nat} {x y : Str} {a b : Expr} {A B : OM} {px py pt pos : Pos} {kt k2 : Nat} {pt2 : Pos}
end
end Od
namespace Od
open PySem PySem.Spec L2
open PyProof.Rows hiding St
theorem hu1 {k : Nat} {A : Around} (hr : RoomG k A) : A.units + 1 < cLine := by have := hr.un; omega
theorem hu65 {k : Nat} {A : Around} (hr : RoomG k A) : A.units + 65 < cLine := by have := hr.un; omega
def blkB (N : List Str) (sc scope : Scope) (own : List (Str × Nat)) : Bool :=
  decide (scope.kind = .function) && decide (∀ y ∈ scope.names, scope.names.lookup y.1 = some y.2) && decide (∀ p ∈ own, N[p.2]? = some p.1) &&
  decide (∀ y ∈ scope.names, y.2 = .free → sc.names.lookup y.1 = some .cell ∨ sc.names.lookup y.1 = some .free) && decide (∀ y ∈ scope.names, y.2 = .local ∨ y.2 = .cell → y.1 ∈ own.map (·.1) ∨ y.1 ∉ N)
theorem blk_ok {N : List Str} {sc scope : Scope} {own : List (Str × Nat)} (h : blkB N sc scope own = true) : BlkOk N sc scope own := by
  unfold blkB at h
  simp only [Bool.and_eq_true, decide_eq_true_eq] at h
  exact ⟨h.1.1.1.1, h.1.1.1.2, h.1.1.2, h.1.2, h.2⟩
theorem gl_ {X : Cx} {x : Str} (h : X.env.kindOf x = some .globalImplicit) : Gl X x := h
/-- a def that is never called -/
theorem Cal.zero {P : Program} {w : World} {K : PySem.W.Frag} {mg : Str → Option Value} {base : Heap} {x qual : Str} {st : Stmt} {f : Addr} {fd : FuncData} {N ps : List Str} (F : Fun K x qual st f fd) (hm : mg x = some (.ref f)) (hb : Binds K fd ps []) (S : FnScope N ps (defScope st)) :
    Cal P w K mg base 1 x (fun _ => .fail) := by
  refine ⟨f, fd, ps, okG (k := 0) F S (fun vs H Q E h => ?_) (fun cdv A outer s H vs Q E hr h => ?_), hm, F.kp, hb⟩
  · obtain ⟨P', W, ts, _, hl, m⟩ := h
    exact m.elim
  · obtain ⟨P', W, ts, _, hl, m⟩ := h
    exact m.elim
end Od
namespace Od
open PySem PySem.Spec L2
open PyProof.Rows hiding St
/-! ### zip of two lists or of two tuples -/
section
variable {K : PySem.W.Frag} {P : Hp}
end
end Od
namespace Od
open PySem PySem.Spec L2
open PyProof.Rows hiding St
/-! ### the mirrors, read forwards: sat r Φ Ψ - it ends as Φ says, or raises as Ψ says -/
def sat {α : Type} (r : Res α) (Φ : α → Prop) (Ψ : Exn → Env → Prop) : Prop := match r with
  | .ok a => Φ a
  | .exc x ρ => Ψ x ρ
  | .fail => False
def satO0 (o : Out) (Φ : T → Env → Prop) (Ψ : Exn → Env → Prop) : Prop := match o with
  | .ok t os => Φ t os
  | .exc x os => Ψ x os
  | .fail => False
structure satO (o : Out) (Φ : T → Env → Prop) (Ψ : Exn → Env → Prop) : Prop where
  un : satO0 o Φ Ψ
theorem eqO {o : Out} {Φ : T → Env → Prop} {Ψ : Exn → Env → Prop} : satO o Φ Ψ = satO0 o Φ Ψ := propext ⟨fun h => h.un, fun h => ⟨h⟩⟩
def ex {α : Type} (o : Option α) (Φ : α → Prop) : Prop := match o with
  | some a => Φ a
  | none => False
section
variable {α β : Type} {Φ : α → Prop} {Φ' : β → Prop} {Ψ : Exn → Env → Prop} {ρ : Env}
theorem sat_ok (a : α) : sat (.ok a) Φ Ψ = Φ a := rfl
theorem sat_exc (x : Exn) : sat (.exc x ρ : Res α) Φ Ψ = Ψ x ρ := rfl
theorem sat_fail : sat (.fail : Res α) Φ Ψ = False := rfl
theorem sat_bind (r : Res β) (f : β → Res α) : sat (r >>= f) Φ Ψ = sat r (fun a => sat (f a) Φ Ψ) Ψ := by cases r <;> rfl
theorem sat_of (o : Option α) : sat (Res.of o) Φ Ψ = ex o Φ := by cases o <;> rfl
theorem ex_some (a : α) : ex (some a) Φ = Φ a := rfl
theorem ex_none : ex (none : Option α) Φ = False := rfl
theorem ex_bind (o : Option β) (f : β → Option α) : ex (o.bind f) Φ = ex o (fun a => ex (f a) Φ) := by cases o <;> rfl
theorem ex_map (o : Option β) (f : β → α) : ex (o.map f) Φ = ex o (fun a => Φ (f a)) := by cases o <;> rfl
theorem ex_ite (c : Prop) [Decidable c] (o : Option α) : ex (if c then o else none) Φ = (c ∧ ex o Φ) := by
  by_cases h : c
  · rw [if_pos h]; simp [h]
  · rw [if_neg h]; simp [h, ex_none]
theorem sat_ite (c : Prop) [Decidable c] (a b : Res α) : sat (if c then a else b) Φ Ψ = ((c → sat a Φ Ψ) ∧ (¬ c → sat b Φ Ψ)) := by
  by_cases h : c
  · rw [if_pos h]; simp [h]
  · rw [if_neg h]; simp [h]
theorem sat_iteF (c : Prop) [Decidable c] (a : Res α) : sat (if c then a else .fail) Φ Ψ = (c ∧ sat a Φ Ψ) := by
  by_cases h : c
  · rw [if_pos h]; simp [h]
  · rw [if_neg h]; simp [h, sat_fail]
theorem sat.mono {r : Res α} {Φ2 : α → Prop} (h : sat r Φ Ψ) (q : ∀ a, Φ a → Φ2 a) : sat r Φ2 Ψ := by
  cases r with
  | ok a => exact q a h
  | exc x ρ => exact h
  | fail => exact h
theorem satO.mono {r : Out} {Φ Φ2 : T → Env → Prop} (h : satO r Φ Ψ) (q : ∀ a os, Φ a os → Φ2 a os) : satO r Φ2 Ψ := by
  rw [eqO] at h ⊢
  cases r with
  | ok a os => exact q a os h
  | exc x ρ => exact h
  | fail => exact h
theorem satO.ex {r : Out} {Φ : T → Env → Prop} (h : satO r Φ (fun _ _ => False)) : ∃ t os, r = .ok t os ∧ Φ t os := by
  rw [eqO] at h
  cases r with
  | ok a os => exact ⟨a, os, rfl, h⟩
  | exc x ρ => exact h.elim
  | fail => exact h.elim
theorem sat.ex {r : Res α} {Φ : α → Prop} (h : sat r Φ (fun _ _ => False)) : ∃ t, r = .ok t ∧ Φ t := by
  cases r with
  | ok a => exact ⟨a, rfl, h⟩
  | exc x ρ => exact h.elim
  | fail => exact h.elim
end
/-! ### reading the environment -/
def lkS (ρ : Env) (i : Nat) : Option D := match ρ[i]? with
  | some (some (.sh d)) => some d
  | _ => none
def lkF (ρ : Env) (i : Nat) : Option D := match ρ[i]? with
  | some (some t) => frzT t
  | _ => none
def lkT (ρ : Env) (i : Nat) : Option T := match ρ[i]? with
  | some (some t) => some t
  | _ => none
def lkL (ρ : Env) (i : Nat) : Option (List D) := match ρ[i]? with
  | some (some (.lst ds)) => some ds
  | _ => none
def atH (ρ : Env) (i : Nat) : Option D := slotD ρ[i]?
section
variable {Ψ : Exn → Env → Prop} {ρ : Env} {Φ : D × Env → Prop} {ΦT : T × Env → Prop} {ΦH : Hd × Env → Prop} {ΦB : Bool × Env → Prop} {ΦS : Fl → Prop}
variable {A B C : HM} {F G : EM} {F' G' : OM} {b b' : BM} {S S' : SM}
theorem s_eC (d : D) : sat (eC d ρ) Φ Ψ = Φ (d, ρ) := rfl
theorem s_eV (i : Nat) : sat (eV i ρ) Φ Ψ = ex (lkS ρ i) (fun d => Φ (d, ρ)) := by
  unfold eV lkS
  generalize ρ[i]? = o
  rcases o with _ | (_ | t)
  · rfl
  · rfl
  · cases t <;> rfl
theorem s_eFv (i : Nat) : sat (eFv i ρ) Φ Ψ = ex (lkF ρ i) (fun d => Φ (d, List.set ρ i (some (.sh d)))) := by
  unfold eFv lkF
  generalize ρ[i]? = o
  rcases o with _ | (_ | t)
  · rfl
  · rfl
  · show sat (match frzT t with | some d => Res.ok (d, List.set ρ i (some (T.sh d))) | none => Res.fail) Φ Ψ = ex (frzT t) _
    generalize frzT t = z
    cases z <;> rfl
theorem s_tMv (i : Nat) : sat (tMv i ρ) ΦT Ψ = ex (lkT ρ i) (fun t => ΦT (t, List.set ρ i none)) := by
  unfold tMv lkT
  generalize ρ[i]? = o
  rcases o with _ | (_ | t) <;> rfl
theorem s_hSc (i : Nat) : sat (hSc i ρ) ΦH Ψ = ex (lkT ρ i) (fun _ => ΦH (.slot i, ρ)) := by
  unfold hSc lkT
  generalize ρ[i]? = o
  rcases o with _ | (_ | t) <;> rfl
theorem s_hV : sat (hV F ρ) ΦH Ψ = sat (F ρ) (fun a => ΦH (.val a.1, a.2)) Ψ := by unfold hV; rw [sat_bind]; rfl
theorem s_eFz : sat (eFz F' ρ) Φ Ψ = sat (F' ρ) (fun a => ex (frzT a.1) fun d => Φ (d, a.2)) Ψ := by
  unfold eFz; rw [sat_bind]
  congr 1; funext a
  cases frzT a.1 <;> rfl
theorem s_tSh : sat (tSh F ρ) ΦT Ψ = sat (F ρ) (fun a => ΦT (.sh a.1, a.2)) Ψ := by unfold tSh; rw [sat_bind]; rfl
theorem s_e1 (f : D → Option D) : sat (e1 f A ρ) Φ Ψ = sat (A ρ) (fun a => ex (getH a.1 a.2) fun d => ex (f d) fun r => Φ (r, a.2)) Ψ := by
  unfold e1; rw [sat_bind]; congr 1; funext a; rw [sat_bind, sat_of, ex_bind]; rfl
theorem s_e2 (f : D → D → Option D) : sat (e2 f A B ρ) Φ Ψ = sat (A ρ) (fun a => sat (B a.2) (fun b => ex (getH a.1 b.2) fun d => ex (getH b.1 b.2) fun e => ex (f d e) fun r => Φ (r, b.2)) Ψ) Ψ := by
  unfold e2; rw [sat_bind]; congr 1; funext a; rw [sat_bind]; congr 1; funext b; rw [sat_bind, sat_of, ex_bind]; congr 1; funext d; rw [ex_bind]; rfl
theorem s_t2 (f : D → D → Option (List D)) : sat (t2 f A B ρ) ΦT Ψ = sat (A ρ) (fun a => sat (B a.2) (fun b => ex (getH a.1 b.2) fun d => ex (getH b.1 b.2) fun e => ex (f d e) fun r => ΦT (.lst r, b.2)) Ψ) Ψ := by
  unfold t2; rw [sat_bind]; congr 1; funext a; rw [sat_bind]; congr 1; funext b; rw [sat_bind, sat_of, ex_bind]; congr 1; funext d; rw [ex_bind]; rfl
theorem s_b2 (f : D → D → Option Bool) : sat (b2 f A B ρ) ΦB Ψ = sat (A ρ) (fun a => sat (B a.2) (fun b => ex (getH a.1 b.2) fun d => ex (getH b.1 b.2) fun e => ex (f d e) fun r => ΦB (r, b.2)) Ψ) Ψ := by
  unfold b2; rw [sat_bind]; congr 1; funext a; rw [sat_bind]; congr 1; funext b; rw [sat_bind, sat_of, ex_bind]; congr 1; funext d; rw [ex_bind]; rfl
theorem ex_blOf (f : D → D → Option Bool) (d e : D) {Φ : D → Prop} : ex (blOf f d e) Φ = ex (f d e) fun b => Φ (.bl b) := by unfold blOf; rw [ex_map]
/-! lists of arguments -/
theorem s_vL0 {Φ : List D × Env → Prop} : sat (vL [] ρ) Φ Ψ = Φ ([], ρ) := rfl
theorem s_vL {Φ : List D × Env → Prop} (Fs : List EM) : sat (vL (F :: Fs) ρ) Φ Ψ = sat (F ρ) (fun a => sat (vL Fs a.2) (fun r => Φ (a.1 :: r.1, r.2)) Ψ) Ψ := by
  show sat (F ρ >>= _) _ _ = _
  rw [sat_bind]; congr 1; funext a; rw [sat_bind]; rfl
theorem s_hL0 {Φ : List Hd × Env → Prop} : sat (hL [] ρ) Φ Ψ = Φ ([], ρ) := rfl
theorem s_hL {Φ : List Hd × Env → Prop} (As : List HM) : sat (hL (A :: As) ρ) Φ Ψ = sat (A ρ) (fun a => sat (hL As a.2) (fun r => Φ (a.1 :: r.1, r.2)) Ψ) Ψ := by
  show sat (A ρ >>= _) _ _ = _
  rw [sat_bind]; congr 1; funext a; rw [sat_bind]; rfl
theorem ex_getL0 {Φ : List D → Prop} : ex (getL [] ρ) Φ = Φ [] := rfl
theorem ex_getL {Φ : List D → Prop} (h : Hd) (hs : List Hd) : ex (getL (h :: hs) ρ) Φ = ex (getH h ρ) fun d => ex (getL hs ρ) fun ds => Φ (d :: ds) := by
  show ex (Option.bind _ _) _ = _
  rw [ex_bind]; congr 1; funext d; rw [ex_bind]; rfl
theorem s_eTup (Fs : List EM) : sat (eTup Fs ρ) Φ Ψ = sat (vL Fs ρ) (fun a => a.1.length ≤ 1000000 ∧ Φ (.tup a.1, a.2)) Ψ := by
  unfold eTup; rw [sat_bind]; congr 1; funext a; rw [sat_iteF]; rfl
theorem s_tLst (Fs : List EM) : sat (tLst Fs ρ) ΦT Ψ = sat (vL Fs ρ) (fun a => a.1.length ≤ 1000000 ∧ ΦT (.lst a.1, a.2)) Ψ := by
  unfold tLst; rw [sat_bind]; congr 1; funext a; rw [sat_iteF]; rfl
theorem s_eCB (f : List D → Option D) (As : List HM) : sat (eCB f As ρ) Φ Ψ = sat (hL As ρ) (fun a => ex (getL a.1 a.2) fun ds => ex (f ds) fun r => Φ (r, a.2)) Ψ := by
  unfold eCB; rw [sat_bind]; congr 1; funext a; rw [sat_bind, sat_of, ex_bind]; rfl
theorem s_tCBL (f : List D → Option (List D)) (As : List HM) : sat (tCBL f As ρ) ΦT Ψ = sat (hL As ρ) (fun a => ex (getL a.1 a.2) fun ds => ex (f ds) fun r => ΦT (.lst r, a.2)) Ψ := by
  unfold tCBL; rw [sat_bind]; congr 1; funext a; rw [sat_bind, sat_of, ex_bind]; rfl
theorem s_eBM (t : Ty) (f : D → List D → Option D) (As : List HM) : sat (eBM t f A As ρ) Φ Ψ = sat (A ρ) (fun a => ((getH a.1 a.2).map (isTy t)) = some true ∧ sat (hL As a.2) (fun b => ex (getH a.1 b.2) fun d => ex (getL b.1 b.2) fun ds => ex (f d ds) fun r => Φ (r, b.2)) Ψ) Ψ := by
  unfold eBM; rw [sat_bind]; congr 1; funext a; rw [sat_iteF]; congr 1; rw [sat_bind]; congr 1; funext b; rw [sat_bind, sat_of, ex_bind]; congr 1; funext d; rw [ex_bind]; rfl
theorem s_eMut (i : Nat) (m : List D → List D → Option (List D × D)) (Fs : List EM) : sat (eMut i m Fs ρ) Φ Ψ = ex (lkL ρ i) (fun _ => sat (vL Fs ρ) (fun a => ex (lkL a.2 i) fun ds => ex (m ds a.1) fun r => Φ (r.2, List.set a.2 i (some (.lst r.1)))) Ψ) := by
  unfold eMut lkL
  generalize ρ[i]? = o
  rcases o with _ | (_ | t)
  · rfl
  · rfl
  · cases t with
    | lst ds0 =>
      show sat (vL Fs ρ >>= _) _ _ = sat (vL Fs ρ) _ _
      rw [sat_bind]; congr 1; funext a
      generalize a.2[i]? = o2
      rcases o2 with _ | (_ | t)
      · rfl
      · rfl
      · cases t with
        | lst ds =>
          show sat (Res.of (m ds a.1) >>= _) _ _ = ex (m ds a.1) _
          rw [sat_bind, sat_of]; rfl
        | _ => rfl
    | _ => rfl
theorem s_oN {Φ : Option Int × Env → Prop} : sat (oN ρ) Φ Ψ = Φ (none, ρ) := rfl
theorem s_oS {Φ : Option Int × Env → Prop} : sat (oS F ρ) Φ Ψ = sat (F ρ) (fun a => ex (intOf a.1) fun i => Φ (some i, a.2)) Ψ := by
  unfold oS; rw [sat_bind]; congr 1; funext a; rw [sat_bind, sat_of]; rfl
theorem s_tCut (l u : Env → Res (Option Int × Env)) : sat (tCut A l u ρ) ΦT Ψ = sat (A ρ) (fun a => sat (l a.2) (fun x => sat (u x.2) (fun y => ex (getH a.1 y.2) fun d => ex (lCut x.1 y.1 d) fun r => ΦT (.lst r, y.2)) Ψ) Ψ) Ψ := by
  unfold tCut; rw [sat_bind]; congr 1; funext a; rw [sat_bind]; congr 1; funext x; rw [sat_bind]; congr 1; funext y; rw [sat_bind, sat_of, ex_bind]; rfl
def blD : D → Option Bool
  | .bl b => some b
  | _ => none
theorem s_bVal : sat (bVal F ρ) ΦB Ψ = sat (F ρ) (fun a => ex (blD a.1) fun b => ΦB (b, a.2)) Ψ := by
  unfold bVal; rw [sat_bind]; congr 1; funext a; cases a.1 <;> rfl
theorem s_bNot : sat (bNot b ρ) ΦB Ψ = sat (b ρ) (fun a => ΦB (!a.1, a.2)) Ψ := by unfold bNot; rw [sat_bind]; rfl
theorem s_bAnd : sat (bAnd b b' ρ) ΦB Ψ = sat (b ρ) (fun a => (a.1 = true → sat (b' a.2) ΦB Ψ) ∧ (a.1 = false → ΦB (false, a.2))) Ψ := by
  unfold bAnd; rw [sat_bind]; congr 1; funext a
  rw [sat_ite]
  cases a.1 <;> simp [sat_ok]
theorem s_bOr : sat (bOr b b' ρ) ΦB Ψ = sat (b ρ) (fun a => (a.1 = true → ΦB (true, a.2)) ∧ (a.1 = false → sat (b' a.2) ΦB Ψ)) Ψ := by
  unfold bOr; rw [sat_bind]; congr 1; funext a
  rw [sat_ite]
  cases a.1 <;> simp [sat_ok]
theorem s_eIf : sat (eIf b F G ρ) Φ Ψ = sat (b ρ) (fun a => (a.1 = true → sat (F a.2) Φ Ψ) ∧ (a.1 = false → sat (G a.2) Φ Ψ)) Ψ := by
  unfold eIf; rw [sat_bind]; congr 1; funext a
  rw [sat_ite]
  cases a.1 <;> simp
theorem s_eAnd : sat (eAnd F G ρ) Φ Ψ = sat (F ρ) (fun a => ex (blD a.1) fun b => (b = true → sat (G a.2) Φ Ψ) ∧ (b = false → Φ (.bl false, a.2))) Ψ := by
  unfold eAnd; rw [sat_bind]; congr 1; funext a
  cases a.1 <;> first | rfl | skip
  rename_i b
  cases b <;> simp [blD, ex, sat]
theorem s_eOr : sat (eOr F G ρ) Φ Ψ = sat (F ρ) (fun a => ex (blD a.1) fun b => (b = true → Φ (.bl true, a.2)) ∧ (b = false → sat (G a.2) Φ Ψ)) Ψ := by
  unfold eOr; rw [sat_bind]; congr 1; funext a
  cases a.1 <;> first | rfl | skip
  rename_i b
  cases b <;> simp [blD, ex, sat]
/-! calls -/
theorem s_aL0 {Φ : List (Option D) × Env → Prop} : sat (aL [] ρ) Φ Ψ = Φ ([], ρ) := rfl
theorem s_aLv {Φ : List (Option D) × Env → Prop} (As : List Arg) : sat (aL (.v F :: As) ρ) Φ Ψ = sat (F ρ) (fun a => sat (aL As a.2) (fun r => Φ (some a.1 :: r.1, r.2)) Ψ) Ψ := by
  show sat (F ρ >>= _) _ _ = _
  rw [sat_bind]; congr 1; funext a; rw [sat_bind]; rfl
theorem s_aLi {Φ : List (Option D) × Env → Prop} (i : Nat) (As : List Arg) : sat (aL (.io i :: As) ρ) Φ Ψ = ex (lkT ρ i) fun _ => sat (aL As ρ) (fun r => Φ (none :: r.1, r.2)) Ψ := by
  unfold lkT
  conv => lhs; unfold aL
  generalize ρ[i]? = o
  rcases o with _ | (_ | t)
  · rfl
  · rfl
  · show sat (aL As ρ >>= _) _ _ = sat (aL As ρ) _ _
    rw [sat_bind]; rfl
theorem ex_mkT0 {Φ : List T → Prop} : ex (mkT [] [] ρ) Φ = Φ [] := rfl
theorem ex_mkTv {Φ : List T → Prop} (As : List Arg) (d : D) (r : List (Option D)) : ex (mkT (.v F :: As) (some d :: r) ρ) Φ = ex (mkT As r ρ) fun ts => Φ (.sh d :: ts) := by
  conv => lhs; unfold mkT
  rw [ex_map]
theorem ex_mkTi {Φ : List T → Prop} (i : Nat) (As : List Arg) (r : List (Option D)) : ex (mkT (.io i :: As) (none :: r) ρ) Φ = ex (lkT ρ i) fun t => ex (mkT As r ρ) fun ts => Φ (t :: ts) := by
  unfold lkT
  conv => lhs; unfold mkT
  generalize ρ[i]? = o
  rcases o with _ | (_ | t)
  · rfl
  · rfl
  · show ex (Option.map _ _) _ = ex (mkT As r ρ) _
    rw [ex_map]
theorem s_eCall (f : Fn) (As : List Arg) : sat (eCall f As ρ) ΦT Ψ = (nodupB (iosOf As) = true ∧ sat (aL As ρ) (fun a => ex (mkT As a.1 a.2) fun ts => satO (f ts) (fun t os => ΦT (t, putB As os a.2)) (fun x os => Ψ x (putB As os a.2))) Ψ) := by
  unfold eCall; rw [sat_iteF]; congr 1; rw [sat_bind]; congr 1; funext a; rw [sat_bind, sat_of]; congr 1; funext ts
  rw [eqO]
  cases f ts <;> rfl
/-! statements -/
theorem s_seq : sat (sSeq S S' ρ) ΦS Ψ = sat (S ρ) (fun f => match f with | .nx ρ1 => sat (S' ρ1) ΦS Ψ | r => ΦS r) Ψ := by
  unfold sSeq
  cases S ρ with
  | ok f => cases f <;> rfl
  | exc x ρ => rfl
  | fail => rfl
theorem s_nil : sat (sNil ρ) ΦS Ψ = ΦS (.nx ρ) := rfl
theorem s_expr : sat (sExpr F ρ) ΦS Ψ = sat (F ρ) (fun a => ΦS (.nx a.2)) Ψ := by unfold sExpr; rw [sat_bind]; rfl
theorem s_ret : sat (sRet F' ρ) ΦS Ψ = sat (F' ρ) (fun a => ΦS (.rt a.1 a.2)) Ψ := by unfold sRet; rw [sat_bind]; rfl
theorem s_retV : sat (sRetV F ρ) ΦS Ψ = sat (F ρ) (fun a => ΦS (.rt (.sh a.1) a.2)) Ψ := by unfold sRetV; rw [sat_bind]; rfl
theorem s_if : sat (sIf b S S' ρ) ΦS Ψ = sat (b ρ) (fun a => (a.1 = true → sat (S a.2) ΦS Ψ) ∧ (a.1 = false → sat (S' a.2) ΦS Ψ)) Ψ := by
  unfold sIf; rw [sat_bind]; congr 1; funext a
  rw [sat_ite]
  cases a.1 <;> simp
theorem ex_putE (i : Nat) (t : T) {Φ : Env → Prop} : ex (putE i t ρ) Φ = (i < ρ.length ∧ Φ (List.set ρ i (some t))) := by unfold putE; rw [ex_ite]; rfl
theorem s_set (i : Nat) : sat (sSet i F' ρ) ΦS Ψ = sat (F' ρ) (fun a => i < a.2.length ∧ ΦS (.nx (List.set a.2 i (some a.1)))) Ψ := by
  unfold sSet; rw [sat_bind]; congr 1; funext a; rw [sat_bind, sat_of, ex_putE]; rfl
theorem s_setV (i : Nat) : sat (sSetV i F ρ) ΦS Ψ = sat (F ρ) (fun a => i < a.2.length ∧ ΦS (.nx (List.set a.2 i (some (.sh a.1))))) Ψ := by
  unfold sSetV; rw [sat_bind]; congr 1; funext a; rw [sat_bind, sat_of, ex_putE]; rfl
theorem s_wipe (is : List Nat) : sat (sWipe is S ρ) ΦS Ψ = sat (S ρ) (fun f => ΦS (wipeF is f)) Ψ := by
  unfold sWipe
  cases S ρ <;> rfl
theorem s_asg (g : GM) : sat (sAsg g F ρ) ΦS Ψ = sat (F ρ) (fun a => ex (g a.1 a.2) fun ρ1 => ΦS (.nx ρ1)) Ψ := by
  unfold sAsg; rw [sat_bind]; congr 1; funext a; rw [sat_bind, sat_of]; rfl
theorem ex_gNm (i : Nat) (d : D) {Φ : Env → Prop} : ex (gNm i d ρ) Φ = (i < ρ.length ∧ Φ (List.set ρ i (some (.sh d)))) := ex_putE i (.sh d)
theorem ex_gTp (gs : List GM) (ds : List D) {Φ : Env → Prop} : ex (gTp gs (.tup ds) ρ) Φ = ex (gEach gs ds ρ) Φ := rfl
theorem ex_gE0 {Φ : Env → Prop} : ex (gEach [] [] ρ) Φ = Φ ρ := rfl
theorem ex_gE (g : GM) (gs : List GM) (d : D) (ds : List D) {Φ : Env → Prop} : ex (gEach (g :: gs) (d :: ds) ρ) Φ = ex (g d ρ) fun ρ1 => ex (gEach gs ds ρ1) Φ := by
  conv => lhs; unfold gEach
  rw [ex_bind]
/-! records -/
theorem s_fld (i : Nat) (k : Tx) : sat (eFld i k ρ) Φ Ψ = ex (rcdOf ρ i) fun fs => ex (getF fs k) fun t => match t with | .sh d => Φ (d, ρ) | _ => False := by
  unfold eFld fldOf
  cases rcdOf ρ i with
  | none => rfl
  | some fs =>
    show sat (match getF fs k with | some (.sh d) => Res.ok (d, ρ) | _ => .fail) _ _ = ex (getF fs k) _
    cases getF fs k with
    | none => rfl
    | some t => cases t <;> rfl
theorem s_flen (i : Nat) (k : Tx) : sat (eFldLen i k ρ) Φ Ψ = ex (rcdOf ρ i) fun fs => ex (getF fs k) fun t => match t with | .lst ds => Φ (.int ds.length, ρ) | _ => False := by
  unfold eFldLen fldOf
  cases rcdOf ρ i with
  | none => rfl
  | some fs =>
    show sat (match getF fs k with | some (.lst ds) => Res.ok (D.int ds.length, ρ) | _ => .fail) _ _ = ex (getF fs k) _
    cases getF fs k with
    | none => rfl
    | some t => cases t <;> rfl
theorem s_fix (i : Nat) (k : Tx) (j : Nat) : sat (eFldIx i k j ρ) Φ Ψ = ex (rcdOf ρ i) fun fs => ex (lkS ρ j) fun n => ex (intOf n) fun n => ex (getF fs k) fun t => match t with | .lst ds => ex (atI ds n) fun d => Φ (d, ρ) | _ => False := by
  unfold eFldIx fldOf lkS
  cases h1 : rcdOf ρ i with
  | none =>
    show sat (match (none : Option T1), ρ[j]? with | _, _ => _) _ _ = False
    rfl
  | some fs =>
    show sat (match getF fs k, ρ[j]? with
      | some (.lst ds), some (some (.sh (.int n))) => (match atI ds n with
        | some d => Res.ok (d, ρ)
        | none => .fail)
      | _, _ => .fail) _ _ = ex (match ρ[j]? with | some (some (.sh d)) => some d | _ => none) fun n => ex (intOf n) fun n => ex (getF fs k) fun t => _
    generalize ρ[j]? = o
    generalize getF fs k = q
    have f : ∀ q : Option T1, ex q (fun _ => False) = False := fun q => by cases q <;> rfl
    rcases o with _ | (_ | t)
    · cases q with
      | none => rfl
      | some t => cases t <;> rfl
    · cases q with
      | none => rfl
      | some t => cases t <;> rfl
    · cases t with
      | sh d =>
        cases d with
        | int n =>
          cases q with
          | none => rfl
          | some t =>
            cases t with
            | lst ds =>
              show sat (match atI ds n with | some d => Res.ok (d, ρ) | none => .fail) _ _ = ex (atI ds n) _
              cases atI ds n <;> rfl
            | _ => rfl
        | _ =>
          cases q with
          | none => rfl
          | some t => cases t <;> rfl
      | _ =>
        cases q with
        | none => rfl
        | some t => cases t <;> rfl
theorem s_sFld (i : Nat) (k : Tx) : sat (sFld i k F ρ) ΦS Ψ = sat (F ρ) (fun a => ex (rcdOf a.2 i) fun fs => ex (getF fs k) fun t => match t with | .sh _ => fs.length < 1000 ∧ ΦS (.nx (List.set a.2 i (some (.rcd (setF fs k (.sh a.1)))))) | _ => False) Ψ := by
  unfold sFld; rw [sat_bind]; congr 1; funext a
  cases rcdOf a.2 i with
  | none => rfl
  | some fs =>
    show sat (match getF fs k with | some (.sh _) => (if fs.length < 1000 then Res.ok (Fl.nx (a.2.set i (some (.rcd (setF fs k (.sh a.1)))))) else .fail) | _ => .fail) _ _ = ex (getF fs k) _
    cases getF fs k with
    | none => rfl
    | some t =>
      cases t with
      | sh d => show sat (if _ then _ else _) _ _ = _; rw [sat_iteF]; rfl
      | _ => rfl
theorem s_gfix (i : Nat) (k : Tx) (j : Nat) (d : D) {Φ : Env → Prop} : ex (gFldIx i k j d ρ) Φ = ex (rcdOf ρ i) fun fs => ex (lkS ρ j) fun n => ex (intOf n) fun n => ex (getF fs k) fun t => match t with | .lst ds => (0 ≤ n ∧ n < ds.length) ∧ Φ (List.set ρ i (some (.rcd (setF fs k (.lst (ds.set n.toNat d)))))) | _ => False := by
  unfold gFldIx lkS
  cases rcdOf ρ i with
  | none => rfl
  | some fs =>
    cases ρ[j]? with
    | none => rfl
    | some o =>
      cases o with
      | none => rfl
      | some t' =>
        cases t' with
        | sh d =>
          cases d with
          | int n =>
            show ex (match getF fs k with | _ => _) _ = ex (getF fs k) _
            cases getF fs k with
            | none => rfl
            | some t =>
              cases t with
              | lst ds => show ex (if _ then _ else _) _ = _; rw [ex_ite]; rfl
              | _ => rfl
          | _ => rfl
        | _ => rfl
theorem s_rcd2 (k1 k2 : Tx) : sat (tRcd2 k1 F' k2 F ρ) ΦT Ψ = sat (F' ρ) (fun a => match a.1 with | .lst ds => sat (F a.2) (fun b => k1 ≠ k2 ∧ ΦT (.rcd [(k1, .lst ds), (k2, .sh b.1)], b.2)) Ψ | _ => False) Ψ := by
  unfold tRcd2; rw [sat_bind]; congr 1; funext a
  cases a.1 with
  | lst ds => show sat (F a.2 >>= _) _ _ = _; rw [sat_bind]; congr 1; funext b; rw [sat_iteF]; rfl
  | _ => rfl
/-! walks -/
theorem s_iArg {Φ : List D × Env → Prop} (f : List D → Option (List D)) (Fs : List EM) : sat (iArg f Fs ρ) Φ Ψ = sat (vL Fs ρ) (fun a => ex (f a.1) fun xs => Φ (xs, a.2)) Ψ := by
  unfold iArg; rw [sat_bind]; congr 1; funext a; rw [sat_bind, sat_of]; rfl
theorem s_iSeq {Φ : List D × Env → Prop} : sat (iSeq F ρ) Φ Ψ = sat (F ρ) (fun a => ex (seqD a.1) fun xs => Φ (xs, a.2)) Ψ := by
  unfold iSeq; rw [sat_bind]; congr 1; funext a; cases a.1 <;> rfl
theorem s_for (g : GM) (I : IM) : sat (sFor g I S ρ) ΦS Ψ = sat (I ρ) (fun a => sat (forL g S a.1 a.2) ΦS Ψ) Ψ := by unfold sFor; rw [sat_bind]
theorem s_comp (own : List Nat) (g : GM) (I : IM) : sat (tComp own g I b F ρ) ΦT Ψ = sat (I ρ) (fun a => sat (cmpL own g b F a.1 [] a.2) ΦT Ψ) Ψ := by unfold tComp; rw [sat_bind]
theorem s_bTrue : sat (bTrue ρ) ΦB Ψ = ΦB (true, ρ) := rfl
end
theorem satO_fn (N n : Nat) (md : List Bool) (B : SM) (ts : List T) {Φ : T → Env → Prop} {Ψ : Exn → Env → Prop} : satO (fnOf N n md B ts) Φ Ψ = (ts.length = n ∧ sat (B (ts.map some ++ List.replicate (N - n) none)) (fun f => match f with | .rt t ρ => Φ t (maskE md ρ) | .nx ρ => Φ (.sh .non) (maskE md ρ) | _ => False) (fun x ρ => Ψ x (maskE md ρ))) := by
  rw [eqO]
  unfold fnOf
  by_cases h : ts.length = n
  · rw [if_pos h]
    simp only [h, true_and]
    cases B (ts.map some ++ List.replicate (N - n) none) with
    | ok f => cases f <;> rfl
    | exc x ρ => rfl
    | fail => rfl
  · rw [if_neg h]; simp [h, satO0]
/-! ### loops by what holds at each turn -/
theorem for_inv {g : GM} {B : SM} {Φ : Fl → Prop} {Ψ : Exn → Env → Prop} (Inv : Nat → Env → Prop) {xs : List D} {ρ : Env} (h0 : Inv 0 ρ)
    (step : ∀ i x ρ, xs[i]? = some x → Inv i ρ → ex (g x ρ) fun ρ1 => sat (B ρ1) (fun f => match f with | .nx ρ2 => Inv (i + 1) ρ2 | .ct ρ2 => Inv (i + 1) ρ2 | .bk ρ2 => Φ (.nx ρ2) | .rt t ρ2 => Φ (.rt t ρ2)) Ψ)
    (hend : ∀ ρ, Inv xs.length ρ → Φ (.nx ρ)) : sat (forL g B xs ρ) Φ Ψ := by
  have key : ∀ (n i : Nat) (ρ : Env), xs.length - i = n → i ≤ xs.length → Inv i ρ → sat (forL g B (xs.drop i) ρ) Φ Ψ := by
    intro n
    induction n with
    | zero =>
      intro i ρ h1 h2 h3
      have : i = xs.length := by omega
      subst this
      rw [List.drop_length]
      exact hend ρ h3
    | succ n ih =>
      intro i ρ h1 h2 h3
      have hlt : i < xs.length := by omega
      rw [List.drop_eq_getElem_cons hlt]
      have st := step i xs[i] ρ (List.getElem?_eq_getElem hlt) h3
      unfold forL
      rw [sat_bind, sat_of]
      cases hg : g xs[i] ρ with
      | none => rw [hg] at st; exact st
      | some ρ1 =>
        rw [hg, ex_some] at st
        rw [ex_some]
        cases hB : B ρ1 with
        | fail => rw [hB] at st; exact st
        | exc x ρ2 => rw [hB] at st; exact st
        | ok f =>
          rw [hB, sat_ok] at st
          cases f with
          | nx ρ2 => exact ih (i + 1) ρ2 (by omega) hlt st
          | ct ρ2 => exact ih (i + 1) ρ2 (by omega) hlt st
          | bk ρ2 => exact st
          | rt t ρ2 => exact st
  have := key xs.length 0 ρ (by omega) (Nat.zero_le _) h0
  simpa using this
theorem cmp_inv {own : List Nat} {g : GM} {C : BM} {F : EM} {Φ : T × Env → Prop} {Ψ : Exn → Env → Prop} (Inv : Nat → List D → Env → Prop) {xs : List D} {ρ : Env} (hl : xs.length ≤ 1000000) (h0 : Inv 0 [] ρ)
    (step : ∀ i x acc ρ, xs[i]? = some x → acc.length ≤ i → Inv i acc ρ → ex (g x (wipeE own ρ)) fun ρ1 => sat (C ρ1) (fun b => (b.1 = true → sat (F b.2) (fun d => Inv (i + 1) (acc ++ [d.1]) (backE own ρ d.2)) (fun _ _ => False)) ∧ (b.1 = false → Inv (i + 1) acc (backE own ρ b.2))) (fun _ _ => False))
    (hend : ∀ acc ρ, acc.length ≤ xs.length → Inv xs.length acc ρ → Φ (.lst acc, ρ)) : sat (cmpL own g C F xs [] ρ) Φ Ψ := by
  have key : ∀ (n i : Nat) (acc : List D) (ρ : Env), xs.length - i = n → i ≤ xs.length → acc.length ≤ i → Inv i acc ρ → sat (cmpL own g C F (xs.drop i) acc ρ) Φ Ψ := by
    intro n
    induction n with
    | zero =>
      intro i acc ρ h1 h2 h4 h3
      have : i = xs.length := by omega
      subst this
      rw [List.drop_length]
      exact hend acc ρ h4 h3
    | succ n ih =>
      intro i acc ρ h1 h2 h4 h3
      have hlt : i < xs.length := by omega
      rw [List.drop_eq_getElem_cons hlt]
      have st := step i xs[i] acc ρ (List.getElem?_eq_getElem hlt) h4 h3
      unfold cmpL
      rw [sat_bind, sat_of]
      cases hg : g xs[i] (wipeE own ρ) with
      | none => rw [hg] at st; exact st
      | some ρ1 =>
        rw [hg, ex_some] at st
        rw [ex_some, sat_bind]
        cases hB : C ρ1 with
        | fail => rw [hB] at st; exact st.elim
        | exc x ρ2 => rw [hB] at st; exact st.elim
        | ok b =>
          rw [hB, sat_ok] at st
          rw [noX_ok, sat_ok]
          cases hb : b.1 with
          | true =>
            have st := st.1 hb
            simp only [if_true]
            rw [sat_bind]
            cases hF : F b.2 with
            | fail => rw [hF] at st; exact st.elim
            | exc x ρ2 => rw [hF] at st; exact st.elim
            | ok d =>
              rw [hF, sat_ok] at st
              rw [noX_ok, sat_ok, if_pos (by omega)]
              exact ih (i + 1) _ _ (by omega) hlt (by simp; omega) st
          | false =>
            have st := st.2 hb
            simp only [Bool.false_eq_true, if_false]
            exact ih (i + 1) _ _ (by omega) hlt (by omega) st
  have := key xs.length 0 [] ρ (by omega) (Nat.zero_le _) (Nat.zero_le _) h0
  simpa using this
theorem wh_inv {C : BM} {B : SM} {Φ : Fl → Prop} {Ψ : Exn → Env → Prop} (Inv : Nat → Env → Prop) :
    ∀ {n m : Nat} {ρ : Env}, m < n → Inv m ρ →
    (∀ m ρ, Inv m ρ → sat (C ρ) (fun b => (b.1 = true → sat (B b.2) (fun f => match f with | .nx ρ2 => ∃ m', m' < m ∧ Inv m' ρ2 | .ct ρ2 => ∃ m', m' < m ∧ Inv m' ρ2 | .bk ρ2 => Φ (.nx ρ2) | .rt t ρ2 => Φ (.rt t ρ2)) Ψ) ∧ (b.1 = false → Φ (.nx b.2))) Ψ) →
    sat (sWhile n C B ρ) Φ Ψ := by
  intro n
  induction n with
  | zero => intro m ρ h; omega
  | succ n ih =>
    intro m ρ h hi step
    have st := step m ρ hi
    unfold sWhile whL
    rw [sat_bind]
    cases hC : C ρ with
    | fail => rw [hC] at st; exact st
    | exc x ρ2 => rw [hC] at st; exact st
    | ok b =>
      rw [hC, sat_ok] at st
      rw [sat_ok]
      cases hb : b.1 with
      | false => simp only [Bool.false_eq_true, if_false]; exact st.2 hb
      | true =>
        have st := st.1 hb
        simp only [if_true]
        cases hB : B b.2 with
        | fail => rw [hB] at st; exact st
        | exc x ρ2 => rw [hB] at st; exact st
        | ok f =>
          rw [hB, sat_ok] at st
          cases f with
          | nx ρ2 => obtain ⟨m', h1, h2⟩ := st; exact ih (by omega) h2 step
          | ct ρ2 => obtain ⟨m', h1, h2⟩ := st; exact ih (by omega) h2 step
          | bk ρ2 => exact st
          | rt t ρ2 => exact st
end Od
namespace Od
open PySem PySem.Spec L2
open PyProof.Rows hiding St
section
variable {Φ : D → Prop} {ΦB : Bool → Prop} {ΦL : List D → Prop} {ΦM : List D × D → Prop} {ΦI : Int → Prop} {ΦT1 : T1 → Prop}
theorem x_addbi (k : Bool) (j : Int) : ex (fAdd (.bl k) (.int j)) Φ = Φ (.int ((if k = true then (1 : Int) else 0) + j)) := rfl
theorem x_addii (i j : Int) : ex (fAdd (.int i) (.int j)) Φ = Φ (.int (i + j)) := rfl
theorem x_addss (a b : Tx) : ex (fAdd (.str a) (.str b)) Φ = (a.length + b.length ≤ 1000000 ∧ Φ (.str (a ++ b))) := by show ex (if _ then _ else _) _ = _; rw [ex_ite]; rfl
theorem x_addtt (a b : List D) : ex (fAdd (.tup a) (.tup b)) Φ = (a.length + b.length ≤ 1000000 ∧ Φ (.tup (a ++ b))) := by show ex (if _ then _ else _) _ = _; rw [ex_ite]; rfl
theorem x_addll (a b : List D) : ex (fAdd (.lst a) (.lst b)) Φ = (a.length + b.length ≤ 1000000 ∧ Φ (.lst (a ++ b))) := by show ex (if _ then _ else _) _ = _; rw [ex_ite]; rfl
theorem x_lAdd (a b : List D) : ex (lAdd (.lst a) (.lst b)) ΦL = (a.length + b.length ≤ 1000000 ∧ ΦL (a ++ b)) := by show ex (if _ then _ else _) _ = _; rw [ex_ite]; rfl
theorem x_lRep (a : List D) (k : Int) : ex (lRep (.lst a) (.int k)) ΦL = ((k < 1000000 ∧ -1000000 < k ∧ a.length * k.toNat ≤ 1000000) ∧ ΦL (List.replicate k.toNat a).flatten) := by show ex (if _ then _ else _) _ = _; rw [ex_ite]; rfl
theorem x_sub (i j : Int) : ex (fSub (.int i) (.int j)) Φ = Φ (.int (i - j)) := rfl
theorem x_mul (i j : Int) : ex (fMul (.int i) (.int j)) Φ = (okMul i j = true ∧ Φ (.int (i * j))) := by show ex (if _ then _ else _) _ = _; rw [ex_ite]; rfl
theorem x_fdiv (i j : Int) : ex (fFdiv (.int i) (.int j)) Φ = ((0 < j ∧ j < 1073741824) ∧ Φ (.int (i / j))) := by show ex (if _ then _ else _) _ = _; rw [ex_ite]; rfl
theorem x_mod (i j : Int) : ex (fMod (.int i) (.int j)) Φ = (0 < j ∧ Φ (.int (i % j))) := by show ex (if _ then _ else _) _ = _; rw [ex_ite]; rfl
theorem x_pow (i j : Int) : ex (fPow (.int i) (.int j)) Φ = ((0 ≤ j ∧ j ≤ 1000000 ∧ i.natAbs < 18446744073709551616) ∧ Φ (.int (i ^ j.toNat))) := by show ex (if _ then _ else _) _ = _; rw [ex_ite]; rfl
theorem x_neg (i : Int) : ex (fNeg (.int i)) Φ = Φ (.int (-i)) := rfl
theorem x_eqi (i j : Int) : ex (fEq (.int i) (.int j)) ΦB = ΦB (decide (i = j)) := rfl
theorem x_eqs (i j : Tx) : ex (fEq (.str i) (.str j)) ΦB = ΦB (decide (i = j)) := rfl
theorem x_eqb (i j : Bool) : ex (fEq (.bl i) (.bl j)) ΦB = ΦB (decide (i = j)) := rfl
theorem x_nei (i j : Int) : ex (fNe (.int i) (.int j)) ΦB = ΦB (!decide (i = j)) := rfl
theorem x_nes (i j : Tx) : ex (fNe (.str i) (.str j)) ΦB = ΦB (!decide (i = j)) := rfl
theorem x_neb (i j : Bool) : ex (fNe (.bl i) (.bl j)) ΦB = ΦB (!decide (i = j)) := rfl
theorem x_lt (i j : Int) : ex (cLt (.int i) (.int j)) ΦB = ΦB (decide (i < j)) := rfl
theorem x_lts (i j : Tx) : ex (cLt (.str i) (.str j)) ΦB = ΦB (decide (i < j)) := rfl
theorem x_le (i j : Int) : ex (cLe (.int i) (.int j)) ΦB = ΦB (decide (i ≤ j)) := rfl
theorem x_gt (i j : Int) : ex (cGt (.int i) (.int j)) ΦB = ΦB (decide (j < i)) := rfl
theorem x_ge (i j : Int) : ex (cGe (.int i) (.int j)) ΦB = ΦB (decide (j ≤ i)) := rfl
theorem x_ixl (ds : List D) (i : Int) : ex (fIdx (.lst ds) (.int i)) Φ = ex (atI ds i) Φ := rfl
theorem x_ixt (ds : List D) (i : Int) : ex (fIdx (.tup ds) (.int i)) Φ = ex (atI ds i) Φ := rfl
theorem x_ixr (ds : List D) (i : Int) : ex (fIdx (.rol ds) (.int i)) Φ = ex (atI ds i) Φ := rfl
theorem x_ixs (s : Tx) (i : Int) : ex (fIdx (.str s) (.int i)) Φ = (s.length ≤ 1000000 ∧ ex (atI s i) fun c => Φ (.str [c])) := by
  show ex (if _ then _ else _) _ = _; rw [ex_ite, ex_map]
theorem x_lens (s : Tx) : ex (fLen [.str s]) Φ = (s.length ≤ 1000000 ∧ Φ (.int s.length)) := by show ex (if _ then _ else _) _ = _; rw [ex_ite]; rfl
theorem x_lenl (s : List D) : ex (fLen [.lst s]) Φ = Φ (.int s.length) := rfl
theorem x_lent (s : List D) : ex (fLen [.tup s]) Φ = Φ (.int s.length) := rfl
theorem x_lenr (s : List D) : ex (fLen [.rol s]) Φ = Φ (.int s.length) := rfl
theorem x_max2 (i j : Int) : ex (fMax [.int i, .int j]) Φ = Φ (.int (max i j)) := rfl
theorem x_min2 (i j : Int) : ex (fMin [.int i, .int j]) Φ = Φ (.int (min i j)) := rfl
theorem x_inti (i : Int) : ex (fInt [.int i]) Φ = Φ (.int i) := rfl
theorem x_intb (i : Bool) : ex (fInt [.bl i]) Φ = Φ (.int (if i then 1 else 0)) := rfl
theorem x_dm (i j : Int) : ex (fDivmod [.int i, .int j]) Φ = ((0 < j ∧ j < 1073741824) ∧ Φ (.tup [.int (i / j), .int (i % j)])) := by show ex (if _ then _ else _) _ = _; rw [ex_ite]; rfl
theorem x_listl (ds : List D) : ex (fList [.lst ds]) ΦL = ΦL ds := rfl
theorem x_listr (ds : List D) : ex (fList [.rol ds]) ΦL = ΦL ds := rfl
theorem x_listt (ds : List D) : ex (fList [.tup ds]) ΦL = ΦL ds := rfl
theorem x_tupl (ds : List D) : ex (fTuple [.lst ds]) Φ = Φ (.tup ds) := rfl
theorem x_tupt (ds : List D) : ex (fTuple [.tup ds]) Φ = Φ (.tup ds) := rfl
theorem x_lcutl (lo hi : Option Int) (ds : List D) : ex (lCut lo hi (.lst ds)) ΦL = ΦL (cutD ds lo hi) := rfl
theorem x_lcutr (lo hi : Option Int) (ds : List D) : ex (lCut lo hi (.rol ds)) ΦL = ΦL (cutD ds lo hi) := rfl
theorem x_app (ds : List D) (d : D) : ex (mAppend ds [d]) ΦM = (ds.length < 1000000 ∧ ΦM (ds ++ [d], .non)) := by show ex (if _ then _ else _) _ = _; rw [ex_ite]; rfl
theorem x_pop (ds : List D) (i : Int) : ex (mPop ds [.int i]) ΦM = ((-1000000 ≤ i ∧ i ≤ 1000000) ∧ ex (ixN ds.length i) fun j => ex ds[j]? fun d => ΦM (ds.eraseIdx j, d)) := by
  show ex (if _ then _ else _) _ = _; rw [ex_ite, ex_bind]; congr 1; congr 1; funext j; rw [ex_map]
theorem x_frs (d : D) : ex (frzT (.sh d)) Φ = Φ d := rfl
theorem x_frl (d : List D) : ex (frzT (.lst d)) Φ = Φ (.lst d) := rfl
theorem x_frd (k : List DK) (d : List D) : ex (frzT (.dct k d)) Φ = Φ (.dct k d) := rfl
theorem x_rng1 (j : Int) : ex (rng1 [.int j]) ΦL = (okI j = true ∧ ΦL (rngD 0 j.toNat)) := by show ex (if _ then _ else _) _ = _; rw [ex_ite]; rfl
theorem x_seql (a : List D) : ex (seqD (.lst a)) ΦL = ΦL a := rfl
theorem x_seqr (a : List D) : ex (seqD (.rol a)) ΦL = ΦL a := rfl
theorem x_int (i : Int) : ex (intOf (.int i)) ΦI = ΦI i := rfl
theorem x_bl (b : Bool) : ex (blD (.bl b)) ΦB = ΦB b := rfl
theorem x_gC (a b : T1) : ex (getF [([99, 101, 108, 108, 115], a), ([116, 117, 114, 110], b)] [99, 101, 108, 108, 115]) ΦT1 = ΦT1 a := rfl
theorem x_gT (a b : T1) : ex (getF [([99, 101, 108, 108, 115], a), ([116, 117, 114, 110], b)] [116, 117, 114, 110]) ΦT1 = ΦT1 b := rfl
end
end Od
namespace Od
open PySem PySem.Spec L2
open PyProof.Rows hiding St
/-! ### a machine of rewrites at the root -/
def cps {α : Type} (a : α) (Φ : α → Prop) : Prop := Φ a
def setE (ρ : Env) (i : Nat) (t : Option T) : Option Env := if i < ρ.length then some (ρ.set i t) else none
def nones : Nat → Env
  | 0 => []
  | N + 1 => none :: nones N
def padE : List T → Nat → Env
  | [], N => nones N
  | t :: ts, N => some t :: padE ts (N - 1)
theorem nones_eq : ∀ N : Nat, List.replicate N none = nones N
  | 0 => rfl
  | N + 1 => by rw [List.replicate_succ, nones_eq N]; rfl
theorem padE_eq : ∀ (ts : List T) (N : Nat), ts.map some ++ List.replicate (N - ts.length) none = padE ts N
  | [], N => nones_eq N
  | t :: ts, N => by
    have := padE_eq ts (N - 1)
    show some t :: (ts.map some ++ List.replicate (N - (ts.length + 1)) none) = some t :: padE ts (N - 1)
    rw [← this, Nat.sub_sub, Nat.add_comm 1]
section
variable {Φ : Env → Prop} {x y : Option T} {ρ ρ0 os : Env} {i : Nat}
theorem c_pad0 : cps (padE [] 0) Φ = Φ [] := rfl
theorem c_padn (N : Nat) : cps (padE [] (N + 1)) Φ = cps (padE [] N) fun r => Φ (none :: r) := rfl
theorem c_pads (t : T) (ts : List T) (N : Nat) : cps (padE (t :: ts) (N + 1)) Φ = cps (padE ts N) fun r => Φ (some t :: r) := rfl
theorem ex_setE : ex (setE ρ i y) Φ = (i < ρ.length ∧ Φ (List.set ρ i y)) := by unfold setE; rw [ex_ite]; rfl
theorem k_set0 : ex (setE (x :: ρ) 0 y) Φ = Φ (y :: ρ) := by rw [ex_setE]; simp
theorem k_sets : ex (setE (x :: ρ) (i + 1) y) Φ = ex (setE ρ i y) fun ρ' => Φ (x :: ρ') := by rw [ex_setE, ex_setE]; simp
theorem c_set0 : cps (List.set (x :: ρ) 0 y) Φ = Φ (y :: ρ) := rfl
theorem c_sets : cps (List.set (x :: ρ) (i + 1) y) Φ = cps (List.set ρ i y) fun ρ' => Φ (x :: ρ') := rfl
theorem c_wipe0 : cps (wipeE [] ρ) Φ = Φ ρ := rfl
theorem c_wipes (is : List Nat) : cps (wipeE (i :: is) ρ) Φ = cps (List.set ρ i none) fun ρ' => cps (wipeE is ρ') Φ := rfl
theorem c_back0 : cps (backE [] ρ0 ρ) Φ = Φ ρ := rfl
theorem c_backs (is : List Nat) : cps (backE (i :: is) ρ0 ρ) Φ = cps (List.getD ρ0 i none) fun y => cps (shE y) fun y => cps (List.set ρ i y) fun ρ' => cps (backE is ρ0 ρ') Φ := rfl
theorem c_mask0 : cps (maskE [] ρ) Φ = Φ [] := by cases ρ <;> rfl
theorem c_maskt (md : List Bool) : cps (maskE (true :: md) (x :: ρ)) Φ = cps (maskE md ρ) fun r => Φ (x :: r) := rfl
theorem c_maskf (md : List Bool) : cps (maskE (false :: md) (x :: ρ)) Φ = cps (maskE md ρ) fun r => Φ (none :: r) := rfl
theorem c_putB0 : cps (putB [] os ρ) Φ = Φ ρ := rfl
theorem c_putBv (F : EM) (As : List Arg) : cps (putB (.v F :: As) (x :: os) ρ) Φ = cps (putB As os ρ) Φ := rfl
theorem c_putBi (As : List Arg) : cps (putB (.io i :: As) (x :: os) ρ) Φ = cps (List.set ρ i x) fun ρ' => cps (putB As os ρ') Φ := rfl
end
section
variable {ΦO : Option T → Prop} {ΦD : D → Prop} {ΦT : T → Prop} {ΦL : List D → Prop} {ΦR : List (Tx × T1) → Prop} {x y : Option T} {ρ : Env} {i : Nat} {d : D} {ds : List D} {ks : List DK}
theorem c_getD0 : cps (List.getD (x :: ρ) 0 y) ΦO = ΦO x := rfl
theorem c_getDs : cps (List.getD (x :: ρ) (i + 1) y) ΦO = cps (List.getD ρ i y) ΦO := rfl
theorem c_shE1 : cps (shE (some (.sh d))) ΦO = ΦO (some (.sh d)) := rfl
theorem c_shE0 : cps (shE none) ΦO = ΦO none := rfl
theorem c_shEl : cps (shE (some (.lst ds))) ΦO = ΦO none := rfl
theorem k_lkS0 : ex (lkS (some (.sh d) :: ρ) 0) ΦD = ΦD d := rfl
theorem k_lkSs : ex (lkS (x :: ρ) (i + 1)) ΦD = ex (lkS ρ i) ΦD := rfl
theorem k_lkF0 : ex (lkF (some (.sh d) :: ρ) 0) ΦD = ΦD d := rfl
theorem k_lkF0l : ex (lkF (some (.lst ds) :: ρ) 0) ΦD = ΦD (.lst ds) := rfl
theorem k_lkFs : ex (lkF (x :: ρ) (i + 1)) ΦD = ex (lkF ρ i) ΦD := rfl
theorem k_lkT0 (t : T) : ex (lkT (some t :: ρ) 0) ΦT = ΦT t := rfl
theorem k_lkTs : ex (lkT (x :: ρ) (i + 1)) ΦT = ex (lkT ρ i) ΦT := rfl
theorem k_lkL0 : ex (lkL (some (.lst ds) :: ρ) 0) ΦL = ΦL ds := rfl
theorem k_lkLs : ex (lkL (x :: ρ) (i + 1)) ΦL = ex (lkL ρ i) ΦL := rfl
theorem k_rcd0 (fs : List (Tx × T1)) : ex (rcdOf (some (.rcd fs) :: ρ) 0) ΦR = ΦR fs := rfl
theorem k_rcds : ex (rcdOf (x :: ρ) (i + 1)) ΦR = ex (rcdOf ρ i) ΦR := rfl
theorem k_atH0 : ex (atH (some (.sh d) :: ρ) 0) ΦD = ΦD d := rfl
theorem k_atH0l : ex (atH (some (.lst ds) :: ρ) 0) ΦD = ΦD (.lst ds) := rfl
theorem k_atH0d : ex (atH (some (.dct ks ds) :: ρ) 0) ΦD = ΦD (.dct ks ds) := rfl
theorem k_atHs : ex (atH (x :: ρ) (i + 1)) ΦD = ex (atH ρ i) ΦD := rfl
theorem k_getHv : ex (getH (.val d) ρ) ΦD = ΦD d := rfl
theorem k_getHs : ex (getH (.slot i) ρ) ΦD = ex (atH ρ i) ΦD := rfl
end
section
variable {Ψ : Exn → Env → Prop} {ρ : Env} {Φ : D × Env → Prop} {ΦT : T × Env → Prop} {ΦS : Fl → Prop} {F : EM} {F' G' : OM} {S : SM}
theorem m_eFv (i : Nat) : sat (eFv i ρ) Φ Ψ = ex (lkF ρ i) (fun d => cps (List.set ρ i (some (.sh d))) fun ρ' => Φ (d, ρ')) := s_eFv i
theorem m_tMv (i : Nat) : sat (tMv i ρ) ΦT Ψ = ex (lkT ρ i) (fun t => cps (List.set ρ i none) fun ρ' => ΦT (t, ρ')) := s_tMv i
theorem m_eMut (i : Nat) (m : List D → List D → Option (List D × D)) (Fs : List EM) : sat (eMut i m Fs ρ) Φ Ψ = ex (lkL ρ i) (fun _ => sat (vL Fs ρ) (fun a => ex (lkL a.2 i) fun ds => ex (m ds a.1) fun r => cps (List.set a.2 i (some (.lst r.1))) fun ρ' => Φ (r.2, ρ')) Ψ) := s_eMut i m Fs
theorem m_eCall (f : Fn) (As : List Arg) : sat (eCall f As ρ) ΦT Ψ = (nodupB (iosOf As) = true ∧ sat (aL As ρ) (fun a => ex (mkT As a.1 a.2) fun ts => satO (f ts) (fun t os => cps (putB As os a.2) fun ρ' => ΦT (t, ρ')) (fun x os => cps (putB As os a.2) fun ρ' => Ψ x ρ')) Ψ) := s_eCall f As
theorem m_set (i : Nat) : sat (sSet i F' ρ) ΦS Ψ = sat (F' ρ) (fun a => ex (setE a.2 i (some a.1)) fun ρ' => ΦS (.nx ρ')) Ψ := by rw [s_set]; congr 1; funext a; rw [ex_setE]
theorem m_setV (i : Nat) : sat (sSetV i F ρ) ΦS Ψ = sat (F ρ) (fun a => ex (setE a.2 i (some (.sh a.1))) fun ρ' => ΦS (.nx ρ')) Ψ := by rw [s_setV]; congr 1; funext a; rw [ex_setE]
theorem m_wipe (is : List Nat) : sat (sWipe is S ρ) ΦS Ψ = sat (S ρ) (fun f => match f with | .nx ρ => cps (wipeE is ρ) fun ρ' => ΦS (.nx ρ') | .bk ρ => cps (wipeE is ρ) fun ρ' => ΦS (.bk ρ') | .ct ρ => cps (wipeE is ρ) fun ρ' => ΦS (.ct ρ') | .rt t ρ => ΦS (.rt t ρ)) Ψ := by
  rw [s_wipe]; congr 1; funext f; cases f <;> rfl
theorem m_gNm (i : Nat) (d : D) {Φ : Env → Prop} : ex (gNm i d ρ) Φ = ex (setE ρ i (some (.sh d))) Φ := by rw [ex_gNm, ex_setE]
theorem m_sFld (i : Nat) (k : Tx) : sat (sFld i k F ρ) ΦS Ψ = sat (F ρ) (fun a => ex (rcdOf a.2 i) fun fs => ex (getF fs k) fun t => match t with | .sh _ => fs.length < 1000 ∧ cps (setF fs k (.sh a.1)) fun fs' => cps (List.set a.2 i (some (.rcd fs'))) fun ρ' => ΦS (.nx ρ') | _ => False) Ψ := s_sFld i k
theorem m_gfix (i : Nat) (k : Tx) (j : Nat) (d : D) {Φ : Env → Prop} : ex (gFldIx i k j d ρ) Φ = ex (rcdOf ρ i) fun fs => ex (lkS ρ j) fun n => ex (intOf n) fun n => ex (getF fs k) fun t => match t with | .lst ds => (0 ≤ n ∧ n < ds.length) ∧ cps (setF fs k (.lst (ds.set n.toNat d))) fun fs' => cps (List.set ρ i (some (.rcd fs'))) Φ | _ => False := s_gfix i k j d
theorem m_fn (N n : Nat) (md : List Bool) (B : SM) (ts : List T) {Φ : T → Env → Prop} {Ψ : Exn → Env → Prop} : satO (fnOf N n md B ts) Φ Ψ = (ts.length = n ∧ cps (padE ts N) fun ρ => sat (B ρ) (fun f => match f with | .rt t ρ => cps (maskE md ρ) fun r => Φ t r | .nx ρ => cps (maskE md ρ) fun r => Φ (.sh .non) r | _ => False) (fun x ρ => cps (maskE md ρ) fun r => Ψ x r)) := by
  rw [satO_fn]
  by_cases h : ts.length = n
  · subst h
    rw [padE_eq]; rfl
  · simp [h]
variable {ΦR : List (Tx × T1) → Prop}
theorem c_sFC (a b t : T1) : cps (setF [([99, 101, 108, 108, 115], a), ([116, 117, 114, 110], b)] [99, 101, 108, 108, 115] t) ΦR = ΦR [([99, 101, 108, 108, 115], t), ([116, 117, 114, 110], b)] := rfl
theorem c_sFT (a b t : T1) : cps (setF [([99, 101, 108, 108, 115], a), ([116, 117, 114, 110], b)] [116, 117, 114, 110] t) ΦR = ΦR [([99, 101, 108, 108, 115], a), ([116, 117, 114, 110], t)] := rfl
end
/-- an item of a list at a place that is there -/
theorem atI_ok {α : Type} {xs : List α} {i : Int} (h : 0 ≤ i) (h' : i < xs.length) {Φ : α → Prop} (q : ∀ x, xs[i.toNat]? = some x → Φ x) : ex (atI xs i) Φ := by
  unfold atI ixN
  rw [if_pos h, if_pos h']
  show ex (xs[i.toNat]?) Φ
  rw [List.getElem?_eq_getElem (by omega)]
  exact q _ (List.getElem?_eq_getElem (by omega))
theorem map_true {o : Option D} {f : D → Bool} : (o.map f = some true) = ex o (fun d => f d = true) := by cases o <;> simp [ex]
theorem ex_and {o : Option D} {f : D → Prop} {Q : Prop} : (ex o f ∧ Q) = ex o (fun d => f d ∧ Q) := by cases o <;> simp [ex]
theorem m_eBM {Ψ : Exn → Env → Prop} {ρ : Env} {Φ : D × Env → Prop} {A : HM} (t : Ty) (f : D → List D → Option D) (As : List HM) : sat (eBM t f A As ρ) Φ Ψ = sat (A ρ) (fun a => ex (getH a.1 a.2) fun d0 => isTy t d0 = true ∧ sat (hL As a.2) (fun b => ex (getH a.1 b.2) fun d => ex (getL b.1 b.2) fun ds => ex (f d ds) fun r => Φ (r, b.2)) Ψ) Ψ := by
  rw [s_eBM]; congr 1; funext a; rw [map_true, ex_and]
theorem k_tyS (s : Tx) : (isTy .str (.str s) = true) = True := by simp [isTy]
theorem k_tyL (s : List D) : (isTy .lst (.lst s) = true) = True := by simp [isTy]
theorem k_tyR (s : List D) : (isTy .lst (.rol s) = true) = True := by simp [isTy]
theorem k_tyD (k : List DK) (s : List D) : (isTy .dct (.dct k s) = true) = True := by simp [isTy]
theorem cmp_i {own : List Nat} {g : GM} {C : BM} {F : EM} {Φ : T × Env → Prop} {Ψ : Exn → Env → Prop} (Inv : Nat → List D → Env → Prop) {xs : List D} {ρ : Env} (hl : xs.length ≤ 1000000) (h0 : Inv 0 [] ρ)
    (step : ∀ i x acc ρ, xs[i]? = some x → acc.length ≤ i → Inv i acc ρ → cps (wipeE own ρ) fun ρ0 => ex (g x ρ0) fun ρ1 => sat (C ρ1) (fun b => (b.1 = true → sat (F b.2) (fun d => cps (backE own ρ d.2) fun ρ2 => Inv (i + 1) (acc ++ [d.1]) ρ2) (fun _ _ => False)) ∧ (b.1 = false → cps (backE own ρ b.2) fun ρ2 => Inv (i + 1) acc ρ2)) (fun _ _ => False))
    (hend : ∀ acc ρ, acc.length ≤ xs.length → Inv xs.length acc ρ → Φ (.lst acc, ρ)) : sat (cmpL own g C F xs [] ρ) Φ Ψ := cmp_inv Inv hl h0 step hend
theorem atI_nat' {α : Type} {xs : List α} {k : Nat} (h : k < xs.length) : atI xs (k : Int) = xs[k]? := by
  unfold atI ixN
  rw [if_pos (by omega), if_pos (by omega)]
  show xs[(k : Int).toNat]? = _
  rw [Int.toNat_natCast]
theorem x_at0 {α : Type} (x : α) (l : List α) {Φ : α → Prop} : ex (atI (x :: l) 0) Φ = Φ x := by
  have : atI (x :: l) ((0 : Nat) : Int) = some x := atI_nat' (by simp)
  rw [show (0 : Int) = ((0 : Nat) : Int) from rfl, this]; rfl
theorem x_at1 {α : Type} (x y : α) (l : List α) {Φ : α → Prop} : ex (atI (x :: y :: l) 1) Φ = Φ y := by
  have : atI (x :: y :: l) ((1 : Nat) : Int) = some y := atI_nat' (by simp)
  rw [show (1 : Int) = ((1 : Nat) : Int) from rfl, this]; rfl
theorem x_at2 {α : Type} (x y z : α) (l : List α) {Φ : α → Prop} : ex (atI (x :: y :: z :: l) 2) Φ = Φ z := by
  have : atI (x :: y :: z :: l) ((2 : Nat) : Int) = some z := atI_nat' (by simp)
  rw [show (2 : Int) = ((2 : Nat) : Int) from rfl, this]; rfl
theorem okMul_l {i j : Int} (h : -18446744073709551616 < i) (h' : i < 18446744073709551616) : okMul i j = true := by unfold okMul; simp [h, h']
theorem okMul_r {i j : Int} (h : -18446744073709551616 < j) (h' : j < 18446744073709551616) : okMul i j = true := by unfold okMul; simp [h, h']
end Od
namespace Od
open PySem PySem.Spec L2
open PyProof.Rows hiding St cutD
/-! ### equality of data -/
def dOk (d : D) : Prop := d.ok = true ∧ d.dep ≤ 60
theorem okCmp_of {d e : D} (h : dOk d) (h' : dOk e) : okCmp d e = true := by unfold okCmp; simp [h.1, h.2, h'.1, h'.2]
theorem fEq_lst {a b : List D} (h : dOk (.lst a)) (h' : dOk (.lst b)) : fEq (.lst a) (.lst b) = some (D.eqB (.lst a) (.lst b)) := by
  show (if okCmp _ _ then _ else _) = _
  rw [okCmp_of h h']; rfl
theorem fNe_lst {a b : List D} (h : dOk (.lst a)) (h' : dOk (.lst b)) : fNe (.lst a) (.lst b) = some (!D.eqB (.lst a) (.lst b)) := by unfold fNe; rw [fEq_lst h h']; rfl
theorem okL_map {α : Type} {f : α → D} : ∀ {xs : List α}, (∀ x ∈ xs, (f x).ok = true) → D.okL (xs.map f) = true
  | [], _ => rfl
  | x :: xs, h => by
    simp only [List.map_cons]
    unfold D.okL
    rw [h x List.mem_cons_self, okL_map (fun y hy => h y (List.mem_cons_of_mem _ hy))]; rfl
theorem depL_map {α : Type} {f : α → D} {k : Nat} : ∀ {xs : List α}, (∀ x ∈ xs, (f x).dep ≤ k) → D.depL (xs.map f) ≤ k
  | [], _ => Nat.zero_le k
  | x :: xs, h => by
    simp only [List.map_cons]
    unfold D.depL
    have h1 := h x List.mem_cons_self
    have h2 := depL_map (k := k) (fun y hy => h y (List.mem_cons_of_mem _ hy))
    omega
theorem dOk_lst {α : Type} {f : α → D} {xs : List α} {k : Nat} (h : ∀ x ∈ xs, (f x).ok = true) (h' : ∀ x ∈ xs, (f x).dep ≤ k) (hk : k < 60) : dOk (.lst (xs.map f)) := by
  refine ⟨by unfold D.ok; exact okL_map h, ?_⟩
  unfold D.dep
  have := depL_map h'
  omega
theorem ok_str {s : Tx} {n : Nat} (h : ∀ c ∈ s, c ≤ n) (hn : n < 1114112) : (D.str s).ok = true := by
  unfold D.ok
  rw [List.all_eq_true]
  intro c hc
  have := h c hc
  simp; omega
theorem dOk_nil : dOk (.lst []) := ⟨by decide, by decide⟩
theorem fEq_nil {a : List D} (h : dOk (.lst a)) {Φ : Bool → Prop} (q : Φ a.isEmpty) : ex (fEq (.lst a) (.lst [])) Φ := by
  rw [fEq_lst h dOk_nil]
  cases a <;> exact q
section
variable {ΦB : Bool → Prop}
end
mutual
def gdD : D → Bool
  | .tup ds => gdL ds
  | .lst ds => gdL ds
  | .rol _ => false
  | .dct _ _ => false
  | .exn _ _ _ => false
  | .obj _ _ _ => false
  | .fn _ => false
  | .adr _ => false
  | _ => true
def gdL : List D → Bool
  | [] => true
  | d :: ds => gdD d && gdL ds
end
end Od
namespace Od
open PySem PySem.Spec L2
open PyProof.Rows hiding St cutD
/-! ### x[e] as a target, x a list of the variable's own -/
def gIx (i : Nat) (B : EM) : GM := fun d ρ => (lkL ρ i).bind fun _ => match B ρ with
  | .ok (.int n, ρ1) => (lkL ρ1 i).bind fun ds => if 0 ≤ n ∧ n < ds.length then some (ρ1.set i (some (.lst (ds.set n.toNat d)))) else none
  | _ => none
theorem lkL_some {ρ : Env} {i : Nat} {ds : List D} (h : lkL ρ i = some ds) : ρ[i]? = some (some (.lst ds)) := by
  unfold lkL at h
  split at h
  · rename_i e; cases h; exact e
  · cases h
section
variable {X : Cx} {i : Nat} {x : Str} {p1 pos : Pos} {e : Expr} {B : EM} {sl : List Nat}
theorem gd_ix (hN : X.N[i]? = some x) (hv : Vis X.env.scope x) (hb : EV X E0 e B) (hd : (x == ("__debug__" : Str)) = false := by decide) (hcd : (x == ("__classdict__" : Str)) = false := by decide)
    (ha : ∀ v, assign (.Subscript (.Name x p1) e pos) X.env v = (do
      let ov ← holding [v] (eval (.Name x p1) X.env)
      let iv ← holding [v, ov] (eval e X.env)
      standAt pos
      holding [v, ov, iv] (setItem ov iv v)
      release [v, ov, iv] []) := by intro _; rfl) : GD X sl (.Subscript (.Name x p1) e pos) (gIx i B) :=
  PG.imp (pg_sub (pe_var hN hv hd hcd) hb set_list ha) fun v σ H Q ⟨P, W, ρ, d, ρ', w, dn, e, q⟩ => by
    unfold gIx at e
    obtain ⟨ds0, e0, e⟩ := Option.bind_eq_some_iff.mp e
    obtain ⟨l, vs0, hs, hw0, hh0, dn0, hi0⟩ := w.lstAt (lkL_some e0)
    refine ⟨.ref l, hs, P, W, ρ, w, ?_⟩
    cases hB : B ρ with
    | fail => rw [hB] at e; cases e
    | exc y ρ1 => rw [hB] at e; cases e
    | ok r =>
      obtain ⟨b, ρ1⟩ := r
      rw [hB] at e
      cases b with
      | int n =>
        obtain ⟨ds, e1, e⟩ := Option.bind_eq_some_iff.mp e
        split at e
        · rename_i hn
          cases e
          intro y P1 W1 H1 st ⟨w1, dy⟩
          obtain ⟨l', vs, hs', hw, hh, dl, hi⟩ := w1.lstAt (lkL_some e1)
          rw [hs] at hs'
          cases hs'
          have dy : Den X.K P1 (.int n) y := dy
          unfold Den at dy
          refine ⟨l, vs, n, n.toNat, rfl, dy, hh, ixN_of (by rw [dl.len]; exact hn), ?_⟩
          obtain ⟨w2, s2⟩ := w1.mut (o := .lst (vs.set n.toNat v)) (t := .lst (ds.set n.toNat d)) hi hs hw ⟨l, _, rfl, hw, upd_same, DenL.set n.toNat dl (Den.mono st.1 _ _ dn)⟩
          exact q σ P1 W1 _ (st.trans s2) w2 (Ke.refl sl σ)
        · cases e
      | _ => cases e
end
/-! ### xs[::-1] -/
section
variable {X : Cx} {E : WX} {e : Expr} {A : HM} {k : Nat} {p1 p2 p3 pos : Pos}
end
end Od
namespace Od
open PySem PySem.Spec L2 PySem.W PySem
open PyProof.Rows hiding St cutD
/-! ### min of a list of pairs of ints -/
end Od
namespace Od
open PySem PySem.Spec L2
open PyProof.Rows hiding St cutD
section
variable {Ψ : Exn → Env → Prop} {ρ : Env} {ΦT : T × Env → Prop} {ΦL : List D → Prop} {ΦM : List D × D → Prop} {ΦB : Bool → Prop} {A : HM} {F : EM}
theorem m_gIx (i : Nat) (B : EM) (d : D) {Φ : Env → Prop} : ex (gIx i B d ρ) Φ = ex (lkL ρ i) fun _ => sat (B ρ) (fun a => ex (intOf a.1) fun n => ex (lkL a.2 i) fun ds => (0 ≤ n ∧ n < ds.length) ∧ cps (List.set a.2 i (some (.lst (ds.set n.toNat d)))) Φ) (fun _ _ => False) := by
  unfold gIx
  rw [ex_bind]; congr 1; funext _
  cases B ρ with
  | fail => rfl
  | exc x ρ => rfl
  | ok r =>
    obtain ⟨b, ρ1⟩ := r
    cases b with
    | int n =>
      show ex (Option.bind _ _) _ = ex (lkL ρ1 i) _
      rw [ex_bind]; congr 1; funext ds
      rw [ex_ite]; rfl
    | _ => rfl
theorem s_iTup {Φ : List D × Env → Prop} : sat (iTupD F ρ) Φ Ψ = sat (F ρ) (fun a => match a.1 with | .tup ds => Φ (ds, a.2) | _ => False) Ψ := by
  unfold iTupD; rw [sat_bind]; congr 1; funext a; cases a.1 <;> rfl
end
end Od
namespace Od
open PySem PySem.Spec L2
open PyProof.Rows hiding St cutD
/-! ### dict(xs) of a list of pairs of unlike keys -/
section
variable {K : PySem.W.Frag} {P H : Hp}
end
/-! ### a statement that no run comes to -/
/-! ### reading a dict of texts -/
end Od
namespace Od
open PySem PySem.Spec L2
open PyProof.Rows hiding St cutD
/-! ### s.startswith(t, at) -/
end Od
namespace Od
open PySem PySem.Spec L2
open PyProof.Rows hiding St cutD
/-! ### exceptions of the program's own classes -/
theorem top_inj {K : PySem.W.Frag} {x : Tx} {a b : Addr} (h : Top K x a) (h' : Top K x b) : a = b := by
  unfold Top at h h'
  rw [h] at h'
  cases h'; rfl
/-! ### OddError.__init__(self, ..), read off the class -/
section
variable {X : Cx} {e : Expr} {es : List Expr} {ta : TA} {x : Str} {O : Addr} {mc : Value} {p1 p2 pos : Pos}
end
/-- __init__(self, f) of such a class -/
def spInit (K : PySem.W.Frag) (C : Addr) (f : Str) : Sp := fun vs H Q _ => ∃ (a : Addr) (v : V), vs = [.ref a, v] ∧ OexC K C ∧ PySem.W.findIn K (.ref C) f = some none ∧ H a = some (exo a C none) ∧
  ∀ dx, H dx = none → dx ≠ a → Q .non (upd (upd H dx (exd dx [(f, v)])) a (exo a C (some dx)))
/-- a class that is made with its own __init__, its field f -/
structure MkX (P : Program) (w : World) (K : PySem.W.Frag) (mg : Str → Option Value) (base : Heap) (x f : Tx) : Prop where
  ex : ∃ (C fI : Addr) (fd : FuncData) (ps : List Str), mg (sT x) = some (.ref C) ∧ OexC K C ∧ PySem.W.findIn K (.ref C) (sT f) = some none ∧ PySem.W.findIn K (.ref C) "__init__" = some (some (.ref fI)) ∧ PySem.W.typeIn K (.ref fI) = some (.type "function") ∧
    FnOk P w K mg base (L2.CX P w) 1 fI fd ps (spInit K C (sT f)) ∧ Binds K fd ps []
section
variable {P : Program} {w : World} {K : PySem.W.Frag} {mg : Str → Option Value} {base : Heap}
theorem MkX.mk' {x f : Tx} {a : Str} {fI C : Addr} {fd : FuncData} (hm : mg (sT x) = some (.ref C)) (o : OexC K C) (hn : PySem.W.findIn K (.ref C) (sT f) = some none) (hi : PySem.W.findIn K (.ref C) "__init__" = some (some (.ref fI))) (ht : PySem.W.typeIn K (.ref fI) = some (.type "function"))
    (F : FnOk P w K mg base (L2.CX P w) 1 fI fd ["self", a] (spInit K C (sT f))) (hb : Binds K fd ["self", a] []) : MkX P w K mg base x f := ⟨C, fI, fd, _, hm, o, hn, hi, ht, F, hb⟩
end
section
variable {X : Cx} {E : WX} {md : List Bool} {e : Expr} {F : EM} {x f : Tx} {n : Str} {p pos pos2 : Pos} {k : Nat}
end
end Od
namespace Od
open PySem PySem.Spec L2
open PyProof.Rows hiding St cutD
/-! ### a caught exception becomes a tracked thing -/
section
variable {X : Cx} {pins : List (Addr × Obj)} {σ : St} {H : Hp} {s sI : Shared} {a : Addr}
theorem adopt {oe : Obj} {us : Array Value} {cls : Value} {d : Option Addr} (hex : X.ex = []) (J : Inv X pins σ H sI) (S : Inv X pins σ H s) (na : H a = none) (ha : s.heap.get? a = some oe) (hd : oe.data = .fields us) (hz : Zc cls d oe) (old : sI.heap.get? a = none) (nL : a ≠ X.env.locals) :
    Inv X pins σ (upd H a (ExnO a cls d)) s := by
  refine ⟨S.ok, S.os, S.bare, ⟨S.base.keep, S.base.slot, fun b o e n hx => ?_, S.base.there, fun b xs e => ?_, fun b o u e => ?_, fun b ps e => ?_⟩, S.loc, S.cell, ?_, fun x c e => ?_, fun p hp => ?_, fun b o e => ?_, S.len⟩
  · have hb : b ≠ a := fun z => by
      subst z
      obtain ⟨o', e'⟩ := J.base.there b o e (by rw [hex]; exact List.not_mem_nil)
      rw [old] at e'; cases e'
    exact (upd_ne hb).trans (S.base.free b o e n hx)
  · have q := S.base.tups b xs e
    exact (upd_ne (ne_of_none q na)).trans q
  · have q := S.base.frzs b o u e
    exact (upd_ne (ne_of_none q na)).trans q
  · obtain ⟨more, q⟩ := S.base.tbls b ps e
    exact ⟨more, (upd_ne (ne_of_none q na)).trans q⟩
  · exact (upd_ne (Ne.symm nL)).trans S.free
  · have hc : c ≠ a := fun z => by
      subst z
      obtain ⟨v, o, e1, e2⟩ := S.cell x c e
      all_goals (rw [ha] at e1; cases e1; rw [hd] at e2; cases e2)
    exact (upd_ne hc).trans (S.freeC x c e)
  · obtain ⟨e1, e2, e3⟩ := S.pin p hp
    have hpa : p.1 ≠ a := fun z => by
      have f1 := (J.pin p hp).1
      rw [z, old] at f1; cases f1
    exact ⟨e1, (upd_ne hpa).trans e2, e3⟩
  · by_cases hb : b = a
    · subst hb
      rw [upd_same] at e
      cases e
      exact ⟨⟨oe, us, ha, hz, hd⟩, ⟨_, ha⟩, fun h1 h2 z k => by
        obtain ⟨o1, u1, q, r⟩ := z
        exact ⟨o1, u1, k _ q, r⟩⟩
    · rw [upd_ne hb] at e
      exact (S.hok b o e).stay (fun c v _ q => q) (fun c q => (upd_ne (ne_of_none q na)).trans q) fun c xs q => (upd_ne (ne_of_none q na)).trans q
end
section
variable {X : Cx} {x n : Str} {c : Value} {i : Nat} {body : List Stmt} {b₀ : Stmt} {suite : List Stmt} {np pos pos' : Pos} {tb : WX → TS} {ts : TS}
end
end Od
namespace Od
open PySem PySem.Spec L2
open PyProof.Rows hiding St cutD
section
variable {K : PySem.W.Frag} {mg : Str → Option Value} {P H : Hp} {W : Own} {σ : St} {ρ : Env}
theorem Wd.none {i : Nat} (w : Wd K mg P W H σ ρ) : Wd K mg P W H (σ.set i none) (ρ.set i none) := by
  refine ⟨w.same, w.own, fun j t e => ?_, by simpa using w.len⟩
  by_cases hj : j = i
  · subst hj
    by_cases hlt : j < ρ.length
    · rw [List.getElem?_set_self hlt] at e; cases e
    · rw [List.getElem?_eq_none (by simpa using hlt)] at e; cases e
  · rw [List.getElem?_set_ne (Ne.symm hj)] at e ⊢
    exact w.env j t e
end
section
variable {X : Cx} {E : WX} {md : List Bool} {x c : Tx} {n : Str} {i : Nat} {body suite : List Stmt} {b₀ : Stmt} {np pos pos' : Pos} {B S : SM} {rs ts fl : List Tx} {cn : Str}
end
/-! ### isinstance(e, X) of an exception, e.f -/
def lkX : List Tx → List D → Tx → Option D
  | k :: ks, d :: ds, f => if k = f then some d else lkX ks ds f
  | _, _, _ => none
end Od
namespace Od
open PySem PySem.Spec L2
open PyProof.Rows hiding St cutD
section
variable {X : Cx} {pins : List (Addr × Obj)} {σ : St} {H : Hp} {s : Shared}
end
section
variable {X : Cx} {E : WX} {rs ts fl : List Tx} {y : Tx} {n : Str} {ys : List Tx} {es : List Expr} {p p2 p3 pos : Pos} {e : Expr} {A : HM}
theorem lkX_get {K : PySem.W.Frag} {P : Hp} : ∀ {ks : List Tx} {ds : List D} {ws : List (Str × V)} {f : Tx} {d : D}, lkX ks ds f = some d → ws.map Prod.fst = ks.map sT → DenL K P ds (ws.map Prod.snd) → ∃ v, ws.lookup (sT f) = some v ∧ Den K P d v
  | [], ds, ws, f, d, h, _, _ => by cases ds <;> cases h
  | k :: ks, [], ws, f, d, h, _, _ => by cases h
  | k :: ks, e :: ds, [], f, d, h, e1, _ => by cases e1
  | k :: ks, e :: ds, (n, v) :: ws, f, d, h, e1, l => by
    simp only [List.map_cons, List.cons.injEq] at e1
    obtain ⟨rfl, e1⟩ := e1
    obtain ⟨v', r, e2, h1, h2⟩ := l
    simp only [List.map_cons, List.cons.injEq] at e2
    obtain ⟨rfl, rfl⟩ := e2
    unfold lkX at h
    by_cases hk : k = f
    · subst hk
      rw [if_pos rfl] at h
      cases h
      exact ⟨v, by simp [List.lookup], h1⟩
    · rw [if_neg hk] at h
      obtain ⟨w, hw, hd⟩ := lkX_get h e1 h2
      refine ⟨w, ?_, hd⟩
      have : (sT f == sT k) = false := by
        rw [beq_eq_false_iff_ne]
        exact fun z => hk (sT_inj z).symm
      simp [List.lookup, this, hw]
end
end Od
namespace Od
open PySem PySem.Spec L2
open PyProof.Rows hiding St cutD
section
variable {ΦS : Fl → Prop} {Ψ : Exn → Env → Prop} {ρ : Env} {F : EM} {Φ : D → Prop} {S B : SM}
theorem x_lkX1 (f : Tx) (ks : List Tx) (d : D) (ds : List D) : ex (lkX (f :: ks) (d :: ds) f) Φ = Φ d := by
  unfold lkX
  rw [if_pos rfl, ex_some]
end
end Od
namespace Od
open PySem PySem.Spec L2
open PyProof.Rows hiding St cutD
/-! ### s[::-1] -/
section
variable {X : Cx} {E : WX} {e : Expr} {te : TE} {A : HM} {k : Nat} {p1 p2 p3 pos : Pos}
end
end Od
namespace Od
open PySem PySem.Spec L2
open PyProof.Rows hiding St cutD
/-! ### x, y = a, b where a tuple is made (a name that an inner block reads) -/
section
variable {K : PySem.W.Frag} {mg : Str → Option Value} {E : WX} {md : List Bool} {P H : Hp} {W : Own} {σ : St} {ρ : Env} {D : Ends} {i j : Nat} {A B : OM}
end
section
variable {X : Cx} {E : WX} {md : List Bool} {i j : Nat} {x y : Str} {a b : Expr} {A B : OM} {px py pt pos : Pos} {kt k2 : Nat} {pt2 : Pos}
end
end Od
namespace Od
open PySem PySem.Spec L2
open PyProof.Rows hiding St cutD
/-! ### x op= e -/
section
variable {X : Cx} {E : WX} {md : List Bool} {i : Nat} {x : Str} {e : Expr} {F : EM} {op : Operator} {pos pos' : Pos} {r : R2} {f : D → D → Option D}
end
/-! ### xs[e] op= e', xs a list of the variable's own -/
/-! ### int(s) of figures -/
section
variable {ΦS : Fl → Prop} {Ψ : Exn → Env → Prop} {ρ : Env} {F B : EM}
end
/-! ### {} and d[k] = v -/
section
variable {K : PySem.W.Frag} {mg : Str → Option Value} {P H : Hp} {W : Own} {σ : St} {ρ : Env}
end
section
variable {X : Cx} {E : WX} {i : Nat} {x : Str} {p1 pos : Pos} {e : Expr} {B : EM} {sl : List Nat}
end
section
variable {Ψ : Exn → Env → Prop} {ρ : Env} {ΦT : T × Env → Prop} {B : EM} {ΦR : List DK × List D → Prop}
end
end Od
namespace Od
open PySem PySem.Spec L2
open PyProof.Rows hiding St cutD
section
variable {K : PySem.W.Frag}
end
end Od
namespace Od
open PySem PySem.Spec L2
open PyProof.Rows hiding St cutD
/-! ### a, b, .. = x, y, .. of any number -/
section
variable {K : PySem.W.Frag} {mg : Str → Option Value} {E : WX} {md : List Bool} {P H : Hp} {W W' : Own} {σ : St} {ρ : Env} {D : Ends} {t : T} {v : V}
theorem Pend.own (h : Pend K P W H t v) (k : ∀ x, RootAt t v x → W' x = none) : Pend K P W' H t v := by
  cases t with
  | sh d => exact h
  | lst ds => obtain ⟨c, vs, e, hw, r⟩ := h; exact ⟨c, vs, e, k c e, r⟩
  | dct ks ds => obtain ⟨c, vs, e, hw, r⟩ := h; exact ⟨c, vs, e, k c e, r⟩
  | _ => exact h
end
section
variable {X : Cx} {E : WX} {md : List Bool} {e : Expr} {es : List Expr} {A : OM} {As : List (Nat × OM)} {i : Nat} {is : List Nat} {x : Str} {p pos : Pos}
end
section
variable {ΦS : Fl → Prop} {Ψ : Exn → Env → Prop} {ρ : Env} {A : OM} {i : Nat}
theorem c_app0 {α : Type} (y : α) {Φ : List α → Prop} : cps ([] ++ [y]) Φ = Φ [y] := rfl
theorem c_app1 {α : Type} (a y : α) {Φ : List α → Prop} : cps ([a] ++ [y]) Φ = Φ [a, y] := rfl
theorem c_app2 {α : Type} (a b y : α) {Φ : List α → Prop} : cps ([a, b] ++ [y]) Φ = Φ [a, b, y] := rfl
theorem c_app3 {α : Type} (a b c y : α) {Φ : List α → Prop} : cps ([a, b, c] ++ [y]) Φ = Φ [a, b, c, y] := rfl
end
end Od
namespace Od
open PySem PySem.Spec L2
open PyProof.Rows hiding St cutD
/-! ### s * n -/
end Od
namespace Od
open PySem PySem.Spec L2
open PyProof.Rows hiding St cutD
/-! ### enumerate over a text -/
end Od
namespace Od
open PySem PySem.Spec L2
open PyProof.Rows hiding St cutD
/-! ### sorted(xs) -/
end Od
namespace Od
open PySem PySem.Spec L2
open PyProof.Rows hiding St cutD
/-! ### an exception that is made and kept -/
section
variable {X : Cx} {E W : WX} {e : Expr} {F : EM} {x f : Tx} {n : Str} {p pos : Pos} {rs ts fl : List Tx}
end
/-! ### constants of the program -/
def GlD (K : PySem.W.Frag) (mg : Str → Option Value) (x : Str) (d : D) : Prop := ∃ v u, mg x = some u ∧ RelV v u ∧ ∀ P, Den K P d v
theorem ev_gl {X : Cx} {E : WX} {d : D} {x : Str} {pos : Pos} (h : GlD X.K X.mg x d) (hg : Gl X x) (hdb : (x == ("__debug__" : Str)) = false := by decide) : EV X E (.Name x pos) (eC d) := by
  obtain ⟨v, u, hm, r, k⟩ := h
  exact ev_glob hg hm r k hdb
section
variable {K : PySem.W.Frag} {mg : Str → Option Value} {x : Str}
theorem gl_str {s : Tx} {t : Tok} (h : mg x = some (.str (sT s) t)) : GlD K mg x (.str s) := ⟨.str (sT s), _, h, ⟨t, rfl⟩, fun P => by unfold Den; rfl⟩
theorem gl_int {i : Int} {t : Tok} (h : mg x = some (.int i t)) : GlD K mg x (.int i) := ⟨.int i, _, h, ⟨t, rfl⟩, fun P => by unfold Den; rfl⟩
end
end Od
namespace Od
open PySem PySem.Spec L2
open PyProof.Rows hiding St cutD
/-! ### a, b, .. = a list -/
section
variable {X : Cx} {sl : List Nat} {es : List Expr} {gs : List GM} {pos : Pos}
end
end Od
namespace Od
open PySem PySem.Spec L2
open PyProof.Rows hiding St cutD
/-! ### list(range(..)) -/
section
variable {X : Cx} {E : WX} {e e2 : Expr} {F G : EM} {p p2 q pos : Pos}
end
section
variable {Ψ : Exn → Env → Prop} {ρ : Env} {ΦT : T × Env → Prop} {F G : EM} {ΦL : List D → Prop}
end
end Od
/-! set(xs) of a list of texts -/
namespace StSet
open PySem PySem.Spec PyProof.Rows
/-- the unlike ones, as they are met -/
def add1 (acc : List Str) (x : Str) : List Str := if acc.any (· == x) = true then acc else acc ++ [x]
def met (xs : List Str) : List Str := xs.foldl add1 []
theorem met_snoc (xs : List Str) (x : Str) : met (xs ++ [x]) = add1 (met xs) x := by unfold met; rw [List.foldl_append]; rfl
theorem add1_any (acc : List Str) (x k : Str) : (add1 acc x).any (· == k) = (acc.any (· == k) || decide (k = x)) := by
  unfold add1
  by_cases h : acc.any (· == x) = true
  · rw [if_pos h]
    by_cases e : k = x
    · subst e; rw [h]; rfl
    · rw [decide_eq_false e, Bool.or_false]
  · rw [if_neg h, List.any_append]
    congr 1
    by_cases e : k = x
    · subst e; simp
    · have : (x == k) = false := beq_eq_false_iff_ne.mpr fun z => e z.symm
      simp [this, e]
theorem add1_len (acc : List Str) (x : Str) : (add1 acc x).length = if acc.any (· == x) = true then acc.length else acc.length + 1 := by
  unfold add1; split <;> simp
theorem met_le (xs : List Str) : (met xs).length ≤ xs.length := by
  rw [← List.reverse_reverse xs]
  induction xs.reverse with
  | nil => exact Nat.le_refl 0
  | cons x r ih =>
    rw [List.reverse_cons, met_snoc, add1_len, List.length_append]
    split <;> simp only [List.length_singleton] <;> omega
/-- T is the set of the texts xs -/
def Of (P : Program) (w : World) (h : Heap) (T : Addr) (xs : List Str) : Prop := h.SetOf (strKind P w) T (fun k => (met xs).any (· == k)) (met xs).length
theorem Of.kp {P : Program} {w : World} {h h' : Heap} {T : Addr} {xs : List Str} (q : Of P w h T xs) (k : ∀ o, h.get? T = some o → h'.get? T = some o) : Of P w h' T xs := by
  obtain ⟨o, es, ep, t, ho, r⟩ := q
  exact ⟨o, es, ep, t, k o ho, r⟩
section
variable {P : Program} {w : World} {A : Around} {R : Result → Shared → Prop} {it : Addr} {fp wr : List Addr} {G : Array GenState → Array GenState → Prop} {n : Nat} {V : Nat → Value → Prop} {St : Nat → Shared → Prop}
theorem fill (W : WalksS P w A.in1 it fp wr G n V St) (T : Addr) (hT : T ∉ fp) (xs : List Str) (en : xs.length = n) (small : n < 4000)
    (get : ∀ i v, V i v → ∃ t, v = .str (xs.getD i Str.empty) t) (j : Nat) :
    ∀ (i : Nat) (s : Shared), i + j = n → St i s → Of P w s.heap T (xs.take i) → (∀ s', Moved (T :: wr) G s s' → Of P w s'.heap T xs → R (.ok (.ret .none)) s') →
      codeAny (model P w) A (.builtin "set.update.loop" ⟨[.ref T, .ref it], []⟩) R s := by
  have off : T ∉ wr := fun h => hT (W.sub _ h)
  have wide : ∀ b ∈ wr, b ∈ T :: wr := fun b h => .tail _ h
  induction j with
  | zero =>
    intro i s e at_ of k
    obtain rfl : i = n := e
    rw [← en, List.take_length] at of
    refine codeAny_builtin F.entry_set_update_loop ?_; rw [Around.under_plainId F.plain_set_update_loop _]
    show wpAny _ _ (pyNext (.ref it) >>= _) _ _ _
    refine wpAny_bind (W.done s _ _ at_ fun s1 mv => ?_)
    show wpAny _ _ (ret Value.none) _ _ _
    exact wpAny_pure (k s1 (mv.mono wide) (of.kp fun o g => mv.heap T o off g))
  | succ j ih =>
    intro i s e at_ of k
    have li : i < n := by omega
    refine codeAny_builtin F.entry_set_update_loop ?_; rw [Around.under_plainId F.plain_set_update_loop _]
    show wpAny _ _ (pyNext (.ref it) >>= _) _ _ _
    refine wpAny_bind (W.item i s _ _ li at_ fun v s1 hv at1 mv => ?_)
    obtain ⟨t, rfl⟩ := get i v hv
    have ex : xs.getD i Str.empty = xs[i]'(by omega) := by rw [List.getD_eq_getElem?_getD, List.getElem?_eq_getElem (by omega)]; rfl
    have tk : xs.take (i + 1) = xs.take i ++ [xs.getD i Str.empty] := by rw [ex, List.take_succ, List.getElem?_eq_getElem (by omega)]; rfl
    generalize xs.getD i Str.empty = x at *
    have lm := met_le (xs.take i)
    rw [List.length_take] at lm
    have of1 : Of P w s1.heap T (xs.take i) := of.kp fun o g => mv.heap T o off g
    show wpAny _ _ (holding [Value.str x t] (setAdd T (.str x t)) >>= _) _ _ _
    refine wpAny_bind (wpAny_holding ?_)
    unfold setAdd
    refine wpAny_holding (wpAny_bind ((strKind P w).pyHash (k := x) (strKind_is _ _ _ _) ?_))
    refine wpAny_setAddHashed_of (s := ⟨s1.heap, s1.gens, s1.drawn, s1.toks + 1, s1.os⟩) (strKind_is _ _ _ _) rfl of1 (by unfold scanBound; omega) fun h2 only of2 => ?_
    have of3 : Of P w h2 T (xs.take (i + 1)) := by
      unfold Of
      rw [tk, met_snoc]
      exact SetOf_congr of2 (fun k => (add1_any _ x k).symm) (add1_len _ x).symm
    refine wpAny_pure ⟨plainId_quiet F.plain_set_update_loop _, ih (i + 1) _ (by omega) (W.frame _ s1 _ _ at1 (Nat.le_succ _) fun b hb o g => ?_) of3 fun s3 mv3 of4 => ?_⟩
    · rw [only.2 b fun z => hT (z ▸ hb)]; exact g
    · refine k s3 (Moved.trans W.gtrans ((mv.mono wide).then_heap (Nat.le_succ _) fun b o hb g => ?_) mv3) of4
      rw [only.2 b fun z => hb (z ▸ .head _)]; exact g
end
section
variable {P : Program} {w : World} {A : Around} {E : Value → Shared → Prop} {s : Shared}
/-- a set that is just made -/
abbrev raw (b : Bool) : Obj := { cls := .type "set", dict := none, data := .set #[] 0 (.fresh 0 0 b) }
theorem raw_of {h : Heap} {T : Addr} {b : Bool} (g : h.get? T = some (raw b)) : Of P w h T [] :=
  SetOf_congr ((setObjOf_fresh (knd := strKind P w) b).setOf g (by unfold scanBound; omega)) (fun _ => rfl) rfl
theorem call {l : Addr} {its : Array Value} {xs : List Str} {Q : Value → Shared → Prop} (hh : A.handled = none) (hl : s.heap.IsList l its) (sv : StrsAre its.toList xs) (small : xs.length < 4000)
    (k : ∀ (h2 : Heap) (t : Nat), Of P w h2 s.heap.objs.size xs → (∀ b o, b < s.heap.objs.size → s.heap.get? b = some o → h2.get? b = some o) → Q (.ref s.heap.objs.size) { s with heap := h2, toks := t }) :
    wpAny (model P w) A (PySem.call (.type "set") [.ref l]) Q E s := by
  obtain ⟨_, _, mro_⟩ := PySem.F.called_set.mro
  have a1 := PySem.F.called_set.made; have a2 := PySem.F.called_set.sub; have a3 := PySem.F.called_set.notType; have a4 := PySem.F.called_set.canCreate; have a5 := PySem.F.typeCall_set_1 (.ref l)
  refine wpAny_call (codeAny_of_tree ?_); show wpAny _ _ (callAny (.type "set") _) _ _ _
  refine wpAny_pure ⟨Code.quiet_builtin _ (by decide +kernel), ?_⟩
  refine codeAny_builtin PySem.F.entry_type_call ?_
  rw [Around.under_plain (weight_type_call_type "set" [.ref l] []) rfl]
  repeat (any_goals (first | assumption | wp_step))
  have new : ∀ b : Bool, (s.heap.push (raw b)).get? s.heap.objs.size = some (raw b) := fun b => Heap.get?_push_size _ rfl
  refine codeAny_mono (code_set_new_1 (.ref l) (E := E) (Q₁ := fun v s1 => ∃ b, v = .ref s.heap.objs.size ∧ s1 = { s with heap := s.heap.push (raw b) }) fun b => ⟨b, rfl, rfl⟩) ?_
  rintro (e | f) s1 q1
  · exact q1
  cases f with
  | ret v =>
    obtain ⟨b, rfl, rfl⟩ := q1
    have ty : Shared.TypeIs { s with heap := s.heap.push (raw b) } (.ref s.heap.objs.size) "set" := ⟨_, new b, rfl⟩
    have a6 := PySem.F.called_set.init.lookup; have a7 := PySem.F.called_set.init.bind (.ref s.heap.objs.size)
    repeat (any_goals (first | assumption | wp_step))
    refine codeAny_mono (codeAny_call_builtin (R := wants (fun r s2 => r = .none ∧ ∃ h2 t, s2 = { s with heap := h2, toks := t } ∧ Of P w h2 s.heap.objs.size xs ∧ ∀ b o, b < s.heap.objs.size → s.heap.get? b = some o → h2.get? b = some o) E)
      PySem.F.called_set.init.plain PySem.F.entry_set_init (check_set_init_1 ty ?_)) ?_
    · obtain ⟨⟨oc, od, da, osl⟩, g, rfl, m, rfl⟩ := hl
      have ll : l < s.heap.objs.size := Heap.lt_size g
      have b1 := PySem.F.sub_list_set; have b2 := PySem.F.sub_list_frozenset
      have b3 : (Value.type "list" == Value.type "dict") = false := by decide
      have isl : (s.heap.push (raw b)).IsList l its := ⟨_, Heap.get?_push_of_some _ g, rfl, m, rfl⟩
      have sz : xs.length = its.size := by rw [← StrsAre.len_eq sv, Array.length_toList]
      unfold Builtin.«set.__init__» noKeywords Builtin.Frozenset.updateFrom; generalize hI : pyIter = I_
      wp_walk
      subst hI
      refine wpAny_pyIter_list isl (wpAny_bind (wpAny_runValue ?_))
      have top : (s.heap.push (raw b)).objs.size = s.heap.objs.size + 1 := Heap.size_push _ _
      refine fill ((Walks.list (by simp [hh]) _ l (by rw [top]; exact Nat.ne_of_lt (Nat.lt_succ_of_lt ll)) its).toS) s.heap.objs.size ?_ xs sz (by omega) (fun i v hv => SS.strs_at sv i v (by rw [Array.getElem?_toList]; exact hv)) its.size 0 _ (by omega) ⟨⟨_, Heap.get?_push_size _ rfl, rfl, rfl⟩, isl.push _⟩ ?_ ?_
      · rw [top]
        simp only [List.mem_cons, List.not_mem_nil, or_false, not_or]
        exact ⟨Nat.ne_of_lt (Nat.lt_succ_self _), Nat.ne_of_gt ll⟩
      · rw [List.take_zero]
        exact raw_of (b := b) (Heap.get?_push_of_some _ (new b))
      · rintro ⟨h2, g2, d2, t2, o2⟩ mv of
        obtain rfl : g2 = s.gens := mv.gens
        obtain rfl : d2 = s.drawn := mv.drawn
        obtain rfl : o2 = s.os := mv.os
        show wpAny _ _ _ _ _ _
        refine wpAny_pure ?_
        show wpAny _ _ (ret Value.none) _ _ _
        refine wpAny_pure ⟨rfl, h2, t2, rfl, of, fun c o hc e => mv.heap c o ?_ (Heap.get?_push_of_some _ (Heap.get?_push_of_some _ e))⟩
        rw [top]
        simp only [List.mem_cons, List.not_mem_nil, or_false, not_or]
        exact ⟨Nat.ne_of_lt hc, Nat.ne_of_lt (Nat.lt_succ_of_lt hc)⟩
    · rintro (e | f) s2 q2
      · exact q2
      cases f with
      | ret r =>
        obtain ⟨rfl, h2, t, rfl, of, kp⟩ := q2
        repeat (any_goals (first | assumption | wp_step))
        exact k _ _ of kp
      | _ => exact q2.elim
  | _ => exact q1.elim
end
end StSet
namespace L2
open PySem PySem.Spec PyProof.Rows
section
variable {X : Cx}
end
end L2
namespace Od
open PySem PySem.Spec L2
open PyProof.Rows hiding St cutD
section
variable {X : Cx} {E : WX} {e : Expr} {A : HM} {p p2 q pos : Pos}
end
end Od
namespace Od
open PySem PySem.Spec L2
open PyProof.Rows hiding St cutD
theorem x_ixdi (ks : List DK) (vs : List D) (i : Int) {Φ : D → Prop} : ex (fIdx (.dct ks vs) (.int i)) Φ = ex (kLook ks vs (.inl i)) Φ := rfl
/-! ### the order of sorted -/
end Od
namespace Od
open PySem PySem.Spec L2
open PyProof.Rows hiding St cutD
/-! ### try: B except c: S -/
section
variable {X : Cx} {E : WX} {md : List Bool} {c : Tx} {body suite : List Stmt} {b₀ : Stmt} {np pos pos' : Pos} {B S : SM} {rs ts fl : List Tx} {cn : Str}
end
section
variable {ΦS : Fl → Prop} {Ψ : Exn → Env → Prop} {ρ : Env} {S B : SM}
end
end Od
namespace Od
open PySem PySem.Spec L2
open PyProof.Rows hiding St cutD
/-! ### a comprehension over a list of a variable's own: the variable is out of reach meanwhile -/
def lend (W : Own) (A : Addr) : Own := fun x => if x = A then none else W x
section
variable {K : PySem.W.Frag} {mg : Str → Option Value} {P H : Hp} {W : Own} {σ : St} {ρ : Env} {i : Nat} {A : Addr}
end
section
variable {X : Cx} {E : WX}
end
section
variable {X : Cx} {E : WX} {md : List Bool} {elt tg : Expr} {ifs : List Expr} {scope : Scope} {own : List (Str × Nat)} {pos np : Pos} {g : GM} {C : BM} {F : EM} {sl : List Nat} {i : Nat} {x : Str}
end
section
variable {Ψ : Exn → Env → Prop} {ρ : Env} {ΦT : T × Env → Prop} {C : BM} {F : EM}
end
end Od
namespace Od
open PySem PySem.Spec L2 PySem.W PySem
open PyProof.Rows hiding St cutD
/-! ### the law's call, where no text of a list is in the making -/
section
variable {P : Program} {w : World} {K : PySem.W.Frag} {mg mb : Str → Option Value} {CX : CXT} {k : Nat} {fa a : Addr} {fd : FuncData} {x : Str} {sp : Sp} {s : Shared} {vs : List Value} {ns : List Int}
/-- H tracks nothing but the script -/
structure Lone (K : PySem.W.Frag) (H : Hp) (a : Addr) : Prop where
  only : Only H
  at_ : ∀ b, b ≠ a → H b = none
  own : K.lookup a = none ∨ H a = none
theorem lone_go {H : Hp} (L : Lone K H a) (kin : K.In s.heap) (nm : s.heap.Ns mainGlobals mg) (nb : s.heap.Ns builtinsNs mb) (bb : ∀ x : Str, x ≠ "__name__" → mb x = bootBuiltins x) (nl : s.heap.NoLimit) (gn : s.gens = #[])
    (ga : s.heap.get? a = some { cls := .type "list", data := .seq vs.toArray }) (hr : RoomG k callerA) (ok : HOk P w H s.heap)
    (F : ∀ base : Heap, K.In base → base.Ns mainGlobals mg → FnG P w K mg base CX k fa fd [x] sp) (bt : ∀ (s : Shared) (u : Value), BindsTo s fd ⟨[u], []⟩ [(x, u)])
    (hsp : sp [.ref a] H (fun v _ => v = .bl true) fun _ _ _ => False) (hCX : ∀ e t, CX [] H s (fun _ _ _ => False) e t → False) :
    codeAny (model P w) callerA (.call (.ref fa) ⟨[.ref a], []⟩) (fun r t => r = .ok (.ret (.bool true)) ∧ OldK s.heap t.heap ∧ t.os = s.os ∧ AllBare t.gens) s := by
  have dicts : ∀ {b : Addr} {o : Obj} {es : Array DictEntry} {ep : Nat}, s.heap.get? b = some o → o.data = .dict es ep → (hidT s.heap H).get? b = some o := by
    intro b o es ep e d
    refine hidT_get e ?_
    by_cases hb : b = a
    · subst hb
      rw [ga] at e
      obtain rfl := Option.some.inj e
      exact absurd d (by intro z; cases z)
    · exact L.at_ b hb
  have spaces : ∀ {b : Addr} {m : Str → Option Value}, s.heap.Ns b m → (hidT s.heap H).Ns b m := by
    rintro b m ⟨o, es, ep, e, d, r⟩
    exact ⟨o, es, ep, dicts e d, d, r⟩
  have kb : K.In (hidT s.heap H) := by
    intro b o e
    refine hidT_get (kin b o e) ?_
    by_cases hb : b = a
    · subst hb
      rcases L.own with z | z
      · rw [z] at e; cases e
      · exact z
    · exact L.at_ b hb
  have md : Mod K mg (hidT s.heap H) := by
    obtain ⟨mc, u1, u2⟩ := nl
    exact ⟨kb, spaces nm, ⟨mb, spaces nb, bb⟩, ⟨mc, spaces u1, u2⟩⟩
  have e0 : Env0 P w K mg (hidT s.heap H) callerA [] s H := by
    refine ⟨rfl, md, fun b o e => of_hidT e, Nat.le_of_eq (hidT_size _ _), trivial, ?_, ok, .of_eq gn⟩
    intro b hb
    exact absurd hb List.not_mem_nil
  refine codeAny_mono ((F _ kb (spaces nm)).go (us := [.ref a]) hr e0 (bt s (.ref a)) (.cons (show RelV (.ref a) (.ref a) from rfl) .nil) hsp) ?_
  rintro (e | fl) t z
  · exact (hCX e t z).elim
  · cases fl with
    | next => exact z.elim
    | brk => exact z.elim
    | cont => exact z.elim
    | ret u =>
      obtain ⟨v, H2, os, bare, un, ok2, rv, qv⟩ := z
      have qv : v = .bl true := qv
      subst qv
      have rv : u = Value.bool true := rv
      subst rv
      refine ⟨rfl, OldK.of_keep ?_, os, bare⟩
      intro b o e
      rcases L.only b with n | ⟨ob, xs, n⟩
      · exact un.keep b o e n (fun z => absurd z List.not_mem_nil) (by simp)
      · obtain ⟨e1, _⟩ := ok b _ n
        obtain ⟨e2, _⟩ := ok2 b _ (un.frzs b ob _ n)
        rw [e] at e1
        obtain rfl := Option.some.inj e1
        exact e2
theorem law_callG (kin : K.In s.heap) (nm : s.heap.Ns mainGlobals mg) (nb : s.heap.Ns builtinsNs mb) (bb : ∀ x : Str, x ≠ "__name__" → mb x = bootBuiltins x) (nl : s.heap.NoLimit) (gn : s.gens = #[])
    (ga : s.heap.get? a = some { cls := .type "list", data := .seq vs.toArray }) (hi : IntsAre vs ns) (hl : ns.length ≤ sizeLine) (hr : RoomG k callerA)
    (F : ∀ base : Heap, K.In base → base.Ns mainGlobals mg → FnG P w K mg base CX k fa fd [x] sp) (bt : ∀ (s : Shared) (u : Value), BindsTo s fd ⟨[u], []⟩ [(x, u)])
    (hsp : ∀ H : Hp, Only H → SqL K H a (ns.map V.int) → sp [.ref a] H (fun v _ => v = .bl true) fun _ _ _ => False) (hCX : ∀ H e t, CX [] H s (fun _ _ _ => False) e t → False) :
    codeAny (model P w) callerA (.call (.ref fa) ⟨[.ref a], []⟩) (fun r t => r = .ok (.ret (.bool true)) ∧ OldK s.heap t.heap ∧ t.os = s.os ∧ AllBare t.gens) s := by
  have rv := vals_ints hi
  have ln := hi.length
  cases hk : K.lookup a with
  | some o =>
    have e := kin a o hk
    rw [ga] at e
    obtain rfl := Option.some.inj e
    have L : Lone K (fun _ => none) a := ⟨fun _ => Or.inl rfl, fun _ _ => rfl, Or.inr rfl⟩
    refine lone_go L kin nm nb bb nl gn ga hr (fun b u z => by cases z) F bt (hsp _ L.only (Or.inr ⟨_, vs.toArray, _, hk, rfl, rfl, rfl, ?_, ?_⟩)) (hCX _)
    · rw [List.size_toArray, ln]; exact hl
    · simpa using rv
  | none =>
    let H : Hp := fun b => if b = a then some (.frz { cls := .type "list", data := .seq vs.toArray } (.lst (ns.map V.int))) else none
    have ha : H a = some (.frz { cls := .type "list", data := .seq vs.toArray } (.lst (ns.map V.int))) := if_pos rfl
    have hn : ∀ b, b ≠ a → H b = none := fun b z => if_neg z
    have L : Lone K H a := by
      refine ⟨fun b => ?_, hn, Or.inl hk⟩
      by_cases hb : b = a
      · subst hb; exact Or.inr ⟨_, _, ha⟩
      · exact Or.inl (hn b hb)
    refine lone_go L kin nm nb bb nl gn ga hr (fun b u z => ?_) F bt (hsp H L.only (Or.inl (Or.inr ⟨_, ha⟩))) (hCX _)
    by_cases hb : b = a
    · subst hb
      rw [ha] at z
      obtain rfl := Option.some.inj z
      exact ⟨ga, by rw [List.length_map]; exact hl, vs, _, rv, ga⟩
    · rw [hn b hb] at z; cases z
end
theorem walkG {l : PySem.W.OpenLaw} {n k : Nat} {q : Program} {loose : List Str} {XP : (Str → Option Value) → Heap → Prop} {YP : World → Heap → Prop} {d : DefRec} {K : Params → PySem.W.Frag} {CX : World → CXT} {sp : World → Sp} {x : Str}
    (hn : l.most = some n) (hn2 : n ≤ sizeLine) (hdf : d.params.defaults = []) (hr : RoomG k callerA) (hY : ∀ (w : World) (h : Heap), YP w h → (K w.params).In h)
    (F : ∀ (w : World) (mg : Str → Option Value) (fa : Addr) (h : Heap), (K w.params).In h → h.Ns mainGlobals mg → mg d.name = some (.ref fa) → ∃ fd : FuncData, (∀ (s : Shared) (u : Value), BindsTo s fd ⟨[u], []⟩ [(x, u)]) ∧
      ∀ base : Heap, (K w.params).In base → base.Ns mainGlobals mg → FnG l.prog w (K w.params) mg base (CX w) k fa fd [x] (sp w))
    (hsp : ∀ (w : World) (H : Hp) (a : Addr) (ns : List Int), ns.length ≤ n → Only H → SqL (K w.params) H a (ns.map V.int) → sp w [.ref a] H (fun v _ => v = .bl true) fun _ _ _ => False)
    (hCX : ∀ (w : World) (H : Hp) (s : Shared) (e : Value) (t : Shared), CX w [] H s (fun _ _ _ => False) e t → False) : PySem.W.WalkO q loose XP YP l.row.toRowW d [] (fun f vs => PySem.call f vs) := by
  refine Att.attach_call hn hdf ?_
  intro w s₀ s mg mb fa o pm cd doc a vs ns G Y ho hd hcd hmg hx hy hz hw
  obtain ⟨fd, bt, Fb⟩ := F w mg fa _ (hY w _ Y) G.T.g hmg
  exact law_callG (hY w _ Y) G.T.g G.T.b G.T.builtins G.T.nolimit hw hx hy (Nat.le_trans hz hn2) hr Fb bt (fun H on S => hsp w H a ns hz on S) fun H e t => hCX w H s e t
end Od
namespace Od
open PySem PySem.Spec L2 PySem.W PySem
open PyProof.Rows hiding St cutD
/-! ### str(x) -/
mutual
/-- a bound of the text's length -/
def D.shW : D → Nat
  | .int i => if i.natAbs < 10 ^ 30 then 31 else 20000000
  | .str s => 10 * s.length + 2
  | .tup ds => D.shWL ds + 3
  | .lst ds => D.shWL ds + 3
  | .rol ds => D.shWL ds + 3
  | _ => 5
def D.shWL : List D → Nat
  | [] => 0
  | d :: ds => D.shW d + 2 + D.shWL ds
end
def okS (d : D) : Bool := d.ok && decide (d.dep ≤ 60) && decide (d.shW ≤ 10000000)
/-- what str gives -/
def strD : PyData → Str
  | .str x => x
  | d => d.shown
def shT (d : D) : Tx := (strD d.py).cps.toList
def fStr : List D → Option D
  | [d] => if okS d = true then some (.str (shT d)) else none
  | _ => none
theorem sizeS : sizeLine = 16777216 := rfl
mutual
theorem shown_ok : ∀ d : D, d.ok = true → d.shW ≤ 10000000 → d.py.showable = true ∧ d.py.hasDict = false ∧ d.py.shown.length ≤ d.shW
  | .non, _, _ => ⟨rfl, rfl, by decide⟩
  | .bl b, _, _ => ⟨rfl, rfl, by cases b <;> decide⟩
  | .int i, _, h => by
    unfold D.shW at h
    split at h
    · rename_i hi
      refine ⟨?_, rfl, ?_⟩
      · show decide _ = true
        rw [decide_eq_true_eq]
        by_cases h0 : i.natAbs = 0
        · rw [h0]; decide
        · exact (Nat.log2_lt h0).mpr (Nat.lt_of_lt_of_le hi (Nat.le_trans (by decide : 10 ^ 30 ≤ 2 ^ 100) (Nat.pow_le_pow_right (by decide) (by decide))))
      · have := int_text_length_le10 (a := i) (k := 30) (by decide) hi
        unfold D.shW
        rw [if_pos hi]
        show (Str.ofString (toString i)).length ≤ _
        rw [PySem.ofString_length]
        exact this
    · omega
  | .str s, o, _ => by
    refine ⟨rfl, rfl, ?_⟩
    unfold D.ok at o
    have := PySem.StrLaws.reprText_len (sT s) (fun c hc => by
      rw [List.all_eq_true] at o
      have := o c (by simpa [sT] using hc)
      simp at this
      omega)
    rw [sT_len] at this
    exact this
  | .tup ds, o, h => by
    unfold D.ok at o
    have hw : D.shW (.tup ds) = D.shWL ds + 3 := by rw [D.shW]
    rw [hw] at h ⊢
    obtain ⟨a, b, c⟩ := shownL_ok ds o (by omega)
    have := tupleText_len_le (PyData.shownAll (D.pyL ds))
    have e := PyData.shownAll_length (D.pyL ds)
    have hp : D.py (.tup ds) = .tuple (D.pyL ds) := by rw [D.py]
    rw [hp]
    refine ⟨by rw [PyData.showable]; exact a, by rw [PyData.hasDict]; exact b, ?_⟩
    rw [PyData.shown]
    omega
  | .lst ds, o, h => by
    unfold D.ok at o
    have hw : D.shW (.lst ds) = D.shWL ds + 3 := by rw [D.shW]
    rw [hw] at h ⊢
    obtain ⟨a, b, c⟩ := shownL_ok ds o (by omega)
    have := listText_len_le (PyData.shownAll (D.pyL ds))
    have e := PyData.shownAll_length (D.pyL ds)
    have hp : D.py (.lst ds) = .list (D.pyL ds) := by rw [D.py]
    rw [hp]
    refine ⟨by rw [PyData.showable]; exact a, by rw [PyData.hasDict]; exact b, ?_⟩
    rw [PyData.shown]
    omega
  | .rol ds, o, h => by
    unfold D.ok at o
    have hw : D.shW (.rol ds) = D.shWL ds + 3 := by rw [D.shW]
    rw [hw] at h ⊢
    obtain ⟨a, b, c⟩ := shownL_ok ds o (by omega)
    have := listText_len_le (PyData.shownAll (D.pyL ds))
    have e := PyData.shownAll_length (D.pyL ds)
    have hp : D.py (.rol ds) = .list (D.pyL ds) := by rw [D.py]
    rw [hp]
    refine ⟨by rw [PyData.showable]; exact a, by rw [PyData.hasDict]; exact b, ?_⟩
    rw [PyData.shown]
    omega
  | .dct _ _, o, _ => by cases o
  | .exn _ _ _, o, _ => by cases o
  | .obj _ _ _, o, _ => by cases o
  | .fn _, o, _ => by cases o
  | .adr _, o, _ => by cases o
theorem shownL_ok : ∀ ds : List D, D.okL ds = true → D.shWL ds ≤ 10000000 → PyData.showableAll (D.pyL ds) = true ∧ PyData.hasDictAll (D.pyL ds) = false ∧ ((PyData.shownAll (D.pyL ds)).map (·.length)).sum + 2 * (D.pyL ds).length ≤ D.shWL ds
  | [], _, _ => ⟨rfl, rfl, Nat.le_refl _⟩
  | d :: ds, o, h => by
    unfold D.okL at o
    rw [Bool.and_eq_true] at o
    rw [D.shWL] at h ⊢
    obtain ⟨a, b, c⟩ := shown_ok d o.1 (by omega)
    obtain ⟨a', b', c'⟩ := shownL_ok ds o.2 (by omega)
    rw [D.pyL]
    refine ⟨by rw [PyData.showableAll, a, a']; rfl, by rw [PyData.hasDictAll, b, b']; rfl, ?_⟩
    rw [PyData.shownAll]
    simp only [List.map_cons, List.sum_cons, List.length_cons]
    omega
end
def rStrD (K : PySem.W.Frag) : List V → Hp → VK → Prop := fun vs H Q => ∃ (v : V) (d : PyData), vs = [v] ∧ Dp K H v d ∧ d.showable = true ∧ d.hasDict = false ∧ d.depth ≤ 60 ∧ d.shown.length ≤ sizeLine ∧ Q (.str (strD d)) H
theorem cr_strD {X : Cx} (hg : X.A.guards = some []) (hu : X.A.units + 65 < cLine) : CallR X (.type "str") (rStrD X.K) := by
  intro pins s σ H vs us Q I r h
  obtain ⟨v, d, rfl, dp, sh, nd, dd, sz, q⟩ := h
  obtain ⟨u, rfl, ru⟩ : ∃ u, us = [u] ∧ RelV v u := by
    cases r with
    | cons a b => cases b; exact ⟨_, rfl, a⟩
  obtain ⟨as, rd⟩ := Dp.reads I d v u dp ru
  have obj : ∀ {b : Addr}, u = .ref b → strD d = d.shown → wpAny (model X.prog X.w) X.A (call (.type "str") [u]) (EP X pins σ Q) X.xe s := by
    intro b hb hs
    subst hb
    refine str_of_reads rd sh (fun z => by rw [nd] at z; cases z) hg (by omega) (fun _ _ z => z) ?_ sz
    intro h' t tk kp
    exact ⟨.str (strD d), H, I.kept kp, ⟨t, by rw [hs]⟩, q⟩
  cases dp with
  | non =>
    have ru : u = Value.none := ru
    subst ru
    exact P.str_of_none ⟨.str (strD .none), H, I.tok _, ⟨_, rfl⟩, q⟩
  | bl b =>
    have ru : u = Value.bool b := ru
    subst ru
    exact P.str_of_bool ⟨.str (strD (.bool b)), H, I.tok _, ⟨_, rfl⟩, q⟩
  | int i =>
    obtain ⟨t, rfl⟩ := ru
    exact P.str_of_int (by simpa [PyData.showable] using sh) ⟨.str (strD (.int i)), H, I.tok _, ⟨_, rfl⟩, q⟩
  | str x =>
    obtain ⟨t, rfl⟩ := ru
    exact P.str_of_str ⟨.str (strD (.str x)), H, I, ⟨_, rfl⟩, q⟩
  | lst a b =>
    have ru : u = Value.ref _ := ru
    exact obj ru rfl
  | tup a b =>
    have ru : u = Value.ref _ := ru
    exact obj ru rfl
theorem f_str {K : PySem.W.Frag} : CbV K (rStrD K) fStr := by
  intro P H vs ds res Q s v hf q
  unfold fStr at hf
  split at hf
  · rename_i d
    split at hf
    · rename_i o
      cases hf
      obtain ⟨x, rfl, h⟩ := vl1 v
      unfold okS at o
      simp only [Bool.and_eq_true, decide_eq_true_eq] at o
      obtain ⟨⟨o1, o2⟩, o3⟩ := o
      obtain ⟨a, b, c⟩ := shown_ok d o1 o3
      refine ⟨x, d.py, rfl, view_dp s o1 h, a, b, by rw [(py_ok d o1).2]; exact o2, by rw [sizeS]; omega, ?_⟩
      refine q _ P H (Al.refl s) ?_
      show Den K P (.str (shT d)) _
      unfold Den shT
      rw [sT_of]
    · cases hf
  · cases hf
theorem x_str (d : D) {Φ : D → Prop} : ex (fStr [d]) Φ = (okS d = true ∧ Φ (.str (shT d))) := by show ex (if _ then _ else _) _ = _; rw [ex_ite]; rfl
end Od
namespace Od
open PySem PySem.Spec L2 PySem.W PySem
open PyProof.Rows hiding St cutD
/-! ### text.strip(signs) -/
end Od
namespace Od
open PySem PySem.Spec L2 PySem.W PySem
open PyProof.Rows hiding St cutD
/-! ### text.upper() -/
/-! ### {k: e, ..}, the keys written -/
section
variable {X : Cx} {E : WX} {e : Expr} {pos : Pos} {keys : List (Option Expr)} {vals : List Expr} {ks : List DK} {Fs : List EM} {F : EM}
end
section
variable {ΦT : T × Env → Prop} {Ψ : Exn → Env → Prop} {ρ : Env}
end
theorem atI_k {α : Type} {xs : List α} {x : α} {i : Int} (k : Nat) (hi : i = (k : Int)) (h : xs[k]? = some x) : atI xs i = some x := by
  subst hi
  rw [atI_nat' (List.getElem?_eq_some_iff.mp h).1, h]
section
variable {α : Type} {x y z w : α} {r : List α} {Φ : α → Prop}
theorem k_at0 : ex (atI (x :: r) 0) Φ = Φ x := by rw [atI_k (i := 0) 0 rfl rfl]; rfl
theorem k_at1 : ex (atI (x :: y :: r) 1) Φ = Φ y := by rw [atI_k (i := 1) 1 rfl rfl]; rfl
theorem k_at2 : ex (atI (x :: y :: z :: r) 2) Φ = Φ z := by rw [atI_k (i := 2) 2 rfl rfl]; rfl
theorem k_at3 : ex (atI (x :: y :: z :: w :: r) 3) Φ = Φ w := by rw [atI_k (i := 3) 3 rfl rfl]; rfl
end
end Od
namespace Od
open PySem PySem.Spec L2
open PyProof.Rows hiding St cutD
/-! ### instances of own classes: their fields, made by C(e, ..) -/
structure ClsI (K : PySem.W.Frag) (mg : Str → Option Value) (C : Tx) (fl : List Tx) : Prop where
  ex : ∃ c, Top K C c ∧ mg (sT C) = some (.ref c) ∧ Cls K c ∧ ∀ f ∈ fl, NoAttr K c (sT f)
/-- a field of a shared one -/
def fFldO (C f : Tx) : D → Option D
  | .obj c ks vs => if c = C then lkX ks vs f else none
  | _ => none
def insOf (ρ : Env) (i : Nat) (C : Tx) : Option (List (Tx × T1)) := match ρ[i]? with
  | some (some (.ins c fs)) => if c = C then some fs else none
  | _ => none
theorem insOf_some {ρ : Env} {i : Nat} {C : Tx} {fs : List (Tx × T1)} (h : insOf ρ i C = some fs) : ρ[i]? = some (some (.ins C fs)) := by
  unfold insOf at h
  split at h
  · rename_i c fs' e
    split at h
    · rename_i hc; subst hc; cases h; exact e
    · cases h
  · cases h
def putT : List (Tx × T1) → Tx → T1 → List (Tx × T1)
  | [], k, t => [(k, t)]
  | (j, u) :: fs, k, t => if j = k then (j, t) :: fs else (j, u) :: putT fs k t
theorem putT_mem : ∀ {fs : List (Tx × T1)} {k x : Tx} {t : T1}, x ∈ (putT fs k t).map Prod.fst → x = k ∨ x ∈ fs.map Prod.fst
  | [], k, x, t, h => by simp [putT] at h; exact .inl h
  | (j, u) :: fs, k, x, t, h => by
    unfold putT at h
    split at h
    · exact .inr h
    · simp only [List.map_cons, List.mem_cons] at h ⊢
      rcases h with rfl | h
      · exact .inr (.inl rfl)
      · rcases putT_mem h with e | e
        · exact .inl e
        · exact .inr (.inr e)
theorem putT_nd : ∀ {fs : List (Tx × T1)} {k : Tx} {t : T1}, (fs.map Prod.fst).Nodup → ((putT fs k t).map Prod.fst).Nodup
  | [], k, t, _ => by simp [putT]
  | (j, u) :: fs, k, t, h => by
    unfold putT
    split
    · exact h
    · rename_i hj
      simp only [List.map_cons, List.nodup_cons] at h ⊢
      refine ⟨fun z => ?_, putT_nd h.2⟩
      rcases putT_mem z with e | e
      · exact hj e
      · exact h.1 e
section
variable {K : PySem.W.Frag} {mg : Str → Option Value} {P P' : Hp} {W W' : Own} {H H' : Hp} {r : Option Nat} {σ : St} {ρ : Env}
theorem beq_sT {a b : Tx} (h : ¬ a = b) : (sT a == sT b) = false := by
  rw [beq_eq_false_iff_ne]
  exact fun z => h (sT_inj z)
theorem RF.getL : ∀ {fs : List (Tx × T1)} {ws : List (Str × V)} {k : Tx} {t : T1}, RF K P W H r fs ws → getF fs k = some t → ∃ v, ws.lookup (sT k) = some v ∧ R1 K P W H r (some k) t v
  | [], ws, k, t, h, e => by cases e
  | (j, u) :: fs, ws, k, t, h, e => by
    obtain ⟨v, w, rfl, h1, h2⟩ := h
    unfold getF at e
    by_cases hj : j = k
    · rw [if_pos hj] at e
      cases e
      subst hj
      exact ⟨v, by simp [List.lookup], h1⟩
    · rw [if_neg hj] at e
      obtain ⟨v', h3, h4⟩ := RF.getL h2 e
      refine ⟨v', ?_, h4⟩
      simp [List.lookup, beq_sT (fun z => hj z.symm), h3]
theorem RF.putT {k : Tx} {t : T1} {v : V} (hv : R1 K P W H r (some k) t v) : ∀ {fs : List (Tx × T1)} {ws : List (Str × V)}, RF K P W H r fs ws → RF K P W H r (Od.putT fs k t) (putF (sT k) v ws)
  | [], ws, h => by
    cases h
    exact ⟨v, [], rfl, hv, rfl⟩
  | (j, u) :: fs, ws, h => by
    obtain ⟨v', w, rfl, h1, h2⟩ := h
    unfold Od.putT putF
    by_cases hj : j = k
    · subst hj
      rw [if_pos rfl, if_pos rfl]
      exact ⟨v, w, rfl, hv, h2⟩
    · rw [if_neg hj, if_neg (fun z => hj (sT_inj z))]
      exact ⟨v', _, rfl, h1, RF.putT hv h2⟩
theorem RF.len : ∀ {fs : List (Tx × T1)} {ws : List (Str × V)}, RF K P W H r fs ws → ws.length = fs.length
  | [], ws, h => by cases h; rfl
  | (j, u) :: fs, ws, h => by
    obtain ⟨v', w, rfl, h1, h2⟩ := h
    simp [RF.len h2]
theorem Wd.insAt {i : Nat} {C : Tx} {fs : List (Tx × T1)} (w : Wd K mg P W H σ ρ) (e : insOf ρ i C = some fs) : ∃ (a c dx : Addr) (ws : List (Str × V)), σ[i]? = some (some (.ref a)) ∧ W a = some (some i, Option.none) ∧ (mg (sT C) = some (.ref c) ∧ Top K C c) ∧ H a = some (.ins c dx ws) ∧ (fs.map Prod.fst).Nodup ∧ RF K P W H (some i) fs ws ∧ i < ρ.length := by
  have e := insOf_some e
  obtain ⟨v, hs, hr⟩ := w.env i _ e
  obtain ⟨a, c, dx, ws, rfl, hw, hc, hh, nd, l⟩ := hr
  exact ⟨a, c, dx, ws, hs, hw, hc, hh, nd, l, (List.getElem?_eq_some_iff.mp e).1⟩
end
/-- x.f = e -/
def sFldI (C : Tx) (i : Nat) (f : Tx) (F : EM) : SM := fun ρ => F ρ >>= fun a => Res.of ((insOf a.2 i C).bind fun fs => if fs.length < 900 then some (a.2.set i (some (.ins C (putT fs f (.sh a.1))))) else none) >>= fun ρ1 => .ok (.nx ρ1)
section
variable {X : Cx} {E : WX} {C f : Tx} {fl : List Tx} {i : Nat} {x n : Str} {pos pos' p1 : Pos} {e : Expr} {A : HM} {F : EM} {md : List Bool}
theorem ev_fldO (R : ClsI X.K X.mg C fl) (hf : f ∈ fl) (hn : n = sT f) (ha : EH X E e A) (hb : attributeBase e n X.env (eval e X.env) = eval e X.env := by rfl) : EV X E (.Attribute e n pos) (e1 (fFldO C f) A) := by
  subst hn
  exact PE.imp (pe_fld ha hb) fun σ H Q ⟨P, W, ρ, w, g⟩ => ⟨P, W, ρ, w, (Go.bind g).mono fun v H1 ⟨P1, W1, a, s1, ⟨w1, k1⟩, g1⟩ => by
    obtain ⟨res, e', g2⟩ := Go.of g1
    obtain ⟨d, hd, hf'⟩ := Option.bind_eq_some_iff.mp e'
    cases d <;> simp only [fFldO, reduceCtorEq] at hf'
    rename_i c ks ds
    split at hf'
    · rename_i hcr
      subst hcr
      have vw : Den X.K P1 (.obj c ks ds) v := Hok.view w1 k1 hd
      unfold Den at vw
      obtain ⟨b, C, dx, ws, rfl, t, xa, k, l⟩ := vw
      obtain ⟨C', t', _, ec, hna⟩ := R.ex
      obtain rfl := top_inj t t'
      obtain ⟨v, hv, dv⟩ := lkX_get hf' k l
      exact ⟨b, C, dx, ws, v, rfl, w1.same b _ xa, ec, hna f hf, hv, g2 v P1 W1 H1 (Step.refl P1 W1 H1) ⟨w1, dv⟩⟩
    · cases hf'⟩
theorem sd_fldI (R : ClsI X.K X.mg C fl) (hf : f ∈ fl) (hn : n = sT f) (hN : X.N[i]? = some x) (hv : Vis X.env.scope x) (he : EV X E e F) (hd : (x == ("__debug__" : Str)) = false := by decide) (hcd : (x == ("__classdict__" : Str)) = false := by decide)
    (hs : swapsWith e (some (.Attribute (.Name x p1) n pos')) pos.line X.env = pure false := by rfl) : SD X E md (.Assign [.Attribute (.Name x p1) n pos'] e pos) (sFldI C i f F) := by
  subst hn
  refine PS.imp (ps_fld (pe_var hN hv hd hcd) he hs) fun D σ H ⟨P, W, ρ, w, g⟩ => ?_
  unfold sFldI at g
  refine ⟨P, W, ρ, w, (GoS.val (Rel := VRel X.K X.mg) g).mono fun u H1 ⟨P1, W1, b, s1, ⟨w1, db⟩, g1⟩ => ?_⟩
  obtain ⟨ρ2, e2, g2⟩ := GoS.of g1
  obtain ⟨fs, e3, e4⟩ := Option.bind_eq_some_iff.mp e2
  split at e4
  · rename_i hlen
    cases e4
    obtain ⟨a, c, dx, ws, h1, h2, h3, h4, nd, l, hi⟩ := w1.insAt e3
    obtain ⟨c', t', _, ec, hna⟩ := R.ex
    obtain rfl := top_inj h3.2 t'
    refine ⟨_, h1, a, c, dx, ws, rfl, h4, ec, hna f hf, by rw [RF.len l]; omega, ?_⟩
    have l2 := RF.putT (k := f) (t := .sh b.1) (v := u) db l
    have l3 : RF X.K P1 W1 (upd H1 a (.ins c dx (putF (sT f) u ws))) (some i) (putT fs f (.sh b.1)) (putF (sT f) u ws) := RF.mono (same_refl P1) (fun g y hy => ⟨hy, fun o ho => by
      have : y ≠ a := fun z => by subst z; rw [h2] at hy; cases hy
      rw [upd_ne this]; exact ho⟩) _ _ l2
    obtain ⟨w2, s2⟩ := w1.mutF (mg := X.mg) (o := .ins c dx (putF (sT f) u ws)) (t := .ins C (putT fs f (.sh b.1))) hi h1 h2 ⟨a, c, dx, _, rfl, h2, h3, upd_same, putT_nd nd, l3⟩
    exact g2 σ P1 W1 _ s2 w2 (Kp.refl md σ)
  · cases e4
end
end Od
namespace Od
open PySem PySem.Spec L2
open PyProof.Rows hiding St cutD
/-! ### C(e, ..): a new instance, then __init__ -/
section
variable {X : Cx} {CX : CXT} {k : Nat} {f C : Addr} {fd : FuncData} {ps : List Str} {sp : Sp} {E : St → XK} {x : Str} {p pos : Pos} {e : Expr} {es : List Expr} {t : TA}
theorem RoomG.make' {A : Around} (hr : RoomG (k + 1) A) (C : Addr) (us : List Value) (kw : List (Str × Value)) : RoomG k (A.under (.builtin "type.__call__" ⟨.ref C :: us, kw⟩)) := ⟨hr.toRoom.make C us kw, hr.gd⟩
theorem runMakeG {pins : List (Addr × Obj)} {σ : St} {H : Hp} {s : Shared} {Q : VK} {us : List Value} {vs : List V} (M : Mk X.K C f) (F : FnG X.prog X.w X.K X.mg X.base CX k f fd ps sp) (hr : RoomG (k + 1) X.A) (hb : Binds X.K fd ps [])
    (hx : PassesAt CX X σ (E σ)) (I : Inv X pins σ H s) (r : Vals vs us)
    (h : ∀ x dx, H x = none → H dx = none → dx ≠ x → sp (.ref x :: vs) (upd (upd H dx (.own x)) x (.ins C dx [])) (fun v H2 => v = .non ∧ Q (.ref x) H2) (E σ)) :
    wpAny (model X.prog X.w) X.A (call (.ref C) us) (EP X pins σ Q) X.xe s := by
  have hq := h (s.heap.objs.size + 1) s.heap.objs.size (I.hok.fresh (Nat.le_succ _)) (I.hok.fresh (Nat.le_refl _)) (Nat.ne_of_lt (Nat.lt_succ_self _))
  have I2 := Inv.made (C := C) I
  have r2 : Vals (V.ref (s.heap.objs.size + 1) :: vs) (Value.ref (s.heap.objs.size + 1) :: us) := .cons rfl r
  have hl : (Value.ref (s.heap.objs.size + 1) :: us).length = ps.length := by
    have e := r2.length
    rw [F.ln _ _ _ _ hq] at e
    exact e.symm
  refine wpAny_call (make_map (f := f) I.kIn M.makes M.init (beq_iff_eq.mp M.fn) (codeAny_mono (F.go (RoomG.make' hr C us []) (I2.env0.make C us []) (ar := ⟨Value.ref (s.heap.objs.size + 1) :: us, []⟩) (us := Value.ref (s.heap.objs.size + 1) :: us) ?_ r2 hq) fun r s' hq' => ?_))
  · have := hb _ (Value.ref (s.heap.objs.size + 1) :: us) I2.kIn (by rw [List.append_nil]; exact hl)
    rwa [List.append_nil] at this
  cases r with
  | error e => exact hx pins _ _ e s' I2 hq'
  | ok fl =>
    cases fl with
    | ret u =>
      obtain ⟨v, H', I3, rv, ev, q3⟩ := I2.after hq'
      subst ev
      exact ⟨rv, ⟨V.ref (s.heap.objs.size + 1), H', I3, rfl, q3⟩⟩
    | next => exact False.elim hq'
    | brk => exact False.elim hq'
    | cont => exact False.elim hq'
def tMakeG (C : Addr) (sp : Sp) (E : St → XK) (t : TA) : TE := fun σ H Q => t σ H fun vs H1 => ∀ x dx, H1 x = none → H1 dx = none → dx ≠ x → sp (.ref x :: vs) (upd (upd H1 dx (.own x)) x (.ins C dx [])) (fun v H2 => v = .non ∧ Q (.ref x) H2) (E σ)
theorem pe_makeG (M : Mk X.K C f) (F : FnG X.prog X.w X.K X.mg X.base CX k f fd ps sp) (hr : RoomG (k + 1) X.A) (hg : Gl X x) (hm : X.mg x = some (.ref C)) (hb : Binds X.K fd ps []) (hx : ∀ σ, PassesAt CX X σ (E σ))
    (ha : PA X (e :: es) t) (hdb : (x == ("__debug__" : Str)) = false) (he : starEach (e :: es) X.env = (false, eval e X.env) :: starEach es X.env) (hpl : (backTo pos (starEach es X.env)).any (·.1) = false) :
    PE X (.Call (.Name x p) (e :: es) [] pos) (tMakeG C sp E t) := by
  refine ⟨fun pins s σ H Q I h => ?_⟩
  refine wpAny_Call_Name_kw (ld_glob I hg hm ?_ hdb)
  refine PySem.W.callWith_K (h₀ := X.base) I.ok.mod.kin M.kp (thn (ha.run pos pins s σ H _ I h) fun us s1 ⟨vs, H1, I1, r, q⟩ => ⟨I1.kIn, ?_⟩) he hpl
  exact runMakeG M F hr hb (hx σ) I1 r q
end
/-- a class with its own __init__ -/
structure Ini (P : Program) (w : World) (K : PySem.W.Frag) (mg : Str → Option Value) (base : Heap) (k : Nat) (C : Tx) (fn : Fn) : Prop where
  ex : ∃ (c f : Addr) (fd : FuncData) (ps : List Str), Top K C c ∧ mg (sT C) = some (.ref c) ∧ Mk K c f ∧ FnG P w K mg base (L2.CX P w) k f fd ps (spF K mg fn) ∧ Binds K fd ps []
theorem Ini.mono {P : Program} {w : World} {K : PySem.W.Frag} {mg : Str → Option Value} {base : Heap} {k j : Nat} {C : Tx} {fn : Fn} (h : Ini P w K mg base k C fn) (hk : k ≤ j) : Ini P w K mg base j C fn := by
  obtain ⟨c, f, fd, ps, h1, h2, h3, h4, h5⟩ := h.ex
  exact ⟨c, f, fd, ps, h1, h2, h3, h4.mono hk, h5⟩
def newR (C : Tx) (ρ : Env) : Out → Res (T × Env)
  | .ok (.sh .non) (some (.ins c fs) :: _) => if c = C then .ok (.ins C fs, ρ) else .fail
  | .exc x _ => .exc x ρ
  | _ => .fail
def eNew (C : Tx) (fn : Fn) (Fs : List EM) : OM := fun ρ => vL Fs ρ >>= fun a => newR C a.2 (fn (.ins C [] :: a.1.map .sh))
section
variable {K : PySem.W.Frag} {mg : Str → Option Value} {P P' H H' : Hp} {W W' : Own} {σ : St} {ρ os : Env}
theorem wd_init {C : Tx} {c x dx : Addr} {ds : List D} {vs : List V} (w : Wd K mg P W H σ ρ) (hc : mg (sT C) = some (.ref c) ∧ Top K C c) (nx : H x = none) (ndx : H dx = none) (ne : dx ≠ x) (l : DenL K P ds vs) :
    Wd K mg P (fun a => if a = x then some (some 0, none) else none) (upd (upd H dx (.own x)) x (.ins c dx [])) ((V.ref x :: vs).map some) ((T.ins C [] :: ds.map .sh).map some) := by
  refine ⟨fun a o e => ?_, fun a r e => ?_, fun i t e => ?_, by simp [l.len]⟩
  · have h1 : a ≠ x := ne_of_none e (same_none w.same nx)
    have h2 : a ≠ dx := ne_of_none e (same_none w.same ndx)
    rw [upd_ne h1, upd_ne h2]
    exact w.same a o e
  · by_cases h : a = x
    · subst h
      exact ⟨same_none w.same nx, _, upd_same⟩
    · simp [h] at e
  · cases i with
    | zero =>
      simp only [List.map_cons, List.getElem?_cons_zero, Option.some.injEq] at e
      subst e
      exact ⟨.ref x, rfl, x, c, dx, [], rfl, by simp, hc, upd_same, by simp, rfl⟩
    | succ i =>
      simp only [List.map_cons, List.getElem?_cons_succ, List.getElem?_map] at e ⊢
      cases q : ds[i]? with
      | none => rw [q] at e; cases e
      | some d =>
        rw [q] at e
        cases e
        obtain ⟨v, hv, dv⟩ := DenL.get l q
        exact ⟨v, by rw [hv]; rfl, dv⟩
theorem wd_made {x dx : Addr} {o1 o2 : HO} {vs : List (Option V)} (w : Wd K mg P W H σ ρ) (nx : H x = none) (ndx : H dx = none) (st : Step P (fun a => if a = x then some (some 0, none) else none) (upd (upd H dx o1) x o2) P' W' H') (w' : Wd K mg P' W' H' vs os) :
    ∃ W2, Wd K mg P' W2 H' σ ρ ∧ Step P W H P' W2 H' ∧ ∀ t v, RT K mg P' W' H' (some 0) t v → RT K mg P' W2 H' none t v := by
  have old : ∀ a o, H a = some o → H' a = some o ∧ W' a = none ∧ P' a = P a := fun a o e => by
    have h1 : a ≠ x := ne_of_none e nx
    have h2 : a ≠ dx := ne_of_none e ndx
    exact st.2 a o (by rw [upd_ne h1, upd_ne h2]; exact e) (by simp [h1])
  refine ⟨fun a => match W a with
    | some r => some r
    | none => (match W' a with | some (some 0, f) => some (none, f) | _ => none), ⟨w'.same, fun a r e => ?_, fun i t e => ?_, w.len⟩, ⟨st.1, fun a o ho wa => ?_⟩, fun t v hr => ?_⟩
  · cases q : W a with
    | some r' =>
      obtain ⟨h1, o, h2⟩ := w.own a r' q
      obtain ⟨k1, k2, k3⟩ := old a o h2
      exact ⟨k3.trans h1, o, k1⟩
    | none =>
      simp only [q] at e
      split at e
      · rename_i f q2
        exact w'.own a _ q2
      · cases e
  · obtain ⟨v, hs, hr⟩ := w.env i t e
    refine ⟨v, hs, RT.mono st.1 (fun f a ea => ?_) t v hr⟩
    obtain ⟨h1, o, h2⟩ := w.own a _ ea
    obtain ⟨k1, k2, k3⟩ := old a o h2
    exact ⟨by simp only [ea], fun u hu => by rw [h2] at hu; cases hu; exact k1⟩
  · obtain ⟨k1, k2, k3⟩ := old a o ho
    exact ⟨k1, by simp only [wa, k2], k3⟩
  · refine RT.mono (same_refl P') (fun f a ea => ⟨?_, fun _ h => h⟩) t v hr
    cases q : W a with
    | some r' =>
      obtain ⟨h1, o, h2⟩ := w.own a r' q
      obtain ⟨k1, k2, k3⟩ := old a o h2
      rw [k2] at ea
      cases ea
    | none => simp only [ea]
end
section
variable {X : Cx} {E : WX} {C : Tx} {k : Nat} {x : Str} {fn : Fn} {p pos : Pos} {e : Expr} {es : List Expr} {Fs : List EM}
theorem et_new (R : Ini X.prog X.w X.K X.mg X.base k C fn) (hx : x = sT C) (hr : RoomG (k + 1) X.A) (hg : Gl X x) (tk : Takes X E) (ha : EAV X E (e :: es) Fs)
    (hdb : (x == ("__debug__" : Str)) = false := by decide) (he : starEach (e :: es) X.env = (false, eval e X.env) :: starEach es X.env := by rfl) (hpl : (backTo pos (starEach es X.env)).any (·.1) = false := by rfl) : ET X E (.Call (.Name x p) (e :: es) [] pos) (eNew C fn Fs) := by
  subst hx
  obtain ⟨c, f, fd, ps, hT, hm, M, F, hb⟩ := R.ex
  refine PE.imp (pe_makeG (E := WE E) M F hr hg hm hb (fun σ => passAt tk σ) ha hdb he hpl) fun σ H Q ⟨P, W, ρ, w, g⟩ => ?_
  unfold eNew at g
  refine ⟨P, W, ρ, w, (Go.bind g).mono fun vs H1 ⟨P1, W1, a, s1, ⟨w1, k1⟩, g1⟩ => ?_⟩
  intro x dx nx ndx ne
  refine ⟨P1, _, T.ins C [] :: a.1.map .sh, wd_init w1 ⟨hm, hT⟩ nx ndx ne k1, by simp [k1.len], ?_⟩
  cases hf : fn (T.ins C [] :: a.1.map .sh) with
  | fail => rw [hf] at g1; exact g1.elim
  | exc y os =>
    rw [hf] at g1
    intro c' od P' W' H' st w' xr
    obtain ⟨W2, w2, s2, _⟩ := wd_made w1 nx ndx st w'
    exact g1 c' od P' W2 H' s2 w2 xr
  | ok t os =>
    rw [hf] at g1
    intro v P' W' H' st w' rt
    obtain ⟨W2, w2, s2, r2⟩ := wd_made w1 nx ndx st w'
    unfold newR at g1
    split at g1
    · rename_i c0 fs tl q
      cases q
      split at g1
      · rename_i hc
        subst hc
        obtain ⟨v0, hv0, hr0⟩ := w'.env 0 (.ins c0 fs) rfl
        simp only [List.map_cons, List.getElem?_cons_zero, Option.some.injEq] at hv0
        subst hv0
        refine ⟨rt, g1 (.ref x) P' W2 H' s2 ⟨w2, r2 _ _ hr0⟩⟩
      · exact g1.elim
    · rename_i q; cases q
    · exact g1.elim
end
section
variable {Φ : T × Env → Prop} {Ψ : Exn → Env → Prop} {ρ : Env} {ΦD : D × Env → Prop} {ΦS : Fl → Prop} {ΦO : D → Prop} {F : EM}
def newP (C : Tx) (Φ : T × Env → Prop) (ρ : Env) (t : T) (os : Env) : Prop := match t, os with
  | .sh .non, some (.ins c fs) :: _ => c = C ∧ Φ (.ins C fs, ρ)
  | _, _ => False
theorem s_eNew (C : Tx) (fn : Fn) (Fs : List EM) : sat (eNew C fn Fs ρ) Φ Ψ = sat (vL Fs ρ) (fun a => satO (fn (.ins C [] :: a.1.map .sh)) (newP C Φ a.2) (fun x _ => Ψ x a.2)) Ψ := by
  unfold eNew
  rw [sat_bind]
  congr 1; funext a
  rw [eqO]
  generalize fn (T.ins C [] :: a.1.map .sh) = o
  cases o with
  | fail => rfl
  | exc x os => rfl
  | ok t os =>
    show sat (newR C a.2 (.ok t os)) Φ Ψ = newP C Φ a.2 t os
    unfold newR newP
    split
    · rename_i c fs tl q
      cases q
      by_cases hc : c = C
      · rw [if_pos hc]; simp [hc]; rfl
      · rw [if_neg hc]; simp [hc, sat_fail]
    · rename_i q; cases q
    · rename_i h1 h2
      split
      · rename_i c fs tl
        exact absurd rfl (h1 c fs tl)
      · rfl
theorem x_newP (C : Tx) (fs : List (Tx × T1)) (r : Env) (ρ : Env) : newP C Φ ρ (.sh .non) (some (.ins C fs) :: r) = Φ (.ins C fs, ρ) := by simp [newP]
end
end Od
namespace Od
open PySem PySem.Spec L2
open PyProof.Rows hiding St cutD
/-! ### x.m(e, ..), x an instance of the variable's own -/
section
variable {X : Cx} {CX : CXT} {k : Nat} {f C : Addr} {fd : FuncData} {ps : List Str} {sp : Sp} {E : St → XK} {m : Str} {apos pos : Pos} {o e : Expr} {es : List Expr} {ta : TE} {t : TA}
def tMethG (C : Addr) (m : Str) (sp : Sp) (E : St → XK) (ta : TE) (t : TA) : TE := fun σ H Q => ta σ H fun x H1 => ∃ a dx fs, x = .ref a ∧ H1 a = some (.ins C dx fs) ∧ fs.lookup m = none ∧ t σ H1 fun vs H2 => sp (x :: vs) H2 Q (E σ)
theorem pe_methG {pl : Sem Bool} (he : PE X o ta) (c : Cls X.K C) (hm : Meth X.K C m f) (F : FnG X.prog X.w X.K X.mg X.base CX k f fd ps sp) (hr : RoomG k X.A) (hb : Binds X.K fd ps []) (hx : ∀ σ, PassesAt CX X σ (E σ)) (ha : PA X (e :: es) t)
    (hst : starEach (e :: es) X.env = (false, eval e X.env) :: starEach es X.env) (hpl : (backTo pos (starEach es X.env)).any (·.1) = false)
    (ht : eval (.Call (.Attribute o m apos) (e :: es) [] pos) X.env = (do
      let ov ← eval o X.env
      standAt apos.atName
      let (f, first) ← holding [ov] (getMethod ov m pl)
      callWith pos f first (backTo pos (starEach (e :: es) X.env)) (backToKw pos (keywordEach [] X.env)))) :
    PE X (.Call (.Attribute o m apos) (e :: es) [] pos) (tMethG C m sp E ta t) := by
  refine ⟨fun pins s σ H Q I h => ?_⟩
  refine PySem.W.methodCall_KW (pl := pl) (thn (he.run pins s σ H _ I h) fun u s1 ⟨x, H1, I1, rx, a, dx, fs, ex, ea, l, q⟩ => ?_) ht
  subst ex
  obtain rfl : u = Value.ref a := rx
  refine getmeth_ok I1 ea c hm l ?_
  refine PySem.W.callWith_K (first := [.ref a]) (h₀ := X.base) I.ok.mod.kin hm.kp (thn (ha.run pos pins s1 σ H1 _ I1 q) fun us s2 ⟨vs, H2, I2, r, q2⟩ => ⟨I2.kIn, ?_⟩) hst hpl
  exact runG (us := .ref a :: us) (vs := .ref a :: vs) F hr hb (hx σ) I2 (.cons rfl r) q2
theorem pe_methG0 {pl : Sem Bool} (he : PE X o ta) (c : Cls X.K C) (hm : Meth X.K C m f) (F : FnG X.prog X.w X.K X.mg X.base CX k f fd ps sp) (hr : RoomG k X.A) (hb : Binds X.K fd ps []) (hx : ∀ σ, PassesAt CX X σ (E σ))
    (ht : eval (.Call (.Attribute o m apos) [] [] pos) X.env = (do
      let ov ← eval o X.env
      standAt apos.atName
      let (f, first) ← holding [ov] (getMethod ov m pl)
      callWith pos f first (backTo pos (starEach [] X.env)) (backToKw pos (keywordEach [] X.env)))) :
    PE X (.Call (.Attribute o m apos) [] [] pos) (tMethG C m sp E ta tNil) := by
  refine ⟨fun pins s σ H Q I h => ?_⟩
  refine PySem.W.methodCall_KW (pl := pl) (thn (he.run pins s σ H _ I h) fun u s1 ⟨x, H1, I1, rx, a, dx, fs, ex, ea, l, q⟩ => ?_) ht
  subst ex
  obtain rfl : u = Value.ref a := rx
  refine getmeth_ok I1 ea c hm l ?_
  exact PySem.W.callWith_K0 (first := [.ref a]) I1.kIn hm.kp (runG (us := [.ref a]) (vs := [.ref a]) F hr hb (hx σ) I1 (.cons rfl .nil) q)
end
structure CalM (P : Program) (w : World) (K : PySem.W.Frag) (mg : Str → Option Value) (base : Heap) (k : Nat) (C m : Tx) (fn : Fn) : Prop where
  ex : ∃ (c f : Addr) (fd : FuncData) (ps : List Str), Top K C c ∧ Cls K c ∧ Meth K c (sT m) f ∧ FnG P w K mg base (L2.CX P w) k f fd ps (spF K mg fn) ∧ Binds K fd ps []
theorem CalM.mono {P : Program} {w : World} {K : PySem.W.Frag} {mg : Str → Option Value} {base : Heap} {k j : Nat} {C m : Tx} {fn : Fn} (h : CalM P w K mg base k C m fn) (hk : k ≤ j) : CalM P w K mg base j C m fn := by
  obtain ⟨c, f, fd, ps, h1, h2, h3, h4, h5⟩ := h.ex
  exact ⟨c, f, fd, ps, h1, h2, h3, h4.mono hk, h5⟩
def eCallM (C m : Tx) (fn : Fn) (i : Nat) (As : List Arg) : OM := fun ρ => match insOf ρ i C with
  | some fs => (match getF fs m with | none => eCall fn (.io i :: As) ρ | some _ => .fail)
  | none => .fail
/-- x.f += e, both numbers -/
def sAugI (C : Tx) (i : Nat) (f : Tx) (F : EM) : SM := fun ρ => match (insOf ρ i C).bind fun fs => getF fs f with
  | some (.sh (.int n)) => F ρ >>= fun a => Res.of ((intOf a.1).bind fun k => (insOf a.2 i C).bind fun fs => if fs.length < 900 then some (a.2.set i (some (.ins C (putT fs f (.sh (.int (n + k))))))) else none) >>= fun ρ1 => .ok (.nx ρ1)
  | _ => .fail
section
variable {K : PySem.W.Frag} {mg : Str → Option Value} {P P' H H' : Hp} {W W' : Own} {r : Option Nat}
theorem RF.getN : ∀ {fs : List (Tx × T1)} {ws : List (Str × V)} {k : Tx}, RF K P W H r fs ws → getF fs k = Option.none → ws.lookup (sT k) = Option.none
  | [], ws, k, h, e => by cases h; rfl
  | (j, u) :: fs, ws, k, h, e => by
    obtain ⟨v, w, rfl, h1, h2⟩ := h
    unfold getF at e
    by_cases hj : j = k
    · rw [if_pos hj] at e; cases e
    · rw [if_neg hj] at e
      simp [List.lookup, beq_sT (fun z => hj z.symm), RF.getN h2 e]
end
section
variable {X : Cx} {E : WX} {C m f : Tx} {fl : List Tx} {i k : Nat} {x n : Str} {fn : Fn} {p1 apos pos pos' : Pos} {e : Expr} {es : List Expr} {As : List Arg} {F : EM} {md : List Bool}
theorem meth_red {σ : St} {H : Hp} {Q : VK} {c : Addr} (hT : Top X.K C c) (h : rX X.K X.mg E (TRel X.K X.mg) (eCallM C m fn i As) σ H Q) : tMethG c (sT m) (spF X.K X.mg fn) (WE E) (tVar i) (rX X.K X.mg E (ARel X.K X.mg As) (aL As)) σ H Q := by
  obtain ⟨P, W, ρ, w, g⟩ := h
  unfold eCallM at g
  split at g
  · rename_i fs e1
    split at g
    · rename_i e2
      obtain ⟨a, c', dx, ws, h1, h2, h3, h4, nd, l, hi⟩ := w.insAt e1
      obtain rfl := top_inj h3.2 hT
      refine ⟨_, h1, a, dx, ws, rfl, h4, RF.getN l e2, P, W, ρ, w, ?_⟩
      unfold eCall at g
      by_cases n : nodupB (iosOf (.io i :: As)) = true
      · rw [if_pos n] at g
        have ea : aL (.io i :: As) ρ = (aL As ρ >>= fun r => .ok (Option.none :: r.1, r.2)) := by
          show (match ρ[i]? with | some (some _) => _ | _ => _) = _
          rw [insOf_some e1]
        rw [ea] at g
        have g0 : Go X.K X.mg E (TRel X.K X.mg) (aL As ρ >>= fun r => Res.of (mkT (.io i :: As) (Option.none :: r.1) r.2) >>= fun ts => match fn ts with
          | .ok t os => Res.ok (t, putB (.io i :: As) os r.2)
          | .exc x os => .exc x (putB (.io i :: As) os r.2)
          | .fail => .fail) P W H σ Q := by
          cases q : aL As ρ with
          | ok r => rw [q] at g; exact g
          | exc x ρ' => rw [q] at g; exact g
          | fail => rw [q] at g; exact g
        refine (Go.bind g0).mono fun vs H1 ⟨P1, W1, b, s1, ⟨w1, k1⟩, g1⟩ => ?_
        obtain ⟨ts, mk, g2⟩ := Go.of g1
        have k2 : AOk X.K P1 σ (.io i :: As) (Option.none :: b.1) (.ref a :: vs) := ⟨b.1, .ref a, vs, rfl, rfl, h1, k1⟩
        refine ⟨P1, ownIn (.io i :: As) W1, ts, w1.callee n k2 mk, (args_env k2 mk).1, ?_⟩
        cases hf : fn ts with
        | ok t os =>
          rw [hf] at g2
          exact fun v P' W' H' st w' rt => by
            obtain ⟨wb, sb, rb⟩ := w1.back n k2 st w'
            exact g2 v P' _ H' sb ⟨wb, rb t v rt⟩
        | exc x os =>
          rw [hf] at g2
          exact fun c od P' W' H' st w' xr => by
            obtain ⟨wb, sb, rb⟩ := w1.back n k2 st w'
            exact g2 c od P' _ H' sb wb xr
        | fail => rw [hf] at g2; exact g2.elim
      · rw [if_neg n] at g; exact g.elim
    · exact g.elim
  · exact g.elim
theorem et_meth {pl : Sem Bool} (R : CalM X.prog X.w X.K X.mg X.base k C m fn) (hn : n = sT m) (hr : RoomG k X.A) (tk : Takes X E) (hN : X.N[i]? = some x) (hv : Vis X.env.scope x) (ha : EAA X E (e :: es) As) (hd : (x == ("__debug__" : Str)) = false := by decide) (hcd : (x == ("__classdict__" : Str)) = false := by decide)
    (hst : starEach (e :: es) X.env = (false, eval e X.env) :: starEach es X.env := by rfl) (hpl : (backTo pos (starEach es X.env)).any (·.1) = false := by rfl)
    (ht : eval (.Call (.Attribute (.Name x p1) n apos) (e :: es) [] pos) X.env = (do
      let ov ← eval (.Name x p1) X.env
      standAt apos.atName
      let (f, first) ← holding [ov] (getMethod ov n pl)
      callWith pos f first (backTo pos (starEach (e :: es) X.env)) (backToKw pos (keywordEach [] X.env))) := by rfl) :
    ET X E (.Call (.Attribute (.Name x p1) n apos) (e :: es) [] pos) (eCallM C m fn i As) := by
  subst hn
  obtain ⟨c, f, fd, ps, hT, hc, hm, F, hb⟩ := R.ex
  exact PE.imp (pe_methG (E := WE E) (pe_var hN hv hd hcd) hc hm F hr hb (fun σ => passAt tk σ) ha hst hpl ht) fun σ H Q h => meth_red hT h
theorem et_meth0 {pl : Sem Bool} (R : CalM X.prog X.w X.K X.mg X.base k C m fn) (hn : n = sT m) (hr : RoomG k X.A) (tk : Takes X E) (hN : X.N[i]? = some x) (hv : Vis X.env.scope x) (hd : (x == ("__debug__" : Str)) = false := by decide) (hcd : (x == ("__classdict__" : Str)) = false := by decide)
    (ht : eval (.Call (.Attribute (.Name x p1) n apos) [] [] pos) X.env = (do
      let ov ← eval (.Name x p1) X.env
      standAt apos.atName
      let (f, first) ← holding [ov] (getMethod ov n pl)
      callWith pos f first (backTo pos (starEach [] X.env)) (backToKw pos (keywordEach [] X.env))) := by rfl) :
    ET X E (.Call (.Attribute (.Name x p1) n apos) [] [] pos) (eCallM C m fn i []) := by
  subst hn
  obtain ⟨c, f, fd, ps, hT, hc, hm, F, hb⟩ := R.ex
  refine PE.imp (pe_methG0 (E := WE E) (pe_var hN hv hd hcd) hc hm F hr hb (fun σ => passAt tk σ) ht) fun σ H Q h => ?_
  obtain ⟨v, h1, a, dx, fs, e1, e2, e3, P, W, ρ, w, g⟩ := meth_red hT h
  have g1 := g [] P W H (Step.refl P W H) ⟨w, rfl, rfl⟩
  exact ⟨v, h1, a, dx, fs, e1, e2, e3, g1⟩
theorem sd_augI (R : ClsI X.K X.mg C fl) (hf : f ∈ fl) (hn : n = sT f) (hN : X.N[i]? = some x) (hv : Vis X.env.scope x) (he : EV X E e F) (hd : (x == ("__debug__" : Str)) = false := by decide) (hcd : (x == ("__classdict__" : Str)) = false := by decide) :
    SD X E md (.AugAssign (.Attribute (.Name x p1) n pos') .Add e pos) (sAugI C i f F) := by
  subst hn
  refine PS.imp (ps_fldaug (pe_var hN hv hd hcd) he in_add) fun D σ H ⟨P, W, ρ, w, g⟩ => ?_
  unfold sAugI at g
  split at g
  · rename_i k0 e0
    obtain ⟨fs0, e1, e2⟩ := Option.bind_eq_some_iff.mp e0
    obtain ⟨a, c, dx, ws, h1, h2, h3, h4, nd, l, hi⟩ := w.insAt e1
    obtain ⟨c', t', _, ec, hna⟩ := R.ex
    obtain rfl := top_inj h3.2 t'
    obtain ⟨v0, hv0, dv0⟩ := RF.getL l e2
    have dv0 : Den X.K P (.int k0) v0 := dv0
    unfold Den at dv0
    refine ⟨_, h1, a, c, dx, ws, v0, rfl, h4, ec, hna f hf, hv0, ?_⟩
    refine ⟨P, W, ρ, w, (GoS.val (Rel := VRel X.K X.mg) g).mono fun u H1 ⟨P1, W1, b, s1, ⟨w1, db⟩, g1⟩ => ?_⟩
    obtain ⟨ρ2, e3, g2⟩ := GoS.of g1
    obtain ⟨j, e4, e5⟩ := Option.bind_eq_some_iff.mp e3
    obtain ⟨fs, e6, e7⟩ := Option.bind_eq_some_iff.mp e5
    have hj : b.1 = .int j := by
      revert e4
      cases b.1 <;> intro z <;> first | (cases z; rfl) | cases z
    rw [hj] at db
    unfold Den at db
    split at e7
    · rename_i hlen
      cases e7
      obtain ⟨a', c', dx', ws', k1, k2, k3, k4, nd', l', hi'⟩ := w1.insAt e6
      rw [h1] at k1
      cases k1
      obtain rfl := top_inj k3.2 h3.2
      refine ⟨k0, j, dv0, db, dx', ws', k4, by rw [RF.len l']; omega, ?_⟩
      have l2 := RF.putT (k := f) (t := .sh (.int (k0 + j))) (v := .int (k0 + j)) (show Den X.K P1 _ _ from by unfold Den; rfl) l'
      have l3 : RF X.K P1 W1 (upd H1 a (.ins c' dx' (putF (sT f) (.int (k0 + j)) ws'))) (some i) (putT fs f (.sh (.int (k0 + j)))) (putF (sT f) (.int (k0 + j)) ws') := RF.mono (same_refl P1) (fun g y hy => ⟨hy, fun o ho => by
        have : y ≠ a := fun z => by subst z; rw [k2] at hy; cases hy
        rw [upd_ne this]; exact ho⟩) _ _ l2
      obtain ⟨w2, s2⟩ := w1.mutF (mg := X.mg) (o := .ins c' dx' (putF (sT f) (.int (k0 + j)) ws')) (t := .ins C (putT fs f (.sh (.int (k0 + j))))) hi' h1 k2 ⟨a, c', dx', _, rfl, k2, k3, upd_same, putT_nd nd', l3⟩
      exact g2 σ P1 W1 _ s2 w2 (Kp.refl md σ)
    · cases e7
  · exact g.elim
end
section
variable {Φ : T × Env → Prop} {ΦD : D × Env → Prop} {Ψ : Exn → Env → Prop} {ρ : Env} {ΦS : Fl → Prop} {F : EM} {x : Option T} {ΦF : List (Tx × T1) → Prop} {ΦT1 : T1 → Prop} {i : Nat} {C : Tx} {ΦO : D → Prop}
theorem k_ins0 (fs : List (Tx × T1)) : ex (insOf (some (.ins C fs) :: ρ) 0 C) ΦF = ΦF fs := by show ex (if C = C then some fs else none) ΦF = _; rw [if_pos rfl]; rfl
theorem k_inss : ex (insOf (x :: ρ) (i + 1) C) ΦF = ex (insOf ρ i C) ΦF := rfl
/-- a part, by its name -/
def getS (fs : List (Tx × T1)) (f : Tx) : Option D := match getF fs f with
  | some (.sh d) => some d
  | _ => none
theorem k_getS1 (f : Tx) (d : D) (fs : List (Tx × T1)) : ex (getS ((f, .sh d) :: fs) f) ΦO = ΦO d := by unfold getS getF; rw [if_pos rfl]; rfl
theorem k_getS2 (f g : Tx) (t : T1) (fs : List (Tx × T1)) (h : decide (g = f) = false) : ex (getS ((g, t) :: fs) f) ΦO = ex (getS fs f) ΦO := by unfold getS; rw [show getF ((g, t) :: fs) f = getF fs f from by rw [getF, if_neg (of_decide_eq_false h)]]
theorem s_sFldI (C : Tx) (i : Nat) (f : Tx) : sat (sFldI C i f F ρ) ΦS Ψ = sat (F ρ) (fun a => ex (insOf a.2 i C) fun fs => fs.length < 900 ∧ cps (List.set a.2 i (some (.ins C (putT fs f (.sh a.1))))) fun r => ΦS (.nx r)) Ψ := by
  unfold sFldI
  rw [sat_bind]; congr 1; funext a
  rw [sat_bind, sat_of, ex_bind]; congr 1; funext fs
  rw [ex_ite]; rfl
theorem s_sAugI (C : Tx) (i : Nat) (f : Tx) : sat (sAugI C i f F ρ) ΦS Ψ = ex (insOf ρ i C) fun fs0 => ex (getS fs0 f) fun d => ex (intOf d) fun n => sat (F ρ) (fun a => ex (intOf a.1) fun k => ex (insOf a.2 i C) fun fs => fs.length < 900 ∧ cps (List.set a.2 i (some (.ins C (putT fs f (.sh (.int (n + k))))))) fun r => ΦS (.nx r)) Ψ := by
  unfold sAugI getS
  cases insOf ρ i C with
  | none => rfl
  | some fs =>
    show sat (match getF fs f with | some (.sh (.int n)) => _ | _ => .fail) ΦS Ψ = ex (match getF fs f with | some (.sh d) => some d | _ => none) _
    cases getF fs f with
    | none => rfl
    | some t =>
      cases t with
      | sh d =>
        cases d with
        | int n =>
          show sat (F ρ >>= _) ΦS Ψ = sat (F ρ) _ Ψ
          rw [sat_bind]; congr 1; funext a
          rw [sat_bind, sat_of, ex_bind]; congr 1; funext k
          rw [ex_bind]; congr 1; funext fs
          rw [ex_ite]; rfl
        | _ => rfl
      | _ => rfl
theorem s_eCallM (C m : Tx) (fn : Fn) (i : Nat) (As : List Arg) : sat (eCallM C m fn i As ρ) Φ Ψ = ex (insOf ρ i C) fun fs => getF fs m = none ∧ sat (eCall fn (.io i :: As) ρ) Φ Ψ := by
  unfold eCallM
  cases insOf ρ i C with
  | none => rfl
  | some fs =>
    show sat (match getF fs m with | none => _ | some _ => .fail) Φ Ψ = (getF fs m = none ∧ _)
    cases getF fs m with
    | none => simp
    | some t => simp [sat_fail]
theorem x_fldO (C f : Tx) (ks : List Tx) (vs : List D) : ex (fFldO C f (.obj C ks vs)) ΦO = ex (lkX ks vs f) ΦO := by show ex (if C = C then lkX ks vs f else none) ΦO = _; rw [if_pos rfl]
end
end Od
namespace Od
open PySem PySem.Spec L2
open PyProof.Rows hiding St cutD
/-! ### xs.remove(e), flat things -/
section
variable {X : Cx}
end
section
variable {K : PySem.W.Frag} {P : Hp}
end
/-! ### xs.index(e), flat things; t.index(e) of texts -/
/-! ### xs.count(e), flat things -/
section
variable {X : Cx}
end
/-! ### s.split(sep) -/
section
variable {Φ : D → Prop} {ΦL : List D → Prop}
end
end Od
namespace Od
open PySem PySem.Spec L2
open PyProof.Rows hiding St cutD
/-! ### range(i, j, 2) -/
/-! ### the order of numbers -/
end Od
namespace Od
open PySem PySem.Spec L2
open PyProof.Rows hiding St cutD
/-! ### for a look all that is owned is lent: the value is a scalar, and all comes back -/
def frzO : Option T → Option T
  | some t => (frzT t).map .sh
  | Option.none => Option.none
def frzE (ρ : Env) : Env := ρ.map frzO
def scalD : D → Bool
  | .int _ => true
  | .bl _ => true
  | .non => true
  | .str _ => true
  | _ => false
def eLend (F : EM) : EM := fun ρ => match F (frzE ρ) with
  | .ok a => if scalD a.1 then .ok (a.1, ρ) else .fail
  | _ => .fail
def lendP (P H : Hp) (W : Own) : Hp := fun a => if (W a).isSome then H a else P a
def lendW : Own := fun _ => Option.none
section
variable {K : PySem.W.Frag} {mg : Str → Option Value} {P P' H H' : Hp} {W W' : Own} {σ : St} {ρ : Env}
theorem den_scal {d : D} {v : V} (h : scalD d = true) (g : Den K P d v) : Den K P' d v := by
  cases d <;> first | (unfold Den at g ⊢; exact g) | cases h
theorem lend_same (w : Wd K mg P W H σ ρ) : Same P (lendP P H W) := fun a u e => by
  unfold lendP
  cases h : W a with
  | none => exact e
  | some r => have := (w.own a r h).1; rw [e] at this; cases this
theorem lend_at {a : Addr} {r : Option Nat × Option Tx} (e : W a = some r) : lendP P H W a = H a := by unfold lendP; rw [e]; rfl
theorem Wd.lend (w : Wd K mg P W H σ ρ) : Wd K mg (lendP P H W) lendW H σ (frzE ρ) := by
  have sm := lend_same w
  refine ⟨fun a u e => ?_, fun a r e => (by unfold lendW at e; exact absurd e (by simp)), fun i t e => ?_, by unfold frzE; rw [List.length_map]; exact w.len⟩
  · unfold lendP at e
    split at e
    · exact e
    · exact w.same a u e
  · unfold frzE at e
    rw [List.getElem?_map] at e
    obtain ⟨o, ho, e⟩ := Option.map_eq_some_iff.mp e
    cases o with
    | none => cases e
    | some t0 =>
      obtain ⟨d, hd, rfl⟩ := Option.map_eq_some_iff.mp (show (frzT t0).map T.sh = some t from e)
      obtain ⟨v, hs, hr⟩ := w.env i t0 ho
      refine ⟨v, hs, ?_⟩
      show Den K (lendP P H W) d v
      cases t0 with
      | sh d' => cases hd; exact Den.mono sm _ v hr
      | lst ds =>
        cases hd
        obtain ⟨a, vs, e, hw, hh, l⟩ := hr
        unfold Den
        exact ⟨a, vs, e, by rw [lend_at hw]; exact hh, DenL.mono sm ds vs l⟩
      | dct ks ds =>
        cases hd
        obtain ⟨a, ws, e, hw, hh, k, l⟩ := hr
        unfold Den
        exact ⟨a, ws, e, by rw [lend_at hw]; exact hh, k, DenL.mono sm ds _ l⟩
      | rcd fs => cases hd
      | ins C fs =>
        obtain ⟨p, hp, rfl⟩ := Option.map_eq_some_iff.mp (show (shs fs).map (fun p => D.obj C p.1 p.2) = some d from hd)
        obtain ⟨a, c, dx, ws, e, hw, hc, hh, nd, l⟩ := hr
        obtain ⟨k1, k2⟩ := RF.shs l hp
        unfold Den
        exact ⟨a, c, dx, ws, e, hc.2, by rw [lend_at hw]; exact hh, k1, DenL.mono sm _ _ k2⟩
      | seq b ts =>
        have hd := Option.some.inj (show some (if b then D.tup (ts.map d1) else .lst (ts.map d1)) = some d from hd)
        subst hd
        obtain ⟨a, vs, rfl, hw, hh, l⟩ := hr
        exact seq_den (by rw [lend_at hw]; exact hh) (RI.den sm (fun x f e => lend_at e) l)
theorem Wd.lent (w : Wd K mg P W H σ ρ) (st : Step (lendP P H W) lendW H P' W' H') : Wd K mg P W H' σ ρ ∧ Step P W H P W H' := by
  have keep : ∀ a u, H a = some u → H' a = some u := fun a u h => (st.2 a u h rfl).1
  refine ⟨⟨fun a u e => keep a u (w.same a u e), fun a r e => ?_, fun i t e => ?_, w.len⟩, same_refl P, fun a u h wa => ⟨keep a u h, wa, rfl⟩⟩
  · obtain ⟨h1, u, h2⟩ := w.own a r e
    exact ⟨h1, u, keep a u h2⟩
  · obtain ⟨v, hs, hr⟩ := w.env i t e
    exact ⟨v, hs, RT.mono (same_refl P) (fun f a e => ⟨e, fun o h => keep a o h⟩) t v hr⟩
end
section
variable {X : Cx} {E : WX} {e : Expr}
theorem ev_lend {F : EM} (h : EV X E e F) : EV X E e (eLend F) := PE.imp h fun σ H Q ⟨P, W, ρ, w, g⟩ => by
  unfold eLend at g
  refine ⟨lendP P H W, lendW, frzE ρ, w.lend, ?_⟩
  cases hF : F (frzE ρ) with
  | fail => rw [hF] at g; exact g.elim
  | exc x r => rw [hF] at g; exact g.elim
  | ok a =>
    rw [hF] at g
    intro v P' W' H' st hv
    obtain ⟨wb, sb⟩ := w.lent st
    by_cases hs : scalD a.1 = true
    · simp only [hs, if_true] at g
      exact g v P W H' sb ⟨wb, den_scal hs hv.2⟩
    · simp only [hs] at g
      exact g.elim
end
section
variable {ρ : Env} {Φ : D × Env → Prop} {ΦB : Bool × Env → Prop} {Ψ : Exn → Env → Prop} {ΦE : Env → Prop} {ΦO : Option T → Prop}
theorem s_lend (F : EM) : sat (eLend F ρ) Φ Ψ = cps (frzE ρ) fun ρ0 => sat (F ρ0) (fun a => scalD a.1 = true ∧ Φ (a.1, ρ)) (fun _ _ => False) := by
  unfold eLend
  show _ = sat (F (frzE ρ)) _ _
  generalize F (frzE ρ) = z
  cases z with
  | fail => rfl
  | exc x r => rfl
  | ok a =>
    show sat (if scalD a.1 = true then _ else _) Φ Ψ = (scalD a.1 = true ∧ Φ (a.1, ρ))
    by_cases hs : scalD a.1 = true
    · rw [if_pos hs]; exact (propext ⟨fun h => ⟨hs, h⟩, fun h => h.2⟩)
    · rw [if_neg hs]; exact (propext ⟨fun h => h.elim, fun h => hs h.1⟩)
theorem c_frz0 : cps (frzE []) ΦE = ΦE [] := rfl
theorem c_frz1 (o : Option T) : cps (frzE (o :: ρ)) ΦE = cps (frzO o) fun o' => cps (frzE ρ) fun r => ΦE (o' :: r) := rfl
theorem c_frzn : cps (frzO Option.none) ΦO = ΦO Option.none := rfl
theorem c_frzs (d : D) : cps (frzO (some (.sh d))) ΦO = ΦO (some (.sh d)) := rfl
theorem c_frzl (ds : List D) : cps (frzO (some (.lst ds))) ΦO = ΦO (some (.sh (.lst ds))) := rfl
theorem c_frzd (ks : List DK) (ds : List D) : cps (frzO (some (.dct ks ds))) ΦO = ΦO (some (.sh (.dct ks ds))) := rfl
theorem c_frzr (fs : List (Tx × T1)) : cps (frzO (some (.rcd fs))) ΦO = ΦO Option.none := rfl
theorem x_sci (i : Int) : (scalD (.int i) = true) = True := by simp [scalD]
theorem x_scb (i : Bool) : (scalD (.bl i) = true) = True := by simp [scalD]
theorem x_scs (s : Tx) : (scalD (.str s) = true) = True := by simp [scalD]
theorem x_scn : (scalD .non = true) = True := by simp [scalD]
end
end Od
namespace Od
open PySem PySem.Spec L2
open PyProof.Rows hiding St cutD
/-! ### xs[e] += e', xs a list of the variable's own, numbers -/
section
variable {X : Cx}
end
section
variable {X : Cx} {E : WX} {md : List Bool} {i : Nat} {x : Str} {e e2 : Expr} {B F : EM} {pos p1 p2 : Pos}
end
section
variable {ΦS : Fl → Prop} {Ψ : Exn → Env → Prop} {ρ : Env} {F B : EM}
end
end Od
/-! sorted(t) of a tuple -/
namespace PySem.W
open PySem PySem.Calls PyProof.Rows PyProof.V PySem.Spec
section
variable {prog : Program} {w : World} {A : Around} {E : Value → Shared → Prop} {s : Shared}
end
end PySem.W
namespace Od
open PySem PySem.Spec L2
open PyProof.Rows hiding St cutD
/-! ### x += y, numbers or texts -/
/-! ### s.index(y) -/
def mIdxS : D → List D → Option D
  | .str a, [.str b] => (Txt.index0 (sT a) (sT b)).map fun k => .int (k : Nat)
  | _, _ => none
def rIdxS : V → List V → Hp → VK → Prop := fun x xs H Q => ∃ (a b : Str) (k : Nat), x = .str a ∧ xs = [.str b] ∧ Txt.index0 a b = some k ∧ Q (.int (k : Nat)) H
theorem mt_idxS {X : Cx} : MtR X "str.index" rIdxS := by
  intro pins s σ H x xs v us Q I rx rs h
  obtain ⟨a, b, k, rfl, rfl, hk, w⟩ := h
  obtain ⟨t, rfl⟩ := rx
  obtain ⟨u, rfl, r1⟩ := vals1 rs
  obtain ⟨z, rfl⟩ := r1
  unfold Txt.index0 at hk
  cases q : Builtin.Str.occurrences a b 0 a.length 1 with
  | nil => rw [q] at hk; cases hk
  | cons j rest =>
    rw [q] at hk
    obtain rfl : j = k := Option.some.inj hk
    exact PySem.SC.index q ⟨.int (j : Nat), H, I.tok _, ⟨_, rfl⟩, w⟩
theorem f_idxS {K : PySem.W.Frag} : MtV K rIdxS mIdxS := fun P H x vs d ds res Q s v1 v2 hf q => by
  unfold mIdxS at hf
  split at hf
  · obtain ⟨k, hk, rfl⟩ := Option.map_eq_some_iff.mp hf
    obtain ⟨v, rfl, h⟩ := vl1 v2
    exact ⟨_, _, k, vstr v1, by rw [vstr h], hk, q _ P H (Al.refl s) dint⟩
  · cases hf
theorem x_idxS (a b : Tx) {Φ : D → Prop} : ex (mIdxS (.str a) [.str b]) Φ = ex (Txt.index0 (sT a) (sT b)) fun k => Φ (.int (k : Nat)) := by show ex (Option.map _ _) _ = _; rw [ex_map]
end Od
namespace Od
open PySem PySem.Spec L2
open PyProof.Rows hiding St cutD
/-! ### constants: tuples of tuples of texts -/
section
variable {K : PySem.W.Frag} {mg : Str → Option Value} {x : Str}
end
end Od
namespace Od
open PySem PySem.Spec L2
open PyProof.Rows hiding St cutD
/-! ### own lists and tuples with own parts -/
def upT : T1 → T
  | .sh d => .sh d
  | .lst ds => .lst ds
  | .dct ks ds => .dct ks ds
def toT1 : T → Option T1
  | .sh d => some (.sh d)
  | .lst ds => some (.lst ds)
  | .dct ks ds => some (.dct ks ds)
  | _ => Option.none
theorem toT1_up {t : T} {u : T1} (h : toT1 t = some u) : t = upT u := by
  cases t <;> first | (cases h; rfl) | cases h
theorem up_root (u : T1) : rootT (upT u) = true := by cases u <;> rfl
def seqM (b : Bool) : List OM → List T1 → OM
  | [], q, ρ => if q.length ≤ 1000000 then .ok (.seq b q, ρ) else .fail
  | A :: r, q, ρ => A ρ >>= fun a => Res.of (toT1 a.1) >>= fun t => seqM b r (q ++ [t]) a.2
def tSeq (b : Bool) (As : List OM) : OM := seqM b As []
section
variable {K : PySem.W.Frag} {mg : Str → Option Value} {E : WX} {P P' H H' : Hp} {W W' : Own} {σ : St} {ρ : Env} {t : T} {v : V} {r : Option Nat}
theorem Pend.r1 {u : T1} {f : Option Tx} (h : Pend K P W H (upT u) v) (k : ∀ x, RootAt (upT u) v x → W' x = some (r, f)) : R1 K P W' H r f u v := by
  cases u with
  | sh d => exact h
  | lst ds =>
    obtain ⟨c, vs, e, hw, hp, hh, l⟩ := h
    exact ⟨c, vs, e, k c e, hh, l⟩
  | dct ks ds =>
    obtain ⟨c, ws, e, hw, hp, hh, kk, l⟩ := h
    exact ⟨c, ws, e, k c e, hh, kk, l⟩
theorem R1.pend {u : T1} {f : Option Tx} (w : Wd K mg P W H σ ρ) (h : R1 K P W H r f u v) (k : ∀ x, W x = some (r, f) → W' x = none) : Pend K P W' H (upT u) v := by
  cases u with
  | sh d => exact h
  | lst ds =>
    obtain ⟨c, vs, e, hw, hh, l⟩ := h
    exact ⟨c, vs, e, k c hw, (w.own c _ hw).1, hh, l⟩
  | dct ks ds =>
    obtain ⟨c, ws, e, hw, hh, kk, l⟩ := h
    exact ⟨c, ws, e, k c hw, (w.own c _ hw).1, hh, kk, l⟩
theorem adoptI : ∀ (q : List (T1 × V)) (n : Nat) {W : Own}, Wd K mg P W H σ ρ → (∀ p ∈ q, Pend K P W H (upT p.1) p.2) → q.Pairwise (fun a b => ∀ x, RootAt (upT a.1) a.2 x → ¬ RootAt (upT b.1) b.2 x) →
    ∃ W', Wd K mg P W' H σ ρ ∧ RI K P W' H none n (q.map Prod.fst) (q.map Prod.snd) ∧ (∀ x, W x = none → (∀ p ∈ q, ¬ RootAt (upT p.1) p.2 x) → W' x = none) ∧ ∀ x r, W x = some r → W' x = some r
  | [], n, W, w, _, _ => ⟨W, w, rfl, fun x h _ => h, fun x r h => h⟩
  | p :: q, n, W, w, hp, hd => by
    rw [List.pairwise_cons] at hd
    have h1 := hp p List.mem_cons_self
    classical
    let W1 : Own := fun a => if RootAt (upT p.1) p.2 a then some (none, some [n]) else W a
    have w1 : Wd K mg P W1 H σ ρ := ⟨w.same, fun a r e => by
      by_cases hr : RootAt (upT p.1) p.2 a
      · exact (h1.root hr).2
      · simp only [W1, if_neg hr] at e
        exact w.own a r e, fun j t' ej => by
      obtain ⟨v', hs', hr'⟩ := w.env j t' ej
      refine ⟨v', hs', RT.mono (same_refl P) (fun f x ex => ⟨?_, fun _ h => h⟩) t' v' hr'⟩
      have nr : ¬ RootAt (upT p.1) p.2 x := fun z => by rw [(h1.root z).1] at ex; cases ex
      simp only [W1, if_neg nr, ex], w.len⟩
    obtain ⟨W2, w2, ri, n2, k2⟩ := adoptI q (n + 1) w1 (fun p' hp' => (hp p' (List.mem_cons_of_mem p hp')).own fun x hx => by
      have nr : ¬ RootAt (upT p.1) p.2 x := fun z => hd.1 p' hp' x z hx
      simp only [W1, if_neg nr]
      exact ((hp p' (List.mem_cons_of_mem p hp')).root hx).1) hd.2
    refine ⟨W2, w2, ⟨p.2, q.map Prod.snd, rfl, h1.r1 fun x hx => k2 x _ (by simp only [W1, if_pos hx]), ri⟩, fun x hx hn => n2 x (by
      have nr := hn p List.mem_cons_self
      simp only [W1, if_neg nr]
      exact hx) fun p' hp' => hn p' (List.mem_cons_of_mem p hp'), fun x r hx => k2 x r ?_⟩
    have nr : ¬ RootAt (upT p.1) p.2 x := fun z => by rw [(h1.root z).1] at hx; cases hx
    simp only [W1, if_neg nr, hx]
/-- the parts one by one -/
def rOM (K : PySem.W.Frag) (mg : Str → Option Value) (E : WX) : List OM → St → Hp → (List V → Hp → Prop) → Prop
  | [], σ, H, Q => Q [] H
  | A :: r, σ, H, Q => rX K mg E (TRel K mg) A σ H fun v H1 => rOM K mg E r σ H1 fun vs H2 => Q (v :: vs) H2
theorem rOM.mono : ∀ (Bs : List OM) {H : Hp} {Q Q' : List V → Hp → Prop}, rOM K mg E Bs σ H Q → (∀ vs H2, Q vs H2 → Q' vs H2) → rOM K mg E Bs σ H Q'
  | [], H, Q, Q', h, q => q _ _ h
  | b :: Bs, H, Q, Q', ⟨P1, W1, ρ1, w1, go⟩, q => ⟨P1, W1, ρ1, w1, go.mono fun v H1 h => rOM.mono Bs h fun vs H2 => q (v :: vs) H2⟩
theorem seq_core {b : Bool} {P0 H0 : Hp} {W0 : Own} {Q : VK} : ∀ (As : List OM) (q : List (T1 × V)) {P H : Hp} {W : Own} {ρ : Env}, Wd K mg P W H σ ρ → Step P0 W0 H0 P W H →
    (∀ p ∈ q, Pend K P W H (upT p.1) p.2 ∧ ∀ x, RootAt (upT p.1) p.2 x → ¬ ∃ o, H0 x = some o ∧ W0 x = none) → q.Pairwise (fun a b => ∀ x, RootAt (upT a.1) a.2 x → ¬ RootAt (upT b.1) b.2 x) →
    Go K mg E (TRel K mg) (seqM b As (q.map Prod.fst) ρ) P0 W0 H0 σ Q →
    rOM K mg E As σ H fun vs H2 => q.length + vs.length ≤ 1000000 ∧ ∀ p, H2 p = none → Q (.ref p) (upd H2 p (sqO b (q.map Prod.snd ++ vs)))
  | [], q, P, H, W, ρ, w, st, hp, hd, g => by
    unfold seqM at g
    split at g
    · rename_i hl
      obtain ⟨W6, w6, ri, n6, k6⟩ := adoptI q 0 w (fun p h => (hp p h).1) hd
      refine ⟨by simpa using hl, fun p hn => ?_⟩
      obtain ⟨w7, s7⟩ := w6.newT (o := sqO b (q.map Prod.snd ++ [])) hn
      refine g (.ref p) P _ _ (Step.trans ⟨st.1, fun x o hx wx => ?_⟩ s7) ⟨w7, p, _, rfl, by unfold ownNew; rw [if_pos rfl], upd_same, ?_⟩
      · obtain ⟨a1, a2, a3⟩ := st.2 x o hx wx
        exact ⟨a1, n6 x a2 fun p' h z => (hp p' h).2 x z ⟨o, hx, wx⟩, a3⟩
      · rw [List.append_nil]
        refine RI.mono (same_refl P) (fun f a ha => ?_) 0 _ _ ri
        have ha' : a ≠ p := fun z => by
          subst z
          obtain ⟨_, o, ho⟩ := w6.own a _ ha
          rw [hn] at ho
          cases ho
        exact ⟨by unfold ownNew; rw [if_neg ha']; exact ha, fun o h => by rw [upd_ne ha']; exact h⟩
    · exact g.elim
  | A :: As, q, P, H, W, ρ, w, st, hp, hd, g => by
    unfold seqM at g
    refine ⟨P, W, ρ, w, ?_⟩
    cases hA : A ρ with
    | fail => rw [hA] at g; exact g.elim
    | exc e ρ' => rw [hA] at g; exact fun c od P' W' H' s w' r => g c od P' W' H' (st.trans s) w' r
    | ok r =>
      rw [hA, ok_bind] at g
      intro v P1 W1 H1 st1 ⟨w1, r1⟩
      obtain ⟨u, hu, g⟩ := Go.of g
      have e := toT1_up hu
      rw [e] at r1
      obtain ⟨W2, w2, st2, pd, nr⟩ := w1.pend r1 (up_root u)
      have all := (st.trans st1).trans st2
      have rcc := seq_core As (q ++ [(u, v)]) w2 all (fun p h => by
        rcases List.mem_append.mp h with h | h
        · exact ⟨((hp p h).1.step st1).step st2, (hp p h).2⟩
        · rw [List.mem_singleton.mp h]
          exact ⟨pd, fun x hx ⟨o, h1, h2⟩ => nr x hx ((st.trans st1).2 x o h1 h2).2.1⟩) (List.pairwise_append.mpr ⟨hd, List.pairwise_singleton _ _, fun a ha b hb x hx => by
        rw [List.mem_singleton.mp hb]
        exact fun z => nr x z (((hp a ha).1.step st1).root hx).1⟩) (by simpa using g)
      refine rOM.mono As rcc fun vs H2 ⟨h1, h2⟩ => ⟨by simp at h1 ⊢; omega, fun p hn => ?_⟩
      have := h2 p hn
      simpa [List.append_assoc] using this
theorem RI.len : ∀ {n : Nat} {ts : List T1} {vs : List V}, RI K P W H r n ts vs → vs.length = ts.length
  | n, [], vs, h => by cases h; rfl
  | n, t :: ts, vs, h => by
    obtain ⟨v, q, rfl, h1, h2⟩ := h
    simp [RI.len h2]
theorem RI.pend (w : Wd K mg P W H σ ρ) (k : ∀ f x, W x = some (r, f) → W' x = none) : ∀ {n : Nat} {ts : List T1} {vs : List V}, RI K P W H r n ts vs → ∀ p ∈ (ts.map upT).zip vs, Pend K P W' H p.1 p.2
  | n, [], vs, h => fun p hp => by cases hp
  | n, t :: ts, vs, h => by
    obtain ⟨v, q, rfl, h1, h2⟩ := h
    intro p hp
    simp only [List.map_cons, List.zip_cons_cons, List.mem_cons] at hp
    rcases hp with rfl | hp
    · exact R1.pend w h1 (k _)
    · exact RI.pend w k h2 p hp
end
section
variable {X : Cx} {E : WX} {md : List Bool} {e : Expr} {es : List Expr} {A F : OM} {As : List OM} {pos : Pos}
def EOA (X : Cx) (E : WX) (es : List Expr) (As : List OM) : Prop := PA X es (rOM X.K X.mg E As)
theorem eoa_nil : EOA X E [] [] := PA.imp pa_nil fun _ _ _ h => h
theorem eoa_cons (h : ET X E e A) (t : EOA X E es As) (he : starEach (e :: es) X.env = (false, eval e X.env) :: starEach es X.env := by rfl) : EOA X E (e :: es) (A :: As) := PA.imp (pa_cons h t he) fun _ _ _ h => h
theorem et_seqT {k} (h : EOA X E es As) : ET X E (.Tuple es k pos) (tSeq true As) := PE.imp (pe_tup h) fun σ H Q ⟨P, W, ρ, w, g⟩ =>
  rOM.mono As (seq_core (b := true) As [] w (Step.refl P W H) (fun _ h => by cases h) List.Pairwise.nil g) fun vs H2 ⟨hl, fin⟩ => ⟨szOf (by simpa using hl), fun p n => by simpa [sqO] using fin p n⟩
end
/-! ### x, y, .. = e: the parts go to the names -/
section
variable {X : Cx} {E : WX} {md : List Bool} {e : Expr} {ts : List Expr} {F : OM} {is : List Nat} {pos pt : Pos}
end
section
variable {ΦT : T × Env → Prop} {ΦS : Fl → Prop} {Ψ : Exn → Env → Prop} {ρ : Env} {A F : OM} {b : Bool}
theorem s_tseq (As : List OM) : sat (tSeq b As ρ) ΦT Ψ = sat (seqM b As [] ρ) ΦT Ψ := rfl
theorem s_seqMc (r : List OM) (q : List T1) : sat (seqM b (A :: r) q ρ) ΦT Ψ = sat (A ρ) (fun a => ex (toT1 a.1) fun t => cps (q ++ [t]) fun q' => sat (seqM b r q' a.2) ΦT Ψ) Ψ := by
  show sat (A ρ >>= fun a => Res.of (toT1 a.1) >>= fun t => seqM b r (q ++ [t]) a.2) _ _ = _
  rw [sat_bind]; congr 1; funext a; rw [sat_bind, sat_of]; rfl
theorem s_seqMn (q : List T1) : sat (seqM b [] q ρ) ΦT Ψ = (q.length ≤ 1000000 ∧ ΦT (.seq b q, ρ)) := by
  show sat (if _ then _ else _) _ _ = _
  rw [sat_iteF]; rfl
theorem x_t1s {d : D} {Φ : T1 → Prop} : ex (toT1 (.sh d)) Φ = Φ (.sh d) := rfl
theorem x_t1l {d : List D} {Φ : T1 → Prop} : ex (toT1 (.lst d)) Φ = Φ (.lst d) := rfl
theorem x_t1d {ks : List DK} {d : List D} {Φ : T1 → Prop} : ex (toT1 (.dct ks d)) Φ = Φ (.dct ks d) := rfl
end
end Od
namespace Od
open PySem PySem.Spec L2
open PyProof.Rows hiding St cutD
/-! ### for x in s: the parts of an own list one by one, changed on the way -/
theorem set_same {α : Type} {xs : List α} {i : Nat} {v : α} (h : xs[i]? = some v) : xs.set i v = xs := by
  apply List.ext_getElem?
  intro j
  by_cases hj : j = i
  · subst hj; rw [List.getElem?_set_self (List.getElem?_eq_some_iff.mp h).1, h]
  · rw [List.getElem?_set_ne (Ne.symm hj)]
structure QSt (K : PySem.W.Frag) (mg : Str → Option Value) (P : Hp) (W : Own) (H : Hp) (σ : St) (ρ : Env) (i : Nat) (a : Addr) (q : List (T1 × V)) : Prop where
  w : Wd K mg P W H σ ρ
  s : σ[i]? = some (some (.ref a))
  wa : W a = Option.none
  pa : P a = Option.none
  ha : H a = some (.lst (q.map Prod.snd))
  pd : ∀ p ∈ q, Pend K P W H (upT p.1) p.2 ∧ ¬ RootAt (upT p.1) p.2 a
  ap : q.Pairwise fun a b => ∀ x, RootAt (upT a.1) a.2 x → ¬ RootAt (upT b.1) b.2 x
section
variable {K : PySem.W.Frag} {mg : Str → Option Value} {P P' H H' : Hp} {W W' : Own} {σ σ' : St} {ρ ρ' : Env} {i x : Nat} {a : Addr} {q : List (T1 × V)}
/-- and comes back -/
theorem QSt.back (h : QSt K mg P W H σ ρ i a q) (hi : i < ρ.length) : ∃ W', Wd K mg P W' H σ (ρ.set i (some (.seq false (q.map Prod.fst)))) ∧ ∀ x, W x = Option.none → x ≠ a → (∀ p ∈ q, ¬ RootAt (upT p.1) p.2 x) → W' x = Option.none := by
  let W1 : Own := fun x => if x = a then some (Option.none, Option.none) else W x
  have k1 : ∀ x, x ≠ a → W1 x = W x := fun x h => by simp only [W1, if_neg h]
  have ka : W1 a = some (Option.none, Option.none) := by simp only [W1, if_true]
  have w1 : Wd K mg P W1 H σ ρ := ⟨h.w.same, fun x r e => by
    by_cases hx : x = a
    · subst hx; exact ⟨h.pa, _, h.ha⟩
    · rw [k1 x hx] at e; exact h.w.own x r e, fun j t' ej => by
    obtain ⟨v', hs', hr'⟩ := h.w.env j t' ej
    refine ⟨v', hs', RT.mono (same_refl P) (fun f x ex => ⟨?_, fun _ h => h⟩) t' v' hr'⟩
    rw [k1 x (fun z => by subst z; rw [h.wa] at ex; cases ex)]; exact ex, h.w.len⟩
  obtain ⟨W2, w2, ri, n2, k2⟩ := adoptI q 0 w1 (fun p hp => (h.pd p hp).1.own fun x hx => by
    rw [k1 x (fun z => by subst z; exact (h.pd p hp).2 hx)]
    exact ((h.pd p hp).1.root hx).1) h.ap
  obtain ⟨W3, w3, s3⟩ := w2.put (i := i) (t := .seq false (q.map Prod.fst)) (v := .ref a) ⟨a, _, rfl, k2 a _ ka, h.ha, ri⟩ hi
  rw [set_same h.s] at w3
  refine ⟨W3, w3, fun x hx hxa hn => ?_⟩
  have h2 : W2 x = Option.none := n2 x (by rw [k1 x hxa]; exact hx) hn
  cases hH : H x with
  | some o => exact (s3.2 x o hH h2).2.1
  | none =>
    cases h3 : W3 x with
    | none => rfl
    | some r => obtain ⟨_, o, ho⟩ := w3.own x r h3; rw [hH] at ho; cases ho
/-- a part goes to the loop's name -/
theorem QSt.out {qd qr : List (T1 × V)} {t : T1} {v : V} (h : QSt K mg P W H σ ρ i a (qd ++ (t, v) :: qr)) (hx : x < ρ.length) : ∃ W', Wd K mg P W' H (σ.set x (some v)) (ρ.set x (some (upT t))) ∧ (∀ y, W y = Option.none → ¬ RootAt (upT t) v y → W' y = Option.none) ∧
    W' a = Option.none ∧ (∀ p ∈ qd ++ qr, Pend K P W' H (upT p.1) p.2) := by
  have hm : (t, v) ∈ qd ++ (t, v) :: qr := by simp
  obtain ⟨W1, w1, n1⟩ := h.w.adoptR (h.pd _ hm).1 hx
  refine ⟨W1, w1, n1, n1 a h.wa (h.pd _ hm).2, fun p hp => ?_⟩
  have hap := List.pairwise_append.mp h.ap
  have hcc := List.pairwise_cons.mp hap.2.1
  have hpm : p ∈ qd ++ (t, v) :: qr := by
    rcases List.mem_append.mp hp with hp | hp
    · exact List.mem_append.mpr (.inl hp)
    · exact List.mem_append.mpr (.inr (.tail _ hp))
  refine (h.pd p hpm).1.own fun y hy => n1 y ((h.pd p hpm).1.root hy).1 fun z => ?_
  rcases List.mem_append.mp hp with hp | hp
  · exact hap.2.2 p hp (t, v) (.head _) y hy z
  · exact hcc.1 p hp y z hy
end
section
variable {X : Cx} {E : WX} {md md' : List Bool} {i x : Nat} {s y : Str} {ps py pos : Pos} {body : List Stmt} {B : SM}
end
end Od
namespace Od
open PySem PySem.Spec L2
open PyProof.Rows hiding St cutD
/-! ### an own list with own parts: clear, append; a flat list made while all is lent -/
section
variable {K : PySem.W.Frag} {mg : Str → Option Value} {P P' H H' : Hp} {W W' : Own} {σ : St} {ρ : Env} {i : Nat} {u : T1} {v : V}
end
section
variable {X : Cx} {E : WX} {e : Expr} {F : OM} {i : Nat}
end
section
variable {Φ : D × Env → Prop} {ΦT : T × Env → Prop} {ΦS : Fl → Prop} {ΦQ : List T1 → Prop} {Ψ : Exn → Env → Prop} {ρ : Env} {A F : OM} {i x : Nat} {B : SM} {o : Option T}
end
end Od
namespace Od
open PySem PySem.Spec L2
open PyProof.Rows hiding St cutD
/-! ### all is lent for an expression whose object holds no list of another one -/
def isTupO : HO → Bool
  | .tup _ => true
  | .frz _ _ => true
  | _ => false
def lndA (H : Hp) (W : Own) (a : Addr) : Bool := (W a).isSome && !(match H a with | some o => isTupO o | Option.none => false)
def lend2P (P H : Hp) (W : Own) : Hp := fun a => if lndA H W a then H a else P a
def frzO2 : Option T → Option T
  | some (.seq true _) => Option.none
  | some (.sh d) => some (.sh d)
  | some (.lst ds) => some (.sh (.lst ds))
  | some (.dct ks ds) => some (.sh (.dct ks ds))
  | some (.seq false ts) => some (.sh (.lst (ts.map d1)))
  | _ => Option.none
def frzE2 (ρ : Env) : Env := ρ.map frzO2
mutual
def deepD : D → Bool
  | .int _ => true
  | .bl _ => true
  | .non => true
  | .str _ => true
  | .tup ds => deepL ds
  | _ => false
def deepL : List D → Bool
  | [] => true
  | d :: ds => deepD d && deepL ds
end
def deepU : T1 → Bool
  | .sh d => deepD d
  | .lst ds => deepL ds
  | .dct _ ds => deepL ds
def deepT : T → Bool
  | .sh d => deepD d
  | .lst ds => deepL ds
  | .dct _ ds => deepL ds
  | .seq _ ts => ts.all deepU
  | _ => false
def tLendD (F : OM) : OM := fun ρ => match F (frzE2 ρ) with
  | .ok (t, _) => if deepT t = true then .ok (t, ρ) else .fail
  | _ => .fail
section
variable {K : PySem.W.Frag} {mg : Str → Option Value} {P P' P2 H H' : Hp} {W W' W2 : Own} {σ : St} {ρ ρ1 : Env}
mutual
theorem den_deep (hp : ∀ a u, P' a = some u → isTupO u = true → P2 a = some u) : ∀ (d : D) (v : V), deepD d = true → Den K P' d v → Den K P2 d v
  | .int _, v, _, h => by unfold Den at h ⊢; exact h
  | .bl _, v, _, h => by unfold Den at h ⊢; exact h
  | .non, v, _, h => by unfold Den at h ⊢; exact h
  | .str _, v, _, h => by unfold Den at h ⊢; exact h
  | .tup ds, v, hd, h => by
    unfold Den at h ⊢
    obtain ⟨a, vs, e, q, l⟩ := h
    unfold deepD at hd
    refine ⟨a, vs, e, ?_, den_deepL hp ds vs hd l⟩
    rcases q with q | q
    · rcases q with q | ⟨o, q⟩
      · exact .inl (.inl (hp a _ q rfl))
      · exact .inl (.inr ⟨o, hp a _ q rfl⟩)
    · exact .inr q
  | .lst _, v, hd, h => by unfold deepD at hd; cases hd
  | .rol _, v, hd, h => by unfold deepD at hd; cases hd
  | .dct _ _, v, hd, h => by unfold deepD at hd; cases hd
  | .exn _ _ _, v, hd, h => by unfold deepD at hd; cases hd
  | .obj _ _ _, v, hd, h => by unfold deepD at hd; cases hd
  | .fn _, v, hd, h => by unfold deepD at hd; cases hd
  | .adr _, v, hd, h => by unfold deepD at hd; cases hd
theorem den_deepL (hp : ∀ a u, P' a = some u → isTupO u = true → P2 a = some u) : ∀ (ds : List D) (vs : List V), deepL ds = true → DenL K P' ds vs → DenL K P2 ds vs
  | [], vs, _, h => by unfold DenL at h ⊢; exact h
  | d :: ds, vs, hd, h => by
    unfold deepL at hd
    rw [Bool.and_eq_true] at hd
    unfold DenL at h ⊢
    obtain ⟨v, r, e, h1, h2⟩ := h
    exact ⟨v, r, e, den_deep hp d v hd.1 h1, den_deepL hp ds r hd.2 h2⟩
end
theorem R1.deep {f : Option Tx} {u : T1} {v : V} (hp : ∀ a u, P' a = some u → isTupO u = true → P2 a = some u) (hw : ∀ a f, W' a = some (Option.none, f) → W2 a = some (Option.none, f)) (hd : deepU u = true) (h : R1 K P' W' H' Option.none f u v) : R1 K P2 W2 H' Option.none f u v := by
  cases u with
  | sh d => exact den_deep hp d v hd h
  | lst ds =>
    obtain ⟨a, vs, e, h1, h2, l⟩ := h
    exact ⟨a, vs, e, hw a f h1, h2, den_deepL hp ds vs hd l⟩
  | dct ks ds =>
    obtain ⟨a, ws, e, h1, h2, k, l⟩ := h
    exact ⟨a, ws, e, hw a f h1, h2, k, den_deepL hp ds _ hd l⟩
theorem RI.deep (hp : ∀ a u, P' a = some u → isTupO u = true → P2 a = some u) (hw : ∀ a f, W' a = some (Option.none, f) → W2 a = some (Option.none, f)) : ∀ {n : Nat} {ts : List T1} {vs : List V}, ts.all deepU = true → RI K P' W' H' Option.none n ts vs → RI K P2 W2 H' Option.none n ts vs
  | n, [], vs, _, h => h
  | n, t :: ts, vs, hd, h => by
    rw [List.all_cons, Bool.and_eq_true] at hd
    obtain ⟨v, q, e, h1, h2⟩ := h
    exact ⟨v, q, e, R1.deep hp hw hd.1 h1, RI.deep hp hw hd.2 h2⟩
theorem RT.deep {t : T} {v : V} (hp : ∀ a u, P' a = some u → isTupO u = true → P2 a = some u) (hw : ∀ a f, W' a = some (Option.none, f) → W2 a = some (Option.none, f)) (hd : deepT t = true) (h : RT K mg P' W' H' Option.none t v) : RT K mg P2 W2 H' Option.none t v := by
  cases t with
  | sh d => exact den_deep hp d v hd h
  | lst ds => exact R1.deep (u := .lst ds) hp hw hd h
  | dct ks ds => exact R1.deep (u := .dct ks ds) hp hw hd h
  | rcd fs => cases hd
  | ins C fs => cases hd
  | seq b ts =>
    obtain ⟨a, vs, e, h1, h2, l⟩ := h
    exact ⟨a, vs, e, hw a _ h1, h2, RI.deep hp hw hd l⟩
theorem R1.den2 {r : Option Nat} {f : Option Tx} {t : T1} {v : V} (s : Same P P') (hp : ∀ a f o, W a = some (r, f) → H a = some o → isTupO o = false → P' a = H a) (h : R1 K P W H r f t v) : Den K P' (d1 t) v := by
  cases t with
  | sh d => exact Den.mono s d v h
  | lst ds =>
    obtain ⟨a, vs, e, hw, hh, l⟩ := h
    show Den K P' (.lst ds) v
    unfold Den
    exact ⟨a, vs, e, by rw [hp a f _ hw hh rfl]; exact hh, DenL.mono s ds vs l⟩
  | dct ks ds =>
    obtain ⟨a, ws, e, hw, hh, k, l⟩ := h
    show Den K P' (.dct ks ds) v
    unfold Den
    exact ⟨a, ws, e, by rw [hp a f _ hw hh rfl]; exact hh, k, DenL.mono s ds _ l⟩
theorem RI.den2 {r : Option Nat} (s : Same P P') (hp : ∀ a f o, W a = some (r, f) → H a = some o → isTupO o = false → P' a = H a) : ∀ {n : Nat} {ts : List T1} {vs : List V}, RI K P W H r n ts vs → DenL K P' (ts.map d1) vs
  | n, [], vs, h => by cases h; exact DenL.nil
  | n, t :: ts, vs, h => by
    obtain ⟨v, q, rfl, h1, h2⟩ := h
    exact DenL.cons (R1.den2 s hp h1) (RI.den2 s hp h2)
theorem lnd_at {a : Addr} {r : Option Nat × Option Tx} {o : HO} (e : W a = some r) (h : H a = some o) (n : isTupO o = false) : lend2P P H W a = H a := by
  unfold lend2P lndA
  rw [e, h]
  simp [n]
theorem Wd.lend2 (w : Wd K mg P W H σ ρ) : Wd K mg (lend2P P H W) lendW H σ (frzE2 ρ) := by
  have sm : Same P (lend2P P H W) := fun a u e => by
    unfold lend2P lndA
    cases h : W a with
    | none => simpa using e
    | some r => have := (w.own a r h).1; rw [e] at this; cases this
  refine ⟨fun a u e => ?_, fun a r e => (by unfold lendW at e; exact absurd e (by simp)), fun i t e => ?_, by unfold frzE2; rw [List.length_map]; exact w.len⟩
  · unfold lend2P at e
    split at e
    · exact e
    · exact w.same a u e
  · unfold frzE2 at e
    rw [List.getElem?_map] at e
    obtain ⟨o, ho, e⟩ := Option.map_eq_some_iff.mp e
    cases o with
    | none => cases e
    | some t0 =>
      obtain ⟨v, hs, hr⟩ := w.env i t0 ho
      refine ⟨v, hs, ?_⟩
      cases t0 with
      | sh d' => cases e; exact Den.mono sm _ v hr
      | lst ds =>
        cases e
        obtain ⟨a, vs, e, hw, hh, l⟩ := hr
        show Den K _ (.lst ds) v
        unfold Den
        exact ⟨a, vs, e, by rw [lnd_at hw hh rfl]; exact hh, DenL.mono sm ds vs l⟩
      | dct ks ds =>
        cases e
        obtain ⟨a, ws, e, hw, hh, k, l⟩ := hr
        show Den K _ (.dct ks ds) v
        unfold Den
        exact ⟨a, ws, e, by rw [lnd_at hw hh rfl]; exact hh, k, DenL.mono sm ds _ l⟩
      | rcd fs => cases e
      | ins C fs => cases e
      | seq b ts =>
        cases b with
        | true => cases e
        | false =>
          cases e
          obtain ⟨a, vs, rfl, hw, hh, l⟩ := hr
          exact seq_den (b := false) (by rw [lnd_at hw hh rfl]; exact hh) (RI.den2 sm (fun x f o e h n => lnd_at e h n) l)
theorem Wd.lent2 (w : Wd K mg P W H σ ρ) (st : Step (lend2P P H W) lendW H P' W' H') (w' : Wd K mg P' W' H' σ ρ1) : ∃ P2 W2, Wd K mg P2 W2 H' σ ρ ∧ Step P W H P2 W2 H' ∧ (∀ a u, P' a = some u → isTupO u = true → P2 a = some u) ∧ ∀ a f, W' a = some (Option.none, f) → W2 a = some (Option.none, f) := by
  have keep : ∀ a u, H a = some u → H' a = some u ∧ W' a = Option.none ∧ P' a = lend2P P H W a := fun a u h => st.2 a u h rfl
  have smP : ∀ a, W a = Option.none → lend2P P H W a = P a := fun a h => by unfold lend2P lndA; rw [h]; simp
  let P2 : Hp := fun a => if (W a).isSome then Option.none else P' a
  let W2 : Own := fun y => match H y with | Option.none => W' y | some _ => W y
  have p1 : ∀ a, W a = Option.none → P2 a = P' a := fun a h => by simp only [P2, h]; rfl
  have p2 : ∀ a r, W a = some r → P2 a = Option.none := fun a r h => by simp only [P2, h]; rfl
  have q1 : ∀ a, H a = Option.none → W2 a = W' a := fun a h => by simp only [W2, h]
  have q2 : ∀ a o, H a = some o → W2 a = W a := fun a o h => by simp only [W2, h]
  have sm : Same P P2 := fun a u e => by
    cases h : W a with
    | none =>
      rw [p1 a h]
      exact st.1 a u (by rw [smP a h]; exact e)
    | some r => have := (w.own a r h).1; rw [e] at this; cases this
  have wn : ∀ a, H a = Option.none → W a = Option.none := fun a h => by
    cases hc : W a with
    | none => rfl
    | some r => obtain ⟨_, o, ho⟩ := w.own a r hc; rw [h] at ho; cases ho
  refine ⟨P2, W2, ⟨fun a u e => ?_, fun a r e => ?_, fun i t e => ?_, w.len⟩, ⟨sm, fun a u h wa => ?_⟩, fun a u e tu => ?_, fun a f e => ?_⟩
  · cases h : W a with
    | none => rw [p1 a h] at e; exact w'.same a u e
    | some r => rw [p2 a r h] at e; cases e
  · cases h : H a with
    | none =>
      rw [q1 a h] at e
      obtain ⟨h1, h2⟩ := w'.own a r e
      exact ⟨by rw [p1 a (wn a h)]; exact h1, h2⟩
    | some o =>
      rw [q2 a o h] at e
      exact ⟨p2 a r e, o, (keep a o h).1⟩
  · obtain ⟨v, hs, hr⟩ := w.env i t e
    refine ⟨v, hs, RT.mono sm (fun f a e => ⟨?_, fun o h => (keep a o h).1⟩) t v hr⟩
    obtain ⟨_, o, ho⟩ := w.own a _ e
    rw [q2 a o ho]; exact e
  · obtain ⟨k1, k2, k3⟩ := keep a u h
    exact ⟨k1, by rw [q2 a u h]; exact wa, by rw [p1 a wa, k3, smP a wa]⟩
  · cases h : W a with
    | none => rw [p1 a h]; exact e
    | some r =>
      obtain ⟨pn, o, ho⟩ := w.own a r h
      obtain ⟨k1, k2, k3⟩ := keep a o ho
      rw [k3] at e
      exfalso
      cases ht : isTupO o with
      | false =>
        rw [lnd_at h ho ht, ho] at e
        cases e
        rw [ht] at tu; cases tu
      | true =>
        unfold lend2P lndA at e
        rw [h, ho] at e
        simp [ht, pn] at e
  · cases h : H a with
    | none => rw [q1 a h]; exact e
    | some o => rw [(keep a o h).2.1] at e; cases e
end
section
variable {X : Cx} {E : WX} {e : Expr}
theorem et_lendD {F : OM} (h : ET X E e F) : ET X E e (tLendD F) := PE.imp h fun σ H Q ⟨P, W, ρ, w, g⟩ => by
  unfold tLendD at g
  refine ⟨lend2P P H W, lendW, frzE2 ρ, w.lend2, ?_⟩
  cases hF : F (frzE2 ρ) with
  | fail => rw [hF] at g; exact g.elim
  | exc x r => rw [hF] at g; exact g.elim
  | ok a =>
    obtain ⟨t, ρ1⟩ := a
    rw [hF] at g
    intro v P' W' H' st ⟨w', rt⟩
    simp only at g
    split at g
    · rename_i hsc
      obtain ⟨P2, W2, w2, s2, hp, hw⟩ := w.lent2 st w'
      exact g v P2 W2 H' s2 ⟨w2, RT.deep hp hw hsc rt⟩
    · exact g.elim
end
theorem md_le {md md' : List Bool} (h : (List.range md.length).all (fun j => !(md[j]? == some true) || md'[j]? == some true) = true) : ∀ j : Nat, md[j]? = some true → md'[j]? = some true := fun j hj => by
  rw [List.all_eq_true] at h
  have := h j (List.mem_range.mpr (List.getElem?_eq_some_iff.mp hj).1)
  simpa [hj] using this
section
variable {ΦT : T × Env → Prop} {ΦO : Option T → Prop} {ΦE : Env → Prop} {Ψ : Exn → Env → Prop} {ρ : Env} {F : OM}
theorem s_tlendD : sat (tLendD F ρ) ΦT Ψ = cps (frzE2 ρ) fun ρ0 => sat (F ρ0) (fun a => deepT a.1 = true ∧ ΦT (a.1, ρ)) (fun _ _ => False) := by
  unfold tLendD
  show _ = sat (F (frzE2 ρ)) _ _
  generalize F (frzE2 ρ) = z
  cases z with
  | fail => rfl
  | exc x r => rfl
  | ok a =>
    obtain ⟨t, r⟩ := a
    show sat (if deepT t = true then Res.ok (t, ρ) else .fail) ΦT Ψ = _
    rw [sat_iteF]; rfl
theorem k_frzQ (ts : List T1) {ΦD : D → Prop} : ex (frzT (.seq false ts)) ΦD = ΦD (.lst (ts.map d1)) := rfl
theorem k_frzQT (ts : List T1) {ΦD : D → Prop} : ex (frzT (.seq true ts)) ΦD = ΦD (.tup (ts.map d1)) := rfl
theorem c_frf0 : cps (frzE2 []) ΦE = ΦE [] := rfl
theorem c_frf1 (o : Option T) : cps (frzE2 (o :: ρ)) ΦE = cps (frzO2 o) fun o' => cps (frzE2 ρ) fun r => ΦE (o' :: r) := rfl
theorem c_frfn : cps (frzO2 Option.none) ΦO = ΦO Option.none := rfl
theorem c_frfs (d : D) : cps (frzO2 (some (.sh d))) ΦO = ΦO (some (.sh d)) := rfl
theorem c_frfl (ds : List D) : cps (frzO2 (some (.lst ds))) ΦO = ΦO (some (.sh (.lst ds))) := rfl
theorem c_frfd (ks : List DK) (ds : List D) : cps (frzO2 (some (.dct ks ds))) ΦO = ΦO (some (.sh (.dct ks ds))) := rfl
theorem c_frfr (fs : List (Tx × T1)) : cps (frzO2 (some (.rcd fs))) ΦO = ΦO Option.none := rfl
theorem c_frfq (ts : List T1) : cps (frzO2 (some (.seq false ts))) ΦO = ΦO (some (.sh (.lst (ts.map d1)))) := rfl
theorem c_frfq2 (ts : List T1) : cps (frzO2 (some (.seq true ts))) ΦO = ΦO Option.none := rfl
theorem c_frzqF (ts : List T1) : cps (frzO (some (.seq false ts))) ΦO = ΦO (some (.sh (.lst (ts.map d1)))) := rfl
theorem c_frzqT (ts : List T1) : cps (frzO (some (.seq true ts))) ΦO = ΦO (some (.sh (.tup (ts.map d1)))) := rfl
end
end Od
namespace Od
open PySem PySem.Spec L2
open PyProof.Rows hiding St cutD
/-! ### isinstance(x, C): x an exception or None -/
section
variable {X : Cx} {E : WX} {rs ts fl : List Tx} {y : Tx} {n : Str} {ys : List Tx} {es : List Expr} {p p2 p3 pos : Pos} {e : Expr} {A : HM}
end
section
variable {Φ : D → Prop}
end
end Od
namespace Od
open PySem PySem.Spec L2
open PyProof.Rows hiding St cutD
/-! ### tuple(xs) whose object is known; dict(xs) of one's own -/
section
variable {X : Cx} {E : WX} {e : Expr} {As : List HM} {r : List V → Hp → VK → Prop} {F : EM}
end
section
variable {Φ : D × Env → Prop} {ΦT : T × Env → Prop} {ΦO : D → Prop} {Ψ : Exn → Env → Prop} {ρ : Env} {F : EM} {As : List HM}
end
end Od
namespace L2
open PySem PySem.Spec PyProof.Rows
/-! any(xs) of a list of numbers -/
end L2
namespace Od
open PySem PySem.Spec L2
open PyProof.Rows hiding St cutD
section
variable {X : Cx} {E : WX} {e : Expr} {A : HM} {p p2 q pos : Pos}
end
end Od
namespace L2
open PySem PySem.Spec PyProof.Rows
end L2
namespace Od
open PySem PySem.Spec L2
open PyProof.Rows hiding St cutD
section
variable {ΦP : List DK × List D → Prop}
end
end Od
namespace Od
open PySem PySem.Spec L2
open PyProof.Rows hiding St cutD
/-! ### x[k].clear(), x[k].reverse(): a part of an own tuple or list is changed -/
def lkP (ρ : Env) (i k : Nat) : Option (Bool × List T1 × List D) := match ρ[i]? with
  | some (some (.seq b ts)) => match ts[k]? with
    | some (.lst ds) => some (b, ts, ds)
    | _ => Option.none
  | _ => Option.none
theorem lkP_some {ρ : Env} {i k : Nat} {r : Bool × List T1 × List D} (h : lkP ρ i k = some r) : ρ[i]? = some (some (.seq r.1 r.2.1)) ∧ r.2.1[k]? = some (.lst r.2.2) := by
  unfold lkP at h
  split at h
  · rename_i b ts e
    split at h
    · rename_i ds e2
      cases h
      exact ⟨e, e2⟩
    · cases h
  · cases h
section
variable {K : PySem.W.Frag} {mg : Str → Option Value} {P P' H H' : Hp} {W W' : Own} {σ : St} {ρ : Env} {i : Nat}
theorem RI.mutk {r : Option Nat} (w : Wd K mg P W H σ ρ) : ∀ {n : Nat} {ts : List T1} {vs : List V} {k : Nat} {ds : List D}, RI K P W H r n ts vs → ts[k]? = some (.lst ds) →
    ∃ c ws, vs[k]? = some (.ref c) ∧ W c = some (r, some [n + k]) ∧ H c = some (.lst ws) ∧ DenL K P ds ws ∧ ∀ ws' ds', DenL K P ds' ws' → RI K P W (upd H c (.lst ws')) r n (ts.set k (.lst ds')) vs
  | n, [], vs, k, ds, h, e => by simp at e
  | n, t :: ts, vs, 0, ds, h, e => by
    obtain ⟨v, q, rfl, h1, h2⟩ := h
    simp only [List.getElem?_cons_zero, Option.some.injEq] at e
    subst e
    obtain ⟨c, ws, rfl, hw, hh, l⟩ := h1
    refine ⟨c, ws, rfl, hw, hh, l, fun ws' ds' l' => ⟨.ref c, q, rfl, ⟨c, ws', rfl, hw, upd_same, l'⟩, ?_⟩⟩
    have ne : ∀ (f : Tx) y, (∃ m, f = [m] ∧ n + 1 ≤ m) → W y = some (r, some f) → y ≠ c := fun f y ⟨m, e1, e2⟩ hy z => by
      subst z; subst e1
      rw [hw] at hy
      simp only [Option.some.injEq, Prod.mk.injEq, List.cons.injEq, true_and, and_true] at hy
      omega
    exact RI.out ne (n + 1) (Nat.le_refl _) h2
  | n, t :: ts, vs, k + 1, ds, h, e => by
    obtain ⟨v, q, rfl, h1, h2⟩ := h
    rw [List.getElem?_cons_succ] at e
    obtain ⟨c, ws, e1, e2, e3, e4, e5⟩ := RI.mutk w h2 e
    refine ⟨c, ws, by rw [List.getElem?_cons_succ]; exact e1, by rw [e2, show n + 1 + k = n + (k + 1) by omega], e3, e4, fun ws' ds' l' => ⟨v, q, rfl, ?_, e5 ws' ds' l'⟩⟩
    have nc : ∀ y, W y = some (r, some [n]) → y ≠ c := fun y hy z => by
      subst z
      rw [e2] at hy
      simp only [Option.some.injEq, Prod.mk.injEq, List.cons.injEq, true_and, and_true] at hy
      omega
    cases t with
    | sh d => exact h1
    | lst es => obtain ⟨a, us, rfl, a1, a2, a3⟩ := h1; exact ⟨a, us, rfl, a1, by rw [upd_ne (nc a a1)]; exact a2, a3⟩
    | dct ks es => obtain ⟨a, us, rfl, a1, a2, a3, a4⟩ := h1; exact ⟨a, us, rfl, a1, by rw [upd_ne (nc a a1)]; exact a2, a3, a4⟩
where
  RI.out {n c : Nat} {r : Option Nat} {o : HO} (ne : ∀ (f : Tx) y, (∃ m, f = [m] ∧ n + 1 ≤ m) → W y = some (r, some f) → y ≠ c) : ∀ (m : Nat) {ts : List T1} {vs : List V}, n + 1 ≤ m → RI K P W H r m ts vs → RI K P W (upd H c o) r m ts vs
  | m, [], vs, _, h => h
  | m, t :: ts, vs, hm, h => by
    obtain ⟨v, q, rfl, h1, h2⟩ := h
    refine ⟨v, q, rfl, ?_, RI.out ne (m + 1) (by omega) h2⟩
    have nc : ∀ y, W y = some (r, some [m]) → y ≠ c := fun y hy => ne [m] y ⟨m, rfl, hm⟩ hy
    cases t with
    | sh d => exact h1
    | lst es => obtain ⟨a, us, rfl, a1, a2, a3⟩ := h1; exact ⟨a, us, rfl, a1, by rw [upd_ne (nc a a1)]; exact a2, a3⟩
    | dct ks es => obtain ⟨a, us, rfl, a1, a2, a3, a4⟩ := h1; exact ⟨a, us, rfl, a1, by rw [upd_ne (nc a a1)]; exact a2, a3, a4⟩
end
section
variable {X : Cx} {E : WX} {i k : Nat} {e : Expr}
theorem atI_of {vs : List V} {k : Nat} {v : V} (h : vs[k]? = some v) : atI vs (k : Int) = some v := by
  have hl := (List.getElem?_eq_some_iff.mp h).1
  unfold atI ixN
  rw [if_pos (by omega), if_pos (by omega)]
  simpa using h
theorem ix_part {K : PySem.W.Frag} {H : Hp} {a : Addr} {b : Bool} {vs : List V} {k : Nat} {v : V} {Q : VK} (h : H a = some (sqO b vs)) (h2 : vs[k]? = some v) (q : Q v H) : rIxA K (.ref a) (.int (k : Int)) H Q := by
  cases b with
  | true => exact .inl (.inr (.inl ⟨a, vs, _, v, rfl, rfl, .inl (.inl h), atI_of h2, q⟩))
  | false => exact .inl (.inl ⟨a, vs, _, v, rfl, rfl, .inl (.inl h), atI_of h2, q⟩)
end
section
variable {Φ : D × Env → Prop} {ΦP : Bool × List T1 × List D → Prop} {Ψ : Exn → Env → Prop} {ρ : Env} {i k : Nat} {o : Option T} {f : List D → List D}
theorem k_lkP0 (b : Bool) (ts : List T1) : ex (lkP (some (.seq b ts) :: ρ) 0 k) ΦP = ex (ts[k]?) fun u => match u with | .lst ds => ΦP (b, ts, ds) | _ => False := by
  unfold lkP
  simp only [List.getElem?_cons_zero]
  cases ts[k]? with
  | none => rfl
  | some u => cases u <;> rfl
theorem k_lkPs : ex (lkP (o :: ρ) (i + 1) k) ΦP = ex (lkP ρ i k) ΦP := rfl
end
end Od
namespace Od
open PySem PySem.Spec L2
open PyProof.Rows hiding St cutD
/-! ### the parts of an own tuple or list are read -/
section
variable {K : PySem.W.Frag} {mg : Str → Option Value} {P P' H H' : Hp} {W W' : Own} {σ : St} {ρ : Env} {i : Nat}
theorem RI.at {r : Option Nat} : ∀ {n : Nat} {ts : List T1} {vs : List V} {k : Nat} {u : T1}, RI K P W H r n ts vs → ts[k]? = some u → ∃ v, vs[k]? = some v ∧ R1 K P W H r (some [n + k]) u v
  | n, [], vs, k, u, h, e => by simp at e
  | n, t :: ts, vs, 0, u, h, e => by
    obtain ⟨v, q, rfl, h1, h2⟩ := h
    simp only [List.getElem?_cons_zero, Option.some.injEq] at e
    subst e
    exact ⟨v, rfl, h1⟩
  | n, t :: ts, vs, k + 1, u, h, e => by
    obtain ⟨v, q, rfl, h1, h2⟩ := h
    rw [List.getElem?_cons_succ] at e
    obtain ⟨v', e1, e2⟩ := RI.at h2 e
    rw [show n + 1 + k = n + (k + 1) by omega] at e2
    exact ⟨v', by rw [List.getElem?_cons_succ]; exact e1, e2⟩
end
section
variable {X : Cx} {E : WX} {i k : Nat} {e : Expr}
end
section
variable {Φ : D × Env → Prop} {ΦT : T × Env → Prop} {ΦU : T1 → Prop} {ΦD : D → Prop} {ΦL : List D → Prop} {Ψ : Exn → Env → Prop} {ρ : Env} {i k : Nat} {o : Option T}
theorem k_uat0 (u : T1) (ts : List T1) : ex ((u :: ts)[0]?) ΦU = ΦU u := rfl
theorem k_uats (u : T1) (ts : List T1) : ex ((u :: ts)[k + 1]?) ΦU = ex (ts[k]?) ΦU := rfl
end
end Od
/-! ### dict(zip(a, b)) of two lists, the keys numbers or texts -/
namespace LiZ
open PySem PySem.Spec PyProof.Rows L2
end LiZ
namespace Od
open PySem PySem.Spec L2
open PyProof.Rows hiding St cutD
section
variable {K : PySem.W.Frag} {P H : Hp}
end
section
variable {X : Cx} {E : WX} {e : Expr} {As : List HM}
end
section
variable {ΦP : List DK × List D → Prop}
end
end Od
namespace Od
open PySem PySem.Spec L2
open PyProof.Rows hiding St cutD
/-! ### for k, x in enumerate(s): the parts of an own list one by one, changed on the way -/
section
variable {K : PySem.W.Frag} {mg : Str → Option Value} {P P' H H' : Hp} {W W' : Own} {σ σ' : St} {ρ ρ' : Env} {i x : Nat} {a T : Addr} {o : HO} {q : List (T1 × V)}
theorem Wd.free (w : Wd K mg P W H σ ρ) (hT : H T = Option.none) : Wd K mg P W (upd H T o) σ ρ ∧ Step P W H P W (upd H T o) := by
  have ne : ∀ {b : Addr} {u : HO}, H b = some u → b ≠ T := fun h z => by subst z; rw [hT] at h; cases h
  refine ⟨⟨fun b u e => ?_, fun b r e => ?_, fun j t ej => ?_, w.len⟩, same_refl P, fun b u h wb => ⟨by rw [upd_ne (ne h)]; exact h, wb, rfl⟩⟩
  · have := w.same b u e
    rw [upd_ne (ne this)]; exact this
  · obtain ⟨h1, u, h2⟩ := w.own b r e
    exact ⟨h1, u, by rw [upd_ne (ne h2)]; exact h2⟩
  · obtain ⟨v, hs, hr⟩ := w.env j t ej
    exact ⟨v, hs, RT.mono (same_refl P) (fun f y ey => ⟨ey, fun u h => by rw [upd_ne (ne h)]; exact h⟩) t v hr⟩
theorem QSt.free (h : QSt K mg P W H σ ρ i a q) (hT : H T = Option.none) : QSt K mg P W (upd H T o) σ ρ i a q := by
  obtain ⟨w, st⟩ := h.w.free (o := o) hT
  exact ⟨w, h.s, h.wa, h.pa, by rw [upd_ne (fun z => by subst z; rw [h.ha] at hT; cases hT)]; exact h.ha, fun p hp => ⟨(h.pd p hp).1.step st, (h.pd p hp).2⟩, h.ap⟩
theorem QSt.forget (h : QSt K mg P W H σ ρ i a q) (j : Nat) : QSt K mg P W H σ (ρ.set j Option.none) i a q :=
  ⟨⟨h.w.same, h.w.own, fun j' t' ej => by
    by_cases hj : j' = j
    · subst hj
      by_cases hl : j' < ρ.length
      · rw [List.getElem?_set_self hl] at ej; cases ej
      · rw [List.getElem?_eq_none (by simpa using hl)] at ej; cases ej
    · rw [List.getElem?_set_ne (Ne.symm hj)] at ej
      exact h.w.env j' t' ej, by simpa using h.w.len⟩, h.s, h.wa, h.pa, h.ha, h.pd, h.ap⟩
end
section
variable {X : Cx} {E : WX} {md md' : List Bool} {i xk x : Nat} {s y yk : Str} {ps py pk pt pe pe2 pos : Pos} {k0 : Nat} {body : List Stmt} {B : SM}
end
end Od
namespace Od
open PySem PySem.Spec L2
open PyProof.Rows hiding St cutD
/-! ### x = s[-1] and two statements that read x: the last part of an own list goes to a name for a while -/
section
variable {K : PySem.W.Frag} {mg : Str → Option Value} {P P' H H' : Hp} {W W' : Own} {σ σ' : St} {ρ ρ' : Env} {i x : Nat} {a T : Addr} {o : HO} {q : List (T1 × V)}
end
section
variable {X : Cx} {E : WX} {md md' : List Bool} {i x : Nat} {st0 b1 b2 : Stmt} {rest : List Stmt} {F1 F2 G : SM} {tm : TE} {e : Expr}
end
/-! ### the rules of the mirror -/
section
variable {Φ : D × Env → Prop} {ΦT : T × Env → Prop} {ΦS : Fl → Prop} {Ψ : Exn → Env → Prop} {ρ : Env} {i x xk : Nat} {B : SM}
end
end Od
namespace Od
open PySem PySem.Spec L2
open PyProof.Rows hiding St cutD
/-! ### s[::-1] of an own list with own parts, told: the name is told nothing of behind -/
section
variable {X : Cx} {E : WX} {i k : Nat} {e : Expr} {p1 p2 p3 pos : Pos}
end
section
variable {ΦT : T × Env → Prop} {Ψ : Exn → Env → Prop} {ρ : Env} {i : Nat}
end
end Od
namespace Od
open PySem PySem.Spec L2
open PyProof.Rows hiding St cutD
/-! ### f(s[k], y): a part of an own list is handed in and comes back changed -/
section
variable {K : PySem.W.Frag} {mg : Str → Option Value} {P P' H H' : Hp} {W W' : Own} {σ : St} {ρ : Env} {i : Nat}
end
section
variable {X : Cx} {E : WX} {i j k n : Nat} {x : Str} {p pos : Pos} {e e2 : Expr} {fn : Fn}
end
/-! ### x, y = a, b where both are told as own lists or tuples with own parts -/
structure PendQ (K : PySem.W.Frag) (P : Hp) (W : Own) (H : Hp) (b : Bool) (q : List (T1 × V)) (c : Addr) : Prop where
  wa : W c = Option.none
  pa : P c = Option.none
  ha : H c = some (sqO b (q.map Prod.snd))
  pd : ∀ p ∈ q, Pend K P W H (upT p.1) p.2 ∧ ¬ RootAt (upT p.1) p.2 c
  ap : q.Pairwise fun a b => ∀ x, RootAt (upT a.1) a.2 x → ¬ RootAt (upT b.1) b.2 x
section
variable {K : PySem.W.Frag} {mg : Str → Option Value} {P P' H H' : Hp} {W W' : Own} {σ : St} {ρ : Env} {i : Nat} {b : Bool} {c : Addr} {v : V} {q : List (T1 × V)} {ts : List T1}
theorem PendQ.step (h : PendQ K P W H b q c) (s : Step P W H P' W' H') : PendQ K P' W' H' b q c := by
  obtain ⟨a1, a2, a3⟩ := s.2 c _ h.ha h.wa
  exact ⟨a2, a3.trans h.pa, a1, fun p hp => ⟨(h.pd p hp).1.step s, (h.pd p hp).2⟩, h.ap⟩
theorem PendQ.own (h : PendQ K P W H b q c) (k : W' c = Option.none) (k2 : ∀ p ∈ q, ∀ x, RootAt (upT p.1) p.2 x → W' x = Option.none) : PendQ K P W' H b q c :=
  ⟨k, h.pa, h.ha, fun p hp => ⟨(h.pd p hp).1.own (k2 p hp), (h.pd p hp).2⟩, h.ap⟩
theorem PendQ.put (h : PendQ K P W H b q c) (w : Wd K mg P W H σ ρ) (hi : i < ρ.length) : ∃ W', Wd K mg P W' H (σ.set i (some (.ref c))) (ρ.set i (some (.seq b (q.map Prod.fst)))) ∧ ∀ x, W x = Option.none → x ≠ c → (∀ p ∈ q, ¬ RootAt (upT p.1) p.2 x) → W' x = Option.none := by
  let W1 : Own := fun x => if x = c then some (Option.none, Option.none) else W x
  have k1 : ∀ x, x ≠ c → W1 x = W x := fun x h => by simp only [W1, if_neg h]
  have ka : W1 c = some (Option.none, Option.none) := by simp only [W1, if_true]
  have w1 : Wd K mg P W1 H σ ρ := ⟨w.same, fun x r e => by
    by_cases hx : x = c
    · subst hx; exact ⟨h.pa, _, h.ha⟩
    · rw [k1 x hx] at e; exact w.own x r e, fun j t' ej => by
    obtain ⟨v', hs', hr'⟩ := w.env j t' ej
    refine ⟨v', hs', RT.mono (same_refl P) (fun f x ex => ⟨?_, fun _ h => h⟩) t' v' hr'⟩
    rw [k1 x (fun z => by subst z; rw [h.wa] at ex; cases ex)]; exact ex, w.len⟩
  obtain ⟨W2, w2, ri, n2, k2⟩ := adoptI q 0 w1 (fun p hp => (h.pd p hp).1.own fun x hx => by
    rw [k1 x (fun z => by subst z; exact (h.pd p hp).2 hx)]
    exact ((h.pd p hp).1.root hx).1) h.ap
  obtain ⟨W3, w3, s3⟩ := w2.put (i := i) (t := .seq b (q.map Prod.fst)) (v := .ref c) ⟨c, _, rfl, k2 c _ ka, h.ha, ri⟩ hi
  refine ⟨W3, w3, fun x hx hxa hn => ?_⟩
  have h2 : W2 x = Option.none := n2 x (by rw [k1 x hxa]; exact hx) hn
  cases hH : H x with
  | some o => exact (s3.2 x o hH h2).2.1
  | none =>
    cases h3 : W3 x with
    | none => rfl
    | some r => obtain ⟨_, o, ho⟩ := w3.own x r h3; rw [hH] at ho; cases ho
end
section
variable {X : Cx} {E : WX} {md : List Bool} {i j : Nat} {x y : Str} {a b : Expr} {A B : OM} {px py pt pos : Pos} {kt k2 : Nat} {pt2 : Pos}
end
section
variable {Φ : D × Env → Prop} {ΦS : Fl → Prop} {ΦL : List D → Prop} {Ψ : Exn → Env → Prop} {ρ : Env} {i j k : Nat} {f : Fn} {A B : OM}
end
end Od
/-! ### list(zip(text, list)) -/
namespace PySem.W
open PySem PySem.Calls PyProof.Rows PyProof.V PySem.Spec
section
variable {prog : Program} {w : World} {A : Around} {E : Value → Shared → Prop} {s : Shared} {z TI TO T i1 i2 : Addr} {fp1 fp2 : List Addr} {n1 n2 i : Nat} {P1 P2 : Nat → Value → Prop} {St1 St2 : Nat → Heap → Prop}
end
/-- the zip object after i turns; S the list that is made -/
structure ZdSt (h : Heap) (z TI TO i1 i2 S : Addr) (St1 St2 : Nat → Heap → Prop) (i : Nat) : Prop where
  ti : IsPair h TI (.ref i1) (.ref i2)
  s1 : St1 i h
  s2 : St2 i h
  z : (i = 0 ∧ IsZip h z TI TO .none ∧ IsPair h TO .none .none) ∨ ∃ T f oT, IsZipHeld h z TI TO T f ∧ h.get? T = some oT ∧ S < T
structure ZdLow (z TI TO : Addr) (fp1 fp2 : List Addr) (S : Addr) : Prop where
  z : z < S
  TI : TI < S
  TO : TO < S
  f1 : ∀ b ∈ fp1, b < S
  f2 : ∀ b ∈ fp2, b < S
section
variable {prog : Program} {w : World} {A : Around} {E : Value → Shared → Prop} {s : Shared} {z TI TO i1 i2 S : Addr} {fp1 fp2 : List Addr} {n1 n2 i : Nat} {P1 P2 : Nat → Value → Prop} {St1 St2 : Nat → Heap → Prop} {h h' : Heap}
theorem ZdSt.keep (D1 : Draws prog w A i1 fp1 n1 P1 St1) (D2 : Draws prog w A i2 fp2 n2 P2 St2) (st : ZdSt h z TI TO i1 i2 S St1 St2 i) (L : ZdLow z TI TO fp1 fp2 S) (k : ∀ b o, b ≠ S → h.get? b = some o → h'.get? b = some o) : ZdSt h' z TI TO i1 i2 S St1 St2 i where
  ti := k _ _ (Nat.ne_of_lt L.TI) st.ti
  s1 := D1.frame _ _ _ st.s1 fun b hb o e => k _ o (Nat.ne_of_lt (L.f1 b hb)) e
  s2 := D2.frame _ _ _ st.s2 fun b hb o e => k _ o (Nat.ne_of_lt (L.f2 b hb)) e
  z := by
    rcases st.z with ⟨e, a, b⟩ | ⟨T, f, oT, a, b, c⟩
    · exact .inl ⟨e, k _ _ (Nat.ne_of_lt L.z) a, k _ _ (Nat.ne_of_lt L.TO) b⟩
    · exact .inr ⟨T, f, oT, k _ _ (Nat.ne_of_lt L.z) a, k _ _ (Nat.ne_of_gt c) b, c⟩
end
section
variable {prog : Program} {w : World} {A : Around} {s : Shared} {R : Result → Shared → Prop} {z TI TO i1 i2 S : Addr} {fp1 fp2 : List Addr} {n1 n2 : Nat} {P1 P2 : Nat → Value → Prop} {St1 St2 : Nat → Heap → Prop}
end
section
variable {prog : Program} {w : World} {A : Around} {E : Value → Shared → Prop} {s : Shared} {z TI TO i1 i2 : Addr} {fp1 fp2 : List Addr} {n1 n2 : Nat} {P1 P2 : Nat → Value → Prop} {St1 St2 : Nat → Heap → Prop}
end
end PySem.W
namespace LiZ
open PySem PySem.Spec PyProof.Rows L2
section
variable {X : Cx}
end
end LiZ
namespace Od
open PySem PySem.Spec L2
open PyProof.Rows hiding St cutD
section
variable {K : PySem.W.Frag} {P H : Hp}
end
section
variable {X : Cx} {E : WX} {e e2 : Expr} {As : List HM} {p p2 zpos pos : Pos}
end
end Od
/-! ### list(d.items()) -/
namespace Od
open PySem PySem.Spec L2
open PyProof.Rows hiding St cutD
section
variable {K : PySem.W.Frag} {P H : Hp}
end
section
variable {X : Cx} {E : WX} {e : Expr} {A : HM} {p apos cpos pos : Pos}
end
section
variable {ρ : Env} {ΦT : T × Env → Prop} {Ψ : Exn → Env → Prop}
end
end Od
/-! ### a dict of the module, texts by texts: D[e] -/
namespace Od
open PySem PySem.Spec L2
open PyProof.Rows hiding St cutD
section
variable {X : Cx} {E : WX} {b : Expr} {B : HM} {x : Str} {p0 pos : Pos} {tab : List (Tx × Tx)}
end
end Od
namespace Od
open PySem PySem.Spec L2
open PyProof.Rows hiding St
/-! ### T.index(e), T a tuple of texts that the program has as a constant -/
section
variable {X : Cx} {E : WX} {e : Expr} {x : Str} {p1 apos cpos : Pos} {F : EM} {ss : List Tx}
end
/-! ### d.get(k), d.get(k, x) -/
section
variable {Φ : D → Prop}
end
end Od
namespace Od
open PySem PySem.Spec L2
open PyProof.Rows hiding St
end Od
namespace Od
open PySem PySem.Spec L2
open PyProof.Rows hiding St cutD
section
variable {K : PySem.W.Frag} {X : Cx} {E : WX} {tg e : Expr} {F : EM}
end
section
variable {Ψ : Exn → Env → Prop} {ρ : Env} {F : EM} {ΦL : List D → Prop}
end
end Od
namespace Od
open PySem PySem.Spec L2
open PyProof.Rows hiding St cutD
/-! ### sorted(set(xs)) of a list of numbers, of any length -/
section
variable {P : Program} {w : World} {A : Around} {E : Value → Shared → Prop} {s : Shared}
end
section
variable {X : Cx}
end
section
variable {X : Cx} {E : WX} {e : Expr} {As : List HM} {p p2 q pos : Pos}
end
end Od
namespace Od
open PySem PySem.Spec L2
open PyProof.Rows hiding St cutD
/-! ### xs.index(e), data of any kind -/
end Od
namespace Od
open PySem PySem.Spec L2
open PyProof.Rows hiding St cutD
/-! ### a comprehension over the keys of a dict of a variable's own: it is locked, and out of reach, meanwhile -/
section
variable {K : PySem.W.Frag} {mg : Str → Option Value} {P H : Hp} {W : Own} {σ : St} {ρ : Env} {i : Nat} {A : Addr}
end
section
variable {X : Cx} {E : WX}
end
section
variable {X : Cx} {E : WX} {md : List Bool} {elt tg : Expr} {ifs : List Expr} {scope : Scope} {own : List (Str × Nat)} {pos np : Pos} {g : GM} {C : BM} {F : EM} {sl : List Nat} {i : Nat} {x : Str}
end
section
variable {Ψ : Exn → Env → Prop} {ρ : Env} {ΦT : T × Env → Prop} {C : BM} {F : EM}
end
end Od
namespace Od
open PySem PySem.Spec L2 PySem.W PySem
open PyProof.Rows hiding St cutD
/-! ### {k: e}, the key any int or text -/
section
variable {X : Cx} {E : WX} {ke e : Expr} {pos : Pos} {G F : EM}
end
section
variable {ΦT : T × Env → Prop} {Ψ : Exn → Env → Prop} {ρ : Env}
end
end Od
namespace Od
open PySem PySem.Spec L2
open PyProof.Rows hiding St cutD
/-! ### instances whose fields are lists and dicts of their own -/
/-- what is lent: an instance too, its lists as shared ones -/
def frzO3 : Option T → Option T
  | some (.ins C fs) => some (.sh (.obj C (fs.map Prod.fst) (fs.map fun p => d1 p.2)))
  | some (.sh d) => some (.sh d)
  | some (.lst ds) => some (.sh (.lst ds))
  | some (.dct ks ds) => some (.sh (.dct ks ds))
  | some (.seq false ts) => some (.sh (.lst (ts.map d1)))
  | _ => Option.none
def frzE3 (ρ : Env) : Env := ρ.map frzO3
section
variable {K : PySem.W.Frag} {mg : Str → Option Value} {P P' P2 H H' : Hp} {W W' W2 : Own} {σ : St} {ρ ρ1 : Env} {r : Option Nat}
theorem RF.den3 (s : Same P P') (hp : ∀ a f o, W a = some (r, f) → H a = some o → isTupO o = false → P' a = H a) : ∀ {fs : List (Tx × T1)} {ws : List (Str × V)}, RF K P W H r fs ws → ws.map Prod.fst = (fs.map Prod.fst).map sT ∧ DenL K P' (fs.map fun p => d1 p.2) (ws.map Prod.snd)
  | [], ws, h => by cases h; exact ⟨rfl, DenL.nil⟩
  | (k, t) :: fs, ws, h => by
    obtain ⟨v, w, rfl, h1, h2⟩ := h
    obtain ⟨e1, e2⟩ := RF.den3 s hp h2
    exact ⟨by simp only [List.map_cons, e1], DenL.cons (R1.den2 s hp h1) e2⟩
theorem Wd.lend3 (w : Wd K mg P W H σ ρ) : Wd K mg (lend2P P H W) lendW H σ (frzE3 ρ) := by
  have sm : Same P (lend2P P H W) := fun a u e => by
    unfold lend2P lndA
    cases h : W a with
    | none => simpa using e
    | some r => have := (w.own a r h).1; rw [e] at this; cases this
  refine ⟨fun a u e => ?_, fun a r e => (by unfold lendW at e; exact absurd e (by simp)), fun i t e => ?_, by unfold frzE3; rw [List.length_map]; exact w.len⟩
  · unfold lend2P at e
    split at e
    · exact e
    · exact w.same a u e
  · unfold frzE3 at e
    rw [List.getElem?_map] at e
    obtain ⟨o, ho, e⟩ := Option.map_eq_some_iff.mp e
    cases o with
    | none => cases e
    | some t0 =>
      obtain ⟨v, hs, hr⟩ := w.env i t0 ho
      refine ⟨v, hs, ?_⟩
      cases t0 with
      | sh d' => cases e; exact Den.mono sm _ v hr
      | lst ds =>
        cases e
        obtain ⟨a, vs, e, hw, hh, l⟩ := hr
        show Den K _ (.lst ds) v
        unfold Den
        exact ⟨a, vs, e, by rw [lnd_at hw hh rfl]; exact hh, DenL.mono sm ds vs l⟩
      | dct ks ds =>
        cases e
        obtain ⟨a, ws, e, hw, hh, k, l⟩ := hr
        show Den K _ (.dct ks ds) v
        unfold Den
        exact ⟨a, ws, e, by rw [lnd_at hw hh rfl]; exact hh, k, DenL.mono sm ds _ l⟩
      | rcd fs => cases e
      | ins C fs =>
        cases e
        obtain ⟨a, c, dx, ws, e, hw, hc, hh, nd, l⟩ := hr
        obtain ⟨k1, k2⟩ := RF.den3 sm (fun x f o e h n => lnd_at e h n) l
        show Den K _ (.obj C _ _) v
        unfold Den
        exact ⟨a, c, dx, ws, e, hc.2, by rw [lnd_at hw hh rfl]; exact hh, k1, k2⟩
      | seq b ts =>
        cases b with
        | true => cases e
        | false =>
          cases e
          obtain ⟨a, vs, rfl, hw, hh, l⟩ := hr
          exact seq_den (b := false) (by rw [lnd_at hw hh rfl]; exact hh) (RI.den2 sm (fun x f o e h n => lnd_at e h n) l)
end
/-- a look with all lent; the value a scalar -/
def eLend3 (F : EM) : EM := fun ρ => match F (frzE3 ρ) with
  | .ok a => if scalD a.1 then .ok (a.1, ρ) else .fail
  | _ => .fail
def bLend3 (C : BM) : BM := fun ρ => match C (frzE3 ρ) with
  | .ok a => .ok (a.1, ρ)
  | _ => .fail
/-- a new object made while all is lent -/
def tLend3 (F : OM) : OM := fun ρ => match F (frzE3 ρ) with
  | .ok (t, _) => if deepT t = true then .ok (t, ρ) else .fail
  | _ => .fail
section
variable {X : Cx} {E : WX} {e : Expr}
theorem ev_lend3 {F : EM} (h : EV X E e F) : EV X E e (eLend3 F) := PE.imp h fun σ H Q ⟨P, W, ρ, w, g⟩ => by
  unfold eLend3 at g
  refine ⟨lend2P P H W, lendW, frzE3 ρ, w.lend3, ?_⟩
  cases hF : F (frzE3 ρ) with
  | fail => rw [hF] at g; exact g.elim
  | exc x r => rw [hF] at g; exact g.elim
  | ok a =>
    rw [hF] at g
    intro v P' W' H' st hv
    have wv := hv.1.env
    obtain ⟨P2, W2, w2, s2, _, _⟩ := w.lent2 st (ρ1 := a.2) hv.1
    by_cases hs : scalD a.1 = true
    · simp only [hs, if_true] at g
      exact g v P2 W2 H' s2 ⟨w2, den_scal hs hv.2⟩
    · simp only [hs] at g
      exact g.elim
theorem eb_lend3 {C : BM} (h : EB X E e C) : EB X E e (bLend3 C) := PT.imp h fun σ H Q ⟨P, W, ρ, w, g⟩ => by
  unfold bLend3 at g
  refine ⟨lend2P P H W, lendW, frzE3 ρ, w.lend3, ?_⟩
  cases hF : C (frzE3 ρ) with
  | fail => rw [hF] at g; exact g.elim
  | exc x r => rw [hF] at g; exact g.elim
  | ok a =>
    rw [hF] at g
    intro P' W' H' st hv
    obtain ⟨P2, W2, w2, s2, _, _⟩ := w.lent2 st (ρ1 := a.2) hv
    exact g P2 W2 H' s2 w2
theorem et_lend3 {F : OM} (h : ET X E e F) : ET X E e (tLend3 F) := PE.imp h fun σ H Q ⟨P, W, ρ, w, g⟩ => by
  unfold tLend3 at g
  refine ⟨lend2P P H W, lendW, frzE3 ρ, w.lend3, ?_⟩
  cases hF : F (frzE3 ρ) with
  | fail => rw [hF] at g; exact g.elim
  | exc x r => rw [hF] at g; exact g.elim
  | ok a =>
    obtain ⟨t, ρ1⟩ := a
    rw [hF] at g
    intro v P' W' H' st ⟨w', rt⟩
    simp only at g
    split at g
    · rename_i hsc
      obtain ⟨P2, W2, w2, s2, hp, hw⟩ := w.lent2 st w'
      exact g v P2 W2 H' s2 ⟨w2, RT.deep hp hw hsc rt⟩
    · exact g.elim
end
/-! ### x.f = e, the value a list or dict of the field's own -/
def t1Of : T → Option T1
  | .sh d => some (.sh d)
  | .lst ds => some (.lst ds)
  | .dct ks vs => some (.dct ks vs)
  | _ => none
def sFldIO (C : Tx) (i : Nat) (f : Tx) (F : OM) : SM := fun ρ => F ρ >>= fun a => Res.of ((t1Of a.1).bind fun t => (insOf a.2 i C).bind fun fs => if fs.length < 900 then some (a.2.set i (some (.ins C (putT fs f t)))) else none) >>= fun ρ1 => .ok (.nx ρ1)
def give (W : Own) (l : Addr) (o : Option Nat × Option Tx) : Own := fun x => if x = l then some o else W x
section
variable {K : PySem.W.Frag} {mg : Str → Option Value} {P H : Hp} {W : Own} {σ : St} {ρ : Env}
theorem Wd.give {l : Addr} {i : Nat} {f : Tx} (w : Wd K mg P W H σ ρ) (h : W l = some (Option.none, Option.none)) : Wd K mg P (give W l (some i, some f)) H σ ρ := by
  refine ⟨w.same, fun a r e => ?_, fun j t e => ?_, w.len⟩
  · unfold Od.give at e
    by_cases z : a = l
    · subst z; exact w.own a _ h
    · rw [if_neg z] at e; exact w.own a r e
  · obtain ⟨v, hs, hr⟩ := w.env j t e
    refine ⟨v, hs, RT.mono (same_refl P) (fun g x ex => ⟨?_, fun o h => h⟩) t v hr⟩
    have : x ≠ l := fun z => by subst z; rw [h] at ex; cases ex
    unfold Od.give; rw [if_neg this]; exact ex
end
section
variable {X : Cx} {E : WX} {C f : Tx} {fl : List Tx} {i : Nat} {x n : Str} {pos pos' p1 : Pos} {e : Expr} {F : OM} {md : List Bool}
theorem sd_fldIO (R : ClsI X.K X.mg C fl) (hf : f ∈ fl) (hn : n = sT f) (hN : X.N[i]? = some x) (hv : Vis X.env.scope x) (he : ET X E e F) (hd : (x == ("__debug__" : Str)) = false := by decide) (hcd : (x == ("__classdict__" : Str)) = false := by decide)
    (hs : swapsWith e (some (.Attribute (.Name x p1) n pos')) pos.line X.env = pure false := by rfl) : SD X E md (.Assign [.Attribute (.Name x p1) n pos'] e pos) (sFldIO C i f F) := by
  subst hn
  refine PS.imp (ps_fld (pe_var hN hv hd hcd) he hs) fun D σ H ⟨P, W, ρ, w, g⟩ => ?_
  unfold sFldIO at g
  refine ⟨P, W, ρ, w, (GoS.val (Rel := TRel X.K X.mg) g).mono fun u H1 ⟨P1, W1, b, s1, ⟨w1, db⟩, g1⟩ => ?_⟩
  obtain ⟨ρ2, e2, g2⟩ := GoS.of g1
  obtain ⟨t, et, e2⟩ := Option.bind_eq_some_iff.mp e2
  obtain ⟨fs, e3, e4⟩ := Option.bind_eq_some_iff.mp e2
  split at e4
  · rename_i hlen
    cases e4
    obtain ⟨a, c, dx, ws, h1, h2, h3, h4, nd, l, hi⟩ := w1.insAt e3
    obtain ⟨c', t', _, ec, hna⟩ := R.ex
    obtain rfl := top_inj h3.2 t'
    refine ⟨_, h1, a, c, dx, ws, rfl, h4, ec, hna f hf, by rw [RF.len l]; omega, ?_⟩
    -- the owner of the value is the field now
    obtain ⟨W2, w2, s2, hW2, l2, h2', q2⟩ : ∃ W2, Wd X.K X.mg P1 W2 H1 σ b.2 ∧ Step P1 W1 H1 P1 W2 H1 ∧ (∀ y g, W1 y = some (some i, g) → W2 y = some (some i, g)) ∧ RF X.K P1 W2 H1 (some i) fs ws ∧ W2 a = some (some i, Option.none) ∧ R1 X.K P1 W2 H1 (some i) (some f) t u := by
      obtain ⟨b1, b2⟩ := b
      cases b1 with
      | sh d =>
        cases et
        exact ⟨W1, w1, Step.refl P1 W1 H1, fun _ _ h => h, l, h2, db⟩
      | lst ds =>
        cases et
        obtain ⟨y, vs, rfl, hw, hh, dn⟩ := db
        have mn : ∀ z g, W1 z = some (some i, g) → give W1 y (some i, some f) z = some (some i, g) := fun z g h => by
          have : z ≠ y := fun q => by subst q; rw [hw] at h; cases h
          unfold give; rw [if_neg this]; exact h
        refine ⟨give W1 y (some i, some f), w1.give hw, ⟨same_refl P1, fun z o hz wz => ⟨hz, ?_, rfl⟩⟩, mn, RF.mono (same_refl P1) (fun g z hz => ⟨mn z _ hz, fun o h => h⟩) _ _ l, mn a _ h2, y, vs, rfl, by unfold give; rw [if_pos rfl], hh, dn⟩
        have : z ≠ y := fun q => by subst q; rw [hw] at wz; cases wz
        unfold give; rw [if_neg this]; exact wz
      | dct ks ds =>
        cases et
        obtain ⟨y, vs, rfl, hw, hh, dk, dn⟩ := db
        have mn : ∀ z g, W1 z = some (some i, g) → give W1 y (some i, some f) z = some (some i, g) := fun z g h => by
          have : z ≠ y := fun q => by subst q; rw [hw] at h; cases h
          unfold give; rw [if_neg this]; exact h
        refine ⟨give W1 y (some i, some f), w1.give hw, ⟨same_refl P1, fun z o hz wz => ⟨hz, ?_, rfl⟩⟩, mn, RF.mono (same_refl P1) (fun g z hz => ⟨mn z _ hz, fun o h => h⟩) _ _ l, mn a _ h2, y, vs, rfl, by unfold give; rw [if_pos rfl], hh, dk, dn⟩
        have : z ≠ y := fun q => by subst q; rw [hw] at wz; cases wz
        unfold give; rw [if_neg this]; exact wz
      | _ => cases et
    have l3 := RF.putT (k := f) (t := t) (v := u) q2 l2
    have l4 : RF X.K P1 W2 (upd H1 a (.ins c dx (putF (sT f) u ws))) (some i) (putT fs f t) (putF (sT f) u ws) := RF.mono (same_refl P1) (fun g y hy => ⟨hy, fun o ho => by
      have : y ≠ a := fun z => by subst z; rw [h2'] at hy; cases hy
      rw [upd_ne this]; exact ho⟩) _ _ l3
    obtain ⟨w3, s3⟩ := w2.mutF (mg := X.mg) (o := .ins c dx (putF (sT f) u ws)) (t := .ins C (putT fs f t)) hi h1 h2' ⟨a, c, dx, _, rfl, h2', h3, upd_same, putT_nd nd, l4⟩
    exact g2 σ P1 W2 _ (s2.trans s3) w3 (Kp.refl md σ)
  · cases e4
end
end Od
namespace Od
open PySem PySem.Spec L2
open PyProof.Rows hiding St cutD
/-! ### x.f.m(e, ..) that changes the list of a field, x.f[e] = v; what stands in them is asked while all is lent -/
def getL1 (fs : List (Tx × T1)) (f : Tx) : Option (List D) := match getF fs f with
  | some (.lst ds) => some ds
  | _ => none
theorem getL1_some {fs : List (Tx × T1)} {f : Tx} {ds : List D} (h : getL1 fs f = some ds) : getF fs f = some (.lst ds) := by
  unfold getL1 at h
  split at h
  · rename_i e; cases h; exact e
  · cases h
def insL (ρ : Env) (i : Nat) (C f : Tx) : Option (List (Tx × T1) × List D) := (insOf ρ i C).bind fun fs => (getL1 fs f).map fun ds => (fs, ds)
def eMutF (C : Tx) (i : Nat) (f : Tx) (m : List D → List D → Option (List D × D)) (As : List EM) : EM := fun ρ => match insL ρ i C f with
  | some p => (match vL As (frzE3 ρ) with
    | .ok a => if deepL a.1 = true then Res.of (m p.2 a.1) >>= fun r => .ok (r.2, ρ.set i (some (.ins C (setF p.1 f (.lst r.1))))) else .fail
    | _ => .fail)
  | none => .fail
def gIxF (C : Tx) (i : Nat) (f : Tx) (B : EM) : GM := fun d ρ => match insL ρ i C f with
  | some p => (match B (frzE3 ρ) with
    | .ok (.int n, _) => if 0 ≤ n ∧ n < p.2.length then some (ρ.set i (some (.ins C (setF p.1 f (.lst (p.2.set n.toNat d)))))) else none
    | _ => none)
  | none => none
section
variable {K : PySem.W.Frag} {mg : Str → Option Value} {P P' P2 H H' : Hp} {W W' W2 : Own} {σ : St} {ρ ρ1 : Env} {r : Option Nat}
theorem RF.getB : ∀ {fs : List (Tx × T1)} {ws : List (Str × V)} {k : Tx} {t : T1}, RF K P W H r fs ws → getF fs k = some t → ∃ v, ws.lookup (sT k) = some v ∧ valV (ws.map gK) (.inr (sT k)) = some v ∧ R1 K P W H r (some k) t v
  | [], ws, k, t, h, e => by cases e
  | (j, u) :: fs, ws, k, t, h, e => by
    obtain ⟨v, w, rfl, h1, h2⟩ := h
    unfold getF at e
    by_cases hj : j = k
    · rw [if_pos hj] at e
      cases e
      subst hj
      exact ⟨v, by simp [List.lookup], by simp only [List.map_cons]; exact valV_pos (p := gK (sT j, v)) rfl, h1⟩
    · rw [if_neg hj] at e
      obtain ⟨v', h3, h5, h4⟩ := RF.getB h2 e
      refine ⟨v', ?_, ?_, h4⟩
      · simp [List.lookup, beq_sT (fun z => hj z.symm), h3]
      · simp only [List.map_cons]; rw [valV_neg (p := gK (sT j, v)) (fun z => hj (sT_inj (Sum.inr.inj z)))]; exact h5
theorem setF_nd {fs : List (Tx × T1)} {k : Tx} {t : T1} (h : (fs.map Prod.fst).Nodup) : ((setF fs k t).map Prod.fst).Nodup := by rw [setF_keys]; exact h
/-- the list of a field, ahead of a look with all lent and behind it -/
theorem Wd.fldL {i : Nat} {C f : Tx} {fs : List (Tx × T1)} {ds : List D} (w : Wd K mg P W H σ ρ) (e : insL ρ i C f = some (fs, ds)) : ∃ (a c dx b : Addr) (ws : List (Str × V)) (vs : List V), insOf ρ i C = some fs ∧ getF fs f = some (.lst ds) ∧ σ[i]? = some (some (.ref a)) ∧ W a = some (some i, Option.none) ∧ (mg (sT C) = some (.ref c) ∧ Top K C c) ∧ H a = some (.ins c dx ws) ∧ (fs.map Prod.fst).Nodup ∧ RF K P W H (some i) fs ws ∧ i < ρ.length ∧
    ws.lookup (sT f) = some (.ref b) ∧ valV (ws.map gK) (.inr (sT f)) = some (.ref b) ∧ W b = some (some i, some f) ∧ H b = some (.lst vs) ∧ DenL K P ds vs := by
  unfold insL at e
  obtain ⟨fs', e1, e2⟩ := Option.bind_eq_some_iff.mp e
  obtain ⟨ds', e3, e4⟩ := Option.map_eq_some_iff.mp e2
  cases e4
  obtain ⟨a, c, dx, ws, h1, h2, h3, h4, nd, l, hi⟩ := w.insAt e1
  obtain ⟨v, q1, q2, b, vs, rfl, q3, q4, q5⟩ := RF.getB l (getL1_some e3)
  exact ⟨a, c, dx, b, ws, vs, e1, getL1_some e3, h1, h2, h3, h4, nd, l, hi, q1, q2, q3, q4, q5⟩
theorem Wd.fldSet {i : Nat} {C f : Tx} {fs : List (Tx × T1)} {ds ds' : List D} {a c dx b : Addr} {ws : List (Str × V)} {vs' : List V} (w : Wd K mg P W H σ ρ) (hg : getF fs f = some (.lst ds)) (h1 : σ[i]? = some (some (.ref a))) (h2 : W a = some (some i, Option.none)) (h3 : mg (sT C) = some (.ref c) ∧ Top K C c) (h4 : H a = some (.ins c dx ws)) (nd : (fs.map Prod.fst).Nodup) (l : RF K P W H (some i) fs ws) (hi : i < ρ.length)
    (q2 : valV (ws.map gK) (.inr (sT f)) = some (.ref b)) (q3 : W b = some (some i, some f)) (q4 : H b = some (.lst vs)) (dn : DenL K P ds' vs') :
    Wd K mg P W (upd H b (.lst vs')) σ (ρ.set i (some (.ins C (setF fs f (.lst ds'))))) ∧ Step P W H P W (upd H b (.lst vs')) := by
  have ne : a ≠ b := fun z => by rw [← z, h4] at q4; cases q4
  have l3 : RF K P W (upd H b (.lst vs')) (some i) (setF fs f (.lst ds')) ws := RF.same (same_refl P) (fun g y hgf hy => ⟨hy, fun o ho => by
    have : y ≠ b := fun z => by subst z; rw [q3] at hy; cases hy; exact hgf rfl
    rw [upd_ne this]; exact ho⟩) (show R1 K P W (upd H b (.lst vs')) (some i) (some f) (.lst ds') (.ref b) from ⟨b, vs', rfl, q3, upd_same, dn⟩) hg q2 nd l
  exact w.mutF (mg := mg) (o := .lst vs') (t := .ins C (setF fs f (.lst ds'))) hi h1 q3 ⟨a, c, dx, ws, rfl, h2, h3, by rw [upd_ne ne]; exact h4, setF_nd nd, l3⟩
end
section
variable {X : Cx} {E : WX} {C f : Tx} {fl : List Tx} {i : Nat} {e : Expr} {As : List EM} {n : Str} {r : V → List V → Hp → VK → Prop}
theorem ev_mutF {m : List D → List D → Option (List D × D)} (R : ClsI X.K X.mg C fl) (hf : f ∈ fl) (hn : n = sT f) (hm : MutOk X.K r m) (hp : PE X e (tBM X.K "list" r (tFld X.K (tVar i) n) (rX X.K X.mg E (VLRel X.K X.mg) (vL As)))) : EV X E e (eMutF C i f m As) := PE.imp hp fun σ H Q ⟨P, W, ρ, w, g⟩ => by
  subst hn
  unfold eMutF at g
  split at g
  case h_2 => exact g.elim
  rename_i p e1
  obtain ⟨fs, ds⟩ := p
  obtain ⟨a, c, dx, b, ws, vs, e0, hg, h1, h2, h3, h4, nd, l, hi, q1, q2, q3, q4, q5⟩ := w.fldL e1
  obtain ⟨c', t', _, ec, hna⟩ := R.ex
  obtain rfl := top_inj h3.2 t'
  refine ⟨_, h1, a, c, dx, ws, .ref b, rfl, h4, ec, hna f hf, q1, .inl ⟨rfl, vs, SqL.of q4⟩, lend2P P H W, lendW, frzE3 ρ, w.lend3, ?_⟩
  cases hF : vL As (frzE3 ρ) with
  | fail => rw [hF] at g; exact g.elim
  | exc x r => rw [hF] at g; exact g.elim
  | ok av =>
    rw [hF] at g
    intro avs P' W' H' st hv
    obtain ⟨P2, W2, w2, s2, hpd, _⟩ := w.lent2 st (ρ1 := av.2) hv.1
    have kb : H' b = some (.lst vs) := (st.2 b _ q4 rfl).1
    have ka : H' a = some (.ins c dx ws) := (st.2 a _ h4 rfl).1
    simp only at g
    split at g
    case isFalse => exact g.elim
    rename_i hsc
    obtain ⟨res, e3, g3⟩ := Go.of g
    obtain ⟨a', c2, dx2, b2, ws2, vs2, _, hg2, p1, p2, p3, p4, nd2, l2, hi2, u1, u2, u3, u4, u5⟩ := w2.fldL e1
    rw [h1] at p1; cases p1
    rw [ka] at p4; cases p4
    rw [q1] at u1; cases u1
    rw [kb] at u4; cases u4
    refine hm P2 H' b vs avs ds av.1 res.1 res.2 Q w2.same kb u5 (den_deepL hpd _ _ hsc hv.2) e3 fun v vs' dn' dv => ?_
    obtain ⟨w3, s3⟩ := w2.fldSet (ds' := res.1) (vs' := vs') hg h1 p2 p3 ka nd l2 hi2 u2 u3 kb dn'
    exact g3 v P2 W2 _ (s2.trans s3) ⟨w3, dv⟩
end
section
variable {X : Cx} {C f : Tx} {fl : List Tx} {i : Nat} {x n : Str} {p1 p2 pos : Pos} {e : Expr} {B : EM} {sl : List Nat}
theorem gd_ixF (R : ClsI X.K X.mg C fl) (hf : f ∈ fl) (hn : n = sT f) (hN : X.N[i]? = some x) (hv : Vis X.env.scope x) (hB : EV X E0 e B) (hd : (x == ("__debug__" : Str)) = false := by decide) (hcd : (x == ("__classdict__" : Str)) = false := by decide)
    (hb : attributeBase (.Name x p1) n X.env (eval (.Name x p1) X.env) = eval (.Name x p1) X.env := by rfl)
    (ha : ∀ v, assign (.Subscript (.Attribute (.Name x p1) n p2) e pos) X.env v = (do
      let ov ← holding [v] (eval (.Attribute (.Name x p1) n p2) X.env)
      let iv ← holding [v, ov] (eval e X.env)
      standAt pos
      holding [v, ov, iv] (setItem ov iv v)
      release [v, ov, iv] []) := by intro _; rfl) : GD X sl (.Subscript (.Attribute (.Name x p1) n p2) e pos) (gIxF C i f B) := by
  subst hn
  exact PG.imp (pg_sub (pe_fld (pe_var hN hv hd hcd) hb) hB set_list ha) fun v σ H Q ⟨P, W, ρ, d, ρ', w, dn, e, q⟩ => by
    unfold gIxF at e
    split at e
    case h_2 => cases e
    rename_i p e1
    obtain ⟨fs, ds⟩ := p
    obtain ⟨a, c, dx, b, ws, vs, e0, hg, h1, h2, h3, h4, nd, l, hi, q1, q2, q3, q4, q5⟩ := w.fldL e1
    obtain ⟨c', t', _, ec, hna⟩ := R.ex
    obtain rfl := top_inj h3.2 t'
    refine ⟨_, h1, a, c, dx, ws, .ref b, rfl, h4, ec, hna f hf, q1, lend2P P H W, lendW, frzE3 ρ, w.lend3, ?_⟩
    cases hF : B (frzE3 ρ) with
    | fail => rw [hF] at e; cases e
    | exc y ρ1 => rw [hF] at e; cases e
    | ok r =>
      obtain ⟨t, ρ1⟩ := r
      rw [hF] at e
      cases t with
      | int n =>
        simp only at e
        split at e
        · rename_i hn
          cases e
          intro y P' W' H' st ⟨w1, dy⟩
          obtain ⟨P2, W2, w2, s2, _, _⟩ := w.lent2 st (ρ1 := ρ1) w1
          have kb : H' b = some (.lst vs) := (st.2 b _ q4 rfl).1
          have ka : H' a = some (.ins c dx ws) := (st.2 a _ h4 rfl).1
          obtain ⟨a', c2, dx2, b2, ws2, vs2, _, hg2, p1, p2, p3, p4, nd2, l2, hi2, u1, u2, u3, u4, u5⟩ := w2.fldL e1
          rw [h1] at p1; cases p1
          rw [ka] at p4; cases p4
          rw [q1] at u1; cases u1
          rw [kb] at u4; cases u4
          have dy : Den X.K P' (.int n) y := dy
          unfold Den at dy
          refine ⟨b, vs, n, n.toNat, rfl, dy, kb, ixN_of (by rw [u5.len]; exact hn), ?_⟩
          obtain ⟨w3, s3⟩ := w2.fldSet (ds' := ds.set n.toNat d) (vs' := vs.set n.toNat v) hg h1 p2 p3 ka nd l2 hi2 u2 u3 kb (DenL.set n.toNat u5 (Den.mono s2.1 _ _ dn))
          exact q σ P2 W2 _ (s2.trans s3) w3 (Ke.refl sl σ)
        · cases e
      | _ => cases e
end
/-! ### x.m(e, ..), x a shared instance -/
def eCallMS (C m : Tx) (fn : Fn) (i : Nat) (As : List Arg) : OM := fun ρ => match ρ[i]? with
  | some (some (.sh (.obj c ks vs))) => if c = C ∧ m ∉ ks then eCall fn (.io i :: As) ρ else .fail
  | _ => .fail
section
variable {X : Cx} {E : WX} {C m f : Tx} {fl : List Tx} {i k : Nat} {x n : Str} {fn : Fn} {p1 apos pos pos' : Pos} {e : Expr} {es : List Expr} {As : List Arg} {F : EM} {md : List Bool}
theorem lookup_no {ws : List (Str × V)} {ks : List Tx} {m : Tx} (h : ws.map Prod.fst = ks.map sT) (hm : m ∉ ks) : ws.lookup (sT m) = Option.none := by
  induction ws generalizing ks with
  | nil => rfl
  | cons p ws ih =>
    cases ks with
    | nil => cases h
    | cons k ks =>
      simp only [List.map_cons, List.cons.injEq] at h
      obtain ⟨j, v⟩ := p
      have h1 : j = sT k := h.1
      subst h1
      have : m ≠ k := fun z => hm (by rw [z]; exact List.mem_cons_self)
      rw [List.lookup, beq_sT this]
      exact ih h.2 fun z => hm (List.mem_cons_of_mem _ z)
theorem meth_redS {σ : St} {H : Hp} {Q : VK} {c : Addr} (hT : Top X.K C c) (h : rX X.K X.mg E (TRel X.K X.mg) (eCallMS C m fn i As) σ H Q) : tMethG c (sT m) (spF X.K X.mg fn) (WE E) (tVar i) (rX X.K X.mg E (ARel X.K X.mg As) (aL As)) σ H Q := by
  obtain ⟨P, W, ρ, w, g⟩ := h
  unfold eCallMS at g
  split at g
  · rename_i c0 ks vs e1
    split at g
    · rename_i hc
      obtain ⟨rfl, hmk⟩ := hc
      obtain ⟨v, h1, hr⟩ := w.env i _ e1
      have hr : Den X.K P (.obj c0 ks vs) v := hr
      unfold Den at hr
      obtain ⟨a, c', dx, ws, rfl, hT', hP, hk, l⟩ := hr
      obtain rfl := top_inj hT' hT
      have h4 := w.same a _ hP
      refine ⟨_, h1, a, dx, ws, rfl, h4, lookup_no hk hmk, P, W, ρ, w, ?_⟩
      unfold eCall at g
      by_cases n : nodupB (iosOf (.io i :: As)) = true
      · rw [if_pos n] at g
        have ea : aL (.io i :: As) ρ = (aL As ρ >>= fun r => .ok (Option.none :: r.1, r.2)) := by
          show (match ρ[i]? with | some (some _) => _ | _ => _) = _
          rw [e1]
        rw [ea] at g
        have g0 : Go X.K X.mg E (TRel X.K X.mg) (aL As ρ >>= fun r => Res.of (mkT (.io i :: As) (Option.none :: r.1) r.2) >>= fun ts => match fn ts with
          | .ok t os => Res.ok (t, putB (.io i :: As) os r.2)
          | .exc x os => .exc x (putB (.io i :: As) os r.2)
          | .fail => .fail) P W H σ Q := by
          cases q : aL As ρ with
          | ok r => rw [q] at g; exact g
          | exc x ρ' => rw [q] at g; exact g
          | fail => rw [q] at g; exact g
        refine (Go.bind g0).mono fun vs H1 ⟨P1, W1, b, s1, ⟨w1, k1⟩, g1⟩ => ?_
        obtain ⟨ts, mk, g2⟩ := Go.of g1
        have k2 : AOk X.K P1 σ (.io i :: As) (Option.none :: b.1) (.ref a :: vs) := ⟨b.1, .ref a, vs, rfl, rfl, h1, k1⟩
        refine ⟨P1, ownIn (.io i :: As) W1, ts, w1.callee n k2 mk, (args_env k2 mk).1, ?_⟩
        cases hf : fn ts with
        | ok t os =>
          rw [hf] at g2
          exact fun v P' W' H' st w' rt => by
            obtain ⟨wb, sb, rb⟩ := w1.back n k2 st w'
            exact g2 v P' _ H' sb ⟨wb, rb t v rt⟩
        | exc x os =>
          rw [hf] at g2
          exact fun c od P' W' H' st w' xr => by
            obtain ⟨wb, sb, rb⟩ := w1.back n k2 st w'
            exact g2 c od P' _ H' sb wb xr
        | fail => rw [hf] at g2; exact g2.elim
      · rw [if_neg n] at g; exact g.elim
    · exact g.elim
  · exact g.elim
theorem et_methS {pl : Sem Bool} (R : CalM X.prog X.w X.K X.mg X.base k C m fn) (hn : n = sT m) (hr : RoomG k X.A) (tk : Takes X E) (hN : X.N[i]? = some x) (hv : Vis X.env.scope x) (ha : EAA X E (e :: es) As) (hd : (x == ("__debug__" : Str)) = false := by decide) (hcd : (x == ("__classdict__" : Str)) = false := by decide)
    (hst : starEach (e :: es) X.env = (false, eval e X.env) :: starEach es X.env := by rfl) (hpl : (backTo pos (starEach es X.env)).any (·.1) = false := by rfl)
    (ht : eval (.Call (.Attribute (.Name x p1) n apos) (e :: es) [] pos) X.env = (do
      let ov ← eval (.Name x p1) X.env
      standAt apos.atName
      let (f, first) ← holding [ov] (getMethod ov n pl)
      callWith pos f first (backTo pos (starEach (e :: es) X.env)) (backToKw pos (keywordEach [] X.env))) := by rfl) :
    ET X E (.Call (.Attribute (.Name x p1) n apos) (e :: es) [] pos) (eCallMS C m fn i As) := by
  subst hn
  obtain ⟨c, f, fd, ps, hT, hc, hm, F, hb⟩ := R.ex
  exact PE.imp (pe_methG (E := WE E) (pe_var hN hv hd hcd) hc hm F hr hb (fun σ => passAt tk σ) ha hst hpl ht) fun σ H Q h => meth_redS hT h
end
end Od
namespace Od
open PySem PySem.Spec L2
open PyProof.Rows hiding St cutD
/-! ### how Od83's and Od84's are read -/
section
variable {ρ : Env} {Φ : D × Env → Prop} {ΦB : Bool × Env → Prop} {ΦT : T × Env → Prop} {Ψ : Exn → Env → Prop} {ΦE : Env → Prop} {ΦO : Option T → Prop} {ΦS : Fl → Prop} {ΦL : List D → Prop} {ΦD : D → Prop}
theorem s_lend3 (F : EM) : sat (eLend3 F ρ) Φ Ψ = cps (frzE3 ρ) fun ρ0 => sat (F ρ0) (fun a => scalD a.1 = true ∧ Φ (a.1, ρ)) (fun _ _ => False) := by
  unfold eLend3
  show _ = sat (F (frzE3 ρ)) _ _
  generalize F (frzE3 ρ) = z
  cases z with
  | fail => rfl
  | exc x r => rfl
  | ok a =>
    show sat (if scalD a.1 = true then _ else _) Φ Ψ = (scalD a.1 = true ∧ Φ (a.1, ρ))
    by_cases hs : scalD a.1 = true
    · rw [if_pos hs]; exact (propext ⟨fun h => ⟨hs, h⟩, fun h => h.2⟩)
    · rw [if_neg hs]; exact (propext ⟨fun h => h.elim, fun h => hs h.1⟩)
theorem s_blend3 (C : BM) : sat (bLend3 C ρ) ΦB Ψ = cps (frzE3 ρ) fun ρ0 => sat (C ρ0) (fun a => ΦB (a.1, ρ)) (fun _ _ => False) := by
  unfold bLend3
  show _ = sat (C (frzE3 ρ)) _ _
  generalize C (frzE3 ρ) = z
  cases z <;> rfl
theorem s_tlend3 (F : OM) : sat (tLend3 F ρ) ΦT Ψ = cps (frzE3 ρ) fun ρ0 => sat (F ρ0) (fun a => deepT a.1 = true ∧ ΦT (a.1, ρ)) (fun _ _ => False) := by
  unfold tLend3
  show _ = sat (F (frzE3 ρ)) _ _
  generalize F (frzE3 ρ) = z
  cases z with
  | fail => rfl
  | exc x r => rfl
  | ok a =>
    obtain ⟨t, r⟩ := a
    show sat (if deepT t = true then Res.ok (t, ρ) else .fail) ΦT Ψ = _
    rw [sat_iteF]; rfl
theorem c_fri0 : cps (frzE3 []) ΦE = ΦE [] := rfl
theorem c_fri1 (o : Option T) : cps (frzE3 (o :: ρ)) ΦE = cps (frzO3 o) fun o' => cps (frzE3 ρ) fun r => ΦE (o' :: r) := rfl
theorem c_frin : cps (frzO3 Option.none) ΦO = ΦO Option.none := rfl
theorem c_fris (d : D) : cps (frzO3 (some (.sh d))) ΦO = ΦO (some (.sh d)) := rfl
theorem c_fril (ds : List D) : cps (frzO3 (some (.lst ds))) ΦO = ΦO (some (.sh (.lst ds))) := rfl
theorem c_frid (ks : List DK) (ds : List D) : cps (frzO3 (some (.dct ks ds))) ΦO = ΦO (some (.sh (.dct ks ds))) := rfl
theorem c_frir (fs : List (Tx × T1)) : cps (frzO3 (some (.rcd fs))) ΦO = ΦO Option.none := rfl
theorem c_friq (ts : List T1) : cps (frzO3 (some (.seq false ts))) ΦO = ΦO (some (.sh (.lst (ts.map d1)))) := rfl
theorem c_friQ (ts : List T1) : cps (frzO3 (some (.seq true ts))) ΦO = ΦO Option.none := rfl
theorem c_frii (C : Tx) (fs : List (Tx × T1)) : cps (frzO3 (some (.ins C fs))) ΦO = ΦO (some (.sh (.obj C (fs.map Prod.fst) (fs.map fun p => d1 p.2)))) := rfl
/-- a part of a lent one -/
def getD1 (fs : List (Tx × T1)) (f : Tx) : Option D := (getF fs f).map d1
theorem lkX_get1 : ∀ (fs : List (Tx × T1)) (f : Tx), lkX (fs.map Prod.fst) (fs.map fun p => d1 p.2) f = getD1 fs f
  | [], f => rfl
  | (k, t) :: fs, f => by
    show (if k = f then some (d1 t) else lkX (fs.map Prod.fst) (fs.map fun p => d1 p.2) f) = ((if k = f then some t else getF fs f) : Option T1).map d1
    rw [lkX_get1 fs f]
    split <;> rfl
theorem x_lkXD (fs : List (Tx × T1)) (f : Tx) : ex (lkX (fs.map Prod.fst) (fs.map fun p => d1 p.2) f) ΦD = ex (getD1 fs f) ΦD := by rw [lkX_get1]
theorem k_getD11 (f : Tx) (t : T1) (fs : List (Tx × T1)) : ex (getD1 ((f, t) :: fs) f) ΦD = ΦD (d1 t) := by unfold getD1 getF; rw [if_pos rfl]; rfl
theorem k_getD12 (f g : Tx) (t : T1) (fs : List (Tx × T1)) (h : decide (g = f) = false) : ex (getD1 ((g, t) :: fs) f) ΦD = ex (getD1 fs f) ΦD := by unfold getD1; rw [show getF ((g, t) :: fs) f = getF fs f from by rw [getF, if_neg (of_decide_eq_false h)]]
variable {ΦP : List (Tx × T1) × List D → Prop} {x : Option T} {i : Nat} {C f : Tx}
theorem k_insL0 (fs : List (Tx × T1)) : ex (insL (some (.ins C fs) :: ρ) 0 C f) ΦP = ex (getL1 fs f) fun ds => ΦP (fs, ds) := by
  show ex ((if C = C then some fs else none).bind fun fs => (getL1 fs f).map fun ds => (fs, ds)) ΦP = _
  rw [if_pos rfl]
  show ex ((getL1 fs f).map _) ΦP = _
  rw [ex_map]
theorem k_insLs : ex (insL (x :: ρ) (i + 1) C f) ΦP = ex (insL ρ i C f) ΦP := rfl
theorem k_getL11 (f : Tx) (ds : List D) (fs : List (Tx × T1)) : ex (getL1 ((f, .lst ds) :: fs) f) ΦL = ΦL ds := by unfold getL1 getF; rw [if_pos rfl]; rfl
theorem k_getL12 (f g : Tx) (t : T1) (fs : List (Tx × T1)) (h : decide (g = f) = false) : ex (getL1 ((g, t) :: fs) f) ΦL = ex (getL1 fs f) ΦL := by unfold getL1; rw [show getF ((g, t) :: fs) f = getF fs f from by rw [getF, if_neg (of_decide_eq_false h)]]
theorem s_eMutF (C : Tx) (i : Nat) (f : Tx) (m : List D → List D → Option (List D × D)) (As : List EM) : sat (eMutF C i f m As ρ) Φ Ψ = ex (insL ρ i C f) fun p => cps (frzE3 ρ) fun ρ0 => sat (vL As ρ0) (fun a => deepL a.1 = true ∧ ex (m p.2 a.1) fun r => cps (List.set ρ i (some (.ins C (setF p.1 f (.lst r.1))))) fun ρ' => Φ (r.2, ρ')) (fun _ _ => False) := by
  unfold eMutF
  cases insL ρ i C f with
  | none => rfl
  | some p =>
    show sat (match vL As (frzE3 ρ) with | .ok a => _ | _ => .fail) Φ Ψ = sat (vL As (frzE3 ρ)) _ _
    generalize vL As (frzE3 ρ) = z
    cases z with
    | fail => rfl
    | exc x r => rfl
    | ok a =>
      show sat (if deepL a.1 = true then _ else _) Φ Ψ = (_ ∧ _)
      rw [sat_iteF]
      congr 1
      show sat (Res.of (m p.2 a.1) >>= _) Φ Ψ = _
      rw [sat_bind, sat_of]; rfl
theorem m_gIxF (C : Tx) (i : Nat) (f : Tx) (B : EM) (d : D) : ex (gIxF C i f B d ρ) ΦE = ex (insL ρ i C f) fun p => cps (frzE3 ρ) fun ρ0 => sat (B ρ0) (fun a => ex (intOf a.1) fun n => (0 ≤ n ∧ n < p.2.length) ∧ cps (List.set ρ i (some (.ins C (setF p.1 f (.lst (p.2.set n.toNat d)))))) ΦE) (fun _ _ => False) := by
  unfold gIxF
  cases insL ρ i C f with
  | none => rfl
  | some p =>
    show ex (match B (frzE3 ρ) with | .ok (.int n, _) => _ | _ => none) ΦE = sat (B (frzE3 ρ)) _ _
    generalize B (frzE3 ρ) = z
    cases z with
    | fail => rfl
    | exc x r => rfl
    | ok a =>
      obtain ⟨b, ρ1⟩ := a
      cases b with
      | int n =>
        show ex (if _ then _ else _) ΦE = _
        rw [ex_ite]; rfl
      | _ => rfl
theorem s_sFldIO (C : Tx) (i : Nat) (f : Tx) (F : OM) : sat (sFldIO C i f F ρ) ΦS Ψ = sat (F ρ) (fun a => ex (t1Of a.1) fun t => ex (insOf a.2 i C) fun fs => fs.length < 900 ∧ cps (List.set a.2 i (some (.ins C (putT fs f t)))) fun r => ΦS (.nx r)) Ψ := by
  unfold sFldIO
  rw [sat_bind]; congr 1; funext a
  rw [sat_bind, sat_of, ex_bind]; congr 1; funext t
  rw [ex_bind]; congr 1; funext fs
  rw [ex_ite]; rfl
variable {Φ1 : T1 → Prop}
theorem x_t1Os (d : D) : ex (t1Of (.sh d)) Φ1 = Φ1 (.sh d) := rfl
theorem x_t1Ol (ds : List D) : ex (t1Of (.lst ds)) Φ1 = Φ1 (.lst ds) := rfl
theorem x_t1Od (ks : List DK) (ds : List D) : ex (t1Of (.dct ks ds)) Φ1 = Φ1 (.dct ks ds) := rfl
theorem s_eCallMS (C m : Tx) (fn : Fn) (i : Nat) (As : List Arg) {c : Tx} {ks : List Tx} {vs : List D} (h : ρ[i]? = some (some (.sh (.obj c ks vs)))) : sat (eCallMS C m fn i As ρ) ΦT Ψ = ((c = C ∧ m ∉ ks) ∧ sat (eCall fn (.io i :: As) ρ) ΦT Ψ) := by
  unfold eCallMS
  rw [h]
  show sat (if c = C ∧ m ∉ ks then _ else .fail) ΦT Ψ = _
  rw [sat_iteF]
end
end Od
namespace Od
open PySem PySem.Spec L2
open PyProof.Rows hiding St cutD
/-! ### x.f[k] = v, the field a dict of its own -/
def getD2 (fs : List (Tx × T1)) (f : Tx) : Option (List DK × List D) := match getF fs f with
  | some (.dct ks ds) => some (ks, ds)
  | _ => none
section
variable {K : PySem.W.Frag} {mg : Str → Option Value} {P P' P2 H H' : Hp} {W W' W2 : Own} {σ : St} {ρ ρ1 : Env} {r : Option Nat}
end
section
variable {X : Cx} {C f : Tx} {fl : List Tx} {i : Nat} {x n : Str} {p1 p2 pos : Pos} {e : Expr} {B : EM} {sl : List Nat}
end
section
variable {ρ : Env} {ΦE : Env → Prop} {ΦQ : List (Tx × T1) × (List DK × List D) → Prop} {ΦR : List DK × List D → Prop} {x : Option T} {i : Nat} {C f : Tx}
theorem k_getD21 (f : Tx) (ks : List DK) (ds : List D) (fs : List (Tx × T1)) : ex (getD2 ((f, .dct ks ds) :: fs) f) ΦR = ΦR (ks, ds) := by unfold getD2 getF; rw [if_pos rfl]; rfl
theorem k_getD22 (f g : Tx) (t : T1) (fs : List (Tx × T1)) (h : decide (g = f) = false) : ex (getD2 ((g, t) :: fs) f) ΦR = ex (getD2 fs f) ΦR := by unfold getD2; rw [show getF ((g, t) :: fs) f = getF fs f from by rw [getF, if_neg (of_decide_eq_false h)]]
end
end Od
/-! ### list(d) of a dict -/
namespace Od
open PySem PySem.Spec L2
open PyProof.Rows hiding St cutD
theorem x_lendct (ks : List DK) (ds : List D) {Φ : D → Prop} : ex (fLen [.dct ks ds]) Φ = Φ (.int ks.length) := rfl
end Od
/-! ### equality of two views of one and the same data, dicts among its parts -/
namespace PySem.SeqAt
open AutoSeq1 (wpAny_loadPart')
open MeetsSeq MeetsSeq2 MeetsSeq3 SeqRoads2
section
variable {prog : Program} {w : World}
variable {A : Around} {s : Shared}
end
end PySem.SeqAt
namespace Od
open PySem PySem.Spec L2
open PyProof.Rows hiding St cutD
section
variable {X : Cx} {pins : List (Addr × Obj)} {σ : St} {H : Hp} {s : Shared}
end
mutual
def D.same : D → D → Bool
  | .non, .non => true
  | .bl a, .bl b => a == b
  | .int a, .int b => decide (a = b)
  | .str a, .str b => decide (a = b)
  | .tup a, .tup b => D.sameL a b
  | .lst a, .lst b => D.sameL a b
  | .dct ks a, .dct ls b => decide (ks = ls) && D.sameL a b
  | _, _ => false
def D.sameL : List D → List D → Bool
  | [], [] => true
  | a :: as, b :: bs => D.same a b && D.sameL as bs
  | _, _ => false
end
end Od
namespace Od
open PySem PySem.Spec L2
open PyProof.Rows hiding St cutD
/-! ### records lent as dicts, a part's list changed, a part's list taken by a name for a block -/
def frzO4 : Option T → Option T
  | some (.rcd fs) => some (.sh (.dct (fs.map fun p => .inr p.1) (fs.map fun p => d1 p.2)))
  | o => frzO3 o
def frzE4 (ρ : Env) : Env := ρ.map frzO4
section
variable {K : PySem.W.Frag} {mg : Str → Option Value} {P P' P2 H H' : Hp} {W W' W2 : Own} {σ : St} {ρ ρ1 : Env} {r : Option Nat}
theorem Wd.lend4 (w : Wd K mg P W H σ ρ) : Wd K mg (lend2P P H W) lendW H σ (frzE4 ρ) := by
  have w3 := w.lend3
  have sm : Same P (lend2P P H W) := fun a u e => by
    unfold lend2P lndA
    cases h : W a with
    | none => simpa using e
    | some r => have := (w.own a r h).1; rw [e] at this; cases this
  refine ⟨w3.same, w3.own, fun i t e => ?_, by unfold frzE4; rw [List.length_map]; exact w.len⟩
  unfold frzE4 at e
  rw [List.getElem?_map] at e
  obtain ⟨o, ho, e⟩ := Option.map_eq_some_iff.mp e
  have old : frzO4 o = frzO3 o → ∃ v, σ[i]? = some (some v) ∧ RT K mg (lend2P P H W) lendW H (some i) t v := fun z => w3.env i t (by
    unfold frzE3; rw [List.getElem?_map, ho]; show some (frzO3 o) = _; rw [← z, e])
  cases o with
  | none => exact old rfl
  | some t0 =>
    cases t0 with
    | rcd fs =>
      obtain ⟨v, hs, hr⟩ := w.env i _ ho
      refine ⟨v, hs, ?_⟩
      cases e
      obtain ⟨a, ws, e, hw, hh, nd, l⟩ := hr
      obtain ⟨k1, k2⟩ := RF.den3 sm (fun x f o e h n => lnd_at e h n) l
      show Den K _ (.dct _ _) v
      unfold Den
      refine ⟨a, _, e, by rw [lnd_at hw hh rfl]; exact hh, ?_, ?_⟩
      · rw [List.map_map, List.map_map]
        have : (ws.map fun p => (.inr p.1 : Key)) = (ws.map Prod.fst).map .inr := by rw [List.map_map]; rfl
        show (ws.map fun p => (.inr p.1 : Key)) = _
        rw [this, k1, List.map_map, List.map_map]
        rfl
      · rw [List.map_map]; exact k2
    | sh d => exact old rfl
    | lst ds => exact old rfl
    | dct ks vs => exact old rfl
    | ins C fs => exact old rfl
    | seq b ts => exact old rfl
end
def eLend4 (F : EM) : EM := fun ρ => match F (frzE4 ρ) with
  | .ok a => if scalD a.1 then .ok (a.1, ρ) else .fail
  | _ => .fail
def bLend4 (C : BM) : BM := fun ρ => match C (frzE4 ρ) with
  | .ok a => .ok (a.1, ρ)
  | _ => .fail
def tLend4 (F : OM) : OM := fun ρ => match F (frzE4 ρ) with
  | .ok (t, _) => if deepT t = true then .ok (t, ρ) else .fail
  | _ => .fail
section
variable {X : Cx} {E : WX} {e : Expr}
theorem ev_lend4 {F : EM} (h : EV X E e F) : EV X E e (eLend4 F) := PE.imp h fun σ H Q ⟨P, W, ρ, w, g⟩ => by
  unfold eLend4 at g
  refine ⟨lend2P P H W, lendW, frzE4 ρ, w.lend4, ?_⟩
  cases hF : F (frzE4 ρ) with
  | fail => rw [hF] at g; exact g.elim
  | exc x r => rw [hF] at g; exact g.elim
  | ok a =>
    rw [hF] at g
    intro v P' W' H' st hv
    have wv := hv.1.env
    obtain ⟨P2, W2, w2, s2, _, _⟩ := w.lent2 st (ρ1 := a.2) hv.1
    by_cases hs : scalD a.1 = true
    · simp only [hs, if_true] at g
      exact g v P2 W2 H' s2 ⟨w2, den_scal hs hv.2⟩
    · simp only [hs] at g
      exact g.elim
theorem eb_lend4 {C : BM} (h : EB X E e C) : EB X E e (bLend4 C) := PT.imp h fun σ H Q ⟨P, W, ρ, w, g⟩ => by
  unfold bLend4 at g
  refine ⟨lend2P P H W, lendW, frzE4 ρ, w.lend4, ?_⟩
  cases hF : C (frzE4 ρ) with
  | fail => rw [hF] at g; exact g.elim
  | exc x r => rw [hF] at g; exact g.elim
  | ok a =>
    rw [hF] at g
    intro P' W' H' st hv
    obtain ⟨P2, W2, w2, s2, _, _⟩ := w.lent2 st (ρ1 := a.2) hv
    exact g P2 W2 H' s2 w2
theorem et_lend4 {F : OM} (h : ET X E e F) : ET X E e (tLend4 F) := PE.imp h fun σ H Q ⟨P, W, ρ, w, g⟩ => by
  unfold tLend4 at g
  refine ⟨lend2P P H W, lendW, frzE4 ρ, w.lend4, ?_⟩
  cases hF : F (frzE4 ρ) with
  | fail => rw [hF] at g; exact g.elim
  | exc x r => rw [hF] at g; exact g.elim
  | ok a =>
    obtain ⟨t, ρ1⟩ := a
    rw [hF] at g
    intro v P' W' H' st ⟨w', rt⟩
    simp only at g
    split at g
    · rename_i hsc
      obtain ⟨P2, W2, w2, s2, hp, hw⟩ := w.lent2 st w'
      exact g v P2 W2 H' s2 ⟨w2, RT.deep hp hw hsc rt⟩
    · exact g.elim
end
/-! ### x['k'].m(e, ..) -/
def rcdL (ρ : Env) (i : Nat) (f : Tx) : Option (List (Tx × T1) × List D) := (rcdOf ρ i).bind fun fs => (getL1 fs f).map fun ds => (fs, ds)
def eMutR (i : Nat) (f : Tx) (m : List D → List D → Option (List D × D)) (As : List EM) : EM := fun ρ => match rcdL ρ i f with
  | some p => (match vL As (frzE4 ρ) with
    | .ok a => if deepL a.1 = true then Res.of (m p.2 a.1) >>= fun r => .ok (r.2, ρ.set i (some (.rcd (setF p.1 f (.lst r.1))))) else .fail
    | _ => .fail)
  | none => .fail
section
variable {K : PySem.W.Frag} {mg : Str → Option Value} {P P' P2 H H' : Hp} {W W' W2 : Own} {σ : St} {ρ ρ1 : Env} {r : Option Nat}
theorem Wd.prtL {i : Nat} {f : Tx} {fs : List (Tx × T1)} {ds : List D} (w : Wd K mg P W H σ ρ) (e : rcdL ρ i f = some (fs, ds)) : ∃ (a b : Addr) (ws : List (Str × V)) (vs : List V), rcdOf ρ i = some fs ∧ getF fs f = some (.lst ds) ∧ σ[i]? = some (some (.ref a)) ∧ W a = some (some i, Option.none) ∧ H a = some (.dK (ws.map gK)) ∧ (fs.map Prod.fst).Nodup ∧ RF K P W H (some i) fs ws ∧ i < ρ.length ∧
    valV (ws.map gK) (.inr (sT f)) = some (.ref b) ∧ W b = some (some i, some f) ∧ H b = some (.lst vs) ∧ DenL K P ds vs := by
  unfold rcdL at e
  obtain ⟨fs', e1, e2⟩ := Option.bind_eq_some_iff.mp e
  obtain ⟨ds', e3, e4⟩ := Option.map_eq_some_iff.mp e2
  cases e4
  obtain ⟨a, ws, h1, h2, h3, nd, l, hi⟩ := w.rcdAt e1
  obtain ⟨v, q2, b, vs, rfl, q3, q4, q5⟩ := RF.get l (getL1_some e3)
  exact ⟨a, b, ws, vs, e1, getL1_some e3, h1, h2, h3, nd, l, hi, q2, q3, q4, q5⟩
theorem Wd.prtSet {i : Nat} {f : Tx} {fs : List (Tx × T1)} {ds ds' : List D} {a b : Addr} {ws : List (Str × V)} {vs vs' : List V} (w : Wd K mg P W H σ ρ) (hg : getF fs f = some (.lst ds)) (h1 : σ[i]? = some (some (.ref a))) (h2 : W a = some (some i, Option.none)) (h4 : H a = some (.dK (ws.map gK))) (nd : (fs.map Prod.fst).Nodup) (l : RF K P W H (some i) fs ws) (hi : i < ρ.length)
    (q2 : valV (ws.map gK) (.inr (sT f)) = some (.ref b)) (q3 : W b = some (some i, some f)) (q4 : H b = some (.lst vs)) (dn : DenL K P ds' vs') :
    Wd K mg P W (upd H b (.lst vs')) σ (ρ.set i (some (.rcd (setF fs f (.lst ds'))))) ∧ Step P W H P W (upd H b (.lst vs')) := by
  have ne : a ≠ b := fun z => by rw [← z, h4] at q4; cases q4
  have l3 : RF K P W (upd H b (.lst vs')) (some i) (setF fs f (.lst ds')) ws := RF.same (same_refl P) (fun g y hgf hy => ⟨hy, fun o ho => by
    have : y ≠ b := fun z => by subst z; rw [q3] at hy; cases hy; exact hgf rfl
    rw [upd_ne this]; exact ho⟩) (show R1 K P W (upd H b (.lst vs')) (some i) (some f) (.lst ds') (.ref b) from ⟨b, vs', rfl, q3, upd_same, dn⟩) hg q2 nd l
  exact w.mutF (mg := mg) (o := .lst vs') (t := .rcd (setF fs f (.lst ds'))) hi h1 q3 ⟨a, ws, rfl, h2, by rw [upd_ne ne]; exact h4, by rw [setF_keys]; exact nd, l3⟩
end
section
variable {X : Cx} {E : WX} {f : Tx} {i : Nat} {e : Expr} {As : List EM} {ks : Str} {r : V → List V → Hp → VK → Prop}
theorem ev_mutR {m : List D → List D → Option (List D × D)} (hk : ks = sT f) (hm : MutOk X.K r m) (hp : PE X e (tBM X.K "list" r (tOp (rIxA X.K) (tVar i) (tC (.str ks))) (rX X.K X.mg E (VLRel X.K X.mg) (vL As)))) : EV X E e (eMutR i f m As) := PE.imp hp fun σ H Q ⟨P, W, ρ, w, g⟩ => by
  subst hk
  unfold eMutR at g
  split at g
  case h_2 => exact g.elim
  rename_i p e1
  obtain ⟨fs, ds⟩ := p
  obtain ⟨a, b, ws, vs, e0, hg, h1, h2, h4, nd, l, hi, q2, q3, q4, q5⟩ := w.prtL e1
  refine ⟨_, h1, .inr ⟨a, .ref b, rfl, by rw [← q2]; exact DGet.k (k := .inr _) h4, .inl ⟨rfl, vs, SqL.of q4⟩, lend2P P H W, lendW, frzE4 ρ, w.lend4, ?_⟩⟩
  cases hF : vL As (frzE4 ρ) with
  | fail => rw [hF] at g; exact g.elim
  | exc x r => rw [hF] at g; exact g.elim
  | ok av =>
    rw [hF] at g
    intro avs P' W' H' st hv
    obtain ⟨P2, W2, w2, s2, hpd, _⟩ := w.lent2 st (ρ1 := av.2) hv.1
    have kb : H' b = some (.lst vs) := (st.2 b _ q4 rfl).1
    have ka : H' a = some (.dK (ws.map gK)) := (st.2 a _ h4 rfl).1
    simp only at g
    split at g
    case isFalse => exact g.elim
    rename_i hsc
    obtain ⟨res, e3, g3⟩ := Go.of g
    obtain ⟨a', b2, ws2, vs2, _, hg2, p1, p2, p4, nd2, l2, hi2, u2, u3, u4, u5⟩ := w2.prtL e1
    rw [h1] at p1; cases p1
    have ews : ws2.map gK = ws.map gK := by rw [ka] at p4; exact (HO.dK.inj (Option.some.inj p4)).symm
    rw [ews, q2] at u2; cases u2
    rw [kb] at u4; cases u4
    refine hm P2 H' b vs avs ds av.1 res.1 res.2 Q w2.same kb u5 (den_deepL hpd _ _ hsc hv.2) e3 fun v vs' dn' dv => ?_
    obtain ⟨w3, s3⟩ := w2.prtSet (ds' := res.1) (vs' := vs') hg h1 p2 p4 nd l2 hi2 (by rw [ews]; exact q2) u3 kb dn'
    exact g3 v P2 W2 _ (s2.trans s3) ⟨w3, dv⟩
end
end Od
namespace Od
open PySem PySem.Spec L2
open PyProof.Rows hiding St cutD
/-! ### x, y = d['k'], e and a block: the list stands at x for the block, its address in the record -/
def holR (ρ : Env) (i : Nat) (k : Tx) (x y : Nat) (fs : List (Tx × T1)) (ds : List D) (d : D) (l : Addr) : Env := ((ρ.set i (some (.rcd (setF fs k (.sh (.adr l)))))).set x (some (.lst ds))).set y (some (.sh d))
def BorC (i : Nat) (k : Tx) (x : Nat) (B : SM) (h : Addr → Env) (ρr : Env) (fs : List (Tx × T1)) : Prop := (∀ l, B (h l) = .ok (.nx (ρr.set i (some (.rcd (setF fs k (.sh (.adr l)))))))) ∧ (∃ t, getF fs k = some t) ∧ i < ρr.length ∧ x < ρr.length
open Classical in
noncomputable def borK (i : Nat) (k : Tx) (x : Nat) (B : SM) (h : Addr → Env) : Res Fl := match B (h 0) with
  | .ok (.nx ρr) => (match rcdOf ρr i, ρr[x]? with
    | some fs, some (some (.lst ds)) => if BorC i k x B h ρr fs then .ok (.nx ((ρr.set i (some (.rcd (setF fs k (.lst ds))))).set x Option.none)) else .fail
    | _, _ => .fail)
  | _ => .fail
noncomputable def sBorR (i : Nat) (k : Tx) (x y : Nat) (F : EM) (B : SM) : SM := fun ρ => match rcdL ρ i k with
  | some p => (match F (frzE4 ρ) with
    | .ok a => if scalD a.1 = true ∧ x < ρ.length ∧ y < ρ.length then borK i k x B (holR ρ i k x y p.1 p.2 a.1) else .fail
    | _ => .fail)
  | none => .fail
theorem setF_setF : ∀ (fs : List (Tx × T1)) (k : Tx) (a b : T1), setF (setF fs k a) k b = setF fs k b
  | [], _, _, _ => rfl
  | (j, u) :: fs, k, a, b => by
    by_cases h : j = k
    · simp [setF, h]
    · simp [setF, h, setF_setF fs k a b]
theorem getF_setF : ∀ {fs : List (Tx × T1)} {k : Tx} {t a : T1}, getF fs k = some t → getF (setF fs k a) k = some a
  | [], _, _, _, h => by cases h
  | (j, u) :: fs, k, t, a, h => by
    unfold getF at h
    unfold setF
    by_cases z : j = k
    · rw [if_pos z, getF, if_pos z]
    · rw [if_neg z] at h ⊢
      rw [getF, if_neg z]
      exact getF_setF h
theorem borK_some {i : Nat} {k : Tx} {x : Nat} {B : SM} {h : Addr → Env} : borK i k x B h = .fail ∨ ∃ ρr fs ds, ρr[i]? = some (some (.rcd fs)) ∧ ρr[x]? = some (some (.lst ds)) ∧ BorC i k x B h ρr fs ∧ borK i k x B h = .ok (.nx ((ρr.set i (some (.rcd (setF fs k (.lst ds))))).set x Option.none)) := by
  unfold borK
  split
  · rename_i ρr hB
    split
    · rename_i fs ds e1 e2
      split
      · rename_i hc
        exact .inr ⟨ρr, fs, ds, rcdOf_some e1, e2, hc, rfl⟩
      · exact .inl rfl
    · exact .inl rfl
  · exact .inl rfl
section
variable {K : PySem.W.Frag} {mg : Str → Option Value} {P P' P2 H H' : Hp} {W W' W2 : Own} {σ : St} {ρ ρ1 : Env} {r : Option Nat}
def moveW (W : Own) (b : Addr) (o : Option Nat × Option Tx) : Own := fun y => if y = b then some o else W y
theorem moveW_b (W : Own) (b : Addr) (o : Option Nat × Option Tx) : moveW W b o b = some o := by unfold moveW; rw [if_pos rfl]
theorem moveW_ne {W : Own} {b y : Addr} {o : Option Nat × Option Tx} (h : y ≠ b) : moveW W b o y = W y := by unfold moveW; rw [if_neg h]
theorem moveW_step {b : Addr} {o u : Option Nat × Option Tx} (hb : W b = some u) : Step P W H P (moveW W b o) H := ⟨same_refl P, fun a z hz wa => ⟨hz, by rw [moveW_ne (fun e => by subst e; rw [hb] at wa; cases wa)]; exact wa, rfl⟩⟩
/-- the list goes out of its record -/
theorem Wd.outR {i x y : Nat} {k : Tx} {fs : List (Tx × T1)} {ds : List D} {d : D} {u : V} (w : Wd K mg P W H σ ρ) (e : rcdL ρ i k = some (fs, ds)) (hx : x < ρ.length) (hy : y < ρ.length) (hxi : x ≠ i) (hyi : y ≠ i) (hxy : x ≠ y) (du : Den K P d u) :
    ∃ (a b : Addr) (ws : List (Str × V)) (W3 : Own), σ[i]? = some (some (.ref a)) ∧ H a = some (.dK (ws.map gK)) ∧ valV (ws.map gK) (.inr (sT k)) = some (.ref b) ∧ Step P W H P W3 H ∧ Wd K mg P W3 H ((σ.set x (some (.ref b))).set y (some u)) (holR ρ i k x y fs ds d b) := by
  obtain ⟨a, b, ws, vs, e0, hg, h1, h2, h4, nd, l, hi, q2, q3, q4, q5⟩ := w.prtL e
  refine ⟨a, b, ws, moveW W b (some x, Option.none), h1, h4, q2, moveW_step q3, w.same, fun c r e => ?_, fun j t ej => ?_, ?_⟩
  · by_cases z : c = b
    · subst z; exact w.own c _ q3
    · rw [moveW_ne z] at e; exact w.own c r e
  · have hxs : x < σ.length := Nat.lt_of_lt_of_le hx w.len
    have hys : y < σ.length := Nat.lt_of_lt_of_le hy w.len
    unfold holR at ej
    by_cases jy : j = y
    · subst jy
      rw [List.getElem?_set_self (by simpa using hy)] at ej
      cases ej
      exact ⟨u, by rw [List.getElem?_set_self (by simpa using hys)], du⟩
    · rw [List.getElem?_set_ne (Ne.symm jy)] at ej ⊢
      by_cases jx : j = x
      · subst jx
        rw [List.getElem?_set_self (by simpa using hx)] at ej
        cases ej
        exact ⟨.ref b, by rw [List.getElem?_set_self hxs], b, vs, rfl, moveW_b _ _ _, q4, q5⟩
      · rw [List.getElem?_set_ne (Ne.symm jx)] at ej ⊢
        by_cases ji : j = i
        · subst ji
          rw [List.getElem?_set_self hi] at ej
          cases ej
          have ab : a ≠ b := fun z => by subst z; rw [h2] at q3; cases q3
          refine ⟨.ref a, h1, a, ws, rfl, by rw [moveW_ne ab]; exact h2, h4, by rw [setF_keys]; exact nd, ?_⟩
          refine RF.same (same_refl P) (fun f c hf hc => ⟨by rw [moveW_ne (fun z => by subst z; rw [q3] at hc; cases hc; exact hf rfl)]; exact hc, fun o ho => ho⟩) (show R1 K P _ H (some j) (some k) (.sh (.adr b)) (.ref b) from by show Den K P (.adr b) (.ref b); unfold Den; rfl) hg q2 nd l
        · rw [List.getElem?_set_ne (Ne.symm ji)] at ej
          obtain ⟨v, hs, hr⟩ := w.env j t ej
          exact ⟨v, hs, RT.mono (same_refl P) (fun f c hc => ⟨by rw [moveW_ne (fun z => by subst z; rw [q3] at hc; cases hc; exact ji rfl)]; exact hc, fun o ho => ho⟩) t v hr⟩
  · unfold holR; simpa using w.len
/-- and comes back -/
theorem Wd.inR {i x : Nat} {k : Tx} {b : Addr} {fs : List (Tx × T1)} {ds : List D} (w : Wd K mg P W H σ ρ) (hi : ρ[i]? = some (some (.rcd (setF fs k (.sh (.adr b)))))) (hx : ρ[x]? = some (some (.lst ds))) (hg : ∃ t, getF fs k = some t) (hxi : x ≠ i) (hv : σ[x]? = some (some (.ref b))) :
    ∃ W5, Step P W H P W5 H ∧ Wd K mg P W5 H σ ((ρ.set i (some (.rcd (setF fs k (.lst ds))))).set x Option.none) := by
  obtain ⟨t0, hg⟩ := hg
  obtain ⟨v, h1, a, ws, rfl, h2, h4, nd, l⟩ := w.env i _ hi
  obtain ⟨v2, h5, b2, vs, rfl, h6, h7, h8⟩ := w.env x _ hx
  rw [hv] at h5
  cases h5
  have hil : i < ρ.length := (List.getElem?_eq_some_iff.mp hi).1
  have hxl : x < ρ.length := (List.getElem?_eq_some_iff.mp hx).1
  have hgk : getF (setF fs k (.sh (.adr b))) k = some (.sh (.adr b)) := getF_setF hg
  obtain ⟨v3, q2, q3⟩ := RF.get l hgk
  have q3 : Den K P (.adr b) v3 := q3
  unfold Den at q3
  subst q3
  have ab : a ≠ b := fun z => by subst z; rw [h2] at h6; cases h6; exact hxi rfl
  refine ⟨moveW W b (some i, some k), moveW_step h6, w.same, fun c r e => ?_, fun j t ej => ?_, by simpa using w.len⟩
  · by_cases z : c = b
    · subst z; exact w.own c _ h6
    · rw [moveW_ne z] at e; exact w.own c r e
  · by_cases jx : j = x
    · subst jx
      rw [List.getElem?_set_self (by simpa using hxl)] at ej
      cases ej
    · rw [List.getElem?_set_ne (Ne.symm jx)] at ej
      by_cases ji : j = i
      · subst ji
        rw [List.getElem?_set_self hil] at ej
        cases ej
        refine ⟨.ref a, h1, a, ws, rfl, by rw [moveW_ne ab]; exact h2, h4, by rw [setF_keys] at nd ⊢; exact nd, ?_⟩
        have := RF.same (t := .lst ds) (v := .ref b) (W' := moveW W b (some j, some k)) (same_refl P) (fun f c hf hc => ⟨by rw [moveW_ne (fun z => by subst z; rw [h6] at hc; cases hc)]; exact hc, fun o ho => ho⟩) (show R1 K P _ H (some j) (some k) (.lst ds) (.ref b) from ⟨b, vs, rfl, moveW_b _ _ _, h7, h8⟩) hgk q2 nd l
        rw [setF_setF] at this
        exact this
      · rw [List.getElem?_set_ne (Ne.symm ji)] at ej
        obtain ⟨v, hs, hr⟩ := w.env j t ej
        exact ⟨v, hs, RT.mono (same_refl P) (fun f c hc => ⟨by rw [moveW_ne (fun z => by subst z; rw [h6] at hc; cases hc; exact jx rfl)]; exact hc, fun o ho => ho⟩) t v hr⟩
end
section
variable {X : Cx} {E : WX} {md md' : List Bool} {i j x y : Nat} {sx sy sd ks : Str} {k : Tx} {px py pd pk p3 pt pt2 pos : Pos} {kt k2 n : Nat} {b : Expr} {rest : List Stmt} {F : EM} {B : SM}
theorem sds_borR (hu : X.A.units + 1 < cLine) (hc : X.calm = true) (hN : X.N.Nodup) (hi : X.N[i]? = some sd) (hv : Vis X.env.scope sd) (hx : X.N[x]? = some sx) (hy : X.N[y]? = some sy) (hlx : X.env.scope.names.lookup sx = some .local) (hly : X.env.scope.names.lookup sy = some .local) (hk : ks = sT k) (hb : EV X E b F) (hr : SDs X E md' rest B)
    (hxi : x ≠ i) (hyi : y ≠ i) (hxy : x ≠ y) (hm : ∀ j : Nat, md[j]? = some true → md'[j]? = some true) (hx' : md'[x]? = some true) (hmx : md[x]? ≠ some true) (hmy : md[y]? ≠ some true)
    (hw : swappedStores [.Tuple [.Name sx px, .Name sy py] kt pt] (.Tuple [.Subscript (.Name sd pd) (.Constant (.str ks) n pk) p3, b] k2 pt2) X.env = pure (some [sx, sy]))
    (hd : (sd == ("__debug__" : Str)) = false := by decide) (hcd : (sd == ("__classdict__" : Str)) = false := by decide)
    (hs1 : starEach [.Subscript (.Name sd pd) (.Constant (.str ks) n pk) p3, b] X.env = (false, eval (.Subscript (.Name sd pd) (.Constant (.str ks) n pk) p3) X.env) :: starEach [b] X.env := by rfl) (hs2 : starEach [b] X.env = (false, eval b X.env) :: starEach [] X.env := by rfl)
    (hs : swapsWithSole [.Tuple [.Name sx px, .Name sy py] kt pt] (.Tuple [.Subscript (.Name sd pd) (.Constant (.str ks) n pk) p3, b] k2 pt2) pos.line X.env = pure false := by rfl) :
    SDs X E md (.Assign [.Tuple [.Name sx px, .Name sy py] kt pt] (.Tuple [.Subscript (.Name sd pd) (.Constant (.str ks) n pk) p3, b] k2 pt2) pos :: rest) (sBorR i k x y F B) :=
  PSs.imp (pss_cons (ps_par hc hN hx hy hxy hlx hly (pa_cons (pe_ix (ix_A hu) (pe_var hi hv hd hcd) pe_str (fun _ _ => rfl)) (pa_cons hb pa_nil hs2) hs1) hw hs) hr) fun D σ0 H0 ⟨P0, W0, ρ, w0, g⟩ => by
    subst hk
    unfold sBorR at g
    split at g
    case h_2 => exact g.elim
    rename_i p e1
    obtain ⟨fs, ds⟩ := p
    obtain ⟨a, b0, ws, vs, e0, hg, h1, h2, h4, nd, l, hi2, q2, q3, q4, q5⟩ := w0.prtL e1
    refine ⟨_, h1, .inr ⟨a, .ref b0, rfl, by rw [← q2]; exact DGet.k (k := .inr _) h4, lend2P P0 H0 W0, lendW, frzE4 ρ, w0.lend4, ?_⟩⟩
    cases hF : F (frzE4 ρ) with
    | fail => rw [hF] at g; exact g.elim
    | exc z r => rw [hF] at g; exact g.elim
    | ok av =>
      rw [hF] at g
      intro u P' W' H' st ⟨wv, dv⟩
      obtain ⟨P2, W2, w2, s2, _, _⟩ := w0.lent2 st (ρ1 := av.2) wv
      simp only at g
      split at g
      case isFalse => exact g.elim
      rename_i hcond
      obtain ⟨hsc, hxl, hyl⟩ := hcond
      have ka : H' a = some (.dK (ws.map gK)) := (st.2 a _ h4 rfl).1
      refine ⟨.ref b0, u, rfl, ?_⟩
      have du : Den X.K P2 av.1 u := den_scal hsc dv
      obtain ⟨a2, b2, ws2, W3, p1, p2, p3', st3, w3⟩ := w2.outR e1 hxl hyl hxi hyi hxy du
      rw [h1] at p1; cases p1
      have ews : ws2.map gK = ws.map gK := by rw [ka] at p2; exact (HO.dK.inj (Option.some.inj p2)).symm
      rw [ews, q2] at p3'; cases p3'
      rcases borK_some (i := i) (k := k) (x := x) (B := B) (h := holR ρ i k x y fs ds av.1) with hfail | ⟨ρr, fsr, dsr, r1, r2, hBC, hok⟩
      · rw [hfail] at g; exact g.elim
      rw [hok] at g
      obtain ⟨hB, hgr, hril, hrxl⟩ := hBC
      show rS X.K X.mg E md' B D _ _
      refine ⟨P2, W3, _, w3, ?_⟩
      rw [hB b0]
      intro σ4 P4 W4 H4 s4 w4 k4
      have hxs : x < σ0.length := Nat.lt_of_lt_of_le hxl w0.len
      have hvx : σ4[x]? = some (some (.ref b0)) := by rw [k4.2 x hx', List.getElem?_set_ne (Ne.symm hxy), List.getElem?_set_self hxs]
      obtain ⟨W5, s5, w5⟩ := w4.inR (fs := fsr) (ds := dsr) (by rw [List.getElem?_set_self hril]) (by rw [List.getElem?_set_ne (Ne.symm hxi)]; exact r2) hgr hxi hvx
      rw [List.set_set] at w5
      refine g σ4 P4 W5 H4 (((s2.trans st3).trans s4).trans s5) w5 ⟨by rw [k4.1]; simp, fun m hmm => ?_⟩
      rw [k4.2 m (hm m hmm), List.getElem?_set_ne (fun z => by subst z; exact hmy hmm), List.getElem?_set_ne (fun z => by subst z; exact hmx hmm)]
end
end Od
namespace Od
open PySem PySem.Spec L2
open PyProof.Rows hiding St cutD
/-! ### {'k': e, 'l': f, 'm': g}: a record of three parts, lists of its own or shared -/
def zipF : List Tx → List T1 → List (Tx × T1)
  | k :: ks, t :: ts => (k, t) :: zipF ks ts
  | _, _ => []
def rcdM (ks : List Tx) : List OM → List T1 → OM
  | [], q, ρ => if ks.Nodup ∧ ks.length = q.length then .ok (.rcd (zipF ks q), ρ) else .fail
  | A :: r, q, ρ => A ρ >>= fun a => Res.of (toT1 a.1) >>= fun t => rcdM ks r (q ++ [t]) a.2
def tRcd3 (k1 : Tx) (A : OM) (k2 : Tx) (B : OM) (k3 : Tx) (C : OM) : OM := rcdM [k1, k2, k3] [A, B, C] []
theorem zipF_fst : ∀ {ks : List Tx} {ts : List T1}, ks.length = ts.length → (zipF ks ts).map Prod.fst = ks
  | [], [], _ => rfl
  | k :: ks, t :: ts, h => by
    show k :: (zipF ks ts).map Prod.fst = _
    rw [zipF_fst (by simpa using h)]
section
variable {K : PySem.W.Frag} {mg : Str → Option Value} {E : WX} {P P' H H' : Hp} {W W' : Own} {σ : St} {ρ : Env} {t : T} {v : V} {r : Option Nat}
theorem adoptF : ∀ (q : List (T1 × V)) (ks : List Tx) {W : Own}, ks.Nodup → ks.length = q.length → Wd K mg P W H σ ρ → (∀ p ∈ q, Pend K P W H (upT p.1) p.2) → q.Pairwise (fun a b => ∀ x, RootAt (upT a.1) a.2 x → ¬ RootAt (upT b.1) b.2 x) →
    ∃ W', Wd K mg P W' H σ ρ ∧ RF K P W' H none (zipF ks (q.map Prod.fst)) ((ks.map sT).zip (q.map Prod.snd)) ∧ (∀ x, W x = none → (∀ p ∈ q, ¬ RootAt (upT p.1) p.2 x) → W' x = none) ∧ ∀ x r, W x = some r → W' x = some r
  | [], [], W, _, _, w, _, _ => ⟨W, w, rfl, fun x h _ => h, fun x r h => h⟩
  | p :: q, k :: ks, W, nd, hl, w, hp, hd => by
    rw [List.pairwise_cons] at hd
    have h1 := hp p List.mem_cons_self
    classical
    let W1 : Own := fun a => if RootAt (upT p.1) p.2 a then some (none, some k) else W a
    have w1 : Wd K mg P W1 H σ ρ := ⟨w.same, fun a r e => by
      by_cases hr : RootAt (upT p.1) p.2 a
      · exact (h1.root hr).2
      · simp only [W1, if_neg hr] at e
        exact w.own a r e, fun j t' ej => by
      obtain ⟨v', hs', hr'⟩ := w.env j t' ej
      refine ⟨v', hs', RT.mono (same_refl P) (fun f x ex => ⟨?_, fun _ h => h⟩) t' v' hr'⟩
      have nr : ¬ RootAt (upT p.1) p.2 x := fun z => by rw [(h1.root z).1] at ex; cases ex
      simp only [W1, if_neg nr, ex], w.len⟩
    obtain ⟨W2, w2, ri, n2, k2⟩ := adoptF q ks (List.nodup_cons.mp nd).2 (by simpa using hl) w1 (fun p' hp' => (hp p' (List.mem_cons_of_mem p hp')).own fun x hx => by
      have nr : ¬ RootAt (upT p.1) p.2 x := fun z => hd.1 p' hp' x z hx
      simp only [W1, if_neg nr]
      exact ((hp p' (List.mem_cons_of_mem p hp')).root hx).1) hd.2
    refine ⟨W2, w2, ⟨p.2, (ks.map sT).zip (q.map Prod.snd), rfl, h1.r1 fun x hx => k2 x _ (by simp only [W1, if_pos hx]), ri⟩, fun x hx hn => n2 x (by
      have nr := hn p List.mem_cons_self
      simp only [W1, if_neg nr]
      exact hx) fun p' hp' => hn p' (List.mem_cons_of_mem p hp'), fun x r hx => k2 x r ?_⟩
    have nr : ¬ RootAt (upT p.1) p.2 x := fun z => by rw [(h1.root z).1] at hx; cases hx
    simp only [W1, if_neg nr, hx]
theorem mergeK_nil : ∀ (ws : List (Str × V)), (ws.map Prod.fst).Nodup → mergeK [] (ws.map gK) = ws.map gK := by
  have key : ∀ (ws pre : List (Str × V)), ((pre ++ ws).map Prod.fst).Nodup → mergeK (pre.map gK) (ws.map gK) = (pre ++ ws).map gK := by
    intro ws
    induction ws with
    | nil => intro pre _; rw [List.append_nil]; rfl
    | cons p ws ih =>
      intro pre h
      have hn : p.1 ∉ pre.map Prod.fst := fun z => by
        rw [List.map_append, List.nodup_append] at h
        exact h.2.2 _ z _ (by simp) rfl
      have e : putK (pre.map gK) (gK p).1 (gK p).2 = (pre ++ [p]).map gK := by
        unfold putK
        rw [if_neg, List.map_append]; rfl
        intro z
        rw [List.any_map] at z
        obtain ⟨x, hx, he⟩ := List.any_eq_true.mp z
        have he : decide ((Sum.inr x.1 : Key) = Sum.inr p.1) = true := by simpa [gK] using he
        exact hn (List.mem_map.mpr ⟨x, hx, Sum.inr.inj (of_decide_eq_true he)⟩)
      have := ih (pre ++ [p]) (by rw [List.append_assoc]; exact h)
      rw [List.append_assoc] at this
      show mergeK (putK (pre.map gK) (gK p).1 (gK p).2) (ws.map gK) = _
      rw [e]
      exact this
  intro ws h
  exact key ws [] (by simpa using h)
theorem rcd_core {p : Addr} {ks : List Tx} {P0 H0 : Hp} {W0 : Own} {Q : VK} (hp0 : H0 p = none) : ∀ (As : List OM) (q : List (T1 × V)) {P H : Hp} {W : Own} {ρ : Env}, Wd K mg P W H σ ρ → H p = some (.dK []) → W p = none → P p = none → Step P0 W0 H0 P W H →
    (∀ p ∈ q, Pend K P W H (upT p.1) p.2 ∧ ∀ x, RootAt (upT p.1) p.2 x → ¬ ∃ o, H0 x = some o ∧ W0 x = none) → (∀ a ∈ q, ¬ RootAt (upT a.1) a.2 p) → q.Pairwise (fun a b => ∀ x, RootAt (upT a.1) a.2 x → ¬ RootAt (upT b.1) b.2 x) →
    Go K mg E (TRel K mg) (rcdM ks As (q.map Prod.fst) ρ) P0 W0 H0 σ Q →
    rOM K mg E As σ H fun vs H2 => H2 p = some (.dK []) ∧ ks.Nodup ∧ ks.length = q.length + vs.length ∧ Q (.ref p) (upd H2 p (.dK (((ks.map sT).zip (q.map Prod.snd ++ vs)).map gK)))
  | [], q, P, H, W, ρ, w, hpp, wp, pp, st, hp, hqp, hd, g => by
    unfold rcdM at g
    split at g
    · rename_i hc
      obtain ⟨nd, hl⟩ := hc
      have hl : ks.length = q.length := by simpa using hl
      obtain ⟨W6, w6, ri, n6, k6⟩ := adoptF q ks nd hl w (fun p h => (hp p h).1) hd
      have wp6 : W6 p = none := n6 p wp hqp
      refine ⟨hpp, nd, by simpa using hl, ?_⟩
      rw [List.append_nil]
      refine g (.ref p) P (moveW W6 p (none, none)) _ ⟨st.1, fun x o hx wx => ?_⟩ ⟨⟨fun x o hx => ?_, fun x r hx => ?_, fun i t hi => ?_, w6.len⟩, p, (ks.map sT).zip (q.map Prod.snd), rfl, moveW_b _ _ _, upd_same, by rw [zipF_fst (by simpa using hl)]; exact nd, ?_⟩
      · obtain ⟨a1, a2, a3⟩ := st.2 x o hx wx
        have hxp : x ≠ p := fun z => by subst z; rw [hp0] at hx; cases hx
        exact ⟨by rw [upd_ne hxp]; exact a1, by rw [moveW_ne hxp]; exact n6 x a2 fun p' h z => (hp p' h).2 x z ⟨o, hx, wx⟩, a3⟩
      · rw [upd_ne (fun z => by subst z; rw [pp] at hx; cases hx)]
        exact w6.same x o hx
      · by_cases hxp : x = p
        · subst hxp; exact ⟨pp, _, upd_same⟩
        · rw [moveW_ne hxp] at hx
          rw [upd_ne hxp]
          exact w6.own x r hx
      · obtain ⟨v', hs, hr⟩ := w6.env i t hi
        refine ⟨v', hs, RT.mono (same_refl P) (fun f x ex => ?_) t v' hr⟩
        have hxp : x ≠ p := fun z => by subst z; rw [wp6] at ex; cases ex
        exact ⟨by rw [moveW_ne hxp]; exact ex, fun o ho => by rw [upd_ne hxp]; exact ho⟩
      · exact RF.mono (same_refl P) (fun f x ex => by
          have hxp : x ≠ p := fun z => by subst z; rw [wp6] at ex; cases ex
          exact ⟨by rw [moveW_ne hxp]; exact ex, fun o ho => by rw [upd_ne hxp]; exact ho⟩) _ _ ri
    · exact g.elim
  | A :: As, q, P, H, W, ρ, w, hpp, wp, pp, st, hp, hqp, hd, g => by
    unfold rcdM at g
    refine ⟨P, W, ρ, w, ?_⟩
    cases hA : A ρ with
    | fail => rw [hA] at g; exact g.elim
    | exc e ρ' => rw [hA] at g; exact fun c od P' W' H' s w' r => g c od P' W' H' (st.trans s) w' r
    | ok r =>
      rw [hA, ok_bind] at g
      intro v P1 W1 H1 st1 ⟨w1, r1⟩
      obtain ⟨u, hu, g⟩ := Go.of g
      have e := toT1_up hu
      rw [e] at r1
      obtain ⟨W2, w2, st2, pd, nr⟩ := w1.pend r1 (up_root u)
      have all := (st.trans st1).trans st2
      obtain ⟨z1, z2, z3⟩ := st1.2 p _ hpp wp
      obtain ⟨y1, y2, y3⟩ := st2.2 p _ z1 z2
      have rcc := rcd_core hp0 As (q ++ [(u, v)]) w2 y1 y2 (by rw [y3, z3]; exact pp) all (fun p h => by
        rcases List.mem_append.mp h with h | h
        · exact ⟨((hp p h).1.step st1).step st2, (hp p h).2⟩
        · rw [List.mem_singleton.mp h]
          exact ⟨pd, fun x hx ⟨o, h1, h2⟩ => nr x hx ((st.trans st1).2 x o h1 h2).2.1⟩) (fun a ha => by
        rcases List.mem_append.mp ha with ha | ha
        · exact hqp a ha
        · rw [List.mem_singleton.mp ha]
          exact fun z => nr p z z2) (List.pairwise_append.mpr ⟨hd, List.pairwise_singleton _ _, fun a ha b hb x hx => by
        rw [List.mem_singleton.mp hb]
        exact fun z => nr x z (((hp a ha).1.step st1).root hx).1⟩) (by simpa using g)
      refine rOM.mono As rcc fun vs H2 ⟨h1, h2, h3, h4⟩ => ⟨h1, h2, by simp at h3 ⊢; omega, ?_⟩
      simpa [List.append_assoc] using h4
end
section
variable {X : Cx} {E : WX} {a b c : Expr} {k1 k2 k3 : Tx} {s1 s2 s3 : Str} {A B C : OM} {n1 n2 n3 : Nat} {p1 p2 p3 pos : Pos}
theorem et_rcd3 (h1 : s1 = sT k1) (h2 : s2 = sT k2) (h3 : s3 = sT k3) (ha : ET X E a A) (hb : ET X E b B) (hc : ET X E c C) : ET X E (.Dict [some (.Constant (.str s1) n1 p1), some (.Constant (.str s2) n2 p2), some (.Constant (.str s3) n3 p3)] [a, b, c] pos) (tRcd3 k1 A k2 B k3 C) :=
  PE.imp (pe_disp (pps_cons pe_str ha (pps_cons pe_str hb (pps_cons pe_str hc pps_nil))) rfl rfl (by simp) (by simp)) fun σ H Q ⟨P, W, ρ, w, g⟩ p hp => by
    have al := Al.newH (P := P) (o := .dK []) w.same hp
    have wp : W p = none := by
      cases e : W p with
      | none => rfl
      | some r => obtain ⟨_, u, h⟩ := w.own p r e; rw [hp] at h; cases h
    have pp : P p = none := same_none w.same hp
    have core := rcd_core (E := E) (K := X.K) (mg := X.mg) (σ := σ) (ks := [k1, k2, k3]) (Q := Q) hp [A, B, C] [] (w.al al) upd_same wp pp (al.step W) (fun _ h => by cases h) (fun _ h => by cases h) List.Pairwise.nil g
    have h : rOM X.K X.mg E [A, B, C] σ (upd H p (.dK [])) (fun vs H2 => match vs with
        | [v1, v2, v3] => (H2 p = some (.dK []) ∧ ∃ kvs : List (Key × V), [((.str s1 : V), v1), (.str s2, v2), (.str s3, v3)] = kvs.map (fun kv => (kV kv.1, kv.2)) ∧ kvs.length ≤ 15 ∧ Q (.ref p) (upd H2 p (.dK (mergeK [] kvs))))
        | _ => False) := rOM.mono [A, B, C] core fun vs H2 ⟨e1, nd, hl, e2⟩ => by
      match vs, hl, e2 with
      | [v1, v2, v3], _, e2 =>
        refine ⟨e1, [(.inr (sT k1), v1), (.inr (sT k2), v2), (.inr (sT k3), v3)], by rw [h1, h2, h3]; rfl, by simp, ?_⟩
        have hm := mergeK_nil [(sT k1, v1), (sT k2, v2), (sT k3, v3)] (by
          have : ([k1, k2, k3].map sT).Nodup := List.Pairwise.map _ (fun a b h z => h (sT_inj z)) nd
          simpa using this)
        have e3 : mergeK [] [((.inr (sT k1) : Key), v1), (.inr (sT k2), v2), (.inr (sT k3), v3)] = [(sT k1, v1), (sT k2, v2), (sT k3, v3)].map gK := hm
        rw [e3]
        exact e2
    exact h
end
end Od
namespace Od
open PySem PySem.Spec L2
open PyProof.Rows hiding St cutD
/-! ### x, y = e, n: any object made by e; and how Od89's to Od91's are read -/
def sParC (i : Nat) (A : OM) (j : Nat) (n : Int) : SM := fun ρ => A ρ >>= fun a => if i < a.2.length ∧ j < a.2.length then .ok (.nx ((a.2.set i (some a.1)).set j (some (.sh (.int n))))) else .fail
section
variable {X : Cx} {E : WX} {md : List Bool} {i j : Nat} {x y : Str} {a : Expr} {A : OM} {px py pt pt2 pos pn : Pos} {kt k2 kn : Nat} {n : Int}
theorem sd_parC (hc : X.calm = true) (hN : X.N.Nodup) (hi : X.N[i]? = some x) (hj : X.N[j]? = some y) (hij : i ≠ j)
    (hx : X.env.scope.names.lookup x = some .local) (hy : X.env.scope.names.lookup y = some .local) (ha : ET X E a A) (hk1 : md[i]? ≠ some true) (hk2 : md[j]? ≠ some true)
    (hw : swappedStores [.Tuple [.Name x px, .Name y py] kt pt] (.Tuple [a, .Constant (.int n) kn pn] k2 pt2) X.env = pure (some [x, y]))
    (hs1 : starEach [a, .Constant (.int n) kn pn] X.env = (false, eval a X.env) :: starEach [.Constant (.int n) kn pn] X.env := by rfl) (hs2 : starEach [.Constant (.int n) kn pn] X.env = (false, eval (.Constant (.int n) kn pn) X.env) :: starEach [] X.env := by rfl)
    (hs : swapsWithSole [.Tuple [.Name x px, .Name y py] kt pt] (.Tuple [a, .Constant (.int n) kn pn] k2 pt2) pos.line X.env = pure false := by rfl) :
    SD X E md (.Assign [.Tuple [.Name x px, .Name y py] kt pt] (.Tuple [a, .Constant (.int n) kn pn] k2 pt2) pos) (sParC i A j n) :=
  PS.imp (ps_par hc hN hi hj hij hx hy (pa_cons ha (pa_cons pe_int pa_nil hs2) hs1) hw hs) fun D σ H ⟨P, W, ρ, w, g⟩ => by
    refine ⟨P, W, ρ, w, ?_⟩
    unfold sParC at g
    cases hA : A ρ with
    | fail => rw [hA] at g; exact g.elim
    | exc e ρ' => rw [hA] at g; exact fun c od P' W' H' s w' r => g c od σ P' W' H' s w' (Kp.refl md σ) r
    | ok r =>
      rw [hA, ok_bind] at g
      intro v P1 W1 H1 st1 ⟨w1, r1⟩
      split at g
      · rename_i hcond
        obtain ⟨g3, g4⟩ := hcond
        obtain ⟨W2, w2, s2⟩ := w1.put r1 g3
        obtain ⟨W3, w3, s3⟩ := w2.put (i := j) (t := .sh (.int n)) (v := .int n) (show Den X.K P1 (.int n) (.int n) by unfold Den; rfl) (by simpa using g4)
        exact ⟨v, .int n, rfl, g _ P1 W3 H1 ((st1.trans s2).trans s3) w3 (Kp.trans (Kp.set hk1) (Kp.set hk2))⟩
      · exact g.elim
end
section
variable {ρ : Env} {Φ : D × Env → Prop} {ΦB : Bool × Env → Prop} {ΦT : T × Env → Prop} {Ψ : Exn → Env → Prop} {ΦE : Env → Prop} {ΦO : Option T → Prop} {ΦS : Fl → Prop} {ΦL : List D → Prop} {ΦD : D → Prop} {ΦP : List (Tx × T1) × List D → Prop} {x : Option T} {i : Nat} {f : Tx}
theorem s_parC (i : Nat) (A : OM) (j : Nat) (n : Int) : sat (sParC i A j n ρ) ΦS Ψ = sat (A ρ) (fun a => (i < a.2.length ∧ j < a.2.length) ∧ cps (List.set a.2 i (some a.1)) fun r => cps (List.set r j (some (.sh (.int n)))) fun r' => ΦS (.nx r')) Ψ := by
  unfold sParC
  rw [sat_bind]; congr 1; funext a
  rw [sat_iteF]; rfl
theorem s_lend4 (F : EM) : sat (eLend4 F ρ) Φ Ψ = cps (frzE4 ρ) fun ρ0 => sat (F ρ0) (fun a => scalD a.1 = true ∧ Φ (a.1, ρ)) (fun _ _ => False) := by
  unfold eLend4
  show _ = sat (F (frzE4 ρ)) _ _
  generalize F (frzE4 ρ) = z
  cases z with
  | fail => rfl
  | exc x r => rfl
  | ok a =>
    show sat (if scalD a.1 = true then _ else _) Φ Ψ = (scalD a.1 = true ∧ Φ (a.1, ρ))
    by_cases hs : scalD a.1 = true
    · rw [if_pos hs]; exact (propext ⟨fun h => ⟨hs, h⟩, fun h => h.2⟩)
    · rw [if_neg hs]; exact (propext ⟨fun h => h.elim, fun h => hs h.1⟩)
theorem s_blend4 (C : BM) : sat (bLend4 C ρ) ΦB Ψ = cps (frzE4 ρ) fun ρ0 => sat (C ρ0) (fun a => ΦB (a.1, ρ)) (fun _ _ => False) := by
  unfold bLend4
  show _ = sat (C (frzE4 ρ)) _ _
  generalize C (frzE4 ρ) = z
  cases z <;> rfl
theorem s_tlend4 (F : OM) : sat (tLend4 F ρ) ΦT Ψ = cps (frzE4 ρ) fun ρ0 => sat (F ρ0) (fun a => deepT a.1 = true ∧ ΦT (a.1, ρ)) (fun _ _ => False) := by
  unfold tLend4
  show _ = sat (F (frzE4 ρ)) _ _
  generalize F (frzE4 ρ) = z
  cases z with
  | fail => rfl
  | exc x r => rfl
  | ok a =>
    obtain ⟨t, r⟩ := a
    show sat (if deepT t = true then Res.ok (t, ρ) else .fail) ΦT Ψ = _
    rw [sat_iteF]; rfl
theorem c_frj0 : cps (frzE4 []) ΦE = ΦE [] := rfl
theorem c_frj1 (o : Option T) : cps (frzE4 (o :: ρ)) ΦE = cps (frzO4 o) fun o' => cps (frzE4 ρ) fun r => ΦE (o' :: r) := rfl
theorem c_frjn : cps (frzO4 Option.none) ΦO = ΦO Option.none := rfl
theorem c_frjs (d : D) : cps (frzO4 (some (.sh d))) ΦO = ΦO (some (.sh d)) := rfl
theorem c_frjl (ds : List D) : cps (frzO4 (some (.lst ds))) ΦO = ΦO (some (.sh (.lst ds))) := rfl
theorem c_frjd (ks : List DK) (ds : List D) : cps (frzO4 (some (.dct ks ds))) ΦO = ΦO (some (.sh (.dct ks ds))) := rfl
theorem c_frjq (ts : List T1) : cps (frzO4 (some (.seq false ts))) ΦO = ΦO (some (.sh (.lst (ts.map d1)))) := rfl
theorem c_frjQ (ts : List T1) : cps (frzO4 (some (.seq true ts))) ΦO = ΦO Option.none := rfl
theorem k_rcdL0 (fs : List (Tx × T1)) : ex (rcdL (some (.rcd fs) :: ρ) 0 f) ΦP = ex (getL1 fs f) fun ds => ΦP (fs, ds) := by
  show ex ((getL1 fs f).map _) ΦP = _
  rw [ex_map]
theorem k_rcdLs : ex (rcdL (x :: ρ) (i + 1) f) ΦP = ex (rcdL ρ i f) ΦP := rfl
theorem s_eMutR (i : Nat) (f : Tx) (m : List D → List D → Option (List D × D)) (As : List EM) : sat (eMutR i f m As ρ) Φ Ψ = ex (rcdL ρ i f) fun p => cps (frzE4 ρ) fun ρ0 => sat (vL As ρ0) (fun a => deepL a.1 = true ∧ ex (m p.2 a.1) fun r => cps (List.set ρ i (some (.rcd (setF p.1 f (.lst r.1))))) fun ρ' => Φ (r.2, ρ')) (fun _ _ => False) := by
  unfold eMutR
  cases rcdL ρ i f with
  | none => rfl
  | some p =>
    show sat (match vL As (frzE4 ρ) with | .ok a => _ | _ => .fail) Φ Ψ = sat (vL As (frzE4 ρ)) _ _
    generalize vL As (frzE4 ρ) = z
    cases z with
    | fail => rfl
    | exc x r => rfl
    | ok a =>
      show sat (if deepL a.1 = true then _ else _) Φ Ψ = (_ ∧ _)
      rw [sat_iteF]
      congr 1
      show sat (Res.of (m p.2 a.1) >>= _) Φ Ψ = _
      rw [sat_bind, sat_of]; rfl
theorem s_rcd3 (k1 : Tx) (A : OM) (k2 : Tx) (B : OM) (k3 : Tx) (C : OM) : sat (tRcd3 k1 A k2 B k3 C ρ) ΦT Ψ = sat (A ρ) (fun a => ex (toT1 a.1) fun t => sat (B a.2) (fun b => ex (toT1 b.1) fun u => sat (C b.2) (fun c => ex (toT1 c.1) fun v => [k1, k2, k3].Nodup ∧ ΦT (.rcd [(k1, t), (k2, u), (k3, v)], c.2)) Ψ) Ψ) Ψ := by
  unfold tRcd3 rcdM
  rw [sat_bind]; congr 1; funext a
  rw [sat_bind, sat_of]; congr 1; funext t
  unfold rcdM
  rw [sat_bind]; congr 1; funext b
  rw [sat_bind, sat_of]; congr 1; funext u
  unfold rcdM
  rw [sat_bind]; congr 1; funext c
  rw [sat_bind, sat_of]; congr 1; funext v
  unfold rcdM
  rw [sat_iteF]
  show (([k1, k2, k3].Nodup ∧ [k1, k2, k3].length = 3) ∧ _) = _
  exact propext ⟨fun h => ⟨h.1.1, h.2⟩, fun h => ⟨⟨h.1, rfl⟩, h.2⟩⟩
theorem sat_is {r : Res Fl} {f : Fl} (h : sat r (fun g => g = f) (fun _ _ => False)) : r = .ok f := by
  cases r with
  | ok a => rw [show a = f from h]
  | exc x ρ => exact h.elim
  | fail => exact h.elim
theorem sBorR_ok {i x y : Nat} {k : Tx} {F : EM} {B : SM} {fs fs' : List (Tx × T1)} {ds ds' : List D} {d : D} {ρr : Env} (hi : rcdL ρ i k = some (fs, ds)) (hx : x < ρ.length) (hy : y < ρ.length) (hxi : x ≠ i) (hs : scalD d = true)
    (hF : sat (F (frzE4 ρ)) (fun a => a.1 = d) (fun _ _ => False)) (hB : ∀ l, sat (B (holR ρ i k x y fs ds d l)) (fun f => f = .nx (ρr.set i (some (.rcd (setF fs' k (.sh (.adr l))))))) (fun _ _ => False))
    (hr : ρr[x]? = some (some (.lst ds'))) (hir : i < ρr.length) (hg : ∃ t, getF fs' k = some t) (q : ΦS (.nx ((ρr.set i (some (.rcd (setF fs' k (.lst ds'))))).set x Option.none))) : sat (sBorR i k x y F B ρ) ΦS Ψ := by
  have hB' : ∀ l, B (holR ρ i k x y fs ds d l) = .ok (.nx (ρr.set i (some (.rcd (setF fs' k (.sh (.adr l))))))) := fun l => sat_is (hB l)
  unfold sBorR
  rw [hi]
  obtain ⟨t, hg⟩ := hg
  cases hf : F (frzE4 ρ) with
  | fail => rw [hf] at hF; exact hF.elim
  | exc z r => rw [hf] at hF; exact hF.elim
  | ok a =>
    rw [hf] at hF
    have hF : a.1 = d := hF
    simp only
    rw [hF, if_pos ⟨hs, hx, hy⟩]
    unfold borK
    rw [hB' 0]
    have e1 : rcdOf (ρr.set i (some (.rcd (setF fs' k (.sh (.adr 0)))))) i = some (setF fs' k (.sh (.adr 0))) := by unfold rcdOf; rw [List.getElem?_set_self hir]
    have e2 : (ρr.set i (some (.rcd (setF fs' k (.sh (.adr 0))))))[x]? = some (some (.lst ds')) := by rw [List.getElem?_set_ne (Ne.symm hxi)]; exact hr
    simp only [e1, e2]
    have hc : BorC i k x B (holR ρ i k x y fs ds d) (ρr.set i (some (.rcd (setF fs' k (.sh (.adr 0)))))) (setF fs' k (.sh (.adr 0))) := by
      refine ⟨fun l => ?_, ⟨_, getF_setF hg⟩, by simpa using hir, by simpa using (List.getElem?_eq_some_iff.mp hr).1⟩
      rw [hB' l, List.set_set, setF_setF]
    rw [if_pos hc, List.set_set, setF_setF]
    exact q
end
end Od
namespace Od
open PySem PySem.Spec L2
open PyProof.Rows hiding St cutD
/-! ### x[k].m(e, ..): a list that is a part of an own tuple or list -/
def eMutPA (i k : Nat) (m : List D → List D → Option (List D × D)) (As : List EM) : EM := fun ρ => match lkP ρ i k with
  | some p => (match vL As (frzE4 ρ) with
    | .ok a => if deepL a.1 = true then Res.of (m p.2.2 a.1) >>= fun r => .ok (r.2, ρ.set i (some (.seq p.1 (p.2.1.set k (.lst r.1))))) else .fail
    | _ => .fail)
  | none => .fail
section
variable {K : PySem.W.Frag} {mg : Str → Option Value} {P P' P2 H H' : Hp} {W W' W2 : Own} {σ : St} {ρ ρ1 : Env} {i k : Nat}
/-- where a part is, whose it is, and that it may be changed -/
theorem Wd.partAt2 {r : Bool × List T1 × List D} (w : Wd K mg P W H σ ρ) (e : lkP ρ i k = some r) : ∃ (a c : Addr) (o : Option Nat × Option Tx) (o2 : Option Nat × Option Tx) (vs ws : List V), σ[i]? = some (some (.ref a)) ∧ W a = some o2 ∧ H a = some (sqO r.1 vs) ∧ vs[k]? = some (.ref c) ∧ W c = some o ∧ H c = some (.lst ws) ∧ DenL K P r.2.2 ws ∧
    ∀ ws' ds', DenL K P ds' ws' → Wd K mg P W (upd H c (.lst ws')) σ (ρ.set i (some (.seq r.1 (r.2.1.set k (.lst ds'))))) ∧ Step P W H P W (upd H c (.lst ws')) := by
  obtain ⟨e1, e2⟩ := lkP_some e
  obtain ⟨v, hs, hr⟩ := w.env i _ e1
  have hi : i < ρ.length := (List.getElem?_eq_some_iff.mp e1).1
  obtain ⟨a, vs, rfl, hw, hh, l⟩ := hr
  obtain ⟨c, ws, c1, c2, c3, c4, c5⟩ := RI.mutk w l e2
  refine ⟨a, c, _, _, vs, ws, hs, hw, hh, c1, c2, c3, c4, fun ws' ds' l' => ?_⟩
  have nac : a ≠ c := fun z => by subst z; rw [hw] at c2; cases c2
  exact w.mutF hi hs c2 ⟨a, vs, rfl, hw, by rw [upd_ne nac]; exact hh, c5 ws' ds' l'⟩
end
section
variable {X : Cx} {E : WX} {i k : Nat} {e : Expr} {As : List EM} {r : V → List V → Hp → VK → Prop}
theorem ev_mutPA {m : List D → List D → Option (List D × D)} (hm : MutOk X.K r m) (hp : PE X e (tBM X.K "list" r (tOp (rIxA X.K) (tVar i) (tC (.int (k : Int)))) (rX X.K X.mg E (VLRel X.K X.mg) (vL As)))) : EV X E e (eMutPA i k m As) := PE.imp hp fun σ H Q ⟨P, W, ρ, w, g⟩ => by
  unfold eMutPA at g
  split at g
  case h_2 => exact g.elim
  rename_i p e1
  obtain ⟨b0, ts, ds⟩ := p
  obtain ⟨a, c, o, o2, vs, ws, hs, hwa, ha, hc, hwc, hcc, l, up⟩ := w.partAt2 e1
  refine ⟨.ref a, hs, ix_part ha hc ⟨.inl ⟨rfl, ws, SqL.of hcc⟩, lend2P P H W, lendW, frzE4 ρ, w.lend4, ?_⟩⟩
  cases hF : vL As (frzE4 ρ) with
  | fail => rw [hF] at g; exact g.elim
  | exc x r => rw [hF] at g; exact g.elim
  | ok av =>
    rw [hF] at g
    intro avs P' W' H' st hv
    obtain ⟨P2, W2, w2, s2, hpd, _⟩ := w.lent2 st (ρ1 := av.2) hv.1
    have kc : H' c = some (.lst ws) := (st.2 c _ hcc rfl).1
    simp only at g
    split at g
    case isFalse => exact g.elim
    rename_i hsc
    obtain ⟨res, e3, g3⟩ := Go.of g
    obtain ⟨a', c', o', o2', vs', ws', p1, pwa, pa, pc, pwc, pcc, pl, pup⟩ := w2.partAt2 e1
    rw [hs] at p1; cases p1
    have ka : H' a = some (sqO b0 vs) := (st.2 a _ ha rfl).1
    have evs : vs' = vs := by
      rw [ka] at pa
      cases b0 <;> cases pa <;> rfl
    subst evs
    rw [hc] at pc; cases pc
    rw [kc] at pcc; cases pcc
    refine hm P2 H' c ws avs ds av.1 res.1 res.2 Q w2.same kc pl (den_deepL hpd _ _ hsc hv.2) e3 fun v vs2 dn' dv => ?_
    obtain ⟨w3, s3⟩ := pup vs2 res.1 dn'
    exact g3 v P2 W2 _ (s2.trans s3) ⟨w3, dv⟩
end
section
variable {Φ : D × Env → Prop} {Ψ : Exn → Env → Prop} {ρ : Env}
theorem s_mutPA (i k : Nat) (m : List D → List D → Option (List D × D)) (As : List EM) : sat (eMutPA i k m As ρ) Φ Ψ = ex (lkP ρ i k) fun p => cps (frzE4 ρ) fun ρ0 => sat (vL As ρ0) (fun a => deepL a.1 = true ∧ ex (m p.2.2 a.1) fun r => cps (List.set ρ i (some (.seq p.1 (p.2.1.set k (.lst r.1))))) fun ρ' => Φ (r.2, ρ')) (fun _ _ => False) := by
  unfold eMutPA
  cases lkP ρ i k with
  | none => rfl
  | some p =>
    show sat (match vL As (frzE4 ρ) with | .ok a => _ | _ => .fail) Φ Ψ = sat (vL As (frzE4 ρ)) _ _
    generalize vL As (frzE4 ρ) = z
    cases z with
    | fail => rfl
    | exc x r => rfl
    | ok a =>
      show sat (if deepL a.1 = true then _ else _) Φ Ψ = (_ ∧ _)
      rw [sat_iteF]
      congr 1
      show sat (Res.of (m p.2.2 a.1) >>= _) Φ Ψ = _
      rw [sat_bind, sat_of]; rfl
end
end Od

namespace OdW
open PySem PySem.Spec L2 Od
open PyProof.Rows hiding St
def topS (i : Nat) : Stmt := PySem.Challenge.pw_oddlong_k45_numbers_given.main.body.getD i (.Pass ⟨0, 0, 0, 0⟩)
abbrev rs_ : List Tx := []
abbrev ts_ : List Tx := []
abbrev fl_ : List Tx := []
abbrev s__law_begin : Stmt := topS 7
theorem sc__law_begin : FnScope ["_law_script", "_law_cells"] ["_law_script"] (defScope s__law_begin) := ⟨rfl, rfl, rfl, by decide +kernel, rfl, by decide +kernel, by decide +kernel⟩
noncomputable def B__law_begin : SM :=
  sSeq (sSet 1 (tCBL fList [hV (eFz (tCut (hSc 0) oN (oS (eC (.int 63)))))])) <|
    sSeq (sIf (b2 fEq (hSc 1) (hV (eFz (tLst [])))) (sSet 1 (tLst [eC (.int 11)])) sNil) <|
    sRet (tRcd2 [99, 101, 108, 108, 115] (tMv 1) [116, 117, 114, 110] (eC (.int 0)))
noncomputable def f__law_begin : Fn := fnOf 2 1 [false] B__law_begin
abbrev s__law_take : Stmt := topS 8
theorem sc__law_take : FnScope ["_law_state", "_law_many_here", "_law_turn", "_law_place", "_law_cell", "_law_digit", "_law_mixed"] ["_law_state", "_law_many_here"] (defScope s__law_take) := ⟨rfl, rfl, rfl, by decide +kernel, rfl, by decide +kernel, by decide +kernel⟩
noncomputable def B__law_take : SM :=
  sSeq (sSetV 2 (e2 fAdd (hV (eFld 0 [116, 117, 114, 110])) (hV (eC (.int 1))))) <|
    sSeq (sFld 0 [116, 117, 114, 110] (eV 2)) <|
    sSeq (sSetV 3 (e2 fMod (hSc 2) (hV (eFldLen 0 [99, 101, 108, 108, 115])))) <|
    sSeq (sSetV 4 (eFldIx 0 [99, 101, 108, 108, 115] 3)) <|
    sSeq (sIf (b2 cGe (hSc 4) (hV (e2 fPow (hV (eC (.int 10))) (hV (eC (.int 18)))))) (sSeq (sAsg (gTp [gFldIx 0 [99, 101, 108, 108, 115] 3, gNm 5]) (eCB fDivmod [hSc 4, hSc 1])) <|
    sRetV (eV 5)) sNil) <|
    sSeq (sSetV 6 (e2 fMod (hV (e2 fMul (hV (e2 fAdd (hV (e2 fAdd (hV (e2 fMod (hSc 4) (hV (eC (.int 2147483629))))) (hV (e2 fMul (hV (e2 fMul (hSc 2) (hSc 2))) (hV (eC (.int 7919))))))) (hV (eC (.int 11))))) (hV (eC (.int 48271))))) (hV (eC (.int 2147483647))))) <|
    sSeq (sSetV 6 (e2 fMod (hV (e2 fMul (hSc 6) (hSc 6))) (hV (eC (.int 2147483587))))) <|
    sRetV (e2 fMod (hV (e2 fFdiv (hV (e2 fMod (hV (e2 fMul (hV (e2 fAdd (hSc 6) (hV (e2 fMul (hSc 2) (hV (eC (.int 104729))))))) (hV (eC (.int 69621))))) (hV (eC (.int 2147483629))))) (hV (eC (.int 64))))) (hSc 1))
noncomputable def f__law_take : Fn := fnOf 7 2 [true, false] B__law_take
abbrev s__law_asking : Stmt := topS 17
theorem sc__law_asking : FnScope ["_law_state", "_law_program_here", "_law_row"] ["_law_state", "_law_program_here"] (defScope s__law_asking) := ⟨rfl, rfl, rfl, by decide +kernel, rfl, by decide +kernel, by decide +kernel⟩
noncomputable def B__law_asking : SM :=
  sRet (tComp [2] (gNm 2) (iSeq (eV 1)) bTrue (eIf (b2 fEq (hV (eFz (eCall f__law_take [.io 0, .v (eC (.int 4))]))) (hV (eC (.int 0)))) (eTup [eC (.str [97, 115, 107]), e2 fIdx (hV (eC (.str [97, 98, 99, 100]))) (hV (eFz (eCall f__law_take [.io 0, .v (eC (.int 4))])))]) (eV 2)))
noncomputable def f__law_asking : Fn := fnOf 3 2 [true, false] B__law_asking
abbrev s__law_program : Stmt := topS 9
theorem sc__law_program : FnScope ["_law_state", "_law_many_here", "_law_found", "_law_k", "_law_way", "_law_spot", "_law_other", "_law_at"] ["_law_state", "_law_many_here"] (defScope s__law_program) := ⟨rfl, rfl, rfl, by decide +kernel, rfl, by decide +kernel, by decide +kernel⟩
noncomputable def B__law_program : SM :=
  sSeq (sSet 2 (tLst [])) <|
    sSeq (sFor (gNm 3) (iArg rng1 [eV 1]) (sWipe [3, 4, 5, 6, 7] (sSeq (sSetV 4 (eFz (eCall f__law_take [.io 0, .v (eC (.int 12))]))) <|
    sSeq (sSetV 5 (e2 fIdx (hV (eC (.str [97, 98, 99, 100]))) (hV (eFz (eCall f__law_take [.io 0, .v (eC (.int 4))]))))) <|
    sSeq (sSetV 6 (e2 fIdx (hV (eC (.str [97, 98, 99, 100]))) (hV (eFz (eCall f__law_take [.io 0, .v (eC (.int 4))]))))) <|
    sSeq (sSetV 7 (e2 fIdx (hV (eFz (tLst [eFz (eCall f__law_take [.io 0, .v (e2 fAdd (hSc 1) (hV (eC (.int 1))))]), eCB fMin [hSc 1, hV (eCB fMax [hV (eC (.int 0)), hV (e2 fAdd (hV (e2 fSub (hSc 3) (hV (eC (.int 3))))) (hV (eFz (eCall f__law_take [.io 0, .v (eC (.int 8))]))))])]]))) (hV (eFz (eCall f__law_take [.io 0, .v (eC (.int 2))]))))) <|
    sIf (b2 cLt (hSc 4) (hV (eC (.int 3)))) (sExpr (eMut 2 mAppend [eTup [eC (.str [115, 101, 116]), eV 5, e2 fIdx (hV (eFz (tLst [eFz (eCall f__law_take [.io 0, .v (eC (.int 256))]), eFz (eCall f__law_take [.io 0, .v (eC (.int 4))])]))) (hV (eFz (eCall f__law_take [.io 0, .v (eC (.int 2))])))]])) (sIf (b2 cLt (hSc 4) (hV (eC (.int 5)))) (sExpr (eMut 2 mAppend [eTup [e2 fIdx (hV (eFz (tLst [eC (.str [97, 100, 100]), eC (.str [116, 97, 107, 101])]))) (hV (e2 fSub (hSc 4) (hV (eC (.int 3))))), eV 5, eV 6]])) (sIf (b2 cLt (hSc 4) (hV (eC (.int 8)))) (sExpr (eMut 2 mAppend [eTup [e2 fIdx (hV (eFz (tLst [eC (.str [116, 101, 108, 108]), eC (.str [97, 115, 107]), eC (.str [116, 101, 108, 108])]))) (hV (e2 fSub (hSc 4) (hV (eC (.int 5))))), eV 5]])) (sIf (bAnd (b2 fEq (hSc 4) (hV (eC (.int 11)))) (b2 fEq (hV (eFz (eCall f__law_take [.io 0, .v (eC (.int 3))]))) (hV (eC (.int 0))))) (sExpr (eMut 2 mAppend [eTup [eC (.str [115, 116, 111, 112])]])) (sExpr (eMut 2 mAppend [eIf (b2 cGt (hSc 4) (hV (eC (.int 8)))) (eTup [eC (.str [122, 101, 114, 111]), eV 5, eV 7]) (eTup [eC (.str [106, 117, 109, 112]), eV 7])])))))))) <|
    sRet (tMv 2)
noncomputable def f__law_program : Fn := fnOf 8 2 [true, false] B__law_program
abbrev s__law_works : Stmt := topS 10
theorem sc__law_works : FnScope ["_law_given"] ["_law_given"] (defScope s__law_works) := ⟨rfl, rfl, rfl, by decide +kernel, rfl, by decide +kernel, by decide +kernel⟩
noncomputable def B__law_works : SM :=
  sRet (tRcd3 [110, 117, 109, 98, 101, 114, 115] (tLst [eC (.int 0), eC (.int 0), eC (.int 0), eC (.int 0)]) [103, 105, 118, 101, 110] (tCBL fList [hSc 0]) [116, 111, 108, 100] (tLst []))
noncomputable def f__law_works : Fn := fnOf 1 1 [false] B__law_works
abbrev s__law_work : Stmt := topS 11
theorem sc__law_work : FnScope ["_law_book", "_law_row", "_law_numbers", "_law_spot"] ["_law_book", "_law_row"] (defScope s__law_work) := ⟨rfl, rfl, rfl, by decide +kernel, rfl, by decide +kernel, by decide +kernel⟩
noncomputable def B__law_work : SM :=
  sBorR 0 [110, 117, 109, 98, 101, 114, 115] 2 3 (eBM .str mIdxS (hV (eC (.str [97, 98, 99, 100]))) [hV (e2 fIdx (hSc 1) (hV (eC (.int 1))))]) <|
    sIf (b2 fEq (hV (e2 fIdx (hSc 1) (hV (eC (.int 0))))) (hV (eC (.str [115, 101, 116])))) (sAsg (gIx 2 (eV 3)) (e2 fIdx (hSc 1) (hV (eC (.int 2))))) (sIf (b2 fEq (hV (e2 fIdx (hSc 1) (hV (eC (.int 0))))) (hV (eC (.str [97, 100, 100])))) (sAsg (gIx 2 (eV 3)) (e2 fMod (hV (e2 fAdd (hV (e2 fIdx (hSc 2) (hSc 3))) (hV (e2 fIdx (hSc 2) (hV (eBM .str mIdxS (hV (eC (.str [97, 98, 99, 100]))) [hV (e2 fIdx (hSc 1) (hV (eC (.int 2))))])))))) (hV (eC (.int 256))))) (sIf (b2 fEq (hV (e2 fIdx (hSc 1) (hV (eC (.int 0))))) (hV (eC (.str [116, 97, 107, 101])))) (sAsg (gIx 2 (eV 3)) (e2 fMod (hV (e2 fSub (hV (e2 fIdx (hSc 2) (hSc 3))) (hV (e2 fIdx (hSc 2) (hV (eBM .str mIdxS (hV (eC (.str [97, 98, 99, 100]))) [hV (e2 fIdx (hSc 1) (hV (eC (.int 2))))])))))) (hV (eC (.int 256))))) (sIf (b2 fEq (hV (e2 fIdx (hSc 1) (hV (eC (.int 0))))) (hV (eC (.str [116, 101, 108, 108])))) (sExpr (eMutR 0 [116, 111, 108, 100] mAppend [e2 fIdx (hSc 2) (hSc 3)])) (sIf (bLend4 (b2 fNe (hV (e2 fIdx (hSc 0) (hV (eC (.str [103, 105, 118, 101, 110]))))) (hV (eFz (tLst []))))) (sAsg (gIx 2 (eV 3)) (eMutR 0 [103, 105, 118, 101, 110] mPop [eC (.int 0)])) (sAsg (gIx 2 (eV 3)) (eC (.int 0)))))))
noncomputable def f__law_work : Fn := fnOf 4 2 [true, false] B__law_work
abbrev s__law_done : Stmt := topS 12
theorem sc__law_done : FnScope ["_law_book", "_law_program_here", "_law_at", "_law_row"] ["_law_book", "_law_program_here", "_law_at"] (defScope s__law_done) := ⟨rfl, rfl, rfl, by decide +kernel, rfl, by decide +kernel, by decide +kernel⟩
noncomputable def B__law_done : SM :=
  sSeq (sSetV 3 (e2 fIdx (hSc 1) (hSc 2))) <|
    sSeq (sIf (b2 fEq (hV (e2 fIdx (hSc 3) (hV (eC (.int 0))))) (hV (eC (.str [106, 117, 109, 112])))) (sRetV (e2 fIdx (hSc 3) (hV (eC (.int 1))))) sNil) <|
    sSeq (sIf (b2 fEq (hV (e2 fIdx (hSc 3) (hV (eC (.int 0))))) (hV (eC (.str [122, 101, 114, 111])))) (sRetV (eLend4 (eIf (b2 fEq (hV (e2 fIdx (hV (e2 fIdx (hSc 0) (hV (eC (.str [110, 117, 109, 98, 101, 114, 115]))))) (hV (eBM .str mIdxS (hV (eC (.str [97, 98, 99, 100]))) [hV (e2 fIdx (hSc 3) (hV (eC (.int 1))))])))) (hV (eC (.int 0)))) (e2 fIdx (hSc 3) (hV (eC (.int 2)))) (e2 fAdd (hSc 2) (hV (eC (.int 1))))))) sNil) <|
    sSeq (sExpr (eFz (eCall f__law_work [.io 0, .v (eV 3)]))) <|
    sRetV (e2 fAdd (hSc 2) (hV (eC (.int 1))))
noncomputable def f__law_done : Fn := fnOf 4 3 [true, false, false] B__law_done
abbrev s__law_ended : Stmt := topS 13
theorem sc__law_ended : FnScope ["_law_program_here", "_law_at"] ["_law_program_here", "_law_at"] (defScope s__law_ended) := ⟨rfl, rfl, rfl, by decide +kernel, rfl, by decide +kernel, by decide +kernel⟩
noncomputable def B__law_ended : SM :=
  sRetV (eOr (e2 (blOf fEq) (hSc 1) (hV (eCB fLen [hSc 0]))) (e2 (blOf fEq) (hV (e2 fIdx (hV (e2 fIdx (hSc 0) (hSc 1))) (hV (eC (.int 0))))) (hV (eC (.str [115, 116, 111, 112])))))
noncomputable def f__law_ended : Fn := fnOf 2 2 [false, false] B__law_ended
abbrev s__law_stands : Stmt := topS 14
theorem sc__law_stands : FnScope ["_law_program_here", "_law_given", "_law_book", "_law_at", "_law_found"] ["_law_program_here", "_law_given"] (defScope s__law_stands) := ⟨rfl, rfl, rfl, by decide +kernel, rfl, by decide +kernel, by decide +kernel⟩
noncomputable def B__law_stands : SM :=
  sSeq (sParC 2 (eCall f__law_works [.v (eV 1)]) 3 0) <|
    sSeq (sSet 4 (tLst [eTup [eFz (tLst []), eTup [eC (.int 0), eC (.int 0), eC (.int 0), eC (.int 0)], eC (.int 0)]])) <|
    sSeq (sWhile 1000000 (bAnd (b2 cLt (hV (eCB fLen [hSc 4])) (hV (eC (.int 201)))) (bNot (bVal (eFz (eCall f__law_ended [.v (eV 0), .v (eV 3)]))))) (sSeq (sSetV 3 (eFz (eCall f__law_done [.io 2, .v (eV 0), .v (eV 3)]))) <|
    sExpr (eMut 4 mAppend [eTup [eFz (tLend4 (tCBL fList [hV (e2 fIdx (hSc 2) (hV (eC (.str [116, 111, 108, 100]))))])), eFz (tLend4 (tSh (eCB fTuple [hV (e2 fIdx (hSc 2) (hV (eC (.str [110, 117, 109, 98, 101, 114, 115]))))]))), eV 3]]))) <|
    sRet (tMv 4)
noncomputable def f__law_stands : Fn := fnOf 5 2 [false, false] B__law_stands
abbrev s__law_asked : Stmt := topS 18
theorem sc__law_asked : FnScope ["_law_program_here", "_law_stands_here", "_law_steps", "_law_stand"] ["_law_program_here", "_law_stands_here", "_law_steps"] (defScope s__law_asked) := ⟨rfl, rfl, rfl, by decide +kernel, rfl, by decide +kernel, by decide +kernel⟩
noncomputable def B__law_asked : SM :=
  sRetV (eCB fLen [hV (eFz (tComp [3] (gNm 3) (iSeq (eFz (tCut (hSc 1) oN (oS (eCB fMin [hSc 2, hV (e2 fSub (hV (eCB fLen [hSc 1])) (hV (eC (.int 1))))]))))) (b2 fEq (hV (e2 fIdx (hV (e2 fIdx (hSc 0) (hV (e2 fIdx (hSc 3) (hV (eC (.int 2))))))) (hV (eC (.int 0))))) (hV (eC (.str [97, 115, 107])))) (eV 3)))])
noncomputable def f__law_asked : Fn := fnOf 4 3 [false, false, false] B__law_asked
abbrev s_Works____init__ : Stmt := inClass (topS 3) 0
theorem sc_Works____init__ : FnScope ["self", "given"] ["self", "given"] (defScope s_Works____init__) := ⟨rfl, rfl, rfl, by decide +kernel, rfl, by decide +kernel, by decide +kernel⟩
noncomputable def B_Works____init__ : SM :=
  sSeq (sFldIO [87, 111, 114, 107, 115] 0 [110, 117, 109, 98, 101, 114, 115] (t2 lRep (hV (eFz (tLst [eC (.int 0)]))) (hV (eCB fLen [hV (eC (.str [97, 98, 99, 100]))])))) <|
    sSeq (sFldIO [87, 111, 114, 107, 115] 0 [103, 105, 118, 101, 110] (tCBL fList [hSc 1])) <|
    sSeq (sFldI [87, 111, 114, 107, 115] 0 [116, 97, 107, 101, 110] (eC (.int 0))) <|
    sFldIO [87, 111, 114, 107, 115] 0 [116, 111, 108, 100] (tLst [])
noncomputable def f_Works____init__ : Fn := fnOf 2 2 [true, false] B_Works____init__
abbrev s_Works__stand : Stmt := inClass (topS 3) 5
theorem sc_Works__stand : FnScope ["self", "how", "place"] ["self", "how", "place"] (defScope s_Works__stand) := ⟨rfl, rfl, rfl, by decide +kernel, rfl, by decide +kernel, by decide +kernel⟩
noncomputable def B_Works__stand : SM :=
  sRet (tSeq true [tLend3 (tCBL fList [hV (e1 (fFldO [87, 111, 114, 107, 115] [116, 111, 108, 100]) (hSc 0))]), tSh (eV 1), tSh (eFz (tLend3 (tSh (eCB fTuple [hV (e1 (fFldO [87, 111, 114, 107, 115] [110, 117, 109, 98, 101, 114, 115]) (hSc 0))])))), tSh (eV 2)])
noncomputable def f_Works__stand : Fn := fnOf 3 3 [true, false, false] B_Works__stand
abbrev s_Works__put_in : Stmt := inClass (topS 3) 2
theorem sc_Works__put_in : FnScope ["self", "spot", "number"] ["self", "spot", "number"] (defScope s_Works__put_in) := ⟨rfl, rfl, rfl, by decide +kernel, rfl, by decide +kernel, by decide +kernel⟩
noncomputable def B_Works__put_in : SM :=
  sAsg (gIxF [87, 111, 114, 107, 115] 0 [110, 117, 109, 98, 101, 114, 115] (eBM .str mIdxS (hV (eC (.str [97, 98, 99, 100]))) [hSc 1])) (e2 fMod (hSc 2) (hV (eC (.int 256))))
noncomputable def f_Works__put_in : Fn := fnOf 3 3 [true, false, false] B_Works__put_in
abbrev s_Works__number_in : Stmt := inClass (topS 3) 1
theorem sc_Works__number_in : FnScope ["self", "spot"] ["self", "spot"] (defScope s_Works__number_in) := ⟨rfl, rfl, rfl, by decide +kernel, rfl, by decide +kernel, by decide +kernel⟩
noncomputable def B_Works__number_in : SM :=
  sRetV (eLend3 (e2 fIdx (hV (e1 (fFldO [87, 111, 114, 107, 115] [110, 117, 109, 98, 101, 114, 115]) (hSc 0))) (hV (eBM .str mIdxS (hV (eC (.str [97, 98, 99, 100]))) [hSc 1]))))
noncomputable def f_Works__number_in : Fn := fnOf 2 2 [true, false] B_Works__number_in
abbrev s_Works__next_given : Stmt := inClass (topS 3) 3
theorem sc_Works__next_given : FnScope ["self"] ["self"] (defScope s_Works__next_given) := ⟨rfl, rfl, rfl, by decide +kernel, rfl, by decide +kernel, by decide +kernel⟩
noncomputable def B_Works__next_given : SM :=
  sSeq (sIf (bLend3 (b2 fEq (hV (e1 (fFldO [87, 111, 114, 107, 115] [116, 97, 107, 101, 110]) (hSc 0))) (hV (eCB fLen [hV (e1 (fFldO [87, 111, 114, 107, 115] [103, 105, 118, 101, 110]) (hSc 0))])))) (sRetV (eC (.int 0))) sNil) <|
    sSeq (sAugI [87, 111, 114, 107, 115] 0 [116, 97, 107, 101, 110] (eC (.int 1))) <|
    sRetV (eLend3 (e2 fIdx (hV (e1 (fFldO [87, 111, 114, 107, 115] [103, 105, 118, 101, 110]) (hSc 0))) (hV (e2 fSub (hV (e1 (fFldO [87, 111, 114, 107, 115] [116, 97, 107, 101, 110]) (hSc 0))) (hV (eC (.int 1)))))))
noncomputable def f_Works__next_given : Fn := fnOf 1 1 [true] B_Works__next_given
abbrev s_Works__work : Stmt := inClass (topS 3) 4
theorem sc_Works__work : FnScope ["self", "row", "spot"] ["self", "row"] (defScope s_Works__work) := ⟨rfl, rfl, rfl, by decide +kernel, rfl, by decide +kernel, by decide +kernel⟩
noncomputable def B_Works__work : SM :=
  sSeq (sSetV 2 (e2 fIdx (hSc 1) (hV (eC (.int 1))))) <|
    sIf (b2 fEq (hV (e2 fIdx (hSc 1) (hV (eC (.int 0))))) (hV (eC (.str [115, 101, 116])))) (sExpr (eFz (eCallM [87, 111, 114, 107, 115] [112, 117, 116, 95, 105, 110] f_Works__put_in 0 [.v (eV 2), .v (e2 fIdx (hSc 1) (hV (eC (.int 2))))]))) (sIf (b2 fEq (hV (e2 fIdx (hSc 1) (hV (eC (.int 0))))) (hV (eC (.str [97, 100, 100])))) (sExpr (eFz (eCallM [87, 111, 114, 107, 115] [112, 117, 116, 95, 105, 110] f_Works__put_in 0 [.v (eV 2), .v (e2 fAdd (hV (eFz (eCallM [87, 111, 114, 107, 115] [110, 117, 109, 98, 101, 114, 95, 105, 110] f_Works__number_in 0 [.v (eV 2)]))) (hV (eFz (eCallM [87, 111, 114, 107, 115] [110, 117, 109, 98, 101, 114, 95, 105, 110] f_Works__number_in 0 [.v (e2 fIdx (hSc 1) (hV (eC (.int 2))))]))))]))) (sIf (b2 fEq (hV (e2 fIdx (hSc 1) (hV (eC (.int 0))))) (hV (eC (.str [116, 97, 107, 101])))) (sExpr (eFz (eCallM [87, 111, 114, 107, 115] [112, 117, 116, 95, 105, 110] f_Works__put_in 0 [.v (eV 2), .v (e2 fSub (hV (eFz (eCallM [87, 111, 114, 107, 115] [110, 117, 109, 98, 101, 114, 95, 105, 110] f_Works__number_in 0 [.v (eV 2)]))) (hV (eFz (eCallM [87, 111, 114, 107, 115] [110, 117, 109, 98, 101, 114, 95, 105, 110] f_Works__number_in 0 [.v (e2 fIdx (hSc 1) (hV (eC (.int 2))))]))))]))) (sIf (b2 fEq (hV (e2 fIdx (hSc 1) (hV (eC (.int 0))))) (hV (eC (.str [116, 101, 108, 108])))) (sExpr (eMutF [87, 111, 114, 107, 115] 0 [116, 111, 108, 100] mAppend [eFz (eCallMS [87, 111, 114, 107, 115] [110, 117, 109, 98, 101, 114, 95, 105, 110] f_Works__number_in 0 [.v (eV 2)])])) (sExpr (eFz (eCallM [87, 111, 114, 107, 115] [112, 117, 116, 95, 105, 110] f_Works__put_in 0 [.v (eV 2), .v (eFz (eCallM [87, 111, 114, 107, 115] [110, 101, 120, 116, 95, 103, 105, 118, 101, 110] f_Works__next_given 0 []))]))))))
noncomputable def f_Works__work : Fn := fnOf 3 2 [true, false] B_Works__work
abbrev s_place_behind : Stmt := topS 4
theorem sc_place_behind : FnScope ["works", "row", "at"] ["works", "row", "at"] (defScope s_place_behind) := ⟨rfl, rfl, rfl, by decide +kernel, rfl, by decide +kernel, by decide +kernel⟩
noncomputable def B_place_behind : SM :=
  sSeq (sIf (b2 fEq (hV (e2 fIdx (hSc 1) (hV (eC (.int 0))))) (hV (eC (.str [106, 117, 109, 112])))) (sRetV (e2 fIdx (hSc 1) (hV (eC (.int 1))))) sNil) <|
    sSeq (sIf (b2 fEq (hV (e2 fIdx (hSc 1) (hV (eC (.int 0))))) (hV (eC (.str [122, 101, 114, 111])))) (sSeq (sIf (b2 fEq (hV (eFz (eCallM [87, 111, 114, 107, 115] [110, 117, 109, 98, 101, 114, 95, 105, 110] f_Works__number_in 0 [.v (e2 fIdx (hSc 1) (hV (eC (.int 1))))]))) (hV (eC (.int 0)))) (sRetV (e2 fIdx (hSc 1) (hV (eC (.int 2))))) sNil) <|
    sRetV (e2 fAdd (hSc 2) (hV (eC (.int 1))))) sNil) <|
    sSeq (sExpr (eFz (eCallM [87, 111, 114, 107, 115] [119, 111, 114, 107] f_Works__work 0 [.v (eV 1)]))) <|
    sRetV (e2 fAdd (hSc 2) (hV (eC (.int 1))))
noncomputable def f_place_behind : Fn := fnOf 3 3 [true, false, false] B_place_behind
abbrev s_run_rows : Stmt := topS 5
theorem sc_run_rows : FnScope ["program", "given", "steps", "works", "at", "step"] ["program", "given", "steps"] (defScope s_run_rows) := ⟨rfl, rfl, rfl, by decide +kernel, rfl, by decide +kernel, by decide +kernel⟩
noncomputable def B_run_rows : SM :=
  sSeq (sSet 3 (eNew [87, 111, 114, 107, 115] f_Works____init__ [eV 1])) <|
    sSeq (sSetV 4 (eC (.int 0))) <|
    sSeq (sFor (gNm 5) (iArg rng1 [eV 2]) (sWipe [5] (sSeq (sIf (bOr (b2 fEq (hSc 4) (hV (eCB fLen [hSc 0]))) (b2 fEq (hV (e2 fIdx (hV (e2 fIdx (hSc 0) (hSc 4))) (hV (eC (.int 0))))) (hV (eC (.str [115, 116, 111, 112]))))) (sRet (eCallM [87, 111, 114, 107, 115] [115, 116, 97, 110, 100] f_Works__stand 3 [.v (eC (.str [115, 116, 111, 112, 112, 101, 100])), .v (eV 4)])) sNil) <|
    sSetV 4 (eFz (eCall f_place_behind [.io 3, .v (e2 fIdx (hSc 0) (hSc 4)), .v (eV 4)]))))) <|
    sSeq (sIf (b2 fEq (hSc 4) (hV (eCB fLen [hSc 0]))) (sRet (eCallM [87, 111, 114, 107, 115] [115, 116, 97, 110, 100] f_Works__stand 3 [.v (eC (.str [115, 116, 111, 112, 112, 101, 100])), .v (eV 4)])) sNil) <|
    sRet (eCallM [87, 111, 114, 107, 115] [115, 116, 97, 110, 100] f_Works__stand 3 [.v (eC (.str [103, 111, 105, 110, 103])), .v (eV 4)])
noncomputable def f_run_rows : Fn := fnOf 6 3 [false, false, false] B_run_rows
abbrev s__law_spoilt : Stmt := topS 19
theorem sc__law_spoilt : FnScope ["_law_state", "_law_given", "_law_at"] ["_law_state", "_law_given", "_law_at"] (defScope s__law_spoilt) := ⟨rfl, rfl, rfl, by decide +kernel, rfl, by decide +kernel, by decide +kernel⟩
noncomputable def B__law_spoilt : SM :=
  sRet (t2 lAdd (hV (eFz (t2 lAdd (hV (eFz (tCut (hSc 1) oN (oS (eV 2))))) (hV (eFz (tLst [e2 fMod (hV (e2 fAdd (hV (e2 fAdd (hV (e2 fIdx (hSc 1) (hSc 2))) (hV (eC (.int 1))))) (hV (eFz (eCall f__law_take [.io 0, .v (eC (.int 255))]))))) (hV (eC (.int 256)))])))))) (hV (eFz (tCut (hSc 1) (oS (e2 fAdd (hSc 2) (hV (eC (.int 1))))) oN))))
noncomputable def f__law_spoilt : Fn := fnOf 3 3 [true, false, false] B__law_spoilt
abbrev s__law_right : Stmt := topS 20
theorem sc__law_right : FnScope ["_law_state", "_law_program_here", "_law_given", "_law_stands_here", "_law_steps", "_law_many_here", "_law_due", "_law_text", "_law_longer", "_law_at", "_law_found", "_law_ahead", "_law_odd", "_law_handed", "_law_again", "_law_count"] ["_law_state", "_law_program_here", "_law_given"] (defScope s__law_right) := ⟨rfl, rfl, rfl, by decide +kernel, rfl, by decide +kernel, by decide +kernel⟩
noncomputable def B__law_right : SM :=
  sSeq (sSetV 3 (eFz (eCall f__law_stands [.v (eV 1), .v (eV 2)]))) <|
    sSeq (sSetV 4 (eFz (eCall f__law_take [.io 0, .v (eC (.int 40))]))) <|
    sSeq (sSetV 5 (eFz (eCall f__law_asked [.v (eV 1), .v (eV 3), .v (eV 4)]))) <|
    sSeq (sSet 6 (eCall f_run_rows [.v (eV 1), .v (eV 2), .v (eV 4)])) <|
    sSeq (sSetV 7 (eLend (eCB fStr [hSc 6]))) <|
    sSeq (sSetV 8 (eFz (t2 lAdd (hSc 2) (hV (eFz (t2 lRep (hV (eFz (tLst [eC (.int 0)]))) (hV (e2 fAdd (hV (eC (.int 1))) (hV (eFz (eCall f__law_take [.io 0, .v (eC (.int 5))]))))))))))) <|
    sSeq (sIf (bOr (b2 cGt (hSc 5) (hSc 4)) (b2 fNe (hV (eCB fStr [hV (eFz (eCall f_run_rows [.v (eV 1), .v (eV 8), .v (eV 4)]))])) (hSc 7))) (sRetV (eC (.bl false))) sNil) <|
    sSeq (sIf (b2 fNe (hV (eCB fStr [hV (eFz (eCall f_run_rows [.v (eV 1), .v (eFz (tCut (hSc 2) oN (oS (eV 5)))), .v (eV 4)]))])) (hSc 7)) (sRetV (eC (.bl false))) sNil) <|
    sSeq (sIf (b2 fNe (hSc 2) (hV (eFz (tLst [])))) (sSeq (sSetV 9 (eFz (eCall f__law_take [.io 0, .v (eCB fLen [hSc 2])]))) <|
    sSeq (sSetV 10 (eFz (eCall f_run_rows [.v (eV 1), .v (eFz (eCall f__law_spoilt [.io 0, .v (eV 2), .v (eV 9)])), .v (eV 4)]))) <|
    sSeq (sIf (bAnd (b2 cGe (hSc 9) (hSc 5)) (b2 fNe (hV (eCB fStr [hSc 10])) (hSc 7))) (sRetV (eC (.bl false))) sNil) <|
    sSeq (sSet 11 (tComp [15] (gNm 15) (iArg rng1 [e2 fAdd (hSc 4) (hV (eC (.int 1)))]) (b2 cLe (hV (eFz (eCall f__law_asked [.v (eV 1), .v (eV 3), .v (eV 15)]))) (hSc 9)) (eV 15))) <|
    sSeq (sSetV 12 (eFz (eCall f__law_spoilt [.io 0, .v (eV 2), .v (eV 9)]))) <|
    sIf (b2 fNe (hV (eCB fStr [hV (eFz (eCall f_run_rows [.v (eV 1), .v (eV 12), .v (e2 fIdx (hSc 11) (hV (e1 fNeg (hV (eC (.int 1))))))]))])) (hV (eCB fStr [hV (eFz (eCall f_run_rows [.v (eV 1), .v (eV 2), .v (e2 fIdx (hSc 11) (hV (e1 fNeg (hV (eC (.int 1))))))]))]))) (sRetV (eC (.bl false))) sNil) sNil) <|
    sSeq (sExpr (eMutPA 6 0 mAppend [eC (.int 7)])) <|
    sSeq (sSet 13 (tCBL fList [hSc 2])) <|
    sSeq (sSet 14 (tLendD (eCall f_run_rows [.v (eV 1), .v (eFv 13), .v (eV 4)]))) <|
    sSeq (sExpr (eMut 13 mAppend [eC (.int 9)])) <|
    sRetV (eLend (eAnd (e2 (blOf fEq) (hV (eCB fStr [hSc 14])) (hSc 7)) (e2 (blOf fEq) (hV (eCB fStr [hV (eFz (eCall f_run_rows [.v (eV 1), .v (eV 2), .v (eV 4)]))])) (hSc 7))))
noncomputable def f__law_right : Fn := fnOf 16 3 [true, false, false] B__law_right
abbrev s__law_many : Stmt := topS 15
theorem sc__law_many : FnScope ["_law_state"] ["_law_state"] (defScope s__law_many) := ⟨rfl, rfl, rfl, by decide +kernel, rfl, by decide +kernel, by decide +kernel⟩
noncomputable def B__law_many : SM :=
  sSeq (sIf (b2 fEq (hV (eFz (eCall f__law_take [.io 0, .v (eC (.int 8))]))) (hV (eC (.int 0)))) (sRetV (e2 fAdd (hV (eC (.int 13))) (hV (eFz (eCall f__law_take [.io 0, .v (eC (.int 28))]))))) sNil) <|
    sRet (eCall f__law_take [.io 0, .v (eC (.int 13))])
noncomputable def f__law_many : Fn := fnOf 1 1 [true] B__law_many
abbrev s_law : Stmt := topS 21
theorem sc_law : FnScope ["_law_script", "_law_state", "_law_programs", "_law_many_here", "_law_given", "_law_turn", "_law_size", "_law_k"] ["_law_script"] (defScope s_law) := ⟨rfl, rfl, rfl, by decide +kernel, rfl, by decide +kernel, by decide +kernel⟩
noncomputable def B_law : SM :=
  sSeq (sSet 1 (eCall f__law_begin [.v (eV 0)])) <|
    sSeq (sSet 2 (tComp [5] (gNm 5) (iArg rng1 [eC (.int 2)]) bTrue (eFz (eCall f__law_asking [.io 1, .v (eFz (eCall f__law_program [.io 1, .v (eFz (eCall f__law_many [.io 1]))]))])))) <|
    sSeq (sSetV 3 (e2 fIdx (hV (eFz (tLst [eFz (eCall f__law_take [.io 1, .v (eC (.int 10))]), e2 fAdd (hV (eC (.int 150))) (hV (eFz (eCall f__law_take [.io 1, .v (eC (.int 46))])))]))) (hV (eCB fInt [hV (e2 (blOf fEq) (hV (eFz (eCall f__law_take [.io 1, .v (eC (.int 8))]))) (hV (eC (.int 0))))])))) <|
    sSeq (sSet 4 (tComp [6] (gNm 6) (iTupD (eTup [eV 3, eFz (eCall f__law_take [.io 1, .v (eC (.int 10))])])) bTrue (eFz (tComp [7] (gNm 7) (iArg rng1 [eV 6]) bTrue (eFz (eCall f__law_take [.io 1, .v (eC (.int 256))])))))) <|
    sSeq (sFor (gNm 5) (iArg rng1 [eC (.int 4)]) (sWipe [5] (sIf (bNot (bVal (eFz (eCall f__law_right [.io 1, .v (e2 fIdx (hSc 2) (hV (e2 fMod (hSc 5) (hV (eC (.int 2)))))), .v (e2 fIdx (hSc 4) (hV (e2 fFdiv (hSc 5) (hV (eC (.int 2))))))])))) (sRetV (eC (.bl false))) sNil))) <|
    sRetV (eC (.bl true))
noncomputable def f_law : Fn := fnOf 8 1 [false] B_law
section
variable {P : Program} {w : World} {K : PySem.W.Frag} {mg : Str → Option Value} {base : Heap}
theorem c__law_begin {fa : Addr} {fd : FuncData} (F : Fun K "_law_begin" "_law_begin" s__law_begin fa fd) (hm : mg "_law_begin" = some (.ref fa)) (hb : Binds K fd ["_law_script"] []) (z_list : mg "list" = none)  : Cal P w K mg base 1 "_law_begin" f__law_begin :=
  Cal.mk' F hm hb sc__law_begin (by decide) fun cdv A outer s H E hr =>
    (sds_cons (sd_set (ps_set sc__law_begin.nd rfl (.inl (by kernel_rfl)) (et_cb f_list (pe_callTy call_list_of (gl_ (by kernel_rfl)) z_list (by decide +kernel) (eah_cons (eh_v (ev_fz (et_cut (eh_s rfl (.inl (by kernel_rfl))) eo_n (eo_s ev_int)))) eah_nil)))) (by decide))
    (sds_cons (sd_if (eb_cmp (op_eqA hr.units) f_eq (eh_s rfl (.inl (by kernel_rfl))) (eh_v (ev_fz (et_lst eav_nil))) (nomark _)) (sds_one (sd_set (ps_set sc__law_begin.nd rfl (.inl (by kernel_rfl)) (et_lst (eav_cons ev_int eav_nil))) (by decide))) sds_nil)
    (sds_one (sd_ret (et_rcd2 (by rfl) (by rfl) (et_mv rfl (.inl (by kernel_rfl))) ev_int)))))
theorem c__law_take {fa : Addr} {fd : FuncData} (F : Fun K "_law_take" "_law_take" s__law_take fa fd) (hm : mg "_law_take" = some (.ref fa)) (hb : Binds K fd ["_law_state", "_law_many_here"] []) (z_divmod : mg "divmod" = none) (z_len : mg "len" = none)  : Cal P w K mg base 1 "_law_take" f__law_take :=
  Cal.mk' F hm hb sc__law_take (by decide) fun cdv A outer s H E hr =>
    (sds_cons (sd_setV (ps_set sc__law_take.nd rfl (.inl (by kernel_rfl)) (ev_op op_addA f_add (eh_v (ev_fld (hu1 hr) rfl (.inl (by kernel_rfl)) (by rfl))) (eh_v ev_int))) (by decide))
    (sds_cons (sd_fld (hu1 hr) rfl (.inl (by kernel_rfl)) (by rfl) (ev_var rfl (.inl (by kernel_rfl))))
    (sds_cons (sd_setV (ps_set sc__law_take.nd rfl (.inl (by kernel_rfl)) (ev_op op_mod f_mod (eh_s rfl (.inl (by kernel_rfl))) (eh_v (ev_flen (hu1 hr) (gl_ (by kernel_rfl)) z_len rfl (.inl (by kernel_rfl)) (by rfl))))) (by decide))
    (sds_cons (sd_setV (ps_set sc__law_take.nd rfl (.inl (by kernel_rfl)) (ev_fix (hu1 hr) rfl (.inl (by kernel_rfl)) (by rfl) rfl (.inl (by kernel_rfl)))) (by decide))
    (sds_cons (sd_if (eb_cmp op_ge f_ge (eh_s rfl (.inl (by kernel_rfl))) (eh_v (ev_op op_pow f_pow (eh_v ev_int) (eh_v ev_int))) (nomark _)) (sds_cons (sd_asg (sl := [5]) (ev_cb f_divmod (pe_callB call_divmod (gl_ (by kernel_rfl)) z_divmod (by decide +kernel) (eah_cons (eh_s rfl (.inl (by kernel_rfl))) (eah_cons (eh_s rfl (.inl (by kernel_rfl))) eah_nil)))) (gd_tup rfl (gds_cons (gd_fix (hu1 hr) rfl (.inl (by kernel_rfl)) (by rfl) rfl (.inl (by kernel_rfl))) (gds_cons (gd_name sc__law_take.nd rfl (.inl (by kernel_rfl)) (by decide)) gds_nil)) rfl) (by decide))
    (sds_one (sd_retV (ev_var rfl (.inl (by kernel_rfl)))))) sds_nil)
    (sds_cons (sd_setV (ps_set sc__law_take.nd rfl (.inl (by kernel_rfl)) (ev_op op_mod f_mod (eh_v (ev_op op_mul f_mul (eh_v (ev_op op_addA f_add (eh_v (ev_op op_addA f_add (eh_v (ev_op op_mod f_mod (eh_s rfl (.inl (by kernel_rfl))) (eh_v ev_int))) (eh_v (ev_op op_mul f_mul (eh_v (ev_op op_mul f_mul (eh_s rfl (.inl (by kernel_rfl))) (eh_s rfl (.inl (by kernel_rfl))))) (eh_v ev_int))))) (eh_v ev_int))) (eh_v ev_int))) (eh_v ev_int))) (by decide))
    (sds_cons (sd_setV (ps_set sc__law_take.nd rfl (.inl (by kernel_rfl)) (ev_op op_mod f_mod (eh_v (ev_op op_mul f_mul (eh_s rfl (.inl (by kernel_rfl))) (eh_s rfl (.inl (by kernel_rfl))))) (eh_v ev_int))) (by decide))
    (sds_one (sd_retV (ev_op op_mod f_mod (eh_v (ev_op op_fdiv f_fdiv (eh_v (ev_op op_mod f_mod (eh_v (ev_op op_mul f_mul (eh_v (ev_op op_addA f_add (eh_s rfl (.inl (by kernel_rfl))) (eh_v (ev_op op_mul f_mul (eh_s rfl (.inl (by kernel_rfl))) (eh_v ev_int))))) (eh_v ev_int))) (eh_v ev_int))) (eh_v ev_int))) (eh_s rfl (.inl (by kernel_rfl)))))))))))))
theorem c__law_asking {fa : Addr} {fd : FuncData} (F : Fun K "_law_asking" "_law_asking" s__law_asking fa fd) (hm : mg "_law_asking" = some (.ref fa)) (hb : Binds K fd ["_law_state", "_law_program_here"] [])  (C__law_take : Cal P w K mg base 1 "_law_take" f__law_take) : Cal P w K mg base 2 "_law_asking" f__law_asking :=
  Cal.mk' F hm hb sc__law_asking (by decide) fun cdv A outer s H E hr =>
    (sds_one (sd_ret (et_comp rfl sc__law_asking.nd (ei_seq (ev_var rfl (.inl (by kernel_rfl)))) (own := [("_law_row", 2)]) (blk_ok (by kernel_rfl)) (sl := [2]) (by decide) (fun _ _ _ _ _ => (gd_name sc__law_asking.nd rfl (.inl (by kernel_rfl)) (by decide))) (fun _ _ _ _ _ => ets_nil) (fun _ _ _ _ _ => (ev_if (eb_cmp (op_eqA hr.units) f_eq (eh_v (ev_fz (et_call (C__law_take.mono (by decide)) hr (gl_ (by kernel_rfl)) takes0 (eaa_io rfl (.inr (.inl (by kernel_rfl))) (eaa_v ev_int eaa_nil))))) (eh_v ev_int) (nomark _)) (ev_tup (eav_cons (ev_str (by rfl)) (eav_cons (ev_ix (ix_A (hu1 hr)) f_idx (eh_v (ev_str (by rfl))) (eh_v (ev_fz (et_call (C__law_take.mono (by decide)) hr (gl_ (by kernel_rfl)) takes0 (eaa_io rfl (.inr (.inl (by kernel_rfl))) (eaa_v ev_int eaa_nil))))) (fun _ _ => rfl)) eav_nil))) (ev_var rfl (.inl (by kernel_rfl))))))))
theorem c__law_program {fa : Addr} {fd : FuncData} (F : Fun K "_law_program" "_law_program" s__law_program fa fd) (hm : mg "_law_program" = some (.ref fa)) (hb : Binds K fd ["_law_state", "_law_many_here"] []) (z_max : mg "max" = none) (z_min : mg "min" = none) (z_range : mg "range" = none) (C__law_take : Cal P w K mg base 1 "_law_take" f__law_take) : Cal P w K mg base 2 "_law_program" f__law_program :=
  Cal.mk' F hm hb sc__law_program (by decide) fun cdv A outer s H E hr =>
    (sds_cons (sd_set (ps_set sc__law_program.nd rfl (.inl (by kernel_rfl)) (et_lst eav_nil)) (by decide))
    (sds_cons (sd_for (sl := [3]) (passes_of (K := _) (E₁ := _) rfl) rfl (ei_arg (pi_range1 (gl_ (by kernel_rfl)) z_range (eav_cons (ev_var rfl (.inl (by kernel_rfl))) eav_nil)) ht_rng1) (gd_name sc__law_program.nd rfl (.inl (by kernel_rfl)) (by decide)) (sds_wipe [3, 4, 5, 6, 7] (sds_cons (sd_setV (ps_set sc__law_program.nd rfl (.inl (by kernel_rfl)) (ev_fz (et_call (C__law_take.mono (by decide)) hr (gl_ (by kernel_rfl)) (takes_of rfl rfl rfl rfl) (eaa_io rfl (.inl (by kernel_rfl)) (eaa_v ev_int eaa_nil))))) (by decide))
    (sds_cons (sd_setV (ps_set sc__law_program.nd rfl (.inl (by kernel_rfl)) (ev_ix (ix_A (hu1 hr)) f_idx (eh_v (ev_str (by rfl))) (eh_v (ev_fz (et_call (C__law_take.mono (by decide)) hr (gl_ (by kernel_rfl)) (takes_of rfl rfl rfl rfl) (eaa_io rfl (.inl (by kernel_rfl)) (eaa_v ev_int eaa_nil))))) (fun _ _ => rfl))) (by decide))
    (sds_cons (sd_setV (ps_set sc__law_program.nd rfl (.inl (by kernel_rfl)) (ev_ix (ix_A (hu1 hr)) f_idx (eh_v (ev_str (by rfl))) (eh_v (ev_fz (et_call (C__law_take.mono (by decide)) hr (gl_ (by kernel_rfl)) (takes_of rfl rfl rfl rfl) (eaa_io rfl (.inl (by kernel_rfl)) (eaa_v ev_int eaa_nil))))) (fun _ _ => rfl))) (by decide))
    (sds_cons (sd_setV (ps_set sc__law_program.nd rfl (.inl (by kernel_rfl)) (ev_ix (ix_A (hu1 hr)) f_idx (eh_v (ev_fz (et_lst (eav_cons (ev_fz (et_call (C__law_take.mono (by decide)) hr (gl_ (by kernel_rfl)) (takes_of rfl rfl rfl rfl) (eaa_io rfl (.inl (by kernel_rfl)) (eaa_v (ev_op op_addA f_add (eh_s rfl (.inl (by kernel_rfl))) (eh_v ev_int)) eaa_nil)))) (eav_cons (ev_cb f_min (pe_callB (cr_minA rfl) (gl_ (by kernel_rfl)) z_min (by decide +kernel) (eah_cons (eh_s rfl (.inl (by kernel_rfl))) (eah_cons (eh_v (ev_cb f_max (pe_callB (cr_maxA rfl) (gl_ (by kernel_rfl)) z_max (by decide +kernel) (eah_cons (eh_v ev_int) (eah_cons (eh_v (ev_op op_addA f_add (eh_v (ev_op op_sub f_sub (eh_s rfl (.inl (by kernel_rfl))) (eh_v ev_int))) (eh_v (ev_fz (et_call (C__law_take.mono (by decide)) hr (gl_ (by kernel_rfl)) (takes_of rfl rfl rfl rfl) (eaa_io rfl (.inl (by kernel_rfl)) (eaa_v ev_int eaa_nil))))))) eah_nil))))) eah_nil)))) eav_nil))))) (eh_v (ev_fz (et_call (C__law_take.mono (by decide)) hr (gl_ (by kernel_rfl)) (takes_of rfl rfl rfl rfl) (eaa_io rfl (.inl (by kernel_rfl)) (eaa_v ev_int eaa_nil))))) (fun _ _ => rfl))) (by decide))
    (sds_one (sd_if (eb_cmp op_ltA f_lt (eh_s rfl (.inl (by kernel_rfl))) (eh_v ev_int) (nomark _)) (sds_one (sd_expr (ev_mut m_append (pe_bm PySem.F.plainAttrs_list PySem.F.slot_list_append PySem.F.type_list_append mt_append (pe_var rfl (.inl (by kernel_rfl))) (eav_cons (ev_tup (eav_cons (ev_str (by rfl)) (eav_cons (ev_var rfl (.inl (by kernel_rfl))) (eav_cons (ev_ix (ix_A (hu1 hr)) f_idx (eh_v (ev_fz (et_lst (eav_cons (ev_fz (et_call (C__law_take.mono (by decide)) hr (gl_ (by kernel_rfl)) (takes_of rfl rfl rfl rfl) (eaa_io rfl (.inl (by kernel_rfl)) (eaa_v ev_int eaa_nil)))) (eav_cons (ev_fz (et_call (C__law_take.mono (by decide)) hr (gl_ (by kernel_rfl)) (takes_of rfl rfl rfl rfl) (eaa_io rfl (.inl (by kernel_rfl)) (eaa_v ev_int eaa_nil)))) eav_nil))))) (eh_v (ev_fz (et_call (C__law_take.mono (by decide)) hr (gl_ (by kernel_rfl)) (takes_of rfl rfl rfl rfl) (eaa_io rfl (.inl (by kernel_rfl)) (eaa_v ev_int eaa_nil))))) (fun _ _ => rfl)) eav_nil)))) eav_nil))))) (sds_one (sd_if (eb_cmp op_ltA f_lt (eh_s rfl (.inl (by kernel_rfl))) (eh_v ev_int) (nomark _)) (sds_one (sd_expr (ev_mut m_append (pe_bm PySem.F.plainAttrs_list PySem.F.slot_list_append PySem.F.type_list_append mt_append (pe_var rfl (.inl (by kernel_rfl))) (eav_cons (ev_tup (eav_cons (ev_ix (ix_A (hu1 hr)) f_idx (eh_v (ev_fz (et_lst (eav_cons (ev_str (by rfl)) (eav_cons (ev_str (by rfl)) eav_nil))))) (eh_v (ev_op op_sub f_sub (eh_s rfl (.inl (by kernel_rfl))) (eh_v ev_int))) (fun _ _ => rfl)) (eav_cons (ev_var rfl (.inl (by kernel_rfl))) (eav_cons (ev_var rfl (.inl (by kernel_rfl))) eav_nil)))) eav_nil))))) (sds_one (sd_if (eb_cmp op_ltA f_lt (eh_s rfl (.inl (by kernel_rfl))) (eh_v ev_int) (nomark _)) (sds_one (sd_expr (ev_mut m_append (pe_bm PySem.F.plainAttrs_list PySem.F.slot_list_append PySem.F.type_list_append mt_append (pe_var rfl (.inl (by kernel_rfl))) (eav_cons (ev_tup (eav_cons (ev_ix (ix_A (hu1 hr)) f_idx (eh_v (ev_fz (et_lst (eav_cons (ev_str (by rfl)) (eav_cons (ev_str (by rfl)) (eav_cons (ev_str (by rfl)) eav_nil)))))) (eh_v (ev_op op_sub f_sub (eh_s rfl (.inl (by kernel_rfl))) (eh_v ev_int))) (fun _ _ => rfl)) (eav_cons (ev_var rfl (.inl (by kernel_rfl))) eav_nil))) eav_nil))))) (sds_one (sd_if (eb_w (ew_and (eb_cmp (op_eqA hr.units) f_eq (eh_s rfl (.inl (by kernel_rfl))) (eh_v ev_int) (nomark _)) (ew_and1 (eb_cmp (op_eqA hr.units) f_eq (eh_v (ev_fz (et_call (C__law_take.mono (by decide)) hr (gl_ (by kernel_rfl)) (takes_of rfl rfl rfl rfl) (eaa_io rfl (.inl (by kernel_rfl)) (eaa_v ev_int eaa_nil))))) (eh_v ev_int) (nomark _))))) (sds_one (sd_expr (ev_mut m_append (pe_bm PySem.F.plainAttrs_list PySem.F.slot_list_append PySem.F.type_list_append mt_append (pe_var rfl (.inl (by kernel_rfl))) (eav_cons (ev_tup (eav_cons (ev_str (by rfl)) eav_nil)) eav_nil))))) (sds_one (sd_expr (ev_mut m_append (pe_bm PySem.F.plainAttrs_list PySem.F.slot_list_append PySem.F.type_list_append mt_append (pe_var rfl (.inl (by kernel_rfl))) (eav_cons (ev_if (eb_cmp op_gt f_gt (eh_s rfl (.inl (by kernel_rfl))) (eh_v ev_int) (nomark _)) (ev_tup (eav_cons (ev_str (by rfl)) (eav_cons (ev_var rfl (.inl (by kernel_rfl))) (eav_cons (ev_var rfl (.inl (by kernel_rfl))) eav_nil)))) (ev_tup (eav_cons (ev_str (by rfl)) (eav_cons (ev_var rfl (.inl (by kernel_rfl))) eav_nil)))) eav_nil)))))))))))))))))) (by decide))
    (sds_one (sd_ret (et_mv rfl (.inl (by kernel_rfl)))))))
theorem c__law_works {fa : Addr} {fd : FuncData} (F : Fun K "_law_works" "_law_works" s__law_works fa fd) (hm : mg "_law_works" = some (.ref fa)) (hb : Binds K fd ["_law_given"] []) (z_list : mg "list" = none)  : Cal P w K mg base 1 "_law_works" f__law_works :=
  Cal.mk' F hm hb sc__law_works (by decide) fun cdv A outer s H E hr =>
    (sds_one (sd_ret (et_rcd3 (by rfl) (by rfl) (by rfl) (et_lst (eav_cons ev_int (eav_cons ev_int (eav_cons ev_int (eav_cons ev_int eav_nil))))) (et_cb f_list (pe_callTy call_list_of (gl_ (by kernel_rfl)) z_list (by decide +kernel) (eah_cons (eh_s rfl (.inl (by kernel_rfl))) eah_nil))) (et_lst eav_nil))))
theorem c__law_work {fa : Addr} {fd : FuncData} (F : Fun K "_law_work" "_law_work" s__law_work fa fd) (hm : mg "_law_work" = some (.ref fa)) (hb : Binds K fd ["_law_book", "_law_row"] [])   : Cal P w K mg base 1 "_law_work" f__law_work :=
  Cal.mk' F hm hb sc__law_work (by decide) fun cdv A outer s H E hr =>
    (sds_borR (md' := [true, false, true]) (hu1 hr) rfl sc__law_work.nd rfl (.inl (by kernel_rfl)) rfl rfl (by kernel_rfl) (by kernel_rfl) (by rfl) (ev_bm (t := .str) f_idxS (pe_bm PySem.F.plainAttrs_str PySem.F.slot_str_index PySem.F.type_str_index mt_idxS (eh_v (ev_str (by rfl))) (eah_cons (eh_v (ev_ix (ix_A (hu1 hr)) f_idx (eh_s rfl (.inl (by kernel_rfl))) (eh_v ev_int) (fun _ _ => rfl))) eah_nil))) (sds_one (sd_if (eb_cmp (op_eqA hr.units) f_eq (eh_v (ev_ix (ix_A (hu1 hr)) f_idx (eh_s rfl (.inl (by kernel_rfl))) (eh_v ev_int) (fun _ _ => rfl))) (eh_v (ev_str (by rfl))) (nomark _)) (sds_one (sd_asg (sl := []) (ev_ix (ix_A (hu1 hr)) f_idx (eh_s rfl (.inl (by kernel_rfl))) (eh_v ev_int) (fun _ _ => rfl)) (gd_ix rfl (.inl (by kernel_rfl)) (ev_var rfl (.inl (by kernel_rfl)))) (by decide))) (sds_one (sd_if (eb_cmp (op_eqA hr.units) f_eq (eh_v (ev_ix (ix_A (hu1 hr)) f_idx (eh_s rfl (.inl (by kernel_rfl))) (eh_v ev_int) (fun _ _ => rfl))) (eh_v (ev_str (by rfl))) (nomark _)) (sds_one (sd_asg (sl := []) (ev_op op_mod f_mod (eh_v (ev_op op_addA f_add (eh_v (ev_ix (ix_A (hu1 hr)) f_idx (eh_s rfl (.inl (by kernel_rfl))) (eh_s rfl (.inl (by kernel_rfl))) (fun _ _ => rfl))) (eh_v (ev_ix (ix_A (hu1 hr)) f_idx (eh_s rfl (.inl (by kernel_rfl))) (eh_v (ev_bm (t := .str) f_idxS (pe_bm PySem.F.plainAttrs_str PySem.F.slot_str_index PySem.F.type_str_index mt_idxS (eh_v (ev_str (by rfl))) (eah_cons (eh_v (ev_ix (ix_A (hu1 hr)) f_idx (eh_s rfl (.inl (by kernel_rfl))) (eh_v ev_int) (fun _ _ => rfl))) eah_nil)))) (fun _ _ => rfl))))) (eh_v ev_int)) (gd_ix rfl (.inl (by kernel_rfl)) (ev_var rfl (.inl (by kernel_rfl)))) (by decide))) (sds_one (sd_if (eb_cmp (op_eqA hr.units) f_eq (eh_v (ev_ix (ix_A (hu1 hr)) f_idx (eh_s rfl (.inl (by kernel_rfl))) (eh_v ev_int) (fun _ _ => rfl))) (eh_v (ev_str (by rfl))) (nomark _)) (sds_one (sd_asg (sl := []) (ev_op op_mod f_mod (eh_v (ev_op op_sub f_sub (eh_v (ev_ix (ix_A (hu1 hr)) f_idx (eh_s rfl (.inl (by kernel_rfl))) (eh_s rfl (.inl (by kernel_rfl))) (fun _ _ => rfl))) (eh_v (ev_ix (ix_A (hu1 hr)) f_idx (eh_s rfl (.inl (by kernel_rfl))) (eh_v (ev_bm (t := .str) f_idxS (pe_bm PySem.F.plainAttrs_str PySem.F.slot_str_index PySem.F.type_str_index mt_idxS (eh_v (ev_str (by rfl))) (eah_cons (eh_v (ev_ix (ix_A (hu1 hr)) f_idx (eh_s rfl (.inl (by kernel_rfl))) (eh_v ev_int) (fun _ _ => rfl))) eah_nil)))) (fun _ _ => rfl))))) (eh_v ev_int)) (gd_ix rfl (.inl (by kernel_rfl)) (ev_var rfl (.inl (by kernel_rfl)))) (by decide))) (sds_one (sd_if (eb_cmp (op_eqA hr.units) f_eq (eh_v (ev_ix (ix_A (hu1 hr)) f_idx (eh_s rfl (.inl (by kernel_rfl))) (eh_v ev_int) (fun _ _ => rfl))) (eh_v (ev_str (by rfl))) (nomark _)) (sds_one (sd_expr (ev_mutR (by rfl) m_append (pe_bm PySem.F.plainAttrs_list PySem.F.slot_list_append PySem.F.type_list_append mt_append (pe_ix (ix_A (hu1 hr)) (pe_var rfl (.inl (by kernel_rfl))) pe_str (fun _ _ => rfl)) (eav_cons (ev_ix (ix_A (hu1 hr)) f_idx (eh_s rfl (.inl (by kernel_rfl))) (eh_s rfl (.inl (by kernel_rfl))) (fun _ _ => rfl)) eav_nil))))) (sds_one (sd_if (eb_lend4 (eb_cmp (op_neA hr.units) f_ne (eh_v (ev_ix (ix_A (hu1 hr)) f_idx (eh_s rfl (.inl (by kernel_rfl))) (eh_v (ev_str (by rfl))) (fun _ _ => rfl))) (eh_v (ev_fz (et_lst eav_nil))) (nomark _))) (sds_one (sd_asg (sl := []) (ev_mutR (by rfl) m_pop (pe_bm PySem.F.plainAttrs_list PySem.F.slot_list_pop PySem.F.type_list_pop mt_popA (pe_ix (ix_A (hu1 hr)) (pe_var rfl (.inl (by kernel_rfl))) pe_str (fun _ _ => rfl)) (eav_cons ev_int eav_nil))) (gd_ix rfl (.inl (by kernel_rfl)) (ev_var rfl (.inl (by kernel_rfl)))) (by decide))) (sds_one (sd_asg (sl := []) ev_int (gd_ix rfl (.inl (by kernel_rfl)) (ev_var rfl (.inl (by kernel_rfl)))) (by decide))))))))))))) (by decide) (by decide) (by decide) (md_le (by decide)) rfl (by decide) (by decide) (by kernel_rfl))
theorem c__law_done {fa : Addr} {fd : FuncData} (F : Fun K "_law_done" "_law_done" s__law_done fa fd) (hm : mg "_law_done" = some (.ref fa)) (hb : Binds K fd ["_law_book", "_law_program_here", "_law_at"] [])  (C__law_work : Cal P w K mg base 1 "_law_work" f__law_work) : Cal P w K mg base 2 "_law_done" f__law_done :=
  Cal.mk' F hm hb sc__law_done (by decide) fun cdv A outer s H E hr =>
    (sds_cons (sd_setV (ps_set sc__law_done.nd rfl (.inl (by kernel_rfl)) (ev_ix (ix_A (hu1 hr)) f_idx (eh_s rfl (.inl (by kernel_rfl))) (eh_s rfl (.inl (by kernel_rfl))) (fun _ _ => rfl))) (by decide))
    (sds_cons (sd_if (eb_cmp (op_eqA hr.units) f_eq (eh_v (ev_ix (ix_A (hu1 hr)) f_idx (eh_s rfl (.inl (by kernel_rfl))) (eh_v ev_int) (fun _ _ => rfl))) (eh_v (ev_str (by rfl))) (nomark _)) (sds_one (sd_retV (ev_ix (ix_A (hu1 hr)) f_idx (eh_s rfl (.inl (by kernel_rfl))) (eh_v ev_int) (fun _ _ => rfl)))) sds_nil)
    (sds_cons (sd_if (eb_cmp (op_eqA hr.units) f_eq (eh_v (ev_ix (ix_A (hu1 hr)) f_idx (eh_s rfl (.inl (by kernel_rfl))) (eh_v ev_int) (fun _ _ => rfl))) (eh_v (ev_str (by rfl))) (nomark _)) (sds_one (sd_retV (ev_lend4 (ev_if (eb_cmp (op_eqA hr.units) f_eq (eh_v (ev_ix (ix_A (hu1 hr)) f_idx (eh_v (ev_ix (ix_A (hu1 hr)) f_idx (eh_s rfl (.inl (by kernel_rfl))) (eh_v (ev_str (by rfl))) (fun _ _ => rfl))) (eh_v (ev_bm (t := .str) f_idxS (pe_bm PySem.F.plainAttrs_str PySem.F.slot_str_index PySem.F.type_str_index mt_idxS (eh_v (ev_str (by rfl))) (eah_cons (eh_v (ev_ix (ix_A (hu1 hr)) f_idx (eh_s rfl (.inl (by kernel_rfl))) (eh_v ev_int) (fun _ _ => rfl))) eah_nil)))) (fun _ _ => rfl))) (eh_v ev_int) (nomark _)) (ev_ix (ix_A (hu1 hr)) f_idx (eh_s rfl (.inl (by kernel_rfl))) (eh_v ev_int) (fun _ _ => rfl)) (ev_op op_addA f_add (eh_s rfl (.inl (by kernel_rfl))) (eh_v ev_int)))))) sds_nil)
    (sds_cons (sd_expr (ev_fz (et_call (C__law_work.mono (by decide)) hr (gl_ (by kernel_rfl)) (takes_of rfl rfl rfl rfl) (eaa_io rfl (.inl (by kernel_rfl)) (eaa_v (ev_var rfl (.inl (by kernel_rfl))) eaa_nil)))))
    (sds_one (sd_retV (ev_op op_addA f_add (eh_s rfl (.inl (by kernel_rfl))) (eh_v ev_int))))))))
theorem c__law_ended {fa : Addr} {fd : FuncData} (F : Fun K "_law_ended" "_law_ended" s__law_ended fa fd) (hm : mg "_law_ended" = some (.ref fa)) (hb : Binds K fd ["_law_program_here", "_law_at"] []) (z_len : mg "len" = none)  : Cal P w K mg base 1 "_law_ended" f__law_ended :=
  Cal.mk' F hm hb sc__law_ended (by decide) fun cdv A outer s H E hr =>
    (sds_one (sd_retV (ev_or (ev_cmp (op_eqA hr.units) (Op2B.toV f_eq) (eh_s rfl (.inl (by kernel_rfl))) (eh_v (ev_cb f_len (pe_callB cr_lenA (gl_ (by kernel_rfl)) z_len (by decide +kernel) (eah_cons (eh_s rfl (.inl (by kernel_rfl))) eah_nil)))) (nomark _)) (ev_one (ev_cmp (op_eqA hr.units) (Op2B.toV f_eq) (eh_v (ev_ix (ix_A (hu1 hr)) f_idx (eh_v (ev_ix (ix_A (hu1 hr)) f_idx (eh_s rfl (.inl (by kernel_rfl))) (eh_s rfl (.inl (by kernel_rfl))) (fun _ _ => rfl))) (eh_v ev_int) (fun _ _ => rfl))) (eh_v (ev_str (by rfl))) (nomark _))))))
theorem c__law_stands {fa : Addr} {fd : FuncData} (F : Fun K "_law_stands" "_law_stands" s__law_stands fa fd) (hm : mg "_law_stands" = some (.ref fa)) (hb : Binds K fd ["_law_program_here", "_law_given"] []) (z_len : mg "len" = none) (z_list : mg "list" = none) (z_tuple : mg "tuple" = none) (C__law_works : Cal P w K mg base 1 "_law_works" f__law_works) (C__law_done : Cal P w K mg base 2 "_law_done" f__law_done) (C__law_ended : Cal P w K mg base 1 "_law_ended" f__law_ended) : Cal P w K mg base 3 "_law_stands" f__law_stands :=
  Cal.mk' F hm hb sc__law_stands (by decide) fun cdv A outer s H E hr =>
    (sds_cons (sd_parC rfl sc__law_stands.nd rfl rfl (by decide) (by kernel_rfl) (by kernel_rfl) (et_call (C__law_works.mono (by decide)) hr (gl_ (by kernel_rfl)) (takes_of rfl rfl rfl rfl) (eaa_v (ev_var rfl (.inl (by kernel_rfl))) eaa_nil)) (by decide) (by decide) (by kernel_rfl))
    (sds_cons (sd_set (ps_set sc__law_stands.nd rfl (.inl (by kernel_rfl)) (et_lst (eav_cons (ev_tup (eav_cons (ev_fz (et_lst eav_nil)) (eav_cons (ev_tup (eav_cons ev_int (eav_cons ev_int (eav_cons ev_int (eav_cons ev_int eav_nil))))) (eav_cons ev_int eav_nil)))) eav_nil))) (by decide))
    (sds_cons (sd_while 1000000 (passes_of (K := _) (E₁ := _) rfl) (eb_w (ew_and (eb_cmp op_ltA f_lt (eh_v (ev_cb f_len (pe_callB cr_lenA (gl_ (by kernel_rfl)) z_len (by decide +kernel) (eah_cons (eh_s rfl (.inl (by kernel_rfl))) eah_nil)))) (eh_v ev_int) (nomark _)) (ew_and1 (eb_not (eb_val (ev_fz (et_call (C__law_ended.mono (by decide)) hr (gl_ (by kernel_rfl)) (takes_of rfl rfl rfl rfl) (eaa_v (ev_var rfl (.inl (by kernel_rfl))) (eaa_v (ev_var rfl (.inl (by kernel_rfl))) eaa_nil))))))))) (sds_cons (sd_setV (ps_set sc__law_stands.nd rfl (.inl (by kernel_rfl)) (ev_fz (et_call (C__law_done.mono (by decide)) hr (gl_ (by kernel_rfl)) (takes_of rfl rfl rfl rfl) (eaa_io rfl (.inl (by kernel_rfl)) (eaa_v (ev_var rfl (.inl (by kernel_rfl))) (eaa_v (ev_var rfl (.inl (by kernel_rfl))) eaa_nil)))))) (by decide))
    (sds_one (sd_expr (ev_mut m_append (pe_bm PySem.F.plainAttrs_list PySem.F.slot_list_append PySem.F.type_list_append mt_append (pe_var rfl (.inl (by kernel_rfl))) (eav_cons (ev_tup (eav_cons (ev_fz (et_lend4 (et_cb f_list (pe_callTy call_list_of (gl_ (by kernel_rfl)) z_list (by decide +kernel) (eah_cons (eh_v (ev_ix (ix_A (hu1 hr)) f_idx (eh_s rfl (.inl (by kernel_rfl))) (eh_v (ev_str (by rfl))) (fun _ _ => rfl))) eah_nil))))) (eav_cons (ev_fz (et_lend4 (et_sh (ev_cb f_tuple (pe_callTy call_tuple_of (gl_ (by kernel_rfl)) z_tuple (by decide +kernel) (eah_cons (eh_v (ev_ix (ix_A (hu1 hr)) f_idx (eh_s rfl (.inl (by kernel_rfl))) (eh_v (ev_str (by rfl))) (fun _ _ => rfl))) eah_nil)))))) (eav_cons (ev_var rfl (.inl (by kernel_rfl))) eav_nil)))) eav_nil)))))))
    (sds_one (sd_ret (et_mv rfl (.inl (by kernel_rfl))))))))
theorem c__law_asked {fa : Addr} {fd : FuncData} (F : Fun K "_law_asked" "_law_asked" s__law_asked fa fd) (hm : mg "_law_asked" = some (.ref fa)) (hb : Binds K fd ["_law_program_here", "_law_stands_here", "_law_steps"] []) (z_len : mg "len" = none) (z_min : mg "min" = none)  : Cal P w K mg base 1 "_law_asked" f__law_asked :=
  Cal.mk' F hm hb sc__law_asked (by decide) fun cdv A outer s H E hr =>
    (sds_one (sd_retV (ev_cb f_len (pe_callB cr_lenA (gl_ (by kernel_rfl)) z_len (by decide +kernel) (eah_cons (eh_v (ev_fz (et_comp rfl sc__law_asked.nd (ei_seq (ev_fz (et_cut (eh_s rfl (.inl (by kernel_rfl))) eo_n (eo_s (ev_cb f_min (pe_callB (cr_minA rfl) (gl_ (by kernel_rfl)) z_min (by decide +kernel) (eah_cons (eh_s rfl (.inl (by kernel_rfl))) (eah_cons (eh_v (ev_op op_sub f_sub (eh_v (ev_cb f_len (pe_callB cr_lenA (gl_ (by kernel_rfl)) z_len (by decide +kernel) (eah_cons (eh_s rfl (.inl (by kernel_rfl))) eah_nil)))) (eh_v ev_int))) eah_nil)))))))) (own := [("_law_stand", 3)]) (blk_ok (by kernel_rfl)) (sl := [3]) (by decide) (fun _ _ _ _ _ => (gd_name sc__law_asked.nd rfl (.inl (by kernel_rfl)) (by decide))) (fun _ _ _ _ _ => (ets_one (eb_cmp (op_eqA hr.units) f_eq (eh_v (ev_ix (ix_A (hu1 hr)) f_idx (eh_v (ev_ix (ix_A (hu1 hr)) f_idx (eh_s rfl (.inr (.inl (by kernel_rfl)))) (eh_v (ev_ix (ix_A (hu1 hr)) f_idx (eh_s rfl (.inl (by kernel_rfl))) (eh_v ev_int) (fun _ _ => rfl))) (fun _ _ => rfl))) (eh_v ev_int) (fun _ _ => rfl))) (eh_v (ev_str (by rfl))) (nomark _)))) (fun _ _ _ _ _ => (ev_var rfl (.inl (by kernel_rfl))))))) eah_nil)))))
theorem c_Works____init__ {c fa : Addr} {fd : FuncData} (F : Fun K "__init__" "Works.__init__" s_Works____init__ fa fd) (hT : Top K [87, 111, 114, 107, 115] c) (hm : mg (sT [87, 111, 114, 107, 115]) = some (.ref c)) (hk : Mk K c fa) (hb : Binds K fd ["self", "given"] []) (z_len : mg "len" = none) (z_list : mg "list" = none) (I_Works : ClsI K mg [87, 111, 114, 107, 115] [[110, 117, 109, 98, 101, 114, 115], [103, 105, 118, 101, 110], [116, 97, 107, 101, 110], [116, 111, 108, 100]]) (G_SPOTS : GlD K mg "SPOTS" (.str [97, 98, 99, 100])) : Ini P w K mg base 1 [87, 111, 114, 107, 115] f_Works____init__ :=
  ⟨c, fa, fd, _, hT, hm, hk, fn_ok F sc_Works____init__ (by decide) fun cdv A outer s H E hr =>
    (sds_cons (sd_fldIO I_Works (by decide) (by rfl) rfl (.inl (by kernel_rfl)) (et_op op_rep l_rep (eh_v (ev_fz (et_lst (eav_cons ev_int eav_nil)))) (eh_v (ev_cb f_len (pe_callB cr_lenA (gl_ (by kernel_rfl)) z_len (by decide +kernel) (eah_cons (eh_v (ev_gl G_SPOTS (gl_ (by kernel_rfl)))) eah_nil))))))
    (sds_cons (sd_fldIO I_Works (by decide) (by rfl) rfl (.inl (by kernel_rfl)) (et_cb f_list (pe_callTy call_list_of (gl_ (by kernel_rfl)) z_list (by decide +kernel) (eah_cons (eh_s rfl (.inl (by kernel_rfl))) eah_nil))))
    (sds_cons (sd_fldI I_Works (by decide) (by rfl) rfl (.inl (by kernel_rfl)) ev_int)
    (sds_one (sd_fldIO I_Works (by decide) (by rfl) rfl (.inl (by kernel_rfl)) (et_lst eav_nil)))))), hb⟩
theorem c_Works__stand {c fa : Addr} {fd : FuncData} (F : Fun K "stand" "Works.stand" s_Works__stand fa fd) (hT : Top K [87, 111, 114, 107, 115] c) (hl : Cls K c) (hk : Meth K c (sT [115, 116, 97, 110, 100]) fa) (hb : Binds K fd ["self", "how", "place"] []) (z_list : mg "list" = none) (z_tuple : mg "tuple" = none) (I_Works : ClsI K mg [87, 111, 114, 107, 115] [[110, 117, 109, 98, 101, 114, 115], [103, 105, 118, 101, 110], [116, 97, 107, 101, 110], [116, 111, 108, 100]]) : CalM P w K mg base 1 [87, 111, 114, 107, 115] [115, 116, 97, 110, 100] f_Works__stand :=
  ⟨c, fa, fd, _, hT, hl, hk, fn_ok F sc_Works__stand (by decide) fun cdv A outer s H E hr =>
    (sds_one (sd_ret (et_seqT (eoa_cons (et_lend3 (et_cb f_list (pe_callTy call_list_of (gl_ (by kernel_rfl)) z_list (by decide +kernel) (eah_cons (eh_v (ev_fldO I_Works (by decide) (by rfl) (eh_s rfl (.inl (by kernel_rfl))))) eah_nil)))) (eoa_cons (et_sh (ev_var rfl (.inl (by kernel_rfl)))) (eoa_cons (et_sh (ev_fz (et_lend3 (et_sh (ev_cb f_tuple (pe_callTy call_tuple_of (gl_ (by kernel_rfl)) z_tuple (by decide +kernel) (eah_cons (eh_v (ev_fldO I_Works (by decide) (by rfl) (eh_s rfl (.inl (by kernel_rfl))))) eah_nil))))))) (eoa_cons (et_sh (ev_var rfl (.inl (by kernel_rfl)))) eoa_nil))))))), hb⟩
theorem c_Works__put_in {c fa : Addr} {fd : FuncData} (F : Fun K "put_in" "Works.put_in" s_Works__put_in fa fd) (hT : Top K [87, 111, 114, 107, 115] c) (hl : Cls K c) (hk : Meth K c (sT [112, 117, 116, 95, 105, 110]) fa) (hb : Binds K fd ["self", "spot", "number"] [])  (I_Works : ClsI K mg [87, 111, 114, 107, 115] [[110, 117, 109, 98, 101, 114, 115], [103, 105, 118, 101, 110], [116, 97, 107, 101, 110], [116, 111, 108, 100]]) (G_ROUND : GlD K mg "ROUND" (.int 256)) (G_SPOTS : GlD K mg "SPOTS" (.str [97, 98, 99, 100])) : CalM P w K mg base 1 [87, 111, 114, 107, 115] [112, 117, 116, 95, 105, 110] f_Works__put_in :=
  ⟨c, fa, fd, _, hT, hl, hk, fn_ok F sc_Works__put_in (by decide) fun cdv A outer s H E hr =>
    (sds_one (sd_asg (sl := []) (ev_op op_mod f_mod (eh_s rfl (.inl (by kernel_rfl))) (eh_v (ev_gl G_ROUND (gl_ (by kernel_rfl))))) (gd_ixF I_Works (by decide) (by rfl) rfl (.inl (by kernel_rfl)) (ev_bm (t := .str) f_idxS (pe_bm PySem.F.plainAttrs_str PySem.F.slot_str_index PySem.F.type_str_index mt_idxS (eh_v (ev_gl G_SPOTS (gl_ (by kernel_rfl)))) (eah_cons (eh_s rfl (.inl (by kernel_rfl))) eah_nil)))) (by decide))), hb⟩
theorem c_Works__number_in {c fa : Addr} {fd : FuncData} (F : Fun K "number_in" "Works.number_in" s_Works__number_in fa fd) (hT : Top K [87, 111, 114, 107, 115] c) (hl : Cls K c) (hk : Meth K c (sT [110, 117, 109, 98, 101, 114, 95, 105, 110]) fa) (hb : Binds K fd ["self", "spot"] [])  (I_Works : ClsI K mg [87, 111, 114, 107, 115] [[110, 117, 109, 98, 101, 114, 115], [103, 105, 118, 101, 110], [116, 97, 107, 101, 110], [116, 111, 108, 100]]) (G_SPOTS : GlD K mg "SPOTS" (.str [97, 98, 99, 100])) : CalM P w K mg base 1 [87, 111, 114, 107, 115] [110, 117, 109, 98, 101, 114, 95, 105, 110] f_Works__number_in :=
  ⟨c, fa, fd, _, hT, hl, hk, fn_ok F sc_Works__number_in (by decide) fun cdv A outer s H E hr =>
    (sds_one (sd_retV (ev_lend3 (ev_ix (ix_A (hu1 hr)) f_idx (eh_v (ev_fldO I_Works (by decide) (by rfl) (eh_s rfl (.inl (by kernel_rfl))))) (eh_v (ev_bm (t := .str) f_idxS (pe_bm PySem.F.plainAttrs_str PySem.F.slot_str_index PySem.F.type_str_index mt_idxS (eh_v (ev_gl G_SPOTS (gl_ (by kernel_rfl)))) (eah_cons (eh_s rfl (.inl (by kernel_rfl))) eah_nil)))) (fun _ _ => rfl))))), hb⟩
theorem c_Works__next_given {c fa : Addr} {fd : FuncData} (F : Fun K "next_given" "Works.next_given" s_Works__next_given fa fd) (hT : Top K [87, 111, 114, 107, 115] c) (hl : Cls K c) (hk : Meth K c (sT [110, 101, 120, 116, 95, 103, 105, 118, 101, 110]) fa) (hb : Binds K fd ["self"] []) (z_len : mg "len" = none) (I_Works : ClsI K mg [87, 111, 114, 107, 115] [[110, 117, 109, 98, 101, 114, 115], [103, 105, 118, 101, 110], [116, 97, 107, 101, 110], [116, 111, 108, 100]]) : CalM P w K mg base 1 [87, 111, 114, 107, 115] [110, 101, 120, 116, 95, 103, 105, 118, 101, 110] f_Works__next_given :=
  ⟨c, fa, fd, _, hT, hl, hk, fn_ok F sc_Works__next_given (by decide) fun cdv A outer s H E hr =>
    (sds_cons (sd_if (eb_lend3 (eb_cmp (op_eqA hr.units) f_eq (eh_v (ev_fldO I_Works (by decide) (by rfl) (eh_s rfl (.inl (by kernel_rfl))))) (eh_v (ev_cb f_len (pe_callB cr_lenA (gl_ (by kernel_rfl)) z_len (by decide +kernel) (eah_cons (eh_v (ev_fldO I_Works (by decide) (by rfl) (eh_s rfl (.inl (by kernel_rfl))))) eah_nil)))) (nomark _))) (sds_one (sd_retV ev_int)) sds_nil)
    (sds_cons (sd_augI I_Works (by decide) (by rfl) rfl (.inl (by kernel_rfl)) ev_int)
    (sds_one (sd_retV (ev_lend3 (ev_ix (ix_A (hu1 hr)) f_idx (eh_v (ev_fldO I_Works (by decide) (by rfl) (eh_s rfl (.inl (by kernel_rfl))))) (eh_v (ev_op op_sub f_sub (eh_v (ev_fldO I_Works (by decide) (by rfl) (eh_s rfl (.inl (by kernel_rfl))))) (eh_v ev_int))) (fun _ _ => rfl))))))), hb⟩
theorem c_Works__work {c fa : Addr} {fd : FuncData} (F : Fun K "work" "Works.work" s_Works__work fa fd) (hT : Top K [87, 111, 114, 107, 115] c) (hl : Cls K c) (hk : Meth K c (sT [119, 111, 114, 107]) fa) (hb : Binds K fd ["self", "row"] [])  (C_Works__put_in : CalM P w K mg base 1 [87, 111, 114, 107, 115] [112, 117, 116, 95, 105, 110] f_Works__put_in) (C_Works__number_in : CalM P w K mg base 1 [87, 111, 114, 107, 115] [110, 117, 109, 98, 101, 114, 95, 105, 110] f_Works__number_in) (C_Works__next_given : CalM P w K mg base 1 [87, 111, 114, 107, 115] [110, 101, 120, 116, 95, 103, 105, 118, 101, 110] f_Works__next_given) (I_Works : ClsI K mg [87, 111, 114, 107, 115] [[110, 117, 109, 98, 101, 114, 115], [103, 105, 118, 101, 110], [116, 97, 107, 101, 110], [116, 111, 108, 100]]) : CalM P w K mg base 2 [87, 111, 114, 107, 115] [119, 111, 114, 107] f_Works__work :=
  ⟨c, fa, fd, _, hT, hl, hk, fn_ok F sc_Works__work (by decide) fun cdv A outer s H E hr =>
    (sds_cons (sd_setV (ps_set sc_Works__work.nd rfl (.inl (by kernel_rfl)) (ev_ix (ix_A (hu1 hr)) f_idx (eh_s rfl (.inl (by kernel_rfl))) (eh_v ev_int) (fun _ _ => rfl))) (by decide))
    (sds_one (sd_if (eb_cmp (op_eqA hr.units) f_eq (eh_v (ev_ix (ix_A (hu1 hr)) f_idx (eh_s rfl (.inl (by kernel_rfl))) (eh_v ev_int) (fun _ _ => rfl))) (eh_v (ev_str (by rfl))) (nomark _)) (sds_one (sd_expr (ev_fz (et_meth (C_Works__put_in.mono (by decide)) (by rfl) hr (takes_of rfl rfl rfl rfl) rfl (.inl (by kernel_rfl)) (eaa_v (ev_var rfl (.inl (by kernel_rfl))) (eaa_v (ev_ix (ix_A (hu1 hr)) f_idx (eh_s rfl (.inl (by kernel_rfl))) (eh_v ev_int) (fun _ _ => rfl)) eaa_nil)))))) (sds_one (sd_if (eb_cmp (op_eqA hr.units) f_eq (eh_v (ev_ix (ix_A (hu1 hr)) f_idx (eh_s rfl (.inl (by kernel_rfl))) (eh_v ev_int) (fun _ _ => rfl))) (eh_v (ev_str (by rfl))) (nomark _)) (sds_one (sd_expr (ev_fz (et_meth (C_Works__put_in.mono (by decide)) (by rfl) hr (takes_of rfl rfl rfl rfl) rfl (.inl (by kernel_rfl)) (eaa_v (ev_var rfl (.inl (by kernel_rfl))) (eaa_v (ev_op op_addA f_add (eh_v (ev_fz (et_meth (C_Works__number_in.mono (by decide)) (by rfl) hr (takes_of rfl rfl rfl rfl) rfl (.inl (by kernel_rfl)) (eaa_v (ev_var rfl (.inl (by kernel_rfl))) eaa_nil)))) (eh_v (ev_fz (et_meth (C_Works__number_in.mono (by decide)) (by rfl) hr (takes_of rfl rfl rfl rfl) rfl (.inl (by kernel_rfl)) (eaa_v (ev_ix (ix_A (hu1 hr)) f_idx (eh_s rfl (.inl (by kernel_rfl))) (eh_v ev_int) (fun _ _ => rfl)) eaa_nil))))) eaa_nil)))))) (sds_one (sd_if (eb_cmp (op_eqA hr.units) f_eq (eh_v (ev_ix (ix_A (hu1 hr)) f_idx (eh_s rfl (.inl (by kernel_rfl))) (eh_v ev_int) (fun _ _ => rfl))) (eh_v (ev_str (by rfl))) (nomark _)) (sds_one (sd_expr (ev_fz (et_meth (C_Works__put_in.mono (by decide)) (by rfl) hr (takes_of rfl rfl rfl rfl) rfl (.inl (by kernel_rfl)) (eaa_v (ev_var rfl (.inl (by kernel_rfl))) (eaa_v (ev_op op_sub f_sub (eh_v (ev_fz (et_meth (C_Works__number_in.mono (by decide)) (by rfl) hr (takes_of rfl rfl rfl rfl) rfl (.inl (by kernel_rfl)) (eaa_v (ev_var rfl (.inl (by kernel_rfl))) eaa_nil)))) (eh_v (ev_fz (et_meth (C_Works__number_in.mono (by decide)) (by rfl) hr (takes_of rfl rfl rfl rfl) rfl (.inl (by kernel_rfl)) (eaa_v (ev_ix (ix_A (hu1 hr)) f_idx (eh_s rfl (.inl (by kernel_rfl))) (eh_v ev_int) (fun _ _ => rfl)) eaa_nil))))) eaa_nil)))))) (sds_one (sd_if (eb_cmp (op_eqA hr.units) f_eq (eh_v (ev_ix (ix_A (hu1 hr)) f_idx (eh_s rfl (.inl (by kernel_rfl))) (eh_v ev_int) (fun _ _ => rfl))) (eh_v (ev_str (by rfl))) (nomark _)) (sds_one (sd_expr (ev_mutF I_Works (by decide) (by rfl) m_append (pe_bm PySem.F.plainAttrs_list PySem.F.slot_list_append PySem.F.type_list_append mt_append (pe_fld (pe_var rfl (.inl (by kernel_rfl))) (by rfl)) (eav_cons (ev_fz (et_methS (C_Works__number_in.mono (by decide)) (by rfl) hr (takes_of rfl rfl rfl rfl) rfl (.inl (by kernel_rfl)) (eaa_v (ev_var rfl (.inl (by kernel_rfl))) eaa_nil))) eav_nil))))) (sds_one (sd_expr (ev_fz (et_meth (C_Works__put_in.mono (by decide)) (by rfl) hr (takes_of rfl rfl rfl rfl) rfl (.inl (by kernel_rfl)) (eaa_v (ev_var rfl (.inl (by kernel_rfl))) (eaa_v (ev_fz (et_meth0 (C_Works__next_given.mono (by decide)) (by rfl) hr (takes_of rfl rfl rfl rfl) rfl (.inl (by kernel_rfl)))) eaa_nil))))))))))))))), hb⟩
theorem c_place_behind {fa : Addr} {fd : FuncData} (F : Fun K "place_behind" "place_behind" s_place_behind fa fd) (hm : mg "place_behind" = some (.ref fa)) (hb : Binds K fd ["works", "row", "at"] [])  (C_Works__work : CalM P w K mg base 2 [87, 111, 114, 107, 115] [119, 111, 114, 107] f_Works__work) (C_Works__number_in : CalM P w K mg base 1 [87, 111, 114, 107, 115] [110, 117, 109, 98, 101, 114, 95, 105, 110] f_Works__number_in) : Cal P w K mg base 3 "place_behind" f_place_behind :=
  Cal.mk' F hm hb sc_place_behind (by decide) fun cdv A outer s H E hr =>
    (sds_cons (sd_if (eb_cmp (op_eqA hr.units) f_eq (eh_v (ev_ix (ix_A (hu1 hr)) f_idx (eh_s rfl (.inl (by kernel_rfl))) (eh_v ev_int) (fun _ _ => rfl))) (eh_v (ev_str (by rfl))) (nomark _)) (sds_one (sd_retV (ev_ix (ix_A (hu1 hr)) f_idx (eh_s rfl (.inl (by kernel_rfl))) (eh_v ev_int) (fun _ _ => rfl)))) sds_nil)
    (sds_cons (sd_if (eb_cmp (op_eqA hr.units) f_eq (eh_v (ev_ix (ix_A (hu1 hr)) f_idx (eh_s rfl (.inl (by kernel_rfl))) (eh_v ev_int) (fun _ _ => rfl))) (eh_v (ev_str (by rfl))) (nomark _)) (sds_cons (sd_if (eb_cmp (op_eqA hr.units) f_eq (eh_v (ev_fz (et_meth (C_Works__number_in.mono (by decide)) (by rfl) hr (takes_of rfl rfl rfl rfl) rfl (.inl (by kernel_rfl)) (eaa_v (ev_ix (ix_A (hu1 hr)) f_idx (eh_s rfl (.inl (by kernel_rfl))) (eh_v ev_int) (fun _ _ => rfl)) eaa_nil)))) (eh_v ev_int) (nomark _)) (sds_one (sd_retV (ev_ix (ix_A (hu1 hr)) f_idx (eh_s rfl (.inl (by kernel_rfl))) (eh_v ev_int) (fun _ _ => rfl)))) sds_nil)
    (sds_one (sd_retV (ev_op op_addA f_add (eh_s rfl (.inl (by kernel_rfl))) (eh_v ev_int))))) sds_nil)
    (sds_cons (sd_expr (ev_fz (et_meth (C_Works__work.mono (by decide)) (by rfl) hr (takes_of rfl rfl rfl rfl) rfl (.inl (by kernel_rfl)) (eaa_v (ev_var rfl (.inl (by kernel_rfl))) eaa_nil))))
    (sds_one (sd_retV (ev_op op_addA f_add (eh_s rfl (.inl (by kernel_rfl))) (eh_v ev_int)))))))
theorem c_run_rows {fa : Addr} {fd : FuncData} (F : Fun K "run_rows" "run_rows" s_run_rows fa fd) (hm : mg "run_rows" = some (.ref fa)) (hb : Binds K fd ["program", "given", "steps"] []) (z_len : mg "len" = none) (z_range : mg "range" = none) (C_Works____init__ : Ini P w K mg base 1 [87, 111, 114, 107, 115] f_Works____init__) (C_Works__stand : CalM P w K mg base 1 [87, 111, 114, 107, 115] [115, 116, 97, 110, 100] f_Works__stand) (C_place_behind : Cal P w K mg base 3 "place_behind" f_place_behind) (I_Works : ClsI K mg [87, 111, 114, 107, 115] [[110, 117, 109, 98, 101, 114, 115], [103, 105, 118, 101, 110], [116, 97, 107, 101, 110], [116, 111, 108, 100]]) : Cal P w K mg base 4 "run_rows" f_run_rows :=
  Cal.mk' F hm hb sc_run_rows (by decide) fun cdv A outer s H E hr =>
    (sds_cons (sd_set (ps_set sc_run_rows.nd rfl (.inl (by kernel_rfl)) (et_new (C_Works____init__.mono (by decide)) (by rfl) hr (gl_ (by kernel_rfl)) (takes_of rfl rfl rfl rfl) (eav_cons (ev_var rfl (.inl (by kernel_rfl))) eav_nil))) (by decide))
    (sds_cons (sd_setV (ps_set sc_run_rows.nd rfl (.inl (by kernel_rfl)) ev_int) (by decide))
    (sds_cons (sd_for (sl := [5]) (passes_of (K := _) (E₁ := _) rfl) rfl (ei_arg (pi_range1 (gl_ (by kernel_rfl)) z_range (eav_cons (ev_var rfl (.inl (by kernel_rfl))) eav_nil)) ht_rng1) (gd_name sc_run_rows.nd rfl (.inl (by kernel_rfl)) (by decide)) (sds_wipe [5] (sds_cons (sd_if (eb_w (ew_or (eb_cmp (op_eqA hr.units) f_eq (eh_s rfl (.inl (by kernel_rfl))) (eh_v (ev_cb f_len (pe_callB cr_lenA (gl_ (by kernel_rfl)) z_len (by decide +kernel) (eah_cons (eh_s rfl (.inl (by kernel_rfl))) eah_nil)))) (nomark _)) (ew_or1 (eb_cmp (op_eqA hr.units) f_eq (eh_v (ev_ix (ix_A (hu1 hr)) f_idx (eh_v (ev_ix (ix_A (hu1 hr)) f_idx (eh_s rfl (.inl (by kernel_rfl))) (eh_s rfl (.inl (by kernel_rfl))) (fun _ _ => rfl))) (eh_v ev_int) (fun _ _ => rfl))) (eh_v (ev_str (by rfl))) (nomark _))))) (sds_one (sd_ret (et_meth (C_Works__stand.mono (by decide)) (by rfl) hr (takes_of rfl rfl rfl rfl) rfl (.inl (by kernel_rfl)) (eaa_v (ev_str (by rfl)) (eaa_v (ev_var rfl (.inl (by kernel_rfl))) eaa_nil))))) sds_nil)
    (sds_one (sd_setV (ps_set sc_run_rows.nd rfl (.inl (by kernel_rfl)) (ev_fz (et_call (C_place_behind.mono (by decide)) hr (gl_ (by kernel_rfl)) (takes_of rfl rfl rfl rfl) (eaa_io rfl (.inl (by kernel_rfl)) (eaa_v (ev_ix (ix_A (hu1 hr)) f_idx (eh_s rfl (.inl (by kernel_rfl))) (eh_s rfl (.inl (by kernel_rfl))) (fun _ _ => rfl)) (eaa_v (ev_var rfl (.inl (by kernel_rfl))) eaa_nil)))))) (by decide))))) (by decide))
    (sds_cons (sd_if (eb_cmp (op_eqA hr.units) f_eq (eh_s rfl (.inl (by kernel_rfl))) (eh_v (ev_cb f_len (pe_callB cr_lenA (gl_ (by kernel_rfl)) z_len (by decide +kernel) (eah_cons (eh_s rfl (.inl (by kernel_rfl))) eah_nil)))) (nomark _)) (sds_one (sd_ret (et_meth (C_Works__stand.mono (by decide)) (by rfl) hr (takes_of rfl rfl rfl rfl) rfl (.inl (by kernel_rfl)) (eaa_v (ev_str (by rfl)) (eaa_v (ev_var rfl (.inl (by kernel_rfl))) eaa_nil))))) sds_nil)
    (sds_one (sd_ret (et_meth (C_Works__stand.mono (by decide)) (by rfl) hr (takes_of rfl rfl rfl rfl) rfl (.inl (by kernel_rfl)) (eaa_v (ev_str (by rfl)) (eaa_v (ev_var rfl (.inl (by kernel_rfl))) eaa_nil)))))))))
theorem c__law_spoilt {fa : Addr} {fd : FuncData} (F : Fun K "_law_spoilt" "_law_spoilt" s__law_spoilt fa fd) (hm : mg "_law_spoilt" = some (.ref fa)) (hb : Binds K fd ["_law_state", "_law_given", "_law_at"] [])  (C__law_take : Cal P w K mg base 1 "_law_take" f__law_take) : Cal P w K mg base 2 "_law_spoilt" f__law_spoilt :=
  Cal.mk' F hm hb sc__law_spoilt (by decide) fun cdv A outer s H E hr =>
    (sds_one (sd_ret (et_op op_addA l_add (eh_v (ev_fz (et_op op_addA l_add (eh_v (ev_fz (et_cut (eh_s rfl (.inl (by kernel_rfl))) eo_n (eo_s (ev_var rfl (.inl (by kernel_rfl))))))) (eh_v (ev_fz (et_lst (eav_cons (ev_op op_mod f_mod (eh_v (ev_op op_addA f_add (eh_v (ev_op op_addA f_add (eh_v (ev_ix (ix_A (hu1 hr)) f_idx (eh_s rfl (.inl (by kernel_rfl))) (eh_s rfl (.inl (by kernel_rfl))) (fun _ _ => rfl))) (eh_v ev_int))) (eh_v (ev_fz (et_call (C__law_take.mono (by decide)) hr (gl_ (by kernel_rfl)) (takes_of rfl rfl rfl rfl) (eaa_io rfl (.inl (by kernel_rfl)) (eaa_v ev_int eaa_nil))))))) (eh_v ev_int)) eav_nil))))))) (eh_v (ev_fz (et_cut (eh_s rfl (.inl (by kernel_rfl))) (eo_s (ev_op op_addA f_add (eh_s rfl (.inl (by kernel_rfl))) (eh_v ev_int))) eo_n))))))
theorem c__law_right {fa : Addr} {fd : FuncData} (F : Fun K "_law_right" "_law_right" s__law_right fa fd) (hm : mg "_law_right" = some (.ref fa)) (hb : Binds K fd ["_law_state", "_law_program_here", "_law_given"] []) (z_len : mg "len" = none) (z_list : mg "list" = none) (z_range : mg "range" = none) (z_str : mg "str" = none) (C__law_stands : Cal P w K mg base 3 "_law_stands" f__law_stands) (C__law_take : Cal P w K mg base 1 "_law_take" f__law_take) (C__law_asked : Cal P w K mg base 1 "_law_asked" f__law_asked) (C_run_rows : Cal P w K mg base 4 "run_rows" f_run_rows) (C__law_spoilt : Cal P w K mg base 2 "_law_spoilt" f__law_spoilt) : Cal P w K mg base 5 "_law_right" f__law_right :=
  Cal.mk' F hm hb sc__law_right (by decide) fun cdv A outer s H E hr =>
    (sds_cons (sd_setV (ps_set sc__law_right.nd rfl (.inr (by kernel_rfl)) (ev_fz (et_call (C__law_stands.mono (by decide)) hr (gl_ (by kernel_rfl)) (takes_of rfl rfl rfl rfl) (eaa_v (ev_var rfl (.inr (.inl (by kernel_rfl)))) (eaa_v (ev_var rfl (.inl (by kernel_rfl))) eaa_nil))))) (by decide))
    (sds_cons (sd_setV (ps_set sc__law_right.nd rfl (.inl (by kernel_rfl)) (ev_fz (et_call (C__law_take.mono (by decide)) hr (gl_ (by kernel_rfl)) (takes_of rfl rfl rfl rfl) (eaa_io rfl (.inl (by kernel_rfl)) (eaa_v ev_int eaa_nil))))) (by decide))
    (sds_cons (sd_setV (ps_set sc__law_right.nd rfl (.inl (by kernel_rfl)) (ev_fz (et_call (C__law_asked.mono (by decide)) hr (gl_ (by kernel_rfl)) (takes_of rfl rfl rfl rfl) (eaa_v (ev_var rfl (.inr (.inl (by kernel_rfl)))) (eaa_v (ev_var rfl (.inr (.inl (by kernel_rfl)))) (eaa_v (ev_var rfl (.inl (by kernel_rfl))) eaa_nil)))))) (by decide))
    (sds_cons (sd_set (ps_set sc__law_right.nd rfl (.inl (by kernel_rfl)) (et_call (C_run_rows.mono (by decide)) hr (gl_ (by kernel_rfl)) (takes_of rfl rfl rfl rfl) (eaa_v (ev_var rfl (.inr (.inl (by kernel_rfl)))) (eaa_v (ev_var rfl (.inl (by kernel_rfl))) (eaa_v (ev_var rfl (.inl (by kernel_rfl))) eaa_nil))))) (by decide))
    (sds_cons (sd_setV (ps_set sc__law_right.nd rfl (.inl (by kernel_rfl)) (ev_lend (ev_cb f_str (pe_callTy (cr_strD hr.gd (hu65 hr)) (gl_ (by kernel_rfl)) z_str (by decide +kernel) (eah_cons (eh_s rfl (.inl (by kernel_rfl))) eah_nil))))) (by decide))
    (sds_cons (sd_setV (ps_set sc__law_right.nd rfl (.inl (by kernel_rfl)) (ev_fz (et_op op_addA l_add (eh_s rfl (.inl (by kernel_rfl))) (eh_v (ev_fz (et_op op_rep l_rep (eh_v (ev_fz (et_lst (eav_cons ev_int eav_nil)))) (eh_v (ev_op op_addA f_add (eh_v ev_int) (eh_v (ev_fz (et_call (C__law_take.mono (by decide)) hr (gl_ (by kernel_rfl)) (takes_of rfl rfl rfl rfl) (eaa_io rfl (.inl (by kernel_rfl)) (eaa_v ev_int eaa_nil))))))))))))) (by decide))
    (sds_cons (sd_if (eb_w (ew_or (eb_cmp op_gt f_gt (eh_s rfl (.inl (by kernel_rfl))) (eh_s rfl (.inl (by kernel_rfl))) (nomark _)) (ew_or1 (eb_cmp (op_neA hr.units) f_ne (eh_v (ev_cb f_str (pe_callTy (cr_strD hr.gd (hu65 hr)) (gl_ (by kernel_rfl)) z_str (by decide +kernel) (eah_cons (eh_v (ev_fz (et_call (C_run_rows.mono (by decide)) hr (gl_ (by kernel_rfl)) (takes_of rfl rfl rfl rfl) (eaa_v (ev_var rfl (.inr (.inl (by kernel_rfl)))) (eaa_v (ev_var rfl (.inl (by kernel_rfl))) (eaa_v (ev_var rfl (.inl (by kernel_rfl))) eaa_nil)))))) eah_nil)))) (eh_s rfl (.inl (by kernel_rfl))) (nomark _))))) (sds_one (sd_retV ev_bl)) sds_nil)
    (sds_cons (sd_if (eb_cmp (op_neA hr.units) f_ne (eh_v (ev_cb f_str (pe_callTy (cr_strD hr.gd (hu65 hr)) (gl_ (by kernel_rfl)) z_str (by decide +kernel) (eah_cons (eh_v (ev_fz (et_call (C_run_rows.mono (by decide)) hr (gl_ (by kernel_rfl)) (takes_of rfl rfl rfl rfl) (eaa_v (ev_var rfl (.inr (.inl (by kernel_rfl)))) (eaa_v (ev_fz (et_cut (eh_s rfl (.inl (by kernel_rfl))) eo_n (eo_s (ev_var rfl (.inl (by kernel_rfl)))))) (eaa_v (ev_var rfl (.inl (by kernel_rfl))) eaa_nil)))))) eah_nil)))) (eh_s rfl (.inl (by kernel_rfl))) (nomark _)) (sds_one (sd_retV ev_bl)) sds_nil)
    (sds_cons (sd_if (eb_cmp (op_neA hr.units) f_ne (eh_s rfl (.inl (by kernel_rfl))) (eh_v (ev_fz (et_lst eav_nil))) (nomark _)) (sds_cons (sd_setV (ps_set sc__law_right.nd rfl (.inr (by kernel_rfl)) (ev_fz (et_call (C__law_take.mono (by decide)) hr (gl_ (by kernel_rfl)) (takes_of rfl rfl rfl rfl) (eaa_io rfl (.inl (by kernel_rfl)) (eaa_v (ev_cb f_len (pe_callB cr_lenA (gl_ (by kernel_rfl)) z_len (by decide +kernel) (eah_cons (eh_s rfl (.inl (by kernel_rfl))) eah_nil))) eaa_nil))))) (by decide))
    (sds_cons (sd_setV (ps_set sc__law_right.nd rfl (.inl (by kernel_rfl)) (ev_fz (et_call (C_run_rows.mono (by decide)) hr (gl_ (by kernel_rfl)) (takes_of rfl rfl rfl rfl) (eaa_v (ev_var rfl (.inr (.inl (by kernel_rfl)))) (eaa_v (ev_fz (et_call (C__law_spoilt.mono (by decide)) hr (gl_ (by kernel_rfl)) (takes_of rfl rfl rfl rfl) (eaa_io rfl (.inl (by kernel_rfl)) (eaa_v (ev_var rfl (.inl (by kernel_rfl))) (eaa_v (ev_var rfl (.inr (.inl (by kernel_rfl)))) eaa_nil))))) (eaa_v (ev_var rfl (.inl (by kernel_rfl))) eaa_nil)))))) (by decide))
    (sds_cons (sd_if (eb_w (ew_and (eb_cmp op_ge f_ge (eh_s rfl (.inr (.inl (by kernel_rfl)))) (eh_s rfl (.inl (by kernel_rfl))) (nomark _)) (ew_and1 (eb_cmp (op_neA hr.units) f_ne (eh_v (ev_cb f_str (pe_callTy (cr_strD hr.gd (hu65 hr)) (gl_ (by kernel_rfl)) z_str (by decide +kernel) (eah_cons (eh_s rfl (.inl (by kernel_rfl))) eah_nil)))) (eh_s rfl (.inl (by kernel_rfl))) (nomark _))))) (sds_one (sd_retV ev_bl)) sds_nil)
    (sds_cons (sd_setC rfl sc__law_right.nd rfl (by kernel_rfl) rfl (ei_arg (pi_range1 (gl_ (by kernel_rfl)) z_range (eav_cons (ev_op op_addA f_add (eh_s rfl (.inl (by kernel_rfl))) (eh_v ev_int)) eav_nil)) ht_rng1) (own := [("_law_count", 15)]) (blk_ok (by kernel_rfl)) (sl := [15]) (by decide) (fun _ _ _ _ _ => (gd_name sc__law_right.nd rfl (.inl (by kernel_rfl)) (by decide))) (fun _ _ _ _ _ => (ets_one (eb_cmp op_le f_le (eh_v (ev_fz (et_call (C__law_asked.mono (by decide)) hr (gl_ (by kernel_rfl)) takes0 (eaa_v (ev_var rfl (.inr (.inl (by kernel_rfl)))) (eaa_v (ev_var rfl (.inr (.inl (by kernel_rfl)))) (eaa_v (ev_var rfl (.inl (by kernel_rfl))) eaa_nil)))))) (eh_s rfl (.inr (.inl (by kernel_rfl)))) (nomark _)))) (fun _ _ _ _ _ => (ev_var rfl (.inl (by kernel_rfl)))) (by decide))
    (sds_cons (sd_setV (ps_set sc__law_right.nd rfl (.inl (by kernel_rfl)) (ev_fz (et_call (C__law_spoilt.mono (by decide)) hr (gl_ (by kernel_rfl)) (takes_of rfl rfl rfl rfl) (eaa_io rfl (.inl (by kernel_rfl)) (eaa_v (ev_var rfl (.inl (by kernel_rfl))) (eaa_v (ev_var rfl (.inr (.inl (by kernel_rfl)))) eaa_nil)))))) (by decide))
    (sds_one (sd_if (eb_cmp (op_neA hr.units) f_ne (eh_v (ev_cb f_str (pe_callTy (cr_strD hr.gd (hu65 hr)) (gl_ (by kernel_rfl)) z_str (by decide +kernel) (eah_cons (eh_v (ev_fz (et_call (C_run_rows.mono (by decide)) hr (gl_ (by kernel_rfl)) (takes_of rfl rfl rfl rfl) (eaa_v (ev_var rfl (.inr (.inl (by kernel_rfl)))) (eaa_v (ev_var rfl (.inl (by kernel_rfl))) (eaa_v (ev_ix (ix_A (hu1 hr)) f_idx (eh_s rfl (.inl (by kernel_rfl))) (eh_v (ev_un un_neg f_neg (eh_v ev_int))) (fun _ _ => rfl)) eaa_nil)))))) eah_nil)))) (eh_v (ev_cb f_str (pe_callTy (cr_strD hr.gd (hu65 hr)) (gl_ (by kernel_rfl)) z_str (by decide +kernel) (eah_cons (eh_v (ev_fz (et_call (C_run_rows.mono (by decide)) hr (gl_ (by kernel_rfl)) (takes_of rfl rfl rfl rfl) (eaa_v (ev_var rfl (.inr (.inl (by kernel_rfl)))) (eaa_v (ev_var rfl (.inl (by kernel_rfl))) (eaa_v (ev_ix (ix_A (hu1 hr)) f_idx (eh_s rfl (.inl (by kernel_rfl))) (eh_v (ev_un un_neg f_neg (eh_v ev_int))) (fun _ _ => rfl)) eaa_nil)))))) eah_nil)))) (nomark _)) (sds_one (sd_retV ev_bl)) sds_nil))))))) sds_nil)
    (sds_cons (sd_expr (ev_mutPA (k := 0) m_append (pe_bm PySem.F.plainAttrs_list PySem.F.slot_list_append PySem.F.type_list_append mt_append (pe_ix (ix_A (hu1 hr)) (pe_var rfl (.inl (by kernel_rfl))) pe_int (fun _ _ => rfl)) (eav_cons ev_int eav_nil))))
    (sds_cons (sd_set (ps_set sc__law_right.nd rfl (.inl (by kernel_rfl)) (et_cb f_list (pe_callTy call_list_of (gl_ (by kernel_rfl)) z_list (by decide +kernel) (eah_cons (eh_s rfl (.inl (by kernel_rfl))) eah_nil)))) (by decide))
    (sds_cons (sd_set (ps_set sc__law_right.nd rfl (.inl (by kernel_rfl)) (et_lendD (et_call (C_run_rows.mono (by decide)) hr (gl_ (by kernel_rfl)) (takes_of rfl rfl rfl rfl) (eaa_v (ev_var rfl (.inr (.inl (by kernel_rfl)))) (eaa_v (ev_fv rfl (.inl (by kernel_rfl))) (eaa_v (ev_var rfl (.inl (by kernel_rfl))) eaa_nil)))))) (by decide))
    (sds_cons (sd_expr (ev_mut m_append (pe_bm PySem.F.plainAttrs_list PySem.F.slot_list_append PySem.F.type_list_append mt_append (pe_var rfl (.inl (by kernel_rfl))) (eav_cons ev_int eav_nil))))
    (sds_one (sd_retV (ev_lend (ev_and (ev_cmp (op_eqA hr.units) (Op2B.toV f_eq) (eh_v (ev_cb f_str (pe_callTy (cr_strD hr.gd (hu65 hr)) (gl_ (by kernel_rfl)) z_str (by decide +kernel) (eah_cons (eh_s rfl (.inl (by kernel_rfl))) eah_nil)))) (eh_s rfl (.inl (by kernel_rfl))) (nomark _)) (ev_one (ev_cmp (op_eqA hr.units) (Op2B.toV f_eq) (eh_v (ev_cb f_str (pe_callTy (cr_strD hr.gd (hu65 hr)) (gl_ (by kernel_rfl)) z_str (by decide +kernel) (eah_cons (eh_v (ev_fz (et_call (C_run_rows.mono (by decide)) hr (gl_ (by kernel_rfl)) (takes_of rfl rfl rfl rfl) (eaa_v (ev_var rfl (.inr (.inl (by kernel_rfl)))) (eaa_v (ev_var rfl (.inl (by kernel_rfl))) (eaa_v (ev_var rfl (.inl (by kernel_rfl))) eaa_nil)))))) eah_nil)))) (eh_s rfl (.inl (by kernel_rfl))) (nomark _))))))))))))))))))))
theorem c__law_many {fa : Addr} {fd : FuncData} (F : Fun K "_law_many" "_law_many" s__law_many fa fd) (hm : mg "_law_many" = some (.ref fa)) (hb : Binds K fd ["_law_state"] [])  (C__law_take : Cal P w K mg base 1 "_law_take" f__law_take) : Cal P w K mg base 2 "_law_many" f__law_many :=
  Cal.mk' F hm hb sc__law_many (by decide) fun cdv A outer s H E hr =>
    (sds_cons (sd_if (eb_cmp (op_eqA hr.units) f_eq (eh_v (ev_fz (et_call (C__law_take.mono (by decide)) hr (gl_ (by kernel_rfl)) (takes_of rfl rfl rfl rfl) (eaa_io rfl (.inl (by kernel_rfl)) (eaa_v ev_int eaa_nil))))) (eh_v ev_int) (nomark _)) (sds_one (sd_retV (ev_op op_addA f_add (eh_v ev_int) (eh_v (ev_fz (et_call (C__law_take.mono (by decide)) hr (gl_ (by kernel_rfl)) (takes_of rfl rfl rfl rfl) (eaa_io rfl (.inl (by kernel_rfl)) (eaa_v ev_int eaa_nil)))))))) sds_nil)
    (sds_one (sd_ret (et_call (C__law_take.mono (by decide)) hr (gl_ (by kernel_rfl)) (takes_of rfl rfl rfl rfl) (eaa_io rfl (.inl (by kernel_rfl)) (eaa_v ev_int eaa_nil))))))
theorem b_ok_law {fa : Addr} {fd : FuncData} (F : Fun K "law" "law" s_law fa fd) (z_int : mg "int" = none) (z_range : mg "range" = none) (C__law_begin : Cal P w K mg base 1 "_law_begin" f__law_begin) (C__law_asking : Cal P w K mg base 2 "_law_asking" f__law_asking) (C__law_program : Cal P w K mg base 2 "_law_program" f__law_program) (C__law_take : Cal P w K mg base 1 "_law_take" f__law_take) (C__law_right : Cal P w K mg base 5 "_law_right" f__law_right) (C__law_many : Cal P w K mg base 2 "_law_many" f__law_many) {cdv : Value} {A : Around} {outer : List PySem.Env} {s : Shared} {H : Hp} {E : XK} (hr : RoomG 5 (A.deeper (envOfC "law" (defScope s_law) s.heap.objs.size fa cdv))) :
    SDs (cxOf (L2.CX P w) P w K mg base ["_law_script", "_law_state", "_law_programs", "_law_many_here", "_law_given", "_law_turn", "_law_size", "_law_k"] "law" (defScope s_law) fa cdv A outer s H E) (fun c d _ H => E c d H) [false] (defBody s_law) B_law :=
    (sds_cons (sd_set (ps_set sc_law.nd rfl (.inr (by kernel_rfl)) (et_call (C__law_begin.mono (by decide)) hr (gl_ (by kernel_rfl)) (takes_of rfl rfl rfl rfl) (eaa_v (ev_var rfl (.inl (by kernel_rfl))) eaa_nil))) (by decide))
    (sds_cons (sd_setC rfl sc_law.nd rfl (by kernel_rfl) rfl (ei_arg (pi_range1 (gl_ (by kernel_rfl)) z_range (eav_cons ev_int eav_nil)) ht_rng1) (own := [("_law_turn", 5)]) (blk_ok (by kernel_rfl)) (sl := [5]) (by decide) (fun _ _ _ _ _ => (gd_name sc_law.nd rfl (.inl (by kernel_rfl)) (by decide))) (fun _ _ _ _ _ => ets_nil) (fun _ _ _ _ _ => (ev_fz (et_call (C__law_asking.mono (by decide)) hr (gl_ (by kernel_rfl)) takes0 (eaa_io rfl (.inr (.inl (by kernel_rfl))) (eaa_v (ev_fz (et_call (C__law_program.mono (by decide)) hr (gl_ (by kernel_rfl)) takes0 (eaa_io rfl (.inr (.inl (by kernel_rfl))) (eaa_v (ev_fz (et_call (C__law_many.mono (by decide)) hr (gl_ (by kernel_rfl)) takes0 (eaa_io rfl (.inr (.inl (by kernel_rfl))) eaa_nil))) eaa_nil)))) eaa_nil))))) (by decide))
    (sds_cons (sd_setV (ps_set sc_law.nd rfl (.inl (by kernel_rfl)) (ev_ix (ix_A (hu1 hr)) f_idx (eh_v (ev_fz (et_lst (eav_cons (ev_fz (et_call (C__law_take.mono (by decide)) hr (gl_ (by kernel_rfl)) (takes_of rfl rfl rfl rfl) (eaa_io rfl (.inr (.inl (by kernel_rfl))) (eaa_v ev_int eaa_nil)))) (eav_cons (ev_op op_addA f_add (eh_v ev_int) (eh_v (ev_fz (et_call (C__law_take.mono (by decide)) hr (gl_ (by kernel_rfl)) (takes_of rfl rfl rfl rfl) (eaa_io rfl (.inr (.inl (by kernel_rfl))) (eaa_v ev_int eaa_nil)))))) eav_nil))))) (eh_v (ev_cb f_int (pe_callTy call_int1 (gl_ (by kernel_rfl)) z_int (by decide +kernel) (eah_cons (eh_v (ev_cmp (op_eqA hr.units) (Op2B.toV f_eq) (eh_v (ev_fz (et_call (C__law_take.mono (by decide)) hr (gl_ (by kernel_rfl)) (takes_of rfl rfl rfl rfl) (eaa_io rfl (.inr (.inl (by kernel_rfl))) (eaa_v ev_int eaa_nil))))) (eh_v ev_int) (nomark _))) eah_nil)))) (fun _ _ => rfl))) (by decide))
    (sds_cons (sd_setC rfl sc_law.nd rfl (by kernel_rfl) rfl (ei_tup (ev_tup (eav_cons (ev_var rfl (.inl (by kernel_rfl))) (eav_cons (ev_fz (et_call (C__law_take.mono (by decide)) hr (gl_ (by kernel_rfl)) (takes_of rfl rfl rfl rfl) (eaa_io rfl (.inr (.inl (by kernel_rfl))) (eaa_v ev_int eaa_nil)))) eav_nil)))) (own := [("_law_size", 6)]) (blk_ok (by kernel_rfl)) (sl := [6]) (by decide) (fun _ _ _ _ _ => (gd_name sc_law.nd rfl (.inl (by kernel_rfl)) (by decide))) (fun _ _ _ _ _ => ets_nil) (fun _ _ _ _ _ => (ev_fz (et_comp rfl sc_law.nd (ei_arg (pi_range1 (gl_ (by kernel_rfl)) z_range (eav_cons (ev_var rfl (.inl (by kernel_rfl))) eav_nil)) ht_rng1) (own := [("_law_k", 7)]) (blk_ok (by kernel_rfl)) (sl := [7]) (by decide) (fun _ _ _ _ _ => (gd_name sc_law.nd rfl (.inl (by kernel_rfl)) (by decide))) (fun _ _ _ _ _ => ets_nil) (fun _ _ _ _ _ => (ev_fz (et_call (C__law_take.mono (by decide)) hr (gl_ (by kernel_rfl)) takes0 (eaa_io rfl (.inr (.inl (by kernel_rfl))) (eaa_v ev_int eaa_nil)))))))) (by decide))
    (sds_cons (sd_for (sl := [5]) (passes_of (K := _) (E₁ := _) rfl) rfl (ei_arg (pi_range1 (gl_ (by kernel_rfl)) z_range (eav_cons ev_int eav_nil)) ht_rng1) (gd_name sc_law.nd rfl (.inl (by kernel_rfl)) (by decide)) (sds_wipe [5] (sds_one (sd_if (eb_not (eb_val (ev_fz (et_call (C__law_right.mono (by decide)) hr (gl_ (by kernel_rfl)) (takes_of rfl rfl rfl rfl) (eaa_io rfl (.inr (.inl (by kernel_rfl))) (eaa_v (ev_ix (ix_A (hu1 hr)) f_idx (eh_s rfl (.inl (by kernel_rfl))) (eh_v (ev_op op_mod f_mod (eh_s rfl (.inl (by kernel_rfl))) (eh_v ev_int))) (fun _ _ => rfl)) (eaa_v (ev_ix (ix_A (hu1 hr)) f_idx (eh_s rfl (.inl (by kernel_rfl))) (eh_v (ev_op op_fdiv f_fdiv (eh_s rfl (.inl (by kernel_rfl))) (eh_v ev_int))) (fun _ _ => rfl)) eaa_nil))))))) (sds_one (sd_retV ev_bl)) sds_nil))) (by decide))
    (sds_one (sd_retV ev_bl)))))))
end
theorem all_mk {l : PySem.W.OpenLaw} {w : World} {K : PySem.W.Frag} {h : Heap} {mg : Str → Option Value} {fa a__law_begin a__law_take a__law_asking a__law_program a__law_works a__law_work a__law_done a__law_ended a__law_stands a__law_asked a_Works____init__ a_Works__stand a_Works__put_in a_Works__number_in a_Works__next_given a_Works__work a_place_behind a_run_rows a__law_spoilt a__law_right a__law_many a_law : Addr} (X : K.In h) (G : h.Ns mainGlobals mg) (hfa : mg "law" = some (.ref fa))
    {gt_ROUND : Tok}
    (n_ROUND : PySem.W.nsIn K mainGlobals "ROUND" = some (some (.int 256 gt_ROUND)))
    {gt_SPOTS : Tok}
    (n_SPOTS : PySem.W.nsIn K mainGlobals "SPOTS" = some (some (.str (sT [97, 98, 99, 100]) gt_SPOTS)))
    {ko_Works : Addr}
    (on_Works : PySem.W.nsIn K mainGlobals "Works" = some (some (.ref ko_Works)))
    (opg_Works : PySem.W.plainGet K ko_Works Str.empty = true)
    (ohd_Works : PySem.W.hasDictIn K ko_Works = true)
    (opo_Works : PySem.W.plainOver K ko_Works = true)
    (osa_Works : PySem.W.findIn K (.ref ko_Works) "__setattr__" = some (some (.builtin "object.__setattr__")))
    (ona_Works_numbers : PySem.W.findIn K (.ref ko_Works) "numbers" = some none)
    (ona_Works_given : PySem.W.findIn K (.ref ko_Works) "given" = some none)
    (ona_Works_taken : PySem.W.findIn K (.ref ko_Works) "taken" = some none)
    (ona_Works_told : PySem.W.findIn K (.ref ko_Works) "told" = some none)
    (omk_Works : PySem.W.makesIn K ko_Works = true)
    (okp_Works : PySem.W.keepIn K (.ref ko_Works) = true)
    {od__law_begin an__law_begin : Option Addr} {sl__law_begin : Array (Option Value)} {oc__law_begin kV__law_begin dc__law_begin pm__law_begin cd__law_begin ct__law_begin : Value}
    (m__law_begin : PySem.W.nsIn K mainGlobals "_law_begin" = some (some (.ref a__law_begin))) (l__law_begin : K.lookup a__law_begin = some ⟨oc__law_begin, od__law_begin, .func (PySem.W.fnOf "_law_begin" "_law_begin" (defArgs s__law_begin) (defBody s__law_begin) (defScope s__law_begin) .none kV__law_begin dc__law_begin pm__law_begin an__law_begin cd__law_begin ct__law_begin), sl__law_begin⟩) (q__law_begin : PySem.W.codeIn K cd__law_begin "_law_begin" = true) (k__law_begin : PySem.W.keepIn K (.ref a__law_begin) = true)
    {od__law_take an__law_take : Option Addr} {sl__law_take : Array (Option Value)} {oc__law_take kV__law_take dc__law_take pm__law_take cd__law_take ct__law_take : Value}
    (m__law_take : PySem.W.nsIn K mainGlobals "_law_take" = some (some (.ref a__law_take))) (l__law_take : K.lookup a__law_take = some ⟨oc__law_take, od__law_take, .func (PySem.W.fnOf "_law_take" "_law_take" (defArgs s__law_take) (defBody s__law_take) (defScope s__law_take) .none kV__law_take dc__law_take pm__law_take an__law_take cd__law_take ct__law_take), sl__law_take⟩) (q__law_take : PySem.W.codeIn K cd__law_take "_law_take" = true) (k__law_take : PySem.W.keepIn K (.ref a__law_take) = true)
    {od__law_asking an__law_asking : Option Addr} {sl__law_asking : Array (Option Value)} {oc__law_asking kV__law_asking dc__law_asking pm__law_asking cd__law_asking ct__law_asking : Value}
    (m__law_asking : PySem.W.nsIn K mainGlobals "_law_asking" = some (some (.ref a__law_asking))) (l__law_asking : K.lookup a__law_asking = some ⟨oc__law_asking, od__law_asking, .func (PySem.W.fnOf "_law_asking" "_law_asking" (defArgs s__law_asking) (defBody s__law_asking) (defScope s__law_asking) .none kV__law_asking dc__law_asking pm__law_asking an__law_asking cd__law_asking ct__law_asking), sl__law_asking⟩) (q__law_asking : PySem.W.codeIn K cd__law_asking "_law_asking" = true) (k__law_asking : PySem.W.keepIn K (.ref a__law_asking) = true)
    {od__law_program an__law_program : Option Addr} {sl__law_program : Array (Option Value)} {oc__law_program kV__law_program dc__law_program pm__law_program cd__law_program ct__law_program : Value}
    (m__law_program : PySem.W.nsIn K mainGlobals "_law_program" = some (some (.ref a__law_program))) (l__law_program : K.lookup a__law_program = some ⟨oc__law_program, od__law_program, .func (PySem.W.fnOf "_law_program" "_law_program" (defArgs s__law_program) (defBody s__law_program) (defScope s__law_program) .none kV__law_program dc__law_program pm__law_program an__law_program cd__law_program ct__law_program), sl__law_program⟩) (q__law_program : PySem.W.codeIn K cd__law_program "_law_program" = true) (k__law_program : PySem.W.keepIn K (.ref a__law_program) = true)
    {od__law_works an__law_works : Option Addr} {sl__law_works : Array (Option Value)} {oc__law_works kV__law_works dc__law_works pm__law_works cd__law_works ct__law_works : Value}
    (m__law_works : PySem.W.nsIn K mainGlobals "_law_works" = some (some (.ref a__law_works))) (l__law_works : K.lookup a__law_works = some ⟨oc__law_works, od__law_works, .func (PySem.W.fnOf "_law_works" "_law_works" (defArgs s__law_works) (defBody s__law_works) (defScope s__law_works) .none kV__law_works dc__law_works pm__law_works an__law_works cd__law_works ct__law_works), sl__law_works⟩) (q__law_works : PySem.W.codeIn K cd__law_works "_law_works" = true) (k__law_works : PySem.W.keepIn K (.ref a__law_works) = true)
    {od__law_work an__law_work : Option Addr} {sl__law_work : Array (Option Value)} {oc__law_work kV__law_work dc__law_work pm__law_work cd__law_work ct__law_work : Value}
    (m__law_work : PySem.W.nsIn K mainGlobals "_law_work" = some (some (.ref a__law_work))) (l__law_work : K.lookup a__law_work = some ⟨oc__law_work, od__law_work, .func (PySem.W.fnOf "_law_work" "_law_work" (defArgs s__law_work) (defBody s__law_work) (defScope s__law_work) .none kV__law_work dc__law_work pm__law_work an__law_work cd__law_work ct__law_work), sl__law_work⟩) (q__law_work : PySem.W.codeIn K cd__law_work "_law_work" = true) (k__law_work : PySem.W.keepIn K (.ref a__law_work) = true)
    {od__law_done an__law_done : Option Addr} {sl__law_done : Array (Option Value)} {oc__law_done kV__law_done dc__law_done pm__law_done cd__law_done ct__law_done : Value}
    (m__law_done : PySem.W.nsIn K mainGlobals "_law_done" = some (some (.ref a__law_done))) (l__law_done : K.lookup a__law_done = some ⟨oc__law_done, od__law_done, .func (PySem.W.fnOf "_law_done" "_law_done" (defArgs s__law_done) (defBody s__law_done) (defScope s__law_done) .none kV__law_done dc__law_done pm__law_done an__law_done cd__law_done ct__law_done), sl__law_done⟩) (q__law_done : PySem.W.codeIn K cd__law_done "_law_done" = true) (k__law_done : PySem.W.keepIn K (.ref a__law_done) = true)
    {od__law_ended an__law_ended : Option Addr} {sl__law_ended : Array (Option Value)} {oc__law_ended kV__law_ended dc__law_ended pm__law_ended cd__law_ended ct__law_ended : Value}
    (m__law_ended : PySem.W.nsIn K mainGlobals "_law_ended" = some (some (.ref a__law_ended))) (l__law_ended : K.lookup a__law_ended = some ⟨oc__law_ended, od__law_ended, .func (PySem.W.fnOf "_law_ended" "_law_ended" (defArgs s__law_ended) (defBody s__law_ended) (defScope s__law_ended) .none kV__law_ended dc__law_ended pm__law_ended an__law_ended cd__law_ended ct__law_ended), sl__law_ended⟩) (q__law_ended : PySem.W.codeIn K cd__law_ended "_law_ended" = true) (k__law_ended : PySem.W.keepIn K (.ref a__law_ended) = true)
    {od__law_stands an__law_stands : Option Addr} {sl__law_stands : Array (Option Value)} {oc__law_stands kV__law_stands dc__law_stands pm__law_stands cd__law_stands ct__law_stands : Value}
    (m__law_stands : PySem.W.nsIn K mainGlobals "_law_stands" = some (some (.ref a__law_stands))) (l__law_stands : K.lookup a__law_stands = some ⟨oc__law_stands, od__law_stands, .func (PySem.W.fnOf "_law_stands" "_law_stands" (defArgs s__law_stands) (defBody s__law_stands) (defScope s__law_stands) .none kV__law_stands dc__law_stands pm__law_stands an__law_stands cd__law_stands ct__law_stands), sl__law_stands⟩) (q__law_stands : PySem.W.codeIn K cd__law_stands "_law_stands" = true) (k__law_stands : PySem.W.keepIn K (.ref a__law_stands) = true)
    {od__law_asked an__law_asked : Option Addr} {sl__law_asked : Array (Option Value)} {oc__law_asked kV__law_asked dc__law_asked pm__law_asked cd__law_asked ct__law_asked : Value}
    (m__law_asked : PySem.W.nsIn K mainGlobals "_law_asked" = some (some (.ref a__law_asked))) (l__law_asked : K.lookup a__law_asked = some ⟨oc__law_asked, od__law_asked, .func (PySem.W.fnOf "_law_asked" "_law_asked" (defArgs s__law_asked) (defBody s__law_asked) (defScope s__law_asked) .none kV__law_asked dc__law_asked pm__law_asked an__law_asked cd__law_asked ct__law_asked), sl__law_asked⟩) (q__law_asked : PySem.W.codeIn K cd__law_asked "_law_asked" = true) (k__law_asked : PySem.W.keepIn K (.ref a__law_asked) = true)
    {od_Works____init__ an_Works____init__ : Option Addr} {sl_Works____init__ : Array (Option Value)} {oc_Works____init__ kV_Works____init__ dc_Works____init__ pm_Works____init__ cd_Works____init__ ct_Works____init__ : Value}
    (mm_Works____init__ : PySem.W.findIn K (.ref ko_Works) "__init__" = some (some (.ref a_Works____init__)))
    (mf_Works____init__ : PySem.W.isFn K (.ref a_Works____init__) = true)
    (l_Works____init__ : K.lookup a_Works____init__ = some ⟨oc_Works____init__, od_Works____init__, .func (PySem.W.fnOf "__init__" "Works.__init__" (defArgs s_Works____init__) (defBody s_Works____init__) (defScope s_Works____init__) .none kV_Works____init__ dc_Works____init__ pm_Works____init__ an_Works____init__ cd_Works____init__ ct_Works____init__), sl_Works____init__⟩)
    (q_Works____init__ : PySem.W.codeIn K cd_Works____init__ "Works.__init__" = true)
    (k_Works____init__ : PySem.W.keepIn K (.ref a_Works____init__) = true)
    {od_Works__stand an_Works__stand : Option Addr} {sl_Works__stand : Array (Option Value)} {oc_Works__stand kV_Works__stand dc_Works__stand pm_Works__stand cd_Works__stand ct_Works__stand : Value}
    (mm_Works__stand : PySem.W.findIn K (.ref ko_Works) "stand" = some (some (.ref a_Works__stand)))
    (mf_Works__stand : PySem.W.isFn K (.ref a_Works__stand) = true)
    (l_Works__stand : K.lookup a_Works__stand = some ⟨oc_Works__stand, od_Works__stand, .func (PySem.W.fnOf "stand" "Works.stand" (defArgs s_Works__stand) (defBody s_Works__stand) (defScope s_Works__stand) .none kV_Works__stand dc_Works__stand pm_Works__stand an_Works__stand cd_Works__stand ct_Works__stand), sl_Works__stand⟩)
    (q_Works__stand : PySem.W.codeIn K cd_Works__stand "Works.stand" = true)
    (k_Works__stand : PySem.W.keepIn K (.ref a_Works__stand) = true)
    {od_Works__put_in an_Works__put_in : Option Addr} {sl_Works__put_in : Array (Option Value)} {oc_Works__put_in kV_Works__put_in dc_Works__put_in pm_Works__put_in cd_Works__put_in ct_Works__put_in : Value}
    (mm_Works__put_in : PySem.W.findIn K (.ref ko_Works) "put_in" = some (some (.ref a_Works__put_in)))
    (mf_Works__put_in : PySem.W.isFn K (.ref a_Works__put_in) = true)
    (l_Works__put_in : K.lookup a_Works__put_in = some ⟨oc_Works__put_in, od_Works__put_in, .func (PySem.W.fnOf "put_in" "Works.put_in" (defArgs s_Works__put_in) (defBody s_Works__put_in) (defScope s_Works__put_in) .none kV_Works__put_in dc_Works__put_in pm_Works__put_in an_Works__put_in cd_Works__put_in ct_Works__put_in), sl_Works__put_in⟩)
    (q_Works__put_in : PySem.W.codeIn K cd_Works__put_in "Works.put_in" = true)
    (k_Works__put_in : PySem.W.keepIn K (.ref a_Works__put_in) = true)
    {od_Works__number_in an_Works__number_in : Option Addr} {sl_Works__number_in : Array (Option Value)} {oc_Works__number_in kV_Works__number_in dc_Works__number_in pm_Works__number_in cd_Works__number_in ct_Works__number_in : Value}
    (mm_Works__number_in : PySem.W.findIn K (.ref ko_Works) "number_in" = some (some (.ref a_Works__number_in)))
    (mf_Works__number_in : PySem.W.isFn K (.ref a_Works__number_in) = true)
    (l_Works__number_in : K.lookup a_Works__number_in = some ⟨oc_Works__number_in, od_Works__number_in, .func (PySem.W.fnOf "number_in" "Works.number_in" (defArgs s_Works__number_in) (defBody s_Works__number_in) (defScope s_Works__number_in) .none kV_Works__number_in dc_Works__number_in pm_Works__number_in an_Works__number_in cd_Works__number_in ct_Works__number_in), sl_Works__number_in⟩)
    (q_Works__number_in : PySem.W.codeIn K cd_Works__number_in "Works.number_in" = true)
    (k_Works__number_in : PySem.W.keepIn K (.ref a_Works__number_in) = true)
    {od_Works__next_given an_Works__next_given : Option Addr} {sl_Works__next_given : Array (Option Value)} {oc_Works__next_given kV_Works__next_given dc_Works__next_given pm_Works__next_given cd_Works__next_given ct_Works__next_given : Value}
    (mm_Works__next_given : PySem.W.findIn K (.ref ko_Works) "next_given" = some (some (.ref a_Works__next_given)))
    (mf_Works__next_given : PySem.W.isFn K (.ref a_Works__next_given) = true)
    (l_Works__next_given : K.lookup a_Works__next_given = some ⟨oc_Works__next_given, od_Works__next_given, .func (PySem.W.fnOf "next_given" "Works.next_given" (defArgs s_Works__next_given) (defBody s_Works__next_given) (defScope s_Works__next_given) .none kV_Works__next_given dc_Works__next_given pm_Works__next_given an_Works__next_given cd_Works__next_given ct_Works__next_given), sl_Works__next_given⟩)
    (q_Works__next_given : PySem.W.codeIn K cd_Works__next_given "Works.next_given" = true)
    (k_Works__next_given : PySem.W.keepIn K (.ref a_Works__next_given) = true)
    {od_Works__work an_Works__work : Option Addr} {sl_Works__work : Array (Option Value)} {oc_Works__work kV_Works__work dc_Works__work pm_Works__work cd_Works__work ct_Works__work : Value}
    (mm_Works__work : PySem.W.findIn K (.ref ko_Works) "work" = some (some (.ref a_Works__work)))
    (mf_Works__work : PySem.W.isFn K (.ref a_Works__work) = true)
    (l_Works__work : K.lookup a_Works__work = some ⟨oc_Works__work, od_Works__work, .func (PySem.W.fnOf "work" "Works.work" (defArgs s_Works__work) (defBody s_Works__work) (defScope s_Works__work) .none kV_Works__work dc_Works__work pm_Works__work an_Works__work cd_Works__work ct_Works__work), sl_Works__work⟩)
    (q_Works__work : PySem.W.codeIn K cd_Works__work "Works.work" = true)
    (k_Works__work : PySem.W.keepIn K (.ref a_Works__work) = true)
    {od_place_behind an_place_behind : Option Addr} {sl_place_behind : Array (Option Value)} {oc_place_behind kV_place_behind dc_place_behind pm_place_behind cd_place_behind ct_place_behind : Value}
    (m_place_behind : PySem.W.nsIn K mainGlobals "place_behind" = some (some (.ref a_place_behind))) (l_place_behind : K.lookup a_place_behind = some ⟨oc_place_behind, od_place_behind, .func (PySem.W.fnOf "place_behind" "place_behind" (defArgs s_place_behind) (defBody s_place_behind) (defScope s_place_behind) .none kV_place_behind dc_place_behind pm_place_behind an_place_behind cd_place_behind ct_place_behind), sl_place_behind⟩) (q_place_behind : PySem.W.codeIn K cd_place_behind "place_behind" = true) (k_place_behind : PySem.W.keepIn K (.ref a_place_behind) = true)
    {od_run_rows an_run_rows : Option Addr} {sl_run_rows : Array (Option Value)} {oc_run_rows kV_run_rows dc_run_rows pm_run_rows cd_run_rows ct_run_rows : Value}
    (m_run_rows : PySem.W.nsIn K mainGlobals "run_rows" = some (some (.ref a_run_rows))) (l_run_rows : K.lookup a_run_rows = some ⟨oc_run_rows, od_run_rows, .func (PySem.W.fnOf "run_rows" "run_rows" (defArgs s_run_rows) (defBody s_run_rows) (defScope s_run_rows) .none kV_run_rows dc_run_rows pm_run_rows an_run_rows cd_run_rows ct_run_rows), sl_run_rows⟩) (q_run_rows : PySem.W.codeIn K cd_run_rows "run_rows" = true) (k_run_rows : PySem.W.keepIn K (.ref a_run_rows) = true)
    {od__law_spoilt an__law_spoilt : Option Addr} {sl__law_spoilt : Array (Option Value)} {oc__law_spoilt kV__law_spoilt dc__law_spoilt pm__law_spoilt cd__law_spoilt ct__law_spoilt : Value}
    (m__law_spoilt : PySem.W.nsIn K mainGlobals "_law_spoilt" = some (some (.ref a__law_spoilt))) (l__law_spoilt : K.lookup a__law_spoilt = some ⟨oc__law_spoilt, od__law_spoilt, .func (PySem.W.fnOf "_law_spoilt" "_law_spoilt" (defArgs s__law_spoilt) (defBody s__law_spoilt) (defScope s__law_spoilt) .none kV__law_spoilt dc__law_spoilt pm__law_spoilt an__law_spoilt cd__law_spoilt ct__law_spoilt), sl__law_spoilt⟩) (q__law_spoilt : PySem.W.codeIn K cd__law_spoilt "_law_spoilt" = true) (k__law_spoilt : PySem.W.keepIn K (.ref a__law_spoilt) = true)
    {od__law_right an__law_right : Option Addr} {sl__law_right : Array (Option Value)} {oc__law_right kV__law_right dc__law_right pm__law_right cd__law_right ct__law_right : Value}
    (m__law_right : PySem.W.nsIn K mainGlobals "_law_right" = some (some (.ref a__law_right))) (l__law_right : K.lookup a__law_right = some ⟨oc__law_right, od__law_right, .func (PySem.W.fnOf "_law_right" "_law_right" (defArgs s__law_right) (defBody s__law_right) (defScope s__law_right) .none kV__law_right dc__law_right pm__law_right an__law_right cd__law_right ct__law_right), sl__law_right⟩) (q__law_right : PySem.W.codeIn K cd__law_right "_law_right" = true) (k__law_right : PySem.W.keepIn K (.ref a__law_right) = true)
    {od__law_many an__law_many : Option Addr} {sl__law_many : Array (Option Value)} {oc__law_many kV__law_many dc__law_many pm__law_many cd__law_many ct__law_many : Value}
    (m__law_many : PySem.W.nsIn K mainGlobals "_law_many" = some (some (.ref a__law_many))) (l__law_many : K.lookup a__law_many = some ⟨oc__law_many, od__law_many, .func (PySem.W.fnOf "_law_many" "_law_many" (defArgs s__law_many) (defBody s__law_many) (defScope s__law_many) .none kV__law_many dc__law_many pm__law_many an__law_many cd__law_many ct__law_many), sl__law_many⟩) (q__law_many : PySem.W.codeIn K cd__law_many "_law_many" = true) (k__law_many : PySem.W.keepIn K (.ref a__law_many) = true)
    {od_law an_law : Option Addr} {sl_law : Array (Option Value)} {oc_law kV_law dc_law pm_law cd_law ct_law : Value}
    (m_law : PySem.W.nsIn K mainGlobals "law" = some (some (.ref a_law))) (l_law : K.lookup a_law = some ⟨oc_law, od_law, .func (PySem.W.fnOf "law" "law" (defArgs s_law) (defBody s_law) (defScope s_law) .none kV_law dc_law pm_law an_law cd_law ct_law), sl_law⟩) (q_law : PySem.W.codeIn K cd_law "law" = true) (k_law : PySem.W.keepIn K (.ref a_law) = true)
    (z_divmod : PySem.W.nsIn K mainGlobals "divmod" = some none) (z_int : PySem.W.nsIn K mainGlobals "int" = some none) (z_len : PySem.W.nsIn K mainGlobals "len" = some none) (z_list : PySem.W.nsIn K mainGlobals "list" = some none) (z_max : PySem.W.nsIn K mainGlobals "max" = some none) (z_min : PySem.W.nsIn K mainGlobals "min" = some none) (z_range : PySem.W.nsIn K mainGlobals "range" = some none) (z_str : PySem.W.nsIn K mainGlobals "str" = some none) (z_tuple : PySem.W.nsIn K mainGlobals "tuple" = some none)
    (hlaw : ∀ ns : List Int, ns.length ≤ 63 → ∃ os, f_law [.sh (.rol (ns.map .int))] = .ok (.sh (.bl true)) os) :
    ∃ fd : FuncData, (∀ (s : Shared) (v : Value), BindsTo s fd ⟨[v], []⟩ [("_law_script", v)]) ∧ ∀ base : Heap, K.In base → base.Ns mainGlobals mg → FnG l.prog w K mg base (L2.CX l.prog w) 6 fa fd ["_law_script"] (spLaw K) := by
  have e := hfa.symm.trans (PySem.W.mg_of X G m_law)
  cases e
  have F__law_begin := fun_mk (st := s__law_begin) l__law_begin q__law_begin k__law_begin
  have b__law_begin := F__law_begin.binds (ps := ["_law_script"]) fun _ _ _ _ _ _ us hl => match us, hl with | [_], _ => rfl
  have F__law_take := fun_mk (st := s__law_take) l__law_take q__law_take k__law_take
  have b__law_take := F__law_take.binds (ps := ["_law_state", "_law_many_here"]) fun _ _ _ _ _ _ us hl => match us, hl with | [_, _], _ => rfl
  have F__law_asking := fun_mk (st := s__law_asking) l__law_asking q__law_asking k__law_asking
  have b__law_asking := F__law_asking.binds (ps := ["_law_state", "_law_program_here"]) fun _ _ _ _ _ _ us hl => match us, hl with | [_, _], _ => rfl
  have F__law_program := fun_mk (st := s__law_program) l__law_program q__law_program k__law_program
  have b__law_program := F__law_program.binds (ps := ["_law_state", "_law_many_here"]) fun _ _ _ _ _ _ us hl => match us, hl with | [_, _], _ => rfl
  have F__law_works := fun_mk (st := s__law_works) l__law_works q__law_works k__law_works
  have b__law_works := F__law_works.binds (ps := ["_law_given"]) fun _ _ _ _ _ _ us hl => match us, hl with | [_], _ => rfl
  have F__law_work := fun_mk (st := s__law_work) l__law_work q__law_work k__law_work
  have b__law_work := F__law_work.binds (ps := ["_law_book", "_law_row"]) fun _ _ _ _ _ _ us hl => match us, hl with | [_, _], _ => rfl
  have F__law_done := fun_mk (st := s__law_done) l__law_done q__law_done k__law_done
  have b__law_done := F__law_done.binds (ps := ["_law_book", "_law_program_here", "_law_at"]) fun _ _ _ _ _ _ us hl => match us, hl with | [_, _, _], _ => rfl
  have F__law_ended := fun_mk (st := s__law_ended) l__law_ended q__law_ended k__law_ended
  have b__law_ended := F__law_ended.binds (ps := ["_law_program_here", "_law_at"]) fun _ _ _ _ _ _ us hl => match us, hl with | [_, _], _ => rfl
  have F__law_stands := fun_mk (st := s__law_stands) l__law_stands q__law_stands k__law_stands
  have b__law_stands := F__law_stands.binds (ps := ["_law_program_here", "_law_given"]) fun _ _ _ _ _ _ us hl => match us, hl with | [_, _], _ => rfl
  have F__law_asked := fun_mk (st := s__law_asked) l__law_asked q__law_asked k__law_asked
  have b__law_asked := F__law_asked.binds (ps := ["_law_program_here", "_law_stands_here", "_law_steps"]) fun _ _ _ _ _ _ us hl => match us, hl with | [_, _, _], _ => rfl
  have F_Works____init__ := fun_mk (st := s_Works____init__) l_Works____init__ q_Works____init__ k_Works____init__
  have b_Works____init__ := F_Works____init__.binds (ps := ["self", "given"]) fun _ _ _ _ _ _ us hl => match us, hl with | [_, _], _ => rfl
  have F_Works__stand := fun_mk (st := s_Works__stand) l_Works__stand q_Works__stand k_Works__stand
  have b_Works__stand := F_Works__stand.binds (ps := ["self", "how", "place"]) fun _ _ _ _ _ _ us hl => match us, hl with | [_, _, _], _ => rfl
  have F_Works__put_in := fun_mk (st := s_Works__put_in) l_Works__put_in q_Works__put_in k_Works__put_in
  have b_Works__put_in := F_Works__put_in.binds (ps := ["self", "spot", "number"]) fun _ _ _ _ _ _ us hl => match us, hl with | [_, _, _], _ => rfl
  have F_Works__number_in := fun_mk (st := s_Works__number_in) l_Works__number_in q_Works__number_in k_Works__number_in
  have b_Works__number_in := F_Works__number_in.binds (ps := ["self", "spot"]) fun _ _ _ _ _ _ us hl => match us, hl with | [_, _], _ => rfl
  have F_Works__next_given := fun_mk (st := s_Works__next_given) l_Works__next_given q_Works__next_given k_Works__next_given
  have b_Works__next_given := F_Works__next_given.binds (ps := ["self"]) fun _ _ _ _ _ _ us hl => match us, hl with | [_], _ => rfl
  have F_Works__work := fun_mk (st := s_Works__work) l_Works__work q_Works__work k_Works__work
  have b_Works__work := F_Works__work.binds (ps := ["self", "row"]) fun _ _ _ _ _ _ us hl => match us, hl with | [_, _], _ => rfl
  have F_place_behind := fun_mk (st := s_place_behind) l_place_behind q_place_behind k_place_behind
  have b_place_behind := F_place_behind.binds (ps := ["works", "row", "at"]) fun _ _ _ _ _ _ us hl => match us, hl with | [_, _, _], _ => rfl
  have F_run_rows := fun_mk (st := s_run_rows) l_run_rows q_run_rows k_run_rows
  have b_run_rows := F_run_rows.binds (ps := ["program", "given", "steps"]) fun _ _ _ _ _ _ us hl => match us, hl with | [_, _, _], _ => rfl
  have F__law_spoilt := fun_mk (st := s__law_spoilt) l__law_spoilt q__law_spoilt k__law_spoilt
  have b__law_spoilt := F__law_spoilt.binds (ps := ["_law_state", "_law_given", "_law_at"]) fun _ _ _ _ _ _ us hl => match us, hl with | [_, _, _], _ => rfl
  have F__law_right := fun_mk (st := s__law_right) l__law_right q__law_right k__law_right
  have b__law_right := F__law_right.binds (ps := ["_law_state", "_law_program_here", "_law_given"]) fun _ _ _ _ _ _ us hl => match us, hl with | [_, _, _], _ => rfl
  have F__law_many := fun_mk (st := s__law_many) l__law_many q__law_many k__law_many
  have b__law_many := F__law_many.binds (ps := ["_law_state"]) fun _ _ _ _ _ _ us hl => match us, hl with | [_], _ => rfl
  have F_law := fun_mk (st := s_law) l_law q_law k_law
  have b_law := F_law.binds (ps := ["_law_script"]) fun _ _ _ _ _ _ us hl => match us, hl with | [_], _ => rfl
  refine ⟨PySem.W.fnOf "law" "law" (defArgs s_law) (defBody s_law) (defScope s_law) .none kV_law dc_law pm_law an_law cd_law ct_law, fun s v => .of_eq rfl, fun base _ _ => ?_⟩
  have lc_Works : Cls K ko_Works := ⟨opg_Works, ohd_Works, opo_Works, osa_Works⟩
  have I_Works : ClsI K mg [87, 111, 114, 107, 115] [[110, 117, 109, 98, 101, 114, 115], [103, 105, 118, 101, 110], [116, 97, 107, 101, 110], [116, 111, 108, 100]] := ⟨_, on_Works, PySem.W.mg_of X G on_Works, lc_Works, (List.forall_mem_cons.mpr ⟨ona_Works_numbers, (List.forall_mem_cons.mpr ⟨ona_Works_given, (List.forall_mem_cons.mpr ⟨ona_Works_taken, (List.forall_mem_cons.mpr ⟨ona_Works_told, (fun _ h => nomatch h)⟩)⟩)⟩)⟩)⟩
  have y_divmod := PySem.W.mg_none_of X G z_divmod
  have y_int := PySem.W.mg_none_of X G z_int
  have y_len := PySem.W.mg_none_of X G z_len
  have y_list := PySem.W.mg_none_of X G z_list
  have y_max := PySem.W.mg_none_of X G z_max
  have y_min := PySem.W.mg_none_of X G z_min
  have y_range := PySem.W.mg_none_of X G z_range
  have y_str := PySem.W.mg_none_of X G z_str
  have y_tuple := PySem.W.mg_none_of X G z_tuple
  have G_ROUND : GlD K mg "ROUND" (.int 256) := gl_int (PySem.W.mg_of X G n_ROUND)
  have G_SPOTS : GlD K mg "SPOTS" (.str [97, 98, 99, 100]) := gl_str (PySem.W.mg_of X G n_SPOTS)
  have D__law_begin : Cal l.prog w K mg base 1 "_law_begin" f__law_begin := c__law_begin F__law_begin (PySem.W.mg_of X G m__law_begin) b__law_begin y_list
  have D__law_take : Cal l.prog w K mg base 1 "_law_take" f__law_take := c__law_take F__law_take (PySem.W.mg_of X G m__law_take) b__law_take y_divmod y_len
  have D__law_asking : Cal l.prog w K mg base 2 "_law_asking" f__law_asking := c__law_asking F__law_asking (PySem.W.mg_of X G m__law_asking) b__law_asking D__law_take
  have D__law_program : Cal l.prog w K mg base 2 "_law_program" f__law_program := c__law_program F__law_program (PySem.W.mg_of X G m__law_program) b__law_program y_max y_min y_range D__law_take
  have D__law_works : Cal l.prog w K mg base 1 "_law_works" f__law_works := c__law_works F__law_works (PySem.W.mg_of X G m__law_works) b__law_works y_list
  have D__law_work : Cal l.prog w K mg base 1 "_law_work" f__law_work := c__law_work F__law_work (PySem.W.mg_of X G m__law_work) b__law_work 
  have D__law_done : Cal l.prog w K mg base 2 "_law_done" f__law_done := c__law_done F__law_done (PySem.W.mg_of X G m__law_done) b__law_done D__law_work
  have D__law_ended : Cal l.prog w K mg base 1 "_law_ended" f__law_ended := c__law_ended F__law_ended (PySem.W.mg_of X G m__law_ended) b__law_ended y_len
  have D__law_stands : Cal l.prog w K mg base 3 "_law_stands" f__law_stands := c__law_stands F__law_stands (PySem.W.mg_of X G m__law_stands) b__law_stands y_len y_list y_tuple D__law_works D__law_done D__law_ended
  have D__law_asked : Cal l.prog w K mg base 1 "_law_asked" f__law_asked := c__law_asked F__law_asked (PySem.W.mg_of X G m__law_asked) b__law_asked y_len y_min
  have D_Works____init__ : Ini l.prog w K mg base 1 [87, 111, 114, 107, 115] f_Works____init__ := c_Works____init__ F_Works____init__ on_Works (PySem.W.mg_of X G on_Works) ⟨omk_Works, mm_Works____init__, mf_Works____init__, okp_Works⟩ b_Works____init__ y_len y_list I_Works G_SPOTS
  have D_Works__stand : CalM l.prog w K mg base 1 [87, 111, 114, 107, 115] [115, 116, 97, 110, 100] f_Works__stand := c_Works__stand F_Works__stand on_Works lc_Works ⟨mm_Works__stand, mf_Works__stand, k_Works__stand⟩ b_Works__stand y_list y_tuple I_Works
  have D_Works__put_in : CalM l.prog w K mg base 1 [87, 111, 114, 107, 115] [112, 117, 116, 95, 105, 110] f_Works__put_in := c_Works__put_in F_Works__put_in on_Works lc_Works ⟨mm_Works__put_in, mf_Works__put_in, k_Works__put_in⟩ b_Works__put_in I_Works G_ROUND G_SPOTS
  have D_Works__number_in : CalM l.prog w K mg base 1 [87, 111, 114, 107, 115] [110, 117, 109, 98, 101, 114, 95, 105, 110] f_Works__number_in := c_Works__number_in F_Works__number_in on_Works lc_Works ⟨mm_Works__number_in, mf_Works__number_in, k_Works__number_in⟩ b_Works__number_in I_Works G_SPOTS
  have D_Works__next_given : CalM l.prog w K mg base 1 [87, 111, 114, 107, 115] [110, 101, 120, 116, 95, 103, 105, 118, 101, 110] f_Works__next_given := c_Works__next_given F_Works__next_given on_Works lc_Works ⟨mm_Works__next_given, mf_Works__next_given, k_Works__next_given⟩ b_Works__next_given y_len I_Works
  have D_Works__work : CalM l.prog w K mg base 2 [87, 111, 114, 107, 115] [119, 111, 114, 107] f_Works__work := c_Works__work F_Works__work on_Works lc_Works ⟨mm_Works__work, mf_Works__work, k_Works__work⟩ b_Works__work D_Works__put_in D_Works__number_in D_Works__next_given I_Works
  have D_place_behind : Cal l.prog w K mg base 3 "place_behind" f_place_behind := c_place_behind F_place_behind (PySem.W.mg_of X G m_place_behind) b_place_behind D_Works__work D_Works__number_in
  have D_run_rows : Cal l.prog w K mg base 4 "run_rows" f_run_rows := c_run_rows F_run_rows (PySem.W.mg_of X G m_run_rows) b_run_rows y_len y_range D_Works____init__ D_Works__stand D_place_behind I_Works
  have D__law_spoilt : Cal l.prog w K mg base 2 "_law_spoilt" f__law_spoilt := c__law_spoilt F__law_spoilt (PySem.W.mg_of X G m__law_spoilt) b__law_spoilt D__law_take
  have D__law_right : Cal l.prog w K mg base 5 "_law_right" f__law_right := c__law_right F__law_right (PySem.W.mg_of X G m__law_right) b__law_right y_len y_list y_range y_str D__law_stands D__law_take D__law_asked D_run_rows D__law_spoilt
  have D__law_many : Cal l.prog w K mg base 2 "_law_many" f__law_many := c__law_many F__law_many (PySem.W.mg_of X G m__law_many) b__law_many D__law_take
  refine law_ok (fn_ok F_law sc_law (by decide) fun cdv A outer s H E hr => ?_) hlaw
  exact b_ok_law F_law y_int y_range D__law_begin D__law_asking D__law_program D__law_take D__law_right D__law_many hr
end OdW
namespace OdW
open PySem PySem.Spec L2 Od
open PyProof.Rows hiding St cutD
open Od (Env)
private def odB := And.intro @sat_ok (And.intro @sat_exc (And.intro @sat_fail (And.intro @ex_some (And.intro @ex_none (And.intro @s_eC (And.intro @s_eV (And.intro @s_hSc (And.intro @s_hV (And.intro @s_eFz (And.intro @s_tSh (And.intro @s_e1 (And.intro @s_e2 (And.intro @s_t2 (And.intro @s_b2 (And.intro @ex_blOf (And.intro @s_vL0 (And.intro @s_vL (And.intro @s_hL0 (And.intro @s_hL (And.intro @ex_getL0 (And.intro @ex_getL (And.intro @s_eTup (And.intro @s_tLst (And.intro @s_eCB (And.intro @s_tCBL (And.intro @s_oN (And.intro @s_oS (And.intro @s_tCut (And.intro @s_bVal (And.intro @s_bNot (And.intro @s_bAnd (And.intro @s_bOr (And.intro @s_eIf (And.intro @s_eAnd (And.intro @s_eOr (And.intro @s_aL0 (And.intro @s_aLv (And.intro @s_aLi (And.intro @ex_mkT0 (And.intro @ex_mkTv (And.intro @ex_mkTi (And.intro @s_nil (And.intro @s_expr (And.intro @s_ret (And.intro @s_retV (And.intro @s_if (And.intro @s_asg (And.intro @ex_gTp (And.intro @ex_gE0 (And.intro @ex_gE (And.intro @s_fld (And.intro @s_flen (And.intro @s_fix (And.intro @s_rcd2 (And.intro @s_iArg (And.intro @s_iSeq (And.intro @s_for (And.intro @s_comp (And.intro @s_bTrue (And.intro @x_addbi (And.intro @x_addii (And.intro @x_addss (And.intro @x_addtt (And.intro @x_addll (And.intro @x_lAdd (And.intro @x_lRep (And.intro @x_sub (And.intro @x_mul (And.intro @x_fdiv (And.intro @x_mod (And.intro @x_pow (And.intro @x_neg (And.intro @x_eqi (And.intro @x_eqs (And.intro @x_eqb (And.intro @x_nei (And.intro @x_nes (And.intro @x_neb (And.intro @x_lt (And.intro @x_lts (And.intro @x_le (And.intro @x_gt (And.intro @x_ge (And.intro @x_ixl (And.intro @x_ixt (And.intro @x_ixr (And.intro @x_ixs (And.intro @x_lens (And.intro @x_lenl (And.intro @x_lent (And.intro @x_lenr (And.intro @x_max2 (And.intro @x_min2 (And.intro @x_inti (And.intro @x_intb (And.intro @x_dm (And.intro @x_listl (And.intro @x_listr (And.intro @x_listt (And.intro @x_tupl (And.intro @x_tupt (And.intro @x_lcutl (And.intro @x_lcutr (And.intro @x_app (And.intro @x_pop (And.intro @x_frs (And.intro @x_frl (And.intro @x_frd (And.intro @x_rng1 (And.intro @x_seql (And.intro @x_seqr (And.intro @x_int (And.intro @x_bl (And.intro @x_gC (And.intro @x_gT (And.intro @c_pad0 (And.intro @c_padn (And.intro @c_pads (And.intro @k_set0 (And.intro @k_sets (And.intro @c_set0 (And.intro @c_sets (And.intro @c_wipe0 (And.intro @c_wipes (And.intro @c_back0 (And.intro @c_backs (And.intro @c_mask0 (And.intro @c_maskt (And.intro @c_maskf (And.intro @c_putB0 (And.intro @c_putBv (And.intro @c_putBi (And.intro @c_getD0 (And.intro @c_getDs (And.intro @c_shE1 (And.intro @c_shE0 (And.intro @c_shEl (And.intro @k_lkS0 (And.intro @k_lkSs (And.intro @k_lkF0 (And.intro @k_lkF0l (And.intro @k_lkFs (And.intro @k_lkT0 (And.intro @k_lkTs (And.intro @k_lkL0 (And.intro @k_lkLs (And.intro @k_rcd0 (And.intro @k_rcds (And.intro @k_atH0 (And.intro @k_atH0l (And.intro @k_atH0d (And.intro @k_atHs (And.intro @k_getHv (And.intro @k_getHs (And.intro @m_eFv (And.intro @m_tMv (And.intro @m_eMut (And.intro @m_eCall (And.intro @m_set (And.intro @m_setV (And.intro @m_wipe (And.intro @m_gNm (And.intro @m_sFld (And.intro @m_gfix (And.intro @m_fn (And.intro @c_sFC (And.intro @c_sFT (And.intro @m_eBM (And.intro @k_tyS (And.intro @k_tyL (And.intro @k_tyR (And.intro @k_tyD (And.intro @x_at0 (And.intro @x_at1 (And.intro @x_at2 (And.intro @m_gIx (And.intro @s_iTup (And.intro @x_lkX1 (And.intro @c_app0 (And.intro @c_app1 (And.intro @c_app2 (And.intro @c_app3 (And.intro @x_ixdi (And.intro @x_str (And.intro @k_at0 (And.intro @k_at1 (And.intro @k_at2 (And.intro @k_at3 (And.intro @s_eNew (And.intro @x_newP (And.intro @k_ins0 (And.intro @k_inss (And.intro @k_getS1 (And.intro @k_getS2 (And.intro @s_sFldI (And.intro @s_sAugI (And.intro @s_eCallM (And.intro @x_fldO (And.intro @s_lend (And.intro @c_frz0 (And.intro @c_frz1 (And.intro @c_frzn (And.intro @c_frzs (And.intro @c_frzl (And.intro @c_frzd (And.intro @c_frzr (And.intro @x_sci (And.intro @x_scb (And.intro @x_scs (And.intro @x_scn (And.intro @x_idxS (And.intro @s_tseq (And.intro @s_seqMc (And.intro @s_seqMn (And.intro @x_t1s (And.intro @x_t1l (And.intro @x_t1d (And.intro @s_tlendD (And.intro @k_frzQ (And.intro @k_frzQT (And.intro @c_frf0 (And.intro @c_frf1 (And.intro @c_frfn (And.intro @c_frfs (And.intro @c_frfl (And.intro @c_frfd (And.intro @c_frfr (And.intro @c_frfq (And.intro @c_frfq2 (And.intro @c_frzqF (And.intro @c_frzqT (And.intro @k_lkP0 (And.intro @k_lkPs (And.intro @k_uat0 (And.intro @k_uats (And.intro @s_lend3 (And.intro @s_blend3 (And.intro @s_tlend3 (And.intro @c_fri0 (And.intro @c_fri1 (And.intro @c_frin (And.intro @c_fris (And.intro @c_fril (And.intro @c_frid (And.intro @c_frir (And.intro @c_friq (And.intro @c_friQ (And.intro @c_frii (And.intro @x_lkXD (And.intro @k_getD11 (And.intro @k_getD12 (And.intro @k_insL0 (And.intro @k_insLs (And.intro @k_getL11 (And.intro @k_getL12 (And.intro @s_eMutF (And.intro @m_gIxF (And.intro @s_sFldIO (And.intro @x_t1Os (And.intro @x_t1Ol (And.intro @x_t1Od (And.intro @s_eCallMS (And.intro @k_getD21 (And.intro @k_getD22 (And.intro @x_lendct (And.intro @s_parC (And.intro @s_lend4 (And.intro @s_blend4 (And.intro @s_tlend4 (And.intro @c_frj0 (And.intro @c_frj1 (And.intro @c_frjn (And.intro @c_frjs (And.intro @c_frjl (And.intro @c_frjd (And.intro @c_frjq (And.intro @c_frjQ (And.intro @k_rcdL0 (And.intro @k_rcdLs (And.intro @s_eMutR (And.intro @s_rcd3 @s_mutPA)))))))))))))))))))))))))))))))))))))))))))))))))))))))))))))))))))))))))))))))))))))))))))))))))))))))))))))))))))))))))))))))))))))))))))))))))))))))))))))))))))))))))))))))))))))))))))))))))))))))))))))))))))))))))))))))))))))))))))))))))))))))))))))))))))))))))))))))))))))))))
local macro_rules | `(tactic| array_get_dec) => `(tactic| try simp -implicitDefEqProofs only [↓s_seq, ↓odB])
local macro_rules | `(tactic| sizeOf_list_dec) => `(tactic| try simp -implicitDefEqProofs only [↓s_seq, ↓odB, Bool.false_eq_true, Bool.true_eq_false, false_implies, true_implies, forall_const, true_and, and_true, decide_eq_true_eq, decide_eq_false_iff_not, Bool.not_true, Bool.not_false, Bool.not_eq_true', Bool.not_eq_false', Int.not_lt, Int.not_le, implies_true])
local macro_rules | `(tactic| array_mem_dec) => `(tactic| try simp -implicitDefEqProofs only [↓odB, Bool.false_eq_true, Bool.true_eq_false, false_implies, true_implies, forall_const, true_and, and_true, decide_eq_true_eq, decide_eq_false_iff_not, Bool.not_true, Bool.not_false, Bool.not_eq_true', Bool.not_eq_false', Int.not_lt, Int.not_le, implies_true])
local macro_rules | `(tactic| simp_wf) => `(tactic| try simp -implicitDefEqProofs only [↓s_seq, ↓odB, Bool.false_eq_true, Bool.true_eq_false, false_implies, true_implies, forall_const, true_and, and_true, decide_eq_true_eq, decide_eq_false_iff_not, Bool.not_true, Bool.not_false, Bool.not_eq_true', Bool.not_eq_false', Int.not_lt, Int.not_le, implies_true, List.cons.injEq, Nat.reduceEqDiff, reduceCtorEq, not_true_eq_false, not_false_eq_true, and_self, and_false, false_and, or_false, false_or, or_true, true_or, or_self, if_true, if_false, List.nil_append, List.cons_append])
local macro_rules | `(tactic| and_intros) => `(tactic| repeat (refine And.intro (by first | rfl | decide | omega | exact okMul_r (by omega) (by omega) | exact okMul_l (by omega) (by omega) | (simp; done) | (simp; omega)) ?_))
abbrev Fs := List (Tx × T1)
def Bx (n : Nat) (fs : List (Tx × T1)) : Prop := ∃ (cs : List Int) (t : Int), fs = [([99, 101, 108, 108, 115], .lst (cs.map .int)), ([116, 117, 114, 110], .sh (.int t))] ∧ cs ≠ [] ∧ 0 ≤ t ∧ t + n ≤ 1000000000
theorem take_ok {n : Nat} {m : Int} {fs : List (Tx × T1)} {Φ : T → Od.Env → Prop} {Ψ : Exn → Od.Env → Prop} (hb : Bx n fs) (hn : 1 ≤ n) (hm : 0 < m) (hm' : m < 1073741824)
    (q : ∀ (r : Int) fs', 0 ≤ r → r < m → Bx (n - 1) fs' → Φ (.sh (.int r)) [some (.rcd fs'), none]) : satO (f__law_take [T.rcd fs, .sh (.int m)]) Φ Ψ := by
  obtain ⟨cs, t, rfl, hc, ht, hs⟩ := hb
  simp only [f__law_take, B__law_take]
  array_get_dec
  have hl : 0 < ((cs.map D.int).length : Int) := by
    cases cs with
    | nil => exact absurd rfl hc
    | cons c r => simp
  have b1 := Int.emod_nonneg (t + 1) (show ((cs.map D.int).length : Int) ≠ 0 by omega)
  have b2 := Int.emod_lt_of_pos (t + 1) hl
  refine ⟨rfl, by simp, hl, atI_ok b1 b2 fun d hd => ?_⟩
  obtain ⟨c, hc', rfl⟩ := List.mem_map.mp (List.mem_of_getElem? hd)
  array_get_dec
  refine ⟨by decide, fun _ => ⟨⟨hm, hm'⟩, ⟨b1, b2⟩, ?_⟩, fun _ => ?_⟩
  · refine q _ _ (Int.emod_nonneg _ (by omega)) (Int.emod_lt_of_pos _ hm) ⟨cs.set ((t + 1) % ((cs.map D.int).length : Int)).toNat (c / m), t + 1, by rw [List.map_set], ?_, by omega, by omega⟩
    intro z
    have := congrArg List.length z
    simp at this
    exact hc this
  · refine ⟨by decide, okMul_l (by omega) (by omega), okMul_r (by omega) (by omega), okMul_r (by omega) (by omega), by decide, okMul_l (by omega) (by omega), by decide, okMul_l (by omega) (by omega), okMul_r (by omega) (by omega), by decide, by decide, hm, ?_⟩
    exact q _ _ (Int.emod_nonneg _ (by omega)) (Int.emod_lt_of_pos _ hm) ⟨cs, t + 1, rfl, hc, by omega, by omega⟩
/-- a comprehension that only reads: what it keeps, what it makes of it -/
theorem cmp_map {α : Type} {own : List Nat} {g : GM} {C : BM} {F : EM} {Φ : T × Od.Env → Prop} {Ψ : Exn → Od.Env → Prop} {xs : List α} (enc : α → D) (p : α → Bool) (f : α → D) {ρ : Od.Env} (hl : xs.length ≤ 1000000)
    (step : ∀ x ∈ xs, cps (wipeE own ρ) fun ρ0 => ex (g (enc x) ρ0) fun ρ1 => sat (C ρ1) (fun b => (b.1 = true → sat (F b.2) (fun d => p x = true ∧ cps (backE own ρ d.2) fun r => d.1 = f x ∧ r = ρ) (fun _ _ => False)) ∧ (b.1 = false → p x = false ∧ cps (backE own ρ b.2) fun r => r = ρ)) (fun _ _ => False))
    (q : Φ (.lst ((xs.filter p).map f), ρ)) : sat (cmpL own g C F (xs.map enc) [] ρ) Φ Ψ := by
  refine cmp_i (fun i acc r => r = ρ ∧ acc = ((xs.take i).filter p).map f) (by simpa using hl) ⟨rfl, rfl⟩ ?_ ?_
  · rintro i y acc r hy hi ⟨rfl, rfl⟩
    rw [List.getElem?_map] at hy
    obtain ⟨x, hx, rfl⟩ := Option.map_eq_some_iff.mp hy
    have hs := step x (List.mem_of_getElem? hx)
    have ht : ((xs.take (i + 1)).filter p).map f = ((xs.take i).filter p).map f ++ ([x].filter p).map f := by
      rw [List.take_add_one, hx, List.filter_append, List.map_append]; rfl
    rw [ht]
    simp only [cps] at hs ⊢
    cases hg : g (enc x) (wipeE own r) with
    | none => rw [hg] at hs; exact hs
    | some ρ1 =>
      rw [hg] at hs
      rw [ex_some] at hs ⊢
      cases hC : C ρ1 with
      | fail => rw [hC] at hs; exact hs
      | exc x ρ2 => rw [hC] at hs; exact hs
      | ok b =>
        rw [hC] at hs
        rw [sat_ok] at hs ⊢
        refine ⟨fun hb => ?_, fun hb => ?_⟩
        · refine (hs.1 hb).mono fun d ⟨h1, h2, h3⟩ => ⟨h3, ?_⟩
          rw [List.filter_cons, if_pos h1, h2]; rfl
        · obtain ⟨h1, h2⟩ := hs.2 hb
          refine ⟨h2, ?_⟩
          rw [List.filter_cons, if_neg (by rw [h1]; exact Bool.false_ne_true)]
          simp
  · rintro acc r _ ⟨rfl, rfl⟩
    rw [List.length_map, List.take_length]
    exact q
/-- one statement, then the rest -/
theorem seq_cut {S S' : SM} {ρ : Od.Env} {ΦS : Fl → Prop} {Ψ : Exn → Od.Env → Prop} (M : Od.Env → Prop) (h1 : sat (S ρ) (fun f => match f with | .nx ρ1 => M ρ1 | r => ΦS r) Ψ) (h2 : ∀ ρ1, M ρ1 → sat (S' ρ1) ΦS Ψ) : sat (sSeq S S' ρ) ΦS Ψ := by
  rw [s_seq]
  refine h1.mono fun f h => ?_
  cases f with
  | nx ρ1 => exact h2 ρ1 h
  | rt t ρ1 => exact h
  | bk ρ1 => exact h
  | ct ρ1 => exact h
/-- data that == reads: how deep at most -/
def Ck (k : Nat) (d : D) : Prop := d.ok = true ∧ d.dep ≤ k
theorem Ck.mono {j k : Nat} {d : D} (h : Ck j d) (hk : j ≤ k) : Ck k d := ⟨h.1, Nat.le_trans h.2 hk⟩
theorem okI_of {j : Int} (h : -1000000000 ≤ j) (h' : j ≤ 1000000000) : okI j = true := by unfold okI; rw [decide_eq_true h, decide_eq_true h']; rfl
theorem atI_last {α : Type} {xs : List α} {x : α} (h : xs.getLast? = some x) {Φ : α → Prop} (q : Φ x) : ex (atI xs (-1)) Φ := by
  unfold atI ixN
  have hl : xs ≠ [] := by rintro rfl; cases h
  have hl := List.length_pos_iff.mpr hl
  have e : xs[xs.length - 1]? = some x := by rw [← List.getLast?_eq_getElem?]; exact h
  rw [if_neg (by decide)]
  rw [if_pos (by omega)]
  show ex (xs[(-1 + (xs.length : Int)).toNat]?) Φ
  rw [show (-1 + (xs.length : Int)).toNat = xs.length - 1 by omega, e]
  exact q
/-- clean data, not too great to be shown -/
structure Th (k B : Nat) (d : D) : Prop where
  o : d.ok = true
  g : gdD d = true
  p : d.dep ≤ k
  w : d.shW ≤ B
structure ThL (k B : Nat) (ds : List D) : Prop where
  o : D.okL ds = true
  g : gdL ds = true
  p : D.depL ds ≤ k
  w : D.shWL ds ≤ B
section
variable {k j A B C : Nat} {d : D} {ds es : List D}
theorem Th.mono (h : Th j A d) (a : j ≤ k) (b : A ≤ B) : Th k B d := ⟨h.o, h.g, Nat.le_trans h.p a, Nat.le_trans h.w b⟩
theorem ThL.mono (h : ThL j A ds) (a : j ≤ k) (b : A ≤ B) : ThL k B ds := ⟨h.o, h.g, Nat.le_trans h.p a, Nat.le_trans h.w b⟩
theorem th_int {i : Int} (h : i.natAbs < 10 ^ 30) : Th k 31 (.int i) := ⟨rfl, rfl, Nat.zero_le _, by unfold D.shW; rw [if_pos h]; exact Nat.le_refl _⟩
theorem th_str {s : Tx} (h : ∀ c ∈ s, c ≤ 127) (hl : 10 * s.length + 2 ≤ B) : Th k B (.str s) := ⟨ok_str h (by decide), rfl, Nat.zero_le _, by unfold D.shW; exact hl⟩
theorem thL_nil : ThL k 0 [] := ⟨rfl, rfl, Nat.zero_le _, Nat.le_refl 0⟩
theorem thL_cons (h : Th k A d) (t : ThL k B ds) : ThL k (A + 2 + B) (d :: ds) := by
  refine ⟨?_, ?_, ?_, ?_⟩
  · unfold D.okL; rw [h.o, t.o]; rfl
  · unfold gdL; rw [h.g, t.g]; rfl
  · unfold D.depL; have := h.p; have := t.p; omega
  · unfold D.shWL; have := h.w; have := t.w; omega
theorem th_lst (h : ThL k B ds) : Th (k + 1) (B + 3) (.lst ds) := by
  refine ⟨by unfold D.ok; exact h.o, by unfold gdD; exact h.g, ?_, ?_⟩
  · unfold D.dep; have := h.p; omega
  · unfold D.shW; have := h.w; omega
theorem th_tup (h : ThL k B ds) : Th (k + 1) (B + 3) (.tup ds) := by
  refine ⟨by unfold D.ok; exact h.o, by unfold gdD; exact h.g, ?_, ?_⟩
  · unfold D.dep; have := h.p; omega
  · unfold D.shW; have := h.w; omega
theorem Th.shows (h : Th k B d) (hk : k ≤ 60) (hb : B ≤ 10000000) : okS d = true := by
  unfold okS
  rw [h.o, decide_eq_true (Nat.le_trans h.p hk), decide_eq_true (Nat.le_trans h.w hb)]
  rfl
end
/-- == of lists of numbers -/
theorem eqvAll_ints : ∀ xs ys : List Int, PyData.eqvAll (D.pyL (xs.map .int)) (D.pyL (ys.map .int)) = decide (xs = ys)
  | [], [] => rfl
  | [], _ :: _ => by simp [D.pyL, PyData.eqvAll]
  | _ :: _, [] => by simp [D.pyL, PyData.eqvAll]
  | x :: xs, y :: ys => by
    show ((x == y) && PyData.eqvAll (D.pyL (xs.map .int)) (D.pyL (ys.map .int))) = _
    rw [eqvAll_ints xs ys]
    by_cases h : x = y <;> by_cases g : xs = ys <;> simp [h, g]
theorem ints_ck (xs : List Int) : dOk (.lst (xs.map .int)) := ⟨by show D.okL _ = true; exact okL_map fun _ _ => rfl, by show D.depL _ + 1 ≤ 60; have := depL_map (xs := xs) (f := D.int) (k := 0) fun x _ => Nat.le_refl _; omega⟩
theorem fNe_ints {xs ys : List Int} {Φ : Bool → Prop} (q : Φ (!decide (xs = ys))) : ex (fNe (.lst (xs.map .int)) (.lst (ys.map .int))) Φ := by
  rw [fNe_lst (ints_ck xs) (ints_ck ys)]
  show Φ (!PyData.eqvAll (D.pyL (xs.map .int)) (D.pyL (ys.map .int)))
  rw [eqvAll_ints]; exact q
def wSet : Tx := [115, 101, 116]
def wAdd : Tx := [97, 100, 100]
def wTake : Tx := [116, 97, 107, 101]
def wTell : Tx := [116, 101, 108, 108]
def wAsk : Tx := [97, 115, 107]
def wStop : Tx := [115, 116, 111, 112]
def wJump : Tx := [106, 117, 109, 112]
def wZero : Tx := [122, 101, 114, 111]
/-- rows of a program -/
inductive PRow where
  | set (s n : Nat) | two (w : Bool) (s t : Nat) | one (w : Bool) (s : Nat) | stop | jump (a : Nat) | zero (s a : Nat)
def spB (s : Nat) : Prop := 97 ≤ s ∧ s ≤ 100
def PRow.ok (m : Nat) : PRow → Prop
  | .set s n => spB s ∧ n ≤ 255
  | .two _ s t => spB s ∧ spB t
  | .one _ s => spB s
  | .stop => True
  | .jump a => a ≤ m
  | .zero s a => spB s ∧ a ≤ m
def wTwo (w : Bool) : Tx := if w then wTake else wAdd
def wOne (w : Bool) : Tx := if w then wAsk else wTell
def PRow.d : PRow → D
  | .set s n => .tup [.str wSet, .str [s], .int n]
  | .two w s t => .tup [.str (wTwo w), .str [s], .str [t]]
  | .one w s => .tup [.str (wOne w), .str [s]]
  | .stop => .tup [.str wStop]
  | .jump a => .tup [.str wJump, .int a]
  | .zero s a => .tup [.str wZero, .str [s], .int a]
def progD (rs : List PRow) : D := .lst (rs.map PRow.d)
def natsD (xs : List Nat) : List D := xs.map fun x => .int (x : Nat)
def wFarJ : Tx := [102, 97, 114, 106, 117, 109, 112]
def wFarZ : Tx := [102, 97, 114, 122, 101, 114, 111]
def wSkip : Tx := [115, 107, 105, 112]
/-- bare rows -/
inductive BRow where
  | set (s n : Nat) | two (w : Bool) (s t : Nat) | one (w : Bool) (s : Nat) | stop | skip (m : Nat) | jmp (f : Bool) (x : Int) | zer (f : Bool) (s : Nat) (x : Int)
def wJmp (f : Bool) : Tx := if f then wFarJ else wJump
def wZer (f : Bool) : Tx := if f then wFarZ else wZero
def BRow.d : BRow → D
  | .set s n => .tup [.str wSet, .str [s], .int n]
  | .two w s t => .tup [.str (wTwo w), .str [s], .str [t]]
  | .one w s => .tup [.str (wOne w), .str [s]]
  | .stop => .tup [.str wStop]
  | .skip m => .tup [.str wSkip, .int m]
  | .jmp f x => .tup [.str (wJmp f), .int x]
  | .zer f s x => .tup [.str (wZer f), .str [s], .int x]
def BRow.ok : BRow → Prop
  | .set s n => spB s ∧ n ≤ 255
  | .two _ s t => spB s ∧ spB t
  | .one _ s => spB s
  | .stop => True
  | .skip m => m ≤ 7
  | .jmp _ x => -100000 ≤ x ∧ x ≤ 100000
  | .zer _ s x => spB s ∧ -100000 ≤ x ∧ x ≤ 100000
/-- a row as a bare one -/
def PRow.toB (r : PRow) (f : Bool) (x : Int) : BRow := match r with
  | .set s n => .set s n
  | .two w s t => .two w s t
  | .one w s => .one w s
  | .stop => .stop
  | .jump _ => .jmp f x
  | .zero s _ => .zer f s x
theorem Bx.mono {n m : Nat} {fs : List (Tx × T1)} (h : Bx n fs) (hm : m ≤ n) : Bx m fs := by
  obtain ⟨cs, t, e, h1, h2, h3⟩ := h
  exact ⟨cs, t, e, h1, h2, by omega⟩
theorem cut63 {α : Type} (xs : List α) : cutD xs none (some 63) = xs.take 63 := by
  unfold cutD
  rw [show HT.sIx xs.length 0 none = 0 from rfl, List.drop_zero, Nat.sub_zero]
  simp only [HT.sIx]
  rw [if_neg (by decide)]
  rcases Nat.le_total xs.length 63 with h | h
  · rw [List.take_of_length_le (by omega), List.take_of_length_le h]
  · congr 1; omega
theorem begin_ok {ns : List Int} {Φ : T → Od.Env → Prop} {Ψ : Exn → Od.Env → Prop} (hl : ns.length ≤ 63) (q : ∀ fs, Bx 900000000 fs → Φ (.rcd fs) [none]) : satO (f__law_begin [T.sh (.rol (ns.map .int))]) Φ Ψ := by
  simp only [f__law_begin, B__law_begin]
  sizeOf_list_dec
  rw [cut63, ← List.map_take]
  refine ⟨rfl, by decide, fEq_nil (dOk_lst (k := 0) (fun _ _ => rfl) (fun _ _ => Nat.zero_le _) (by decide)) ⟨fun h => ⟨by decide, by decide, ?_⟩, fun h => ⟨by decide, ?_⟩⟩⟩
  · exact q _ ⟨[11], 0, rfl, by simp, by omega, by omega⟩
  · refine q _ ⟨ns.take 63, 0, rfl, fun z => ?_, by omega, by omega⟩
    rw [z] at h
    cases h
theorem lmany_ok {n : Nat} {fs : Fs} {Φ : T → Od.Env → Prop} {Ψ : Exn → Od.Env → Prop} (hb : Bx n fs) (hn : 2 ≤ n) (q : ∀ (r : Nat) fs', r ≤ 40 → Bx (n - 2) fs' → Φ (.sh (.int (r : Nat))) [some (.rcd fs')]) : satO (f__law_many [T.rcd fs]) Φ Ψ := by
  simp only [f__law_many, B__law_many]
  sizeOf_list_dec
  refine ⟨rfl, rfl, take_ok hb (by omega) (by omega) (by omega) fun w fs1 w0 w1 hb1 => ?_⟩
  sizeOf_list_dec
  refine ⟨fun _ => ⟨rfl, take_ok hb1 (by omega) (by omega) (by omega) fun v fs2 v0 v1 hb2 => ?_⟩, fun _ => ⟨rfl, take_ok hb1 (by omega) (by omega) (by omega) fun v fs2 v0 v1 hb2 => ?_⟩⟩
  · obtain ⟨v, rfl⟩ := Int.eq_ofNat_of_zero_le v0
    sizeOf_list_dec
    rw [show (13 : Int) + (v : Int) = ((13 + v : Nat) : Int) by omega]
    exact q _ _ (by omega) (hb2.mono (by omega))
  · obtain ⟨v, rfl⟩ := Int.eq_ofNat_of_zero_le v0
    sizeOf_list_dec
    exact q _ _ (by omega) (hb2.mono (by omega))
/-! the law's drawn programs -/
theorem abcd_i {i : Int} (h0 : 0 ≤ i) (h1 : i < 4) {Φ : Nat → Prop} (q : ∀ c, spB c → Φ c) : ex (atI [97, 98, 99, 100] i) Φ := by
  refine atI_ok h0 (by simpa using h1) fun c hc => q c ?_
  have := List.mem_of_getElem? hc
  simp only [List.mem_cons, List.not_mem_nil, or_false] at this
  unfold spB
  omega
theorem two_at {a b : D} {i : Int} (h0 : 0 ≤ i) (h1 : i < 2) {Φ : D → Prop} (qa : Φ a) (qb : Φ b) : ex (atI [a, b] i) Φ := by
  refine atI_ok h0 (by simpa using h1) fun c hc => ?_
  have := List.mem_of_getElem? hc
  simp only [List.mem_cons, List.not_mem_nil, or_false] at this
  rcases this with rfl | rfl
  · exact qa
  · exact qb
theorem lprog_ok {n m : Nat} {fs : Fs} {Φ : T → Od.Env → Prop} {Ψ : Exn → Od.Env → Prop} (hb : Bx n fs) (hn : 10 * m ≤ n) (hm : m ≤ 1000) (q : ∀ (rs : List PRow) fs', rs.length = m → (∀ r ∈ rs, r.ok m) → Bx (n - 10 * m) fs' → Φ (.lst (rs.map PRow.d)) [some (.rcd fs'), none]) : satO (f__law_program [T.rcd fs, .sh (.int (m : Nat))]) Φ Ψ := by
  simp only [f__law_program, B__law_program]
  sizeOf_list_dec
  obtain ⟨xs, hxs⟩ : ∃ xs, xs = rngD 0 (m : Int).toNat := ⟨_, rfl⟩
  have hxl : xs.length = m := by rw [hxs, rngD_len]; omega
  rw [← hxs]
  refine ⟨rfl, by decide, okI_of (by omega) (by omega), ?_⟩
  refine for_inv (fun i ρ => ∃ (fs : Fs) (rs : List PRow), ρ = [some (T.rcd fs), some (T.sh (.int (m : Nat))), some (T.lst (rs.map PRow.d)), none, none, none, none, none] ∧ rs.length = i ∧ (∀ r ∈ rs, r.ok m) ∧ Bx (n - 10 * i) fs) ⟨fs, [], rfl, rfl, fun _ h => (by cases h), by simpa using hb⟩ ?_ ?_
  · rintro i x ρ hx ⟨fs, rs, rfl, hl, hr, hb⟩
    have hp : i < m := by rw [← hxl]; exact (List.getElem?_eq_some_iff.mp hx).1
    have hxi : x = .int (i : Nat) := by rw [hxs] at hx; rw [rngD_get hx, Int.zero_add]
    subst hxi
    have app : ∀ r : PRow, rs.map PRow.d ++ [r.d] = (rs ++ [r]).map PRow.d := fun r => by rw [List.map_append]; rfl
    have allok : ∀ r : PRow, r.ok m → ∀ r' ∈ rs ++ [r], r'.ok m := fun r h r' h' => by
      rcases List.mem_append.mp h' with h' | h'
      · exact hr r' h'
      · rw [List.mem_singleton.mp h']; exact h
    array_mem_dec
    refine seq_cut (fun ρ => ∃ (w : Int) (fs : Fs), 0 ≤ w ∧ w < 12 ∧ Bx (n - 10 * i - 1) fs ∧ ρ = [some (T.rcd fs), some (T.sh (.int (m : Nat))), some (T.lst (rs.map PRow.d)), some (T.sh (.int (i : Nat))), some (T.sh (.int w)), none, none, none]) ?_ ?_
    · sizeOf_list_dec
      refine ⟨rfl, take_ok hb (by omega) (by omega) (by omega) fun w fs w0 w1 hb => ?_⟩
      sizeOf_list_dec
      exact ⟨w, fs, w0, w1, hb.mono (by omega), rfl⟩
    rintro ρ ⟨w, fs, w0, w1, hb, rfl⟩
    refine seq_cut (fun ρ => ∃ (s : Nat) (fs : Fs), spB s ∧ Bx (n - 10 * i - 2) fs ∧ ρ = [some (T.rcd fs), some (T.sh (.int (m : Nat))), some (T.lst (rs.map PRow.d)), some (T.sh (.int (i : Nat))), some (T.sh (.int w)), some (T.sh (.str [s])), none, none]) ?_ ?_
    · sizeOf_list_dec
      refine ⟨rfl, take_ok hb (by omega) (by omega) (by omega) fun v fs v0 v1 hb => ?_⟩
      sizeOf_list_dec
      refine ⟨by decide, abcd_i v0 v1 fun s hs => ?_⟩
      exact ⟨s, fs, hs, hb.mono (by omega), rfl⟩
    rintro ρ ⟨s, fs, hs, hb, rfl⟩
    refine seq_cut (fun ρ => ∃ (t : Nat) (fs : Fs), spB t ∧ Bx (n - 10 * i - 3) fs ∧ ρ = [some (T.rcd fs), some (T.sh (.int (m : Nat))), some (T.lst (rs.map PRow.d)), some (T.sh (.int (i : Nat))), some (T.sh (.int w)), some (T.sh (.str [s])), some (T.sh (.str [t])), none]) ?_ ?_
    · sizeOf_list_dec
      refine ⟨rfl, take_ok hb (by omega) (by omega) (by omega) fun v fs v0 v1 hb => ?_⟩
      sizeOf_list_dec
      refine ⟨by decide, abcd_i v0 v1 fun s hs => ?_⟩
      exact ⟨s, fs, hs, hb.mono (by omega), rfl⟩
    rintro ρ ⟨t, fs, ht, hb, rfl⟩
    refine seq_cut (fun ρ => ∃ (a : Nat) (fs : Fs), a ≤ m ∧ Bx (n - 10 * i - 6) fs ∧ ρ = [some (T.rcd fs), some (T.sh (.int (m : Nat))), some (T.lst (rs.map PRow.d)), some (T.sh (.int (i : Nat))), some (T.sh (.int w)), some (T.sh (.str [s])), some (T.sh (.str [t])), some (T.sh (.int (a : Nat)))]) ?_ ?_
    · sizeOf_list_dec
      refine ⟨rfl, take_ok hb (by omega) (by omega) (by omega) fun v fs v0 v1 hb => ?_⟩
      sizeOf_list_dec
      obtain ⟨v, rfl⟩ := Int.eq_ofNat_of_zero_le v0
      refine ⟨rfl, take_ok hb (by omega) (by omega) (by omega) fun u fs u0 u1 hb => ?_⟩
      sizeOf_list_dec
      refine ⟨by simp, rfl, take_ok hb (by omega) (by omega) (by omega) fun z fs z0 z1 hb => ?_⟩
      sizeOf_list_dec
      obtain ⟨u, rfl⟩ := Int.eq_ofNat_of_zero_le u0
      refine two_at z0 z1 ⟨v, fs, by omega, hb.mono (by omega), rfl⟩ ?_
      have e : min (m : Int) (max 0 ((i : Int) - 3 + (u : Int))) = ((min m (i + u - 3) : Nat) : Int) := by omega
      rw [e]
      exact ⟨min m (i + u - 3), fs, Nat.min_le_left _ _, hb.mono (by omega), rfl⟩
    rintro ρ ⟨a, fs, ha, hb, rfl⟩
    have fin : ∀ (r : PRow) (fs : Fs), r.ok m → Bx (n - 10 * (i + 1)) fs → ∃ (fs_1 : Fs) (rs_1 : List PRow), [some (T.rcd fs), some (T.sh (D.int (m : Nat))), some (T.lst (rs.map PRow.d ++ [r.d])), none, none, none, none, none] = [some (T.rcd fs_1), some (T.sh (D.int (m : Nat))), some (T.lst (rs_1.map PRow.d)), none, none, none, none, none] ∧ rs_1.length = i + 1 ∧ (∀ r ∈ rs_1, r.ok m) ∧ Bx (n - 10 * (i + 1)) fs_1 := fun r fs h1 h2 => ⟨fs, rs ++ [r], by rw [app], by rw [List.length_append, hl]; rfl, allok r h1, h2⟩
    have hrl : (rs.map PRow.d).length < 1000000 := by rw [List.length_map]; omega
    sizeOf_list_dec
    refine ⟨fun h3 => ⟨rfl, take_ok hb (by omega) (by omega) (by omega) fun v fs v0 v1 hb => ?_⟩, fun h3 => ⟨fun h5 => ⟨by simp, ?_⟩, fun h5 => ⟨fun h8 => ⟨by simp, ?_⟩, fun h8 => ⟨fun _ => ⟨rfl, take_ok hb (by omega) (by omega) (by omega) fun z fs z0 z1 hb => ?_⟩, fun _ => ?_⟩⟩⟩⟩
    · sizeOf_list_dec
      refine ⟨rfl, take_ok hb (by omega) (by omega) (by omega) fun u fs u0 u1 hb => ?_⟩
      sizeOf_list_dec
      refine ⟨by simp, rfl, take_ok hb (by omega) (by omega) (by omega) fun z fs z0 z1 hb => ?_⟩
      sizeOf_list_dec
      obtain ⟨v, rfl⟩ := Int.eq_ofNat_of_zero_le v0
      obtain ⟨u, rfl⟩ := Int.eq_ofNat_of_zero_le u0
      refine two_at z0 z1 ⟨by simp, hrl, ?_⟩ ⟨by simp, hrl, ?_⟩
      · exact fin (.set s v) fs ⟨hs, by omega⟩ (hb.mono (by omega))
      · exact fin (.set s u) fs ⟨hs, by omega⟩ (hb.mono (by omega))
    · rcases (by omega : w = 3 ∨ w = 4) with rfl | rfl
      · rw [show (3 : Int) - 3 = 0 from rfl, k_at0]
        exact ⟨by simp, hrl, fin (.two false s t) fs ⟨hs, ht⟩ (hb.mono (by omega))⟩
      · rw [show (4 : Int) - 3 = 1 from rfl, k_at1]
        exact ⟨by simp, hrl, fin (.two true s t) fs ⟨hs, ht⟩ (hb.mono (by omega))⟩
    · rcases (by omega : w = 5 ∨ w = 6 ∨ w = 7) with rfl | rfl | rfl
      · rw [show (5 : Int) - 5 = 0 from rfl, k_at0]
        exact ⟨by simp, hrl, fin (.one false s) fs hs (hb.mono (by omega))⟩
      · rw [show (6 : Int) - 5 = 1 from rfl, k_at1]
        exact ⟨by simp, hrl, fin (.one true s) fs hs (hb.mono (by omega))⟩
      · rw [show (7 : Int) - 5 = 2 from rfl, k_at2]
        exact ⟨by simp, hrl, fin (.one false s) fs hs (hb.mono (by omega))⟩
    · sizeOf_list_dec
      exact ⟨fun _ => ⟨by simp, hrl, fin .stop fs trivial (hb.mono (by omega))⟩, fun _ => ⟨fun _ => ⟨by simp, hrl, fin (.zero s a) fs ⟨hs, ha⟩ (hb.mono (by omega))⟩, fun _ => ⟨by simp, hrl, fin (.jump a) fs ha (hb.mono (by omega))⟩⟩⟩
    · exact ⟨fun _ => ⟨by simp, hrl, fin (.zero s a) fs ⟨hs, ha⟩ (hb.mono (by omega))⟩, fun _ => ⟨by simp, hrl, fin (.jump a) fs ha (hb.mono (by omega))⟩⟩
  · rintro ρ ⟨fs, rs, rfl, hl, hr, hb⟩
    rw [hxl] at hl hb
    sizeOf_list_dec
    exact q rs fs hl hr hb
/-! a machine that runs rows -/
structure Ws where
  nums : List Nat
  giv : List Int
  tak : Nat
  told : List Nat
structure Ws.ok (w : Ws) : Prop where
  n : w.nums.length = 4
  b : ∀ x ∈ w.nums, x < 256
  t : w.tak ≤ w.giv.length
  g : w.giv.length ≤ 1000
  l : w.told.length ≤ 100000
def wkW : Tx := [87, 111, 114, 107, 115]
def wsF (w : Ws) : List (Tx × T1) := [([110, 117, 109, 98, 101, 114, 115], .lst (natsD w.nums)), ([103, 105, 118, 101, 110], .lst (w.giv.map .int)), ([116, 97, 107, 101, 110], .sh (.int (w.tak : Nat))), ([116, 111, 108, 100], .lst (natsD w.told))]
def wsT (w : Ws) : T := .ins wkW (wsF w)
def Ws.num (w : Ws) (s : Nat) : Nat := w.nums.getD (s - 97) 0
def Ws.put (w : Ws) (s : Nat) (x : Int) : Ws := { w with nums := w.nums.set (s - 97) (x % 256).toNat }
def Ws.nextV (w : Ws) : Int := w.giv.getD w.tak 0
def Ws.next (w : Ws) : Ws := if w.tak = w.giv.length then w else { w with tak := w.tak + 1 }
def Ws.tell (w : Ws) (s : Nat) : Ws := { w with told := w.told ++ [w.num s] }
def Ws.work (w : Ws) : BRow → Ws
  | .set s n => w.put s (n : Nat)
  | .two t s u => if t then w.put s ((w.num s : Int) - w.num u) else w.put s ((w.num s : Int) + w.num u)
  | .one t s => if t then w.next.put s w.nextV else w.tell s
  | _ => w
theorem Ws.put_ok {w : Ws} (h : w.ok) (s : Nat) (x : Int) : (w.put s x).ok := by
  refine ⟨by show (w.nums.set _ _).length = 4; rw [List.length_set]; exact h.n, fun y hy => ?_, h.t, h.g, h.l⟩
  rcases List.mem_or_eq_of_mem_set hy with z | z
  · exact h.b y z
  · rw [z]; omega
theorem Ws.next_ok {w : Ws} (h : w.ok) : w.next.ok := by
  unfold Ws.next
  split
  · exact h
  · exact ⟨h.n, h.b, by have := h.t; show w.tak + 1 ≤ w.giv.length; omega, h.g, h.l⟩
theorem Ws.num_lt {w : Ws} (h : w.ok) (s : Nat) : w.num s < 256 := by
  unfold Ws.num
  rw [List.getD_eq_getElem?_getD]
  cases e : w.nums[s - 97]? with
  | none => decide
  | some x => exact h.b x (List.mem_of_getElem? e)
theorem spot_ix {s : Nat} (h : spB s) : Txt.index0 (sT [97, 98, 99, 100]) (sT [s]) = some (s - 97) := by
  obtain ⟨a, b⟩ := h
  rcases (by omega : s = 97 ∨ s = 98 ∨ s = 99 ∨ s = 100) with rfl | rfl | rfl | rfl <;> decide +kernel
theorem spot_lt {s : Nat} (h : spB s) : s - 97 < 4 := by obtain ⟨a, b⟩ := h; omega
theorem num_at {w : Ws} (h : w.ok) {s : Nat} (hs : spB s) {Φ : D → Prop} (q : Φ (.int (w.num s : Nat))) : ex (atI (natsD w.nums) ((s - 97 : Nat) : Int)) Φ := by
  have hl : s - 97 < w.nums.length := by rw [h.n]; exact spot_lt hs
  have e := List.getElem?_eq_getElem hl
  have e0 : w.num s = w.nums[s - 97] := by unfold Ws.num; rw [List.getD_eq_getElem?_getD, e]; rfl
  rw [atI_k (x := D.int (w.num s : Nat)) (s - 97) rfl (by unfold natsD; rw [List.getElem?_map, e, e0]; rfl), ex_some]
  exact q
section
variable {w : Ws} {Φ : D → Prop} {ΦL : List D → Prop}
theorem gD_nums : ex (getD1 (wsF w) [110, 117, 109, 98, 101, 114, 115]) Φ = Φ (.lst (natsD w.nums)) := rfl
theorem gD_giv : ex (getD1 (wsF w) [103, 105, 118, 101, 110]) Φ = Φ (.lst (w.giv.map .int)) := rfl
theorem gD_tak : ex (getD1 (wsF w) [116, 97, 107, 101, 110]) Φ = Φ (.int (w.tak : Nat)) := rfl
theorem gD_told : ex (getD1 (wsF w) [116, 111, 108, 100]) Φ = Φ (.lst (natsD w.told)) := rfl
theorem gS_tak : ex (getS (wsF w) [116, 97, 107, 101, 110]) Φ = Φ (.int (w.tak : Nat)) := rfl
theorem gL_nums : ex (getL1 (wsF w) [110, 117, 109, 98, 101, 114, 115]) ΦL = ΦL (natsD w.nums) := rfl
theorem gL_told : ex (getL1 (wsF w) [116, 111, 108, 100]) ΦL = ΦL (natsD w.told) := rfl
theorem sF_nums (ns : List Nat) : setF (wsF w) [110, 117, 109, 98, 101, 114, 115] (.lst (natsD ns)) = wsF { w with nums := ns } := rfl
theorem sF_told (ns : List Nat) : setF (wsF w) [116, 111, 108, 100] (.lst (natsD ns)) = wsF { w with told := ns } := rfl
theorem pT_tak : putT (wsF w) [116, 97, 107, 101, 110] (.sh (.int ((w.tak : Int) + 1))) = wsF { w with tak := w.tak + 1 } := rfl
end
theorem natsD_set (xs : List Nat) (i : Nat) (x : Int) : (natsD xs).set i (.int (x % 256)) = natsD (xs.set i (x % 256).toNat) := by
  unfold natsD
  rw [List.map_set]
  have : ((x % 256).toNat : Int) = x % 256 := by omega
  rw [this]
theorem deep_nats : ∀ xs : List Nat, deepL (natsD xs) = true
  | [] => rfl
  | x :: xs => by
    have := deep_nats xs
    unfold natsD at this ⊢
    rw [List.map_cons]
    unfold deepL
    rw [this]; rfl
theorem numin_ok {w : Ws} {s : Nat} {Φ : T → Od.Env → Prop} {Ψ : Exn → Od.Env → Prop} (h : w.ok) (hs : spB s) (q : Φ (.sh (.int (w.num s : Nat))) [some (wsT w), none]) : satO (f_Works__number_in [wsT w, .sh (.str [s])]) Φ Ψ := by
  simp only [f_Works__number_in, B_Works__number_in]
  unfold wsT wkW at *
  sizeOf_list_dec
  (repeat (refine And.intro ?_ ?_; focus (first | exact rfl | (simp; done)))); refine ?_
  rw [gD_nums, spot_ix hs, ex_some]
  sizeOf_list_dec
  refine num_at h hs ?_
  sizeOf_list_dec
  exact q
theorem putin_ok {w : Ws} {s : Nat} {x : Int} {Φ : T → Od.Env → Prop} {Ψ : Exn → Od.Env → Prop} (h : w.ok) (hs : spB s) (q : Φ (.sh .non) [some (wsT (w.put s x)), none, none]) : satO (f_Works__put_in [wsT w, .sh (.str [s]), .sh (.int x)]) Φ Ψ := by
  simp only [f_Works__put_in, B_Works__put_in]
  unfold wsT wkW at *
  sizeOf_list_dec
  refine ⟨rfl, by decide, ?_⟩
  rw [gL_nums, spot_ix hs, ex_some]
  have hl : s - 97 < (natsD w.nums).length := by unfold natsD; rw [List.length_map, h.n]; exact spot_lt hs
  refine ⟨⟨by omega, by omega⟩, ?_⟩
  rw [Int.toNat_natCast, natsD_set, sF_nums]
  exact q
theorem nextg_ok {w : Ws} {Φ : T → Od.Env → Prop} {Ψ : Exn → Od.Env → Prop} (h : w.ok) (q : Φ (.sh (.int w.nextV)) [some (wsT w.next)]) : satO (f_Works__next_given [wsT w]) Φ Ψ := by
  simp only [f_Works__next_given, B_Works__next_given]
  unfold wsT wkW at *
  sizeOf_list_dec
  refine ⟨rfl, ?_⟩
  rw [gD_tak, gD_giv]
  sizeOf_list_dec
  rw [List.length_map]
  have ht := h.t
  refine ⟨fun e => ?_, fun e => ?_⟩
  · have e : w.tak = w.giv.length := by omega
    have h1 : w.next = w := by unfold Ws.next; rw [if_pos e]
    have h2 : w.nextV = 0 := by unfold Ws.nextV; rw [List.getD_eq_getElem?_getD, List.getElem?_eq_none (by omega)]; rfl
    rw [h1, h2] at q
    exact q
  · have e : ¬ w.tak = w.giv.length := by omega
    have h1 : w.next = { w with tak := w.tak + 1 } := by unfold Ws.next; rw [if_neg e]
    have hg := List.getElem?_eq_getElem (show w.tak < w.giv.length by omega)
    have h2 : w.nextV = w.giv[w.tak] := by unfold Ws.nextV; rw [List.getD_eq_getElem?_getD, hg]; rfl
    rw [h1] at q
    rw [gS_tak]
    sizeOf_list_dec
    refine ⟨by show 4 < 900; decide, ?_⟩
    rw [pT_tak, gD_giv, gD_tak]
    sizeOf_list_dec
    rw [atI_k (x := D.int w.nextV) w.tak (by show (((w.tak + 1 : Nat) : Int) - 1) = _; omega) (by rw [List.getElem?_map, h2]; show ({ w with tak := w.tak + 1 } : Ws).giv[w.tak]?.map _ = _; rw [hg]; rfl), ex_some]
    sizeOf_list_dec
    exact q
theorem Ws.work_ok {w : Ws} (h : w.ok) (b : BRow) (hl : w.told.length < 100000) : (w.work b).ok := by
  cases b with
  | set s n => exact Ws.put_ok h _ _
  | two t s u => show (if t then _ else _ : Ws).ok; split <;> exact Ws.put_ok h _ _
  | one t s =>
    show (if t then _ else _ : Ws).ok
    split
    · exact Ws.put_ok (Ws.next_ok h) _ _
    · refine ⟨h.n, h.b, h.t, h.g, ?_⟩
      show (w.told ++ [w.num s]).length ≤ 100000
      rw [List.length_append, List.length_singleton]; omega
  | _ => exact h
theorem ins_ws {w : Ws} {ρ : Od.Env} {Φ : List (Tx × T1) → Prop} : ex (insOf (some (wsT w) :: ρ) 0 [87, 111, 114, 107, 115]) Φ = Φ (wsF w) := k_ins0 _
theorem insL_told {w : Ws} {ρ : Od.Env} {Φ : List (Tx × T1) × List D → Prop} : ex (insL (some (wsT w) :: ρ) 0 [87, 111, 114, 107, 115] [116, 111, 108, 100]) Φ = Φ (wsF w, natsD w.told) := by
  unfold wsT wkW
  rw [k_insL0, gL_told]
/-- the machine, lent -/
def wsD (w : Ws) : D := .obj [87, 111, 114, 107, 115] ((wsF w).map Prod.fst) ((wsF w).map fun p => d1 p.2)
theorem frz_ws {w : Ws} {Φ : Option T → Prop} : cps (frzO3 (some (wsT w))) Φ = Φ (some (.sh (wsD w))) := rfl
theorem numinS_ok {w : Ws} {s : Nat} {Φ : T → Od.Env → Prop} {Ψ : Exn → Od.Env → Prop} (h : w.ok) (hs : spB s) (q : Φ (.sh (.int (w.num s : Nat))) [some (.sh (wsD w)), none]) : satO (f_Works__number_in [.sh (wsD w), .sh (.str [s])]) Φ Ψ := by
  simp only [f_Works__number_in, B_Works__number_in]
  unfold wsD at *
  sizeOf_list_dec
  (repeat (refine And.intro ?_ ?_; focus (first | exact rfl | (simp; done)))); refine ?_
  rw [gD_nums, spot_ix hs, ex_some]
  sizeOf_list_dec
  refine num_at h hs ?_
  sizeOf_list_dec
  exact q
/-- a row that is work -/
def wrkB : BRow → Bool
  | .set _ _ => true
  | .two _ _ _ => true
  | .one _ _ => true
  | _ => false
theorem works_ok {w : Ws} {b : BRow} {Φ : T → Od.Env → Prop} {Ψ : Exn → Od.Env → Prop} (h : w.ok) (hb : b.ok) (hw : wrkB b = true) (hl : w.told.length < 100000) (q : Φ (.sh .non) [some (wsT (w.work b)), none]) : satO (f_Works__work [wsT w, .sh b.d]) Φ Ψ := by
  simp only [f_Works__work, B_Works__work]
  cases b with
  | set s n =>
    simp only [BRow.d, wSet]
    simp_wf
    refine ⟨rfl, ?_⟩
    rw [ins_ws]
    refine ⟨rfl, rfl, putin_ok h hb.1 ?_⟩
    sizeOf_list_dec
    exact q
  | two t s u =>
    cases t with
    | true =>
      simp only [BRow.d, wTwo, wTake, if_true]
      simp_wf
      refine ⟨rfl, ?_⟩
      rw [ins_ws]
      refine ⟨rfl, rfl, ?_⟩
      rw [ins_ws]
      refine ⟨rfl, rfl, numin_ok h hb.1 ?_⟩
      sizeOf_list_dec
      rw [ins_ws]
      refine ⟨rfl, rfl, numin_ok h hb.2 ?_⟩
      sizeOf_list_dec
      refine putin_ok h hb.1 ?_
      sizeOf_list_dec
      exact q
    | false =>
      simp only [BRow.d, wTwo, wAdd, Bool.false_eq_true, if_false]
      simp_wf
      refine ⟨rfl, ?_⟩
      rw [ins_ws]
      refine ⟨rfl, rfl, ?_⟩
      rw [ins_ws]
      refine ⟨rfl, rfl, numin_ok h hb.1 ?_⟩
      sizeOf_list_dec
      rw [ins_ws]
      refine ⟨rfl, rfl, numin_ok h hb.2 ?_⟩
      sizeOf_list_dec
      refine putin_ok h hb.1 ?_
      sizeOf_list_dec
      exact q
  | one t s =>
    cases t with
    | true =>
      simp only [BRow.d, wOne, wAsk, if_true]
      simp_wf
      refine ⟨rfl, ?_⟩
      rw [ins_ws]
      refine ⟨rfl, rfl, ?_⟩
      rw [ins_ws]
      refine ⟨rfl, rfl, nextg_ok h ?_⟩
      sizeOf_list_dec
      refine putin_ok (Ws.next_ok h) hb ?_
      sizeOf_list_dec
      exact q
    | false =>
      simp only [BRow.d, wOne, wTell, Bool.false_eq_true, if_false]
      simp_wf
      refine ⟨rfl, ?_⟩
      rw [insL_told, frz_ws, s_eCallMS _ _ _ _ _ (h := rfl)]
      refine ⟨⟨rfl, by simp [wsF]⟩, ?_⟩
      sizeOf_list_dec
      refine ⟨rfl, numinS_ok h hb ?_⟩
      sizeOf_list_dec
      refine ⟨rfl, by unfold natsD; rw [List.length_map]; omega, ?_⟩
      have e : natsD w.told ++ [D.int (w.num s : Nat)] = natsD (w.told ++ [w.num s]) := by unfold natsD; rw [List.map_append]; rfl
      rw [e, sF_told]
      exact q
  | _ => cases hw
/-! a program run by rows -/
def stpR (r : PRow) (w : Ws) (a : Nat) : Ws × Nat := match r with
  | .jump g => (w, g)
  | .zero s g => if w.num s = 0 then (w, g) else (w, a + 1)
  | .stop => (w, a)
  | r => (w.work (r.toB false 0), a + 1)
def stB (rs : List PRow) (a : Nat) : Bool := match rs[a]? with
  | none => true
  | some .stop => true
  | _ => false
def stp (rs : List PRow) (w : Ws) (a : Nat) : Ws × Nat := stpR (rs.getD a .stop) w a
/-- so many steps: the machine, whether it has ended, the row -/
def runM (rs : List PRow) : Nat → Ws → Nat → Ws × Bool × Nat
  | 0, w, a => (w, decide (a = rs.length), a)
  | n + 1, w, a => if stB rs a = true then (w, true, a) else runM rs n (stp rs w a).1 (stp rs w a).2
def howT (b : Bool) : Tx := if b then [115, 116, 111, 112, 112, 101, 100] else [103, 111, 105, 110, 103]
def stD (w : Ws) (b : Bool) (p : Nat) : D := .tup [.lst (natsD w.told), .str (howT b), .tup (natsD w.nums), .int (p : Nat)]
def ws0 (gs : List Int) : Ws := ⟨[0, 0, 0, 0], gs, 0, []⟩
theorem ws0_ok {gs : List Int} (h : gs.length ≤ 1000) : (ws0 gs).ok := ⟨rfl, (fun x hx => by simp [ws0] at hx; omega), Nat.zero_le _, h, Nat.zero_le _⟩
theorem winit_ok {gs : List Int} {Φ : T → Od.Env → Prop} {Ψ : Exn → Od.Env → Prop} (q : Φ (.sh .non) [some (wsT (ws0 gs)), none]) : satO (f_Works____init__ [T.ins wkW [], .sh (.lst (gs.map .int))]) Φ Ψ := by
  simp only [f_Works____init__, B_Works____init__]
  unfold wkW
  sizeOf_list_dec
  exact ⟨rfl, by decide, by decide, ⟨by decide, by decide, by decide⟩, by decide, show 1 < 900 by decide, show 2 < 900 by decide, by decide, show 3 < 900 by decide, q⟩
theorem told_le {w : Ws} (r : PRow) (a : Nat) : (stpR r w a).1.told.length ≤ w.told.length + 1 := by
  cases r with
  | set s n => show (w.put s _).told.length ≤ _; exact Nat.le_succ _
  | two t s u => show (if t then w.put s _ else w.put s _ : Ws).told.length ≤ _; split <;> exact Nat.le_succ _
  | one t s =>
    show (if t then w.next.put s w.nextV else w.tell s : Ws).told.length ≤ _
    split
    · show w.next.told.length ≤ _
      unfold Ws.next
      split <;> exact Nat.le_succ _
    · show (w.told ++ [w.num s]).length ≤ _
      rw [List.length_append]; exact Nat.le_refl _
  | stop => exact Nat.le_succ _
  | jump g => exact Nat.le_succ _
  | zero s g =>
    show (if w.num s = 0 then (w, g) else (w, a + 1) : Ws × Nat).1.told.length ≤ _
    split <;> exact Nat.le_succ _
theorem stpR_ok {w : Ws} {r : PRow} {a : Nat} (h : w.ok) (hl : w.told.length < 100000) : (stpR r w a).1.ok := by
  cases r with
  | set s n => exact Ws.work_ok h (.set s n) hl
  | two t s u => exact Ws.work_ok h (.two t s u) hl
  | one t s => exact Ws.work_ok h (.one t s) hl
  | stop => exact h
  | jump g => exact h
  | zero s g =>
    show (if w.num s = 0 then (w, g) else (w, a + 1) : Ws × Nat).1.ok
    split <;> exact h
theorem stpR_le {w : Ws} {r : PRow} {a m : Nat} (hr : r.ok m) (ha : a < m) : (stpR r w a).2 ≤ m := by
  cases r with
  | jump g => exact hr
  | zero s g =>
    show (if w.num s = 0 then (w, g) else (w, a + 1) : Ws × Nat).2 ≤ m
    split
    · exact hr.2
    · exact ha
  | stop => exact Nat.le_of_lt ha
  | set s n => exact ha
  | two t s u => exact ha
  | one t s => exact ha
theorem stB_iff {rs : List PRow} {a : Nat} (ha : a ≤ rs.length) : (stB rs a = true ↔ a = rs.length ∨ rs[a]? = some .stop) := by
  unfold stB
  cases h : rs[a]? with
  | none =>
    have := List.getElem?_eq_none_iff.mp h
    exact ⟨fun _ => .inl (by omega), fun _ => rfl⟩
  | some r =>
    have := (List.getElem?_eq_some_iff.mp h).1
    cases r with
    | stop => exact ⟨fun _ => .inr rfl, fun _ => rfl⟩
    | _ => exact ⟨(fun z => by cases z), (fun z => by rcases z with z | z; exact absurd z (by omega); cases z)⟩
/-- what stands, as run_rows tells it: the told list is its own -/
abbrev stR (w : Ws) (b : Bool) (p : Nat) : T := .seq true [.lst (natsD w.told), .sh (.str (howT b)), .sh (.tup (natsD w.nums)), .sh (.int (p : Nat))]
theorem stand_ok {w : Ws} {how : Tx} {p : Int} {Φ : T → Od.Env → Prop} {Ψ : Exn → Od.Env → Prop} (h : w.ok) (q : Φ (.seq true [.lst (natsD w.told), .sh (.str how), .sh (.tup (natsD w.nums)), .sh (.int p)]) [some (wsT w), none, none]) : satO (f_Works__stand [wsT w, .sh (.str how), .sh (.int p)]) Φ Ψ := by
  simp only [f_Works__stand, B_Works__stand]
  unfold wsT wkW at *
  sizeOf_list_dec
  refine ⟨rfl, ?_⟩
  rw [gD_told]
  sizeOf_list_dec
  refine ⟨deep_nats _, ?_⟩
  rw [gD_nums]
  sizeOf_list_dec
  trace_state
  refine ⟨?_, by simp, q⟩
  show deepD (.tup (natsD w.nums)) = true
  unfold deepD
  exact deep_nats _
theorem place_ok {w : Ws} {r : PRow} {a m : Nat} {Φ : T → Od.Env → Prop} {Ψ : Exn → Od.Env → Prop} (h : w.ok) (hr : r.ok m) (hs : r ≠ .stop) (hl : w.told.length < 100000)
    (q : Φ (.sh (.int ((stpR r w a).2 : Nat))) [some (wsT (stpR r w a).1), none, none]) : satO (f_place_behind [wsT w, .sh r.d, .sh (.int (a : Nat))]) Φ Ψ := by
  simp only [f_place_behind, B_place_behind]
  have ea : ((a : Nat) : Int) + 1 = ((a + 1 : Nat) : Int) := by omega
  cases r with
  | set s n =>
    simp only [PRow.d, wSet]
    simp_wf
    rw [ins_ws]
    refine ⟨rfl, rfl, rfl, works_ok (b := .set s n) h hr rfl hl ?_⟩
    sizeOf_list_dec
    rw [ea]
    exact q
  | two t s u =>
    cases t with
    | true =>
      simp only [PRow.d, wTwo, wTake, if_true]
      simp_wf
      rw [ins_ws]
      refine ⟨rfl, rfl, rfl, works_ok (b := .two true s u) h hr rfl hl ?_⟩
      sizeOf_list_dec
      rw [ea]
      exact q
    | false =>
      simp only [PRow.d, wTwo, wAdd, Bool.false_eq_true, if_false]
      simp_wf
      rw [ins_ws]
      refine ⟨rfl, rfl, rfl, works_ok (b := .two false s u) h hr rfl hl ?_⟩
      sizeOf_list_dec
      rw [ea]
      exact q
  | one t s =>
    cases t with
    | true =>
      simp only [PRow.d, wOne, wAsk, if_true]
      simp_wf
      rw [ins_ws]
      refine ⟨rfl, rfl, rfl, works_ok (b := .one true s) h hr rfl hl ?_⟩
      sizeOf_list_dec
      rw [ea]
      exact q
    | false =>
      simp only [PRow.d, wOne, wTell, Bool.false_eq_true, if_false]
      simp_wf
      rw [ins_ws]
      refine ⟨rfl, rfl, rfl, works_ok (b := .one false s) h hr rfl hl ?_⟩
      sizeOf_list_dec
      rw [ea]
      exact q
  | stop => exact absurd rfl hs
  | jump g =>
    simp only [PRow.d, wJump]
    sizeOf_list_dec
    exact ⟨rfl, q, fun z => absurd trivial z⟩
  | zero s g =>
    simp only [PRow.d, wZero]
    simp_wf
    rw [ins_ws]
    refine ⟨rfl, rfl, rfl, numin_ok h hr.1 ?_⟩
    sizeOf_list_dec
    have e : stpR (.zero s g) w a = if w.num s = 0 then (w, g) else (w, a + 1) := rfl
    rw [e] at q
    refine ⟨fun z => ?_, fun z => ?_⟩
    · rw [if_pos (by omega)] at q; exact q
    · rw [if_neg (by omega)] at q; rw [ea]; exact q
theorem row0s (r : PRow) : ∃ w, fIdx r.d (.int 0) = some (.str w) ∧ (w = wStop ↔ r = .stop) := by
  cases r with
  | set s n => exact ⟨_, rfl, by simp [wSet, wStop]⟩
  | two w s t => cases w <;> exact ⟨_, rfl, by simp [wTwo, wAdd, wTake, wStop]⟩
  | one w s => cases w <;> exact ⟨_, rfl, by simp [wOne, wTell, wAsk, wStop]⟩
  | stop => exact ⟨_, rfl, by simp⟩
  | jump a => exact ⟨_, rfl, by simp [wJump, wStop]⟩
  | zero s a => exact ⟨_, rfl, by simp [wZero, wStop]⟩
theorem runrows_ok {rs : List PRow} {gs : List Int} {n : Nat} {Φ : T → Od.Env → Prop} {Ψ : Exn → Od.Env → Prop} (hr : ∀ r ∈ rs, r.ok rs.length) (hl : rs.length ≤ 1000) (hg : gs.length ≤ 1000) (hn : n ≤ 10000)
    (q : Φ (stR (runM rs n (ws0 gs) 0).1 (runM rs n (ws0 gs) 0).2.1 (runM rs n (ws0 gs) 0).2.2) [none, none, none]) : satO (f_run_rows [.sh (progD rs), .sh (.lst (gs.map .int)), .sh (.int (n : Nat))]) Φ Ψ := by
  simp only [f_run_rows, B_run_rows]
  obtain ⟨g0, hg0⟩ : ∃ d, d = D.lst (gs.map .int) := ⟨_, rfl⟩
  rw [← hg0]
  unfold progD
  array_mem_dec
  refine ⟨rfl, ?_⟩
  refine seq_cut (fun ρ => ρ = [some (T.sh (.lst (rs.map PRow.d))), some (T.sh g0), some (T.sh (.int (n : Nat))), some (wsT (ws0 gs)), none, none]) ?_ ?_
  · sizeOf_list_dec
    rw [hg0]
    refine winit_ok ?_
    unfold wsT wkW
    sizeOf_list_dec
  rintro ρ rfl
  refine seq_cut (fun ρ => ρ = [some (T.sh (.lst (rs.map PRow.d))), some (T.sh g0), some (T.sh (.int (n : Nat))), some (wsT (ws0 gs)), some (T.sh (.int ((0 : Nat) : Int))), none]) ?_ ?_
  · sizeOf_list_dec
    rfl
  rintro ρ rfl
  refine seq_cut (fun ρ => ∃ w a, w.ok ∧ a ≤ rs.length ∧ runM rs n (ws0 gs) 0 = runM rs 0 w a ∧ ρ = [some (T.sh (.lst (rs.map PRow.d))), some (T.sh g0), some (T.sh (.int (n : Nat))), some (wsT w), some (T.sh (.int (a : Nat))), none]) ?_ ?_
  · sizeOf_list_dec
    refine ⟨okI_of (by omega) (by omega), ?_⟩
    refine for_inv (fun i ρ => ∃ w a, w.ok ∧ a ≤ rs.length ∧ w.told.length ≤ i ∧ runM rs n (ws0 gs) 0 = runM rs (n - i) w a ∧ ρ = [some (T.sh (.lst (rs.map PRow.d))), some (T.sh g0), some (T.sh (.int (n : Nat))), some (wsT w), some (T.sh (.int (a : Nat))), none]) ⟨ws0 gs, 0, ws0_ok hg, Nat.zero_le _, Nat.le_refl _, rfl, rfl⟩ ?_ ?_
    · rintro i x ρ hx ⟨w, a, hw, ha, htl, he, rfl⟩
      have hi : i < n := by have := (List.getElem?_eq_some_iff.mp hx).1; rw [rngD_len] at this; omega
      have en : n - i = (n - (i + 1)) + 1 := by omega
      rw [en] at he
      have stop : stB rs a = true → Φ (stR w true a) [none, none, none] := fun z => by
        rw [he] at q
        have e : runM rs (n - (i + 1) + 1) w a = (w, true, a) := by unfold runM; rw [if_pos z]
        rw [e] at q
        exact q
      have iff := stB_iff ha
      sizeOf_list_dec
      rw [List.length_map]
      refine ⟨fun z => ?_, fun z => ?_⟩
      · rw [ins_ws]
        refine ⟨rfl, rfl, stand_ok hw ?_⟩
        sizeOf_list_dec
        exact stop (iff.mpr (.inl (by omega)))
      · have hal : a < rs.length := by omega
        obtain ⟨r, er⟩ : ∃ r, rs[a]? = some r := ⟨_, List.getElem?_eq_getElem hal⟩
        have hro := hr r (List.mem_of_getElem? er)
        obtain ⟨nm, e0, e1⟩ := row0s r
        simp only [atI_k (xs := rs.map PRow.d) (x := r.d) (i := ((a : Nat) : Int)) a rfl (by rw [List.getElem?_map, er]; rfl), ex_some, e0]
        sizeOf_list_dec
        refine ⟨fun z2 => ?_, fun z2 => ?_⟩
        · rw [ins_ws]
          refine ⟨rfl, rfl, stand_ok hw ?_⟩
          sizeOf_list_dec
          exact stop (iff.mpr (.inr (by rw [er, e1.mp z2])))
        · refine ⟨rfl, place_ok hw hro (fun z3 => z2 (e1.mpr z3)) (by omega) ?_⟩
          sizeOf_list_dec
          have ht := told_le (w := w) r a
          refine ⟨(stpR r w a).1, (stpR r w a).2, stpR_ok hw (by omega), stpR_le hro hal, by omega, ?_, rfl⟩
          rw [he]
          have hns : ¬ stB rs a = true := fun z3 => by
            rcases iff.mp z3 with z4 | z4
            · omega
            · rw [er] at z4; exact z2 (e1.mpr (Option.some.inj z4))
          have hst : stp rs w a = stpR r w a := by unfold stp; rw [List.getD_eq_getElem?_getD, er]; rfl
          conv => lhs; unfold runM
          rw [if_neg hns, hst]
    · rintro ρ ⟨w, a, hw, ha, htl, he, rfl⟩
      rw [rngD_len] at he
      refine ⟨w, a, hw, ha, ?_, rfl⟩
      rw [he]
      congr 1
      omega
  rintro ρ ⟨w, a, hw, ha, he, rfl⟩
  rw [he] at q
  sizeOf_list_dec
  rw [List.length_map]
  have he1 : runM rs 0 w a = (w, decide (a = rs.length), a) := rfl
  rw [he1] at q
  refine ⟨fun z => ?_, fun z => ?_⟩
  · rw [ins_ws]
    refine ⟨rfl, rfl, stand_ok hw ?_⟩
    sizeOf_list_dec
    rw [decide_eq_true (show a = rs.length by omega)] at q
    exact q
  · rw [ins_ws]
    refine ⟨rfl, rfl, stand_ok hw ?_⟩
    sizeOf_list_dec
    rw [decide_eq_false (show ¬ a = rs.length by omega)] at q
    exact q
/-! the law's own machine, a book -/
def bkF (w : Ws) : List (Tx × T1) := [([110, 117, 109, 98, 101, 114, 115], .lst (natsD w.nums)), ([103, 105, 118, 101, 110], .lst ((w.giv.drop w.tak).map .int)), ([116, 111, 108, 100], .lst (natsD w.told))]
def bkH (w : Ws) (l : Addr) : List (Tx × T1) := [([110, 117, 109, 98, 101, 114, 115], .sh (.adr l)), ([103, 105, 118, 101, 110], .lst ((w.giv.drop w.tak).map .int)), ([116, 111, 108, 100], .lst (natsD w.told))]
def bkD (w : Ws) : D := .dct [.inr [110, 117, 109, 98, 101, 114, 115], .inr [103, 105, 118, 101, 110], .inr [116, 111, 108, 100]] [.lst (natsD w.nums), .lst ((w.giv.drop w.tak).map .int), .lst (natsD w.told)]
def bkE (w : Ws) (l : Addr) : D := .dct [.inr [110, 117, 109, 98, 101, 114, 115], .inr [103, 105, 118, 101, 110], .inr [116, 111, 108, 100]] [.adr l, .lst ((w.giv.drop w.tak).map .int), .lst (natsD w.told)]
section
variable {w : Ws} {l : Addr} {Φ : D → Prop} {ΦO : Option T → Prop} {ΦL : List D → Prop}
theorem frz_bk : cps (frzO4 (some (.rcd (bkF w)))) ΦO = ΦO (some (.sh (bkD w))) := rfl
theorem frz_bh : cps (frzO4 (some (.rcd (bkH w l)))) ΦO = ΦO (some (.sh (bkE w l))) := rfl
theorem bx_num : ex (fIdx (bkD w) (.str [110, 117, 109, 98, 101, 114, 115])) Φ = Φ (.lst (natsD w.nums)) := rfl
theorem bx_told : ex (fIdx (bkD w) (.str [116, 111, 108, 100])) Φ = Φ (.lst (natsD w.told)) := rfl
theorem bx_giv : ex (fIdx (bkE w l) (.str [103, 105, 118, 101, 110])) Φ = Φ (.lst ((w.giv.drop w.tak).map .int)) := rfl
theorem bl_told : ex (getL1 (bkH w l) [116, 111, 108, 100]) ΦL = ΦL (natsD w.told) := rfl
theorem bl_giv : ex (getL1 (bkH w l) [103, 105, 118, 101, 110]) ΦL = ΦL ((w.giv.drop w.tak).map .int) := rfl
end
/-- the given numbers are small -/
def Ws.gok (w : Ws) : Prop := ∀ g ∈ w.giv, 0 ≤ g ∧ g < 256
theorem putI_nat {w : Ws} (h : w.ok) {s : Nat} (hs : spB s) (x : Int) {w' : Ws} {l : Addr} {ρ : Od.Env} {d e : D} (hw : w' = w.put s x) (he : e = .int (x % 256)) :
    (0 ≤ ((s - 97 : Nat) : Int) ∧ ((s - 97 : Nat) : Int) < ((natsD w.nums).length : Nat)) ∧ Fl.nx (some (T.rcd (bkH w l)) :: some (T.sh d) :: some (T.lst ((natsD w.nums).set ((s - 97 : Nat) : Int).toNat e)) :: ρ) = Fl.nx (some (T.rcd (bkH w' l)) :: some (T.sh d) :: some (T.lst (natsD w'.nums)) :: ρ) := by
  have := spot_lt hs
  refine ⟨⟨by omega, by have := h.n; unfold natsD; rw [List.length_map]; omega⟩, ?_⟩
  rw [hw, he, Int.toNat_natCast, natsD_set]
  rfl
theorem lwork_ok {w : Ws} {r : PRow} {m : Nat} {Φ : T → Od.Env → Prop} {Ψ : Exn → Od.Env → Prop} (h : w.ok) (hg : w.gok) (hr : r.ok m) (hw : wrkB (r.toB false 0) = true) (hl : w.told.length < 100000)
    (q : Φ (.sh .non) [some (T.rcd (bkF (w.work (r.toB false 0)))), none]) : satO (f__law_work [T.rcd (bkF w), .sh r.d]) Φ Ψ := by
  simp only [f__law_work, B__law_work]
  array_mem_dec
  refine ⟨rfl, ?_⟩
  have bor : ∀ {Φ : Fl → Prop} {Ψ : Exn → Od.Env → Prop} {B : SM} (s : Nat) (w' : Ws), spB s → fIdx r.d (.int 1) = some (.str [s]) →
      (∀ l, sat (B [some (T.rcd (bkH w l)), some (T.sh r.d), some (T.lst (natsD w.nums)), some (T.sh (.int ((s - 97 : Nat) : Int)))]) (fun f => f = .nx [some (T.rcd (bkH w' l)), some (T.sh r.d), some (T.lst (natsD w'.nums)), some (T.sh (.int ((s - 97 : Nat) : Int)))]) (fun _ _ => False)) →
      Φ (.nx [some (T.rcd (bkF w')), some (T.sh r.d), none, some (T.sh (.int ((s - 97 : Nat) : Int)))]) →
      sat (sBorR 0 [110, 117, 109, 98, 101, 114, 115] 2 3 (eBM .str mIdxS (hV (eC (.str [97, 98, 99, 100]))) [hV (e2 fIdx (hSc 1) (hV (eC (.int 1))))]) B [some (T.rcd (bkF w)), some (T.sh r.d), none, none]) Φ Ψ := fun {Φ Ψ B} s w' hs e1 hB q => by
    refine sBorR_ok (fs := bkF w) (ds := natsD w.nums) (fs' := bkF w') (ds' := natsD w'.nums) (d := .int ((s - 97 : Nat) : Int)) (ρr := [some (T.rcd (bkF w')), some (T.sh r.d), some (T.lst (natsD w'.nums)), some (T.sh (.int ((s - 97 : Nat) : Int)))]) rfl (by show 2 < 4; decide) (by show 3 < 4; decide) (by decide) rfl ?_ (fun l => hB l) rfl (by show 0 < 4; decide) ⟨_, rfl⟩ q
    show sat (eBM .str mIdxS (hV (eC (.str [97, 98, 99, 100]))) [hV (e2 fIdx (hSc 1) (hV (eC (.int 1))))] [some (.sh (bkD w)), some (.sh r.d), none, none]) _ _
    sizeOf_list_dec
    rw [e1, ex_some]
    sizeOf_list_dec
    rw [spot_ix hs, ex_some]
  cases r with
  | set s n =>
    refine bor s (w.put s (n : Nat)) hr.1 rfl (fun l => ?_) ?_
    · simp only [PRow.d, wSet]
      simp_wf
      have hn : ((n : Nat) : Int) % 256 = (n : Nat) := by have := hr.2; omega
      exact putI_nat h hr.1 (n : Nat) rfl (by rw [hn])
    · sizeOf_list_dec
      exact q
  | two t s u =>
    cases t with
    | true =>
      refine bor s (w.put s ((w.num s : Int) - w.num u)) hr.1 rfl (fun l => ?_) ?_
      · simp only [PRow.d, wTwo, wTake, if_true]
        simp_wf
        refine num_at h hr.1 ?_
        sizeOf_list_dec
        rw [spot_ix hr.2, ex_some]
        sizeOf_list_dec
        refine num_at h hr.2 ?_
        sizeOf_list_dec
        exact ⟨by decide, putI_nat h hr.1 ((w.num s : Int) - w.num u) rfl rfl⟩
      · sizeOf_list_dec
        exact q
    | false =>
      refine bor s (w.put s ((w.num s : Int) + w.num u)) hr.1 rfl (fun l => ?_) ?_
      · simp only [PRow.d, wTwo, wAdd, Bool.false_eq_true, if_false]
        simp_wf
        refine num_at h hr.1 ?_
        sizeOf_list_dec
        rw [spot_ix hr.2, ex_some]
        sizeOf_list_dec
        refine num_at h hr.2 ?_
        sizeOf_list_dec
        exact ⟨by decide, putI_nat h hr.1 ((w.num s : Int) + w.num u) rfl rfl⟩
      · sizeOf_list_dec
        exact q
  | one t s =>
    cases t with
    | true =>
      refine bor s (w.next.put s w.nextV) hr rfl (fun l => ?_) ?_
      · simp only [PRow.d, wOne, wAsk, if_true]
        simp_wf
        rw [frz_bh]
        sizeOf_list_dec
        rw [bx_giv]
        refine ⟨by decide, ?_⟩
        by_cases hk : w.tak = w.giv.length
        · have e0 : w.next = w := by unfold Ws.next; rw [if_pos hk]
          have e1 : w.nextV = 0 := by unfold Ws.nextV; rw [List.getD_eq_getElem?_getD, List.getElem?_eq_none (by omega)]; rfl
          rw [e0, e1]
          refine fNe_ints (ys := []) ?_
          rw [List.drop_eq_nil_of_le (by omega)]
          refine ⟨fun z => (by cases z), fun _ => ?_⟩
          exact putI_nat h hr 0 rfl rfl
        · have hlt : w.tak < w.giv.length := Nat.lt_of_le_of_ne h.t hk
          have e0 : w.next = { w with tak := w.tak + 1 } := by unfold Ws.next; rw [if_neg hk]
          have e1 : w.nextV = w.giv[w.tak] := by unfold Ws.nextV; rw [List.getD_eq_getElem?_getD, List.getElem?_eq_getElem hlt]; rfl
          have ed : w.giv.drop w.tak = w.giv[w.tak] :: w.giv.drop (w.tak + 1) := (List.getElem_cons_drop hlt).symm
          rw [e0, e1]
          refine fNe_ints (ys := []) ?_
          refine ⟨fun _ => ?_, fun z => ?_⟩
          · rw [bl_giv, frz_bh, ed]
            refine ⟨rfl, by decide, ?_⟩
            rw [List.map_cons, show ixN (D.int w.giv[w.tak] :: (w.giv.drop (w.tak + 1)).map .int).length 0 = some 0 from by rw [List.length_cons]; unfold ixN; rw [if_pos (by omega)]; simp, ex_some, List.getElem?_cons_zero, ex_some, List.eraseIdx_cons_zero]
            have hgv := hg _ (List.getElem_mem hlt)
            exact putI_nat (w := { w with tak := w.tak + 1 }) ⟨h.n, h.b, hlt, h.g, h.l⟩ hr w.giv[w.tak] rfl (by congr 1; omega)
          · have hd : decide (w.giv.drop w.tak = []) = false := by rw [ed]; rfl
            rw [hd] at z
            cases z
      · sizeOf_list_dec
        exact q
    | false =>
      refine bor s (w.tell s) hr rfl (fun l => ?_) ?_
      · simp only [PRow.d, wOne, wTell, Bool.false_eq_true, if_false]
        simp_wf
        rw [bl_told, frz_bh]
        sizeOf_list_dec
        refine num_at h hr ?_
        refine ⟨rfl, by unfold natsD; rw [List.length_map]; omega, ?_⟩
        have e : natsD w.told ++ [D.int (w.num s : Nat)] = natsD (w.tell s).told := by unfold natsD; show _ = List.map _ (w.told ++ [w.num s]); rw [List.map_append]; rfl
        rw [e]
        rfl
      · sizeOf_list_dec
        exact q
  | stop => cases hw
  | jump g => cases hw
  | zero s g => cases hw
theorem ftup_nats (xs : List Nat) : fTuple [.lst (natsD xs)] = some (.tup (natsD xs)) := rfl
theorem lworks_ok {gs : List Int} {Φ : T → Od.Env → Prop} {Ψ : Exn → Od.Env → Prop} (q : Φ (.rcd (bkF (ws0 gs))) [none]) : satO (f__law_works [.sh (.lst (gs.map .int))]) Φ Ψ := by
  simp only [f__law_works, B__law_works]
  sizeOf_list_dec
  exact ⟨rfl, by decide, by decide, by decide, q⟩
theorem ldone_ok {w : Ws} {r : PRow} {a m : Nat} {rs : List PRow} {Φ : T → Od.Env → Prop} {Ψ : Exn → Od.Env → Prop} (h : w.ok) (hg : w.gok) (ha : rs[a]? = some r) (hr : r.ok m) (hs : r ≠ .stop) (hl : w.told.length < 100000)
    (q : Φ (.sh (.int ((stpR r w a).2 : Nat))) [some (T.rcd (bkF (stpR r w a).1)), none, none]) : satO (f__law_done [T.rcd (bkF w), .sh (progD rs), .sh (.int (a : Nat))]) Φ Ψ := by
  simp only [f__law_done, B__law_done]
  obtain ⟨p0, hp0⟩ : ∃ d, d = progD rs := ⟨_, rfl⟩
  rw [← hp0]
  have hat : ∀ {Φ : D → Prop}, Φ r.d → ex (fIdx p0 (.int (a : Nat))) Φ := fun {Φ} z => by
    rw [hp0]
    show ex (atI (rs.map PRow.d) _) _
    rw [atI_k (x := r.d) a rfl (by rw [List.getElem?_map, ha]; rfl), ex_some]
    exact z
  have ea : ((a : Nat) : Int) + 1 = ((a + 1 : Nat) : Int) := by omega
  array_mem_dec
  refine ⟨rfl, ?_⟩
  sizeOf_list_dec
  refine hat ?_
  sizeOf_list_dec
  cases r with
  | jump g =>
    simp only [PRow.d, wJump]
    sizeOf_list_dec
    exact ⟨q, fun z => absurd trivial z⟩
  | zero s g =>
    simp only [PRow.d, wZero]
    simp_wf
    rw [frz_bk]
    sizeOf_list_dec
    rw [bx_num, spot_ix hr.1, ex_some]
    refine num_at h hr.1 ?_
    sizeOf_list_dec
    have e : stpR (.zero s g) w a = if w.num s = 0 then (w, g) else (w, a + 1) := rfl
    rw [e] at q
    refine ⟨fun z => ?_, fun z => ?_⟩
    · rw [if_pos (by omega)] at q; exact q
    · rw [if_neg (by omega)] at q; rw [ea]; exact q
  | stop => exact absurd rfl hs
  | set s n =>
    simp only [PRow.d, wSet]
    simp_wf
    refine ⟨rfl, lwork_ok h hg hr rfl hl ?_⟩
    sizeOf_list_dec
    rw [ea]
    exact q
  | two t s u =>
    cases t with
    | true =>
      simp only [PRow.d, wTwo, wTake, if_true]
      simp_wf
      refine ⟨rfl, lwork_ok (r := .two true s u) h hg hr rfl hl ?_⟩
      sizeOf_list_dec
      rw [ea]
      exact q
    | false =>
      simp only [PRow.d, wTwo, wAdd, Bool.false_eq_true, if_false]
      simp_wf
      refine ⟨rfl, lwork_ok (r := .two false s u) h hg hr rfl hl ?_⟩
      sizeOf_list_dec
      rw [ea]
      exact q
  | one t s =>
    cases t with
    | true =>
      simp only [PRow.d, wOne, wAsk, if_true]
      simp_wf
      refine ⟨rfl, lwork_ok (r := .one true s) h hg hr rfl hl ?_⟩
      sizeOf_list_dec
      rw [ea]
      exact q
    | false =>
      simp only [PRow.d, wOne, wTell, Bool.false_eq_true, if_false]
      simp_wf
      refine ⟨rfl, lwork_ok (r := .one false s) h hg hr rfl hl ?_⟩
      sizeOf_list_dec
      rw [ea]
      exact q
theorem lended_ok {rs : List PRow} {a : Nat} {Φ : T → Od.Env → Prop} {Ψ : Exn → Od.Env → Prop} (hr : ∀ r ∈ rs, r.ok rs.length) (ha : a ≤ rs.length)
    (q : Φ (.sh (.bl (stB rs a))) [none, none]) : satO (f__law_ended [.sh (progD rs), .sh (.int (a : Nat))]) Φ Ψ := by
  simp only [f__law_ended, B__law_ended]
  unfold progD
  sizeOf_list_dec
  rw [List.length_map]
  have iff := stB_iff ha
  refine ⟨rfl, fun z => ?_, fun z => ?_⟩
  · rw [iff.mpr (.inl (by omega))] at q
    exact q
  · have hal : a < rs.length := by omega
    obtain ⟨r, er⟩ : ∃ r, rs[a]? = some r := ⟨_, List.getElem?_eq_getElem hal⟩
    obtain ⟨nm, e0, e1⟩ := row0s r
    simp only [atI_k (xs := rs.map PRow.d) (x := r.d) (i := ((a : Nat) : Int)) a rfl (by rw [List.getElem?_map, er]; rfl), ex_some, e0]
    sizeOf_list_dec
    have e : stB rs a = decide (nm = [115, 116, 111, 112]) := by
      rw [Bool.eq_iff_iff, iff, er, decide_eq_true_iff]
      exact ⟨fun z => by rcases z with z | z; exact absurd z (by omega); exact e1.mpr (Option.some.inj z), fun z => .inr (by rw [e1.mp z])⟩
    rw [e] at q
    exact q
/-- what a run of so many steps comes by -/
def trc (rs : List PRow) : Nat → Ws → Nat → List (Ws × Nat)
  | 0, _, _ => []
  | n + 1, w, a => if stB rs a = true then [] else stp rs w a :: trc rs n (stp rs w a).1 (stp rs w a).2
def snD (p : Ws × Nat) : D := .tup [.lst (natsD p.1.told), .tup (natsD p.1.nums), .int (p.2 : Nat)]
theorem next_gok {w : Ws} (h : w.gok) : w.next.gok := by
  unfold Ws.next
  split <;> exact h
theorem stpR_gok {w : Ws} {r : PRow} {a : Nat} (h : w.gok) : (stpR r w a).1.gok := by
  cases r with
  | set s n => exact h
  | two t s u => cases t <;> exact h
  | one t s => cases t; exact h; exact next_gok h
  | stop => exact h
  | jump g => exact h
  | zero s g => show (if w.num s = 0 then (w, g) else (w, a + 1) : Ws × Nat).1.gok; split <;> exact h
theorem lstands_ok {rs : List PRow} {gs : List Int} {Φ : T → Od.Env → Prop} {Ψ : Exn → Od.Env → Prop} (hr : ∀ r ∈ rs, r.ok rs.length) (hl : rs.length ≤ 1000) (hg : gs.length ≤ 1000) (hgb : ∀ g ∈ gs, 0 ≤ g ∧ g < 256)
    (q : Φ (.lst (((ws0 gs, 0) :: trc rs 200 (ws0 gs) 0).map snD)) [none, none]) : satO (f__law_stands [.sh (progD rs), .sh (.lst (gs.map .int))]) Φ Ψ := by
  simp only [f__law_stands, B__law_stands]
  obtain ⟨p0, hp0⟩ : ∃ d, d = progD rs := ⟨_, rfl⟩
  obtain ⟨g0, hg0⟩ : ∃ d, d = D.lst (gs.map .int) := ⟨_, rfl⟩
  rw [← hp0, ← hg0]
  array_mem_dec
  refine ⟨rfl, ?_⟩
  refine seq_cut (fun ρ => ρ = [some (T.sh p0), some (T.sh g0), some (T.rcd (bkF (ws0 gs))), some (T.sh (.int ((0 : Nat) : Int))), none]) ?_ ?_
  · sizeOf_list_dec
    rw [hg0]
    refine ⟨rfl, lworks_ok ?_⟩
    rw [← hg0]
    sizeOf_list_dec
    exact ⟨⟨by show 2 < 5; decide, by show 3 < 5; decide⟩, rfl⟩
  rintro ρ rfl
  refine seq_cut (fun ρ => ρ = [some (T.sh p0), some (T.sh g0), some (T.rcd (bkF (ws0 gs))), some (T.sh (.int ((0 : Nat) : Int))), some (T.lst [snD (ws0 gs, 0)])]) ?_ ?_
  · sizeOf_list_dec
    exact ⟨by decide, by decide, by show 3 ≤ 1000000; decide, by show 1 ≤ 1000000; decide, rfl⟩
  rintro ρ rfl
  refine seq_cut (fun ρ => ∃ w a, ρ = [some (T.sh p0), some (T.sh g0), some (T.rcd (bkF w)), some (T.sh (.int (a : Nat))), some (T.lst (((ws0 gs, 0) :: trc rs 200 (ws0 gs) 0).map snD))]) ?_ ?_
  · refine wh_inv (fun m ρ => ∃ (w : Ws) (a : Nat) (fs : List (Ws × Nat)), w.ok ∧ w.gok ∧ a ≤ rs.length ∧ fs.length + m = 201 ∧ 1 ≤ fs.length ∧ w.told.length ≤ fs.length ∧ (ws0 gs, 0) :: trc rs 200 (ws0 gs) 0 = fs ++ trc rs m w a ∧ ρ = [some (T.sh p0), some (T.sh g0), some (T.rcd (bkF w)), some (T.sh (.int (a : Nat))), some (T.lst (fs.map snD))]) (m := 200) (by omega) ⟨ws0 gs, 0, [(ws0 gs, 0)], ws0_ok hg, hgb, Nat.zero_le _, rfl, Nat.le_refl _, Nat.zero_le _, rfl, rfl⟩ ?_
    rintro m ρ ⟨w, a, fs, hw, hgw, ha, hf, hf1, ht, he, rfl⟩
    have iff := stB_iff ha
    sizeOf_list_dec
    rw [List.length_map]
    refine ⟨fun z => ?_, fun z => ?_⟩
    · refine ⟨rfl, ?_⟩
      rw [hp0]
      refine lended_ok hr ha ?_
      rw [← hp0]
      sizeOf_list_dec
      refine ⟨fun zb => ?_, fun zb => ?_⟩
      · have hal : a < rs.length := by
          rcases Nat.lt_or_ge a rs.length with y | y
          · exact y
          · rw [iff.mpr (.inl (by omega))] at zb; cases zb
        obtain ⟨r, er⟩ : ∃ r, rs[a]? = some r := ⟨_, List.getElem?_eq_getElem hal⟩
        have hro := hr r (List.mem_of_getElem? er)
        have hrs : r ≠ .stop := fun y => by rw [iff.mpr (.inr (by rw [er, y]))] at zb; cases zb
        have hst : stp rs w a = stpR r w a := by unfold stp; rw [List.getD_eq_getElem?_getD, er]; rfl
        have hml : w.told.length < 100000 := by omega
        have htl := told_le (w := w) r a
        refine ⟨rfl, ?_⟩
        rw [hp0]
        refine ldone_ok hw hgw er hro hrs hml ?_
        rw [← hp0]
        sizeOf_list_dec
        obtain ⟨m, rfl⟩ : ∃ k, m = k + 1 := ⟨m - 1, by omega⟩
        have hnx : ∃ (w' : Ws) (a' : Nat) (fs' : List (Ws × Nat)), w'.ok ∧ w'.gok ∧ a' ≤ rs.length ∧ fs'.length + m = 201 ∧ 1 ≤ fs'.length ∧ w'.told.length ≤ fs'.length ∧ (ws0 gs, 0) :: trc rs 200 (ws0 gs) 0 = fs' ++ trc rs m w' a' ∧ [some (T.sh p0), some (T.sh g0), some (T.rcd (bkF (stpR r w a).1)), some (T.sh (.int ((stpR r w a).2 : Nat))), some (T.lst (fs.map snD ++ [snD (stpR r w a)]))] = [some (T.sh p0), some (T.sh g0), some (T.rcd (bkF w')), some (T.sh (.int (a' : Nat))), some (T.lst (fs'.map snD))] := by
          refine ⟨(stpR r w a).1, (stpR r w a).2, fs ++ [stpR r w a], stpR_ok hw hml, stpR_gok hgw, stpR_le hro hal, by rw [List.length_append, List.length_singleton]; omega, by rw [List.length_append, List.length_singleton]; omega, by rw [List.length_append, List.length_singleton]; omega, ?_, by rw [List.map_append]; rfl⟩
          rw [he, List.append_assoc, List.singleton_append]
          conv => lhs; unfold trc
          rw [if_neg (by rw [zb]; decide), hst]
        rw [frz_bk]
        sizeOf_list_dec
        rw [bx_told, show fList [D.lst (natsD (stpR r w a).1.told)] = some (natsD (stpR r w a).1.told) from rfl, ex_some]
        refine ⟨deep_nats _, ?_⟩
        rw [frz_bk]
        sizeOf_list_dec
        rw [bx_num, ftup_nats, ex_some]
        exact ⟨deep_nats _, by show 3 ≤ 1000000; decide, by rw [List.length_map]; omega, m, by omega, hnx⟩
      · have e : trc rs m w a = [] := by cases m with
          | zero => rfl
          | succ m => unfold trc; rw [if_pos (by simpa using zb)]
        rw [e, List.append_nil] at he
        rw [← he]
        exact ⟨w, a, rfl⟩
    · have hm : m = 0 := by omega
      subst hm
      rw [show trc rs 0 w a = [] from rfl, List.append_nil] at he
      rw [← he]
      exact ⟨w, a, rfl⟩
  rintro ρ ⟨w, a, rfl⟩
  sizeOf_list_dec
  exact q
theorem stp_le {rs : List PRow} {w : Ws} {a : Nat} (hr : ∀ r ∈ rs, r.ok rs.length) (ha : a ≤ rs.length) (h : ¬ stB rs a = true) : (stp rs w a).2 ≤ rs.length := by
  have iff := stB_iff ha
  have hal : a < rs.length := by
    rcases Nat.lt_or_ge a rs.length with y | y
    · exact y
    · exact absurd (iff.mpr (.inl (by omega))) h
  unfold stp
  rw [List.getD_eq_getElem?_getD, List.getElem?_eq_getElem hal]
  exact stpR_le (hr _ (List.getElem_mem hal)) hal
/-! runs with lists of given numbers that agree as far as they are asked for -/
def askB : PRow → Bool
  | .one true _ => true
  | _ => false
def askA (rs : List PRow) (a : Nat) : Nat := if askB (rs.getD a .stop) then 1 else 0
/-- how many times it asks in so many steps -/
def askN (rs : List PRow) : Nat → Ws → Nat → Nat
  | 0, _, _ => 0
  | n + 1, w, a => if stB rs a = true then 0 else askA rs a + askN rs n (stp rs w a).1 (stp rs w a).2
theorem askA_le (rs : List PRow) (a : Nat) : askA rs a ≤ 1 := by unfold askA; split <;> omega
theorem askN_le {rs : List PRow} : ∀ (n : Nat) (w : Ws) (a : Nat), askN rs n w a ≤ n
  | 0, w, a => Nat.le_refl _
  | n + 1, w, a => by
    unfold askN
    split
    · omega
    · have h := askN_le (rs := rs) n (stp rs w a).1 (stp rs w a).2
      have := askA_le rs a
      omega
structure Lk (c : Nat) (w v : Ws) : Prop where
  n : w.nums = v.nums
  t : w.told = v.told
  k : w.tak = min c w.giv.length
  j : v.tak = min c v.giv.length
theorem nextV_c {c : Nat} {w : Ws} (h : w.tak = min c w.giv.length) : w.nextV = w.giv.getD c 0 := by
  unfold Ws.nextV
  rcases Nat.le_total c w.giv.length with z | z
  · rw [h, Nat.min_eq_left z]
  · rw [h, Nat.min_eq_right z, List.getD_eq_getElem?_getD, List.getD_eq_getElem?_getD, List.getElem?_eq_none (Nat.le_refl _), List.getElem?_eq_none z]
theorem next_c {c : Nat} {w : Ws} (h : w.tak = min c w.giv.length) : w.next.tak = min (c + 1) w.next.giv.length ∧ w.next.giv = w.giv ∧ w.next.nums = w.nums ∧ w.next.told = w.told := by
  unfold Ws.next
  split
  · rename_i e
    exact ⟨by omega, rfl, rfl, rfl⟩
  · rename_i e
    refine ⟨?_, rfl, rfl, rfl⟩
    show w.tak + 1 = min (c + 1) w.giv.length
    omega
theorem lk_num {c : Nat} {w v : Ws} (h : Lk c w v) (s : Nat) : w.num s = v.num s := by unfold Ws.num; rw [h.n]
theorem lk_put {c : Nat} {w v : Ws} (h : Lk c w v) (s : Nat) (x : Int) : Lk c (w.put s x) (v.put s x) := ⟨by unfold Ws.put; rw [h.n], h.t, h.k, h.j⟩
theorem stpR_lk {c : Nat} {w v : Ws} (h : Lk c w v) (r : PRow) (a : Nat) (ha : askB r = true → w.giv.getD c 0 = v.giv.getD c 0) : Lk (c + if askB r then 1 else 0) (stpR r w a).1 (stpR r v a).1 ∧ (stpR r w a).2 = (stpR r v a).2 ∧ (stpR r w a).1.giv = w.giv ∧ (stpR r v a).1.giv = v.giv := by
  cases r with
  | set s n => exact ⟨lk_put h _ _, rfl, rfl, rfl⟩
  | two t s u =>
    cases t with
    | true =>
      refine ⟨?_, rfl, rfl, rfl⟩
      show Lk c (w.put s ((w.num s : Int) - w.num u)) (v.put s ((v.num s : Int) - v.num u))
      rw [lk_num h, lk_num h]
      exact lk_put h _ _
    | false =>
      refine ⟨?_, rfl, rfl, rfl⟩
      show Lk c (w.put s ((w.num s : Int) + w.num u)) (v.put s ((v.num s : Int) + v.num u))
      rw [lk_num h, lk_num h]
      exact lk_put h _ _
  | one t s =>
    cases t with
    | true =>
      obtain ⟨a1, a2, a3, a4⟩ := next_c h.k
      obtain ⟨b1, b2, b3, b4⟩ := next_c h.j
      have e : w.nextV = v.nextV := by rw [nextV_c h.k, nextV_c h.j]; exact ha rfl
      refine ⟨?_, rfl, a2, b2⟩
      show Lk (c + 1) (w.next.put s w.nextV) (v.next.put s v.nextV)
      rw [e]
      exact lk_put ⟨by rw [a3, b3, h.n], by rw [a4, b4, h.t], a1, b1⟩ _ _
    | false =>
      refine ⟨?_, rfl, rfl, rfl⟩
      show Lk c (w.tell s) (v.tell s)
      exact ⟨h.n, by unfold Ws.tell; show w.told ++ [w.num s] = v.told ++ [v.num s]; rw [h.t, lk_num h], h.k, h.j⟩
  | stop => exact ⟨h, rfl, rfl, rfl⟩
  | jump g => exact ⟨h, rfl, rfl, rfl⟩
  | zero s g =>
    show Lk c (if w.num s = 0 then (w, g) else (w, a + 1) : Ws × Nat).1 (if v.num s = 0 then (v, g) else (v, a + 1) : Ws × Nat).1 ∧ (if w.num s = 0 then (w, g) else (w, a + 1) : Ws × Nat).2 = (if v.num s = 0 then (v, g) else (v, a + 1) : Ws × Nat).2 ∧ _ ∧ _
    have e1 : (stpR (.zero s g) w a).1 = w := by show (if w.num s = 0 then (w, g) else (w, a + 1) : Ws × Nat).1 = w; split <;> rfl
    have e2 : (stpR (.zero s g) v a).1 = v := by show (if v.num s = 0 then (v, g) else (v, a + 1) : Ws × Nat).1 = v; split <;> rfl
    refine ⟨?_, ?_, by rw [e1], by rw [e2]⟩
    · have := h
      rw [← e1, ← e2] at this
      exact this
    · rw [lk_num h]
      split <;> rfl
theorem runM_lk {rs : List PRow} : ∀ (n : Nat) (w v : Ws) (a c : Nat), Lk c w v → (∀ i, c ≤ i → i < c + askN rs n w a → w.giv.getD i 0 = v.giv.getD i 0) →
    (runM rs n w a).1.told = (runM rs n v a).1.told ∧ (runM rs n w a).1.nums = (runM rs n v a).1.nums ∧ (runM rs n w a).2 = (runM rs n v a).2
  | 0, w, v, a, c, h, _ => ⟨h.t, h.n, rfl⟩
  | n + 1, w, v, a, c, h, hg => by
    unfold runM
    unfold askN at hg
    by_cases e : stB rs a = true
    · rw [if_pos e, if_pos e]
      exact ⟨h.t, h.n, rfl⟩
    · rw [if_neg e] at hg
      rw [if_neg e, if_neg e]
      have hk := stpR_lk h (rs.getD a .stop) a (fun z => hg c (Nat.le_refl _) (by have : askA rs a = 1 := by unfold askA; rw [z]; rfl
                                                                                  omega))
      obtain ⟨k1, k2, k3, k4⟩ := hk
      have e2 : (stp rs w a).2 = (stp rs v a).2 := k2
      have := runM_lk (rs := rs) n (stp rs w a).1 (stp rs v a).1 (stp rs w a).2 (c + askA rs a) k1 (fun i h1 h2 => by
        have q := hg i (by omega) (by omega)
        have e3 : (stp rs w a).1.giv = w.giv := k3
        have e4 : (stp rs v a).1.giv = v.giv := k4
        rw [e3, e4]; exact q)
      rw [← e2]
      exact this
theorem stD_agree {rs : List PRow} {n : Nat} {gs hs : List Int} (h : ∀ i, i < askN rs n (ws0 gs) 0 → gs.getD i 0 = hs.getD i 0) :
    stD (runM rs n (ws0 gs) 0).1 (runM rs n (ws0 gs) 0).2.1 (runM rs n (ws0 gs) 0).2.2 = stD (runM rs n (ws0 hs) 0).1 (runM rs n (ws0 hs) 0).2.1 (runM rs n (ws0 hs) 0).2.2 := by
  obtain ⟨a, b, c⟩ := runM_lk (rs := rs) n (ws0 gs) (ws0 hs) 0 0 ⟨rfl, rfl, (Nat.zero_min _).symm, (Nat.zero_min _).symm⟩ (fun i _ h2 => h i (by omega))
  unfold stD
  rw [a, b, c]
/-- the asks, counted in what a run comes by -/
theorem ask_cnt {rs : List PRow} : ∀ (k n : Nat) (w : Ws) (a : Nat), n ≤ k → ((((w, a) :: trc rs k w a).take (min n (trc rs k w a).length)).filter fun p => askB (rs.getD p.2 .stop)).length = askN rs n w a
  | k, 0, w, a, _ => by rw [Nat.zero_min]; rfl
  | 0, n + 1, w, a, h => by omega
  | k + 1, n + 1, w, a, h => by
    unfold trc askN
    by_cases e : stB rs a = true
    · rw [if_pos e, if_pos e]; rfl
    · rw [if_neg e, if_neg e, List.length_cons, Nat.add_min_add_right, List.take_succ_cons, List.filter_cons]
      have := ask_cnt (rs := rs) k n (stp rs w a).1 (stp rs w a).2 (by omega)
      unfold askA
      split
      · rw [List.length_cons, Nat.add_comm]; exact congrArg (1 + ·) this
      · rw [Nat.zero_add]; exact this
/-- no entry counted is at the end -/
theorem trc_at {rs : List PRow} (hr : ∀ r ∈ rs, r.ok rs.length) : ∀ (k : Nat) (w : Ws) (a : Nat), a ≤ rs.length → ∀ p ∈ ((w, a) :: trc rs k w a).take (trc rs k w a).length, p.2 < rs.length
  | 0, w, a, ha, p, hp => by cases hp
  | k + 1, w, a, ha, p, hp => by
    unfold trc at hp
    by_cases e : stB rs a = true
    · rw [if_pos e] at hp; cases hp
    · rw [if_neg e, List.length_cons, List.take_succ_cons] at hp
      rcases List.mem_cons.mp hp with rfl | hp
      · rcases Nat.lt_or_ge a rs.length with y | y
        · exact y
        · exact absurd ((stB_iff ha).mpr (.inl (by omega))) e
      · exact trc_at hr k _ _ (stp_le hr ha e) p hp
theorem cutD_take {α : Type} (xs : List α) (k : Nat) : cutD xs none (some (k : Int)) = xs.take k := by
  unfold cutD
  rw [show HT.sIx xs.length 0 none = 0 from rfl, HT.sIx_nat]
  rw [List.drop_zero, Nat.sub_zero]
  by_cases h : k ≤ xs.length
  · rw [Nat.min_eq_left h]
  · rw [Nat.min_eq_right (by omega), List.take_of_length_le (Nat.le_refl _), List.take_of_length_le (by omega)]
theorem cutD_drop {α : Type} (xs : List α) (k : Nat) : cutD xs (some (k : Int)) none = xs.drop k := by
  unfold cutD
  rw [show HT.sIx xs.length xs.length none = xs.length from rfl, HT.sIx_nat]
  by_cases h : k ≤ xs.length
  · rw [Nat.min_eq_left h, List.take_of_length_le (by simp)]
  · rw [Nat.min_eq_right (by omega), List.drop_of_length_le (Nat.le_refl _), List.drop_of_length_le (show xs.length ≤ k by omega)]; simp
theorem thL_all {k W : Nat} : ∀ {ds : List D}, (∀ d ∈ ds, Th k W d) → ThL k ((W + 2) * ds.length) ds
  | [], _ => thL_nil
  | d :: ds, h => (thL_cons (h d List.mem_cons_self) (thL_all fun e he => h e (List.mem_cons_of_mem _ he))).mono (Nat.le_refl _) (by simp only [List.length_cons, Nat.mul_add]; omega)
theorem runM_ok {rs : List PRow} (hr : ∀ r ∈ rs, r.ok rs.length) : ∀ (n : Nat) (w : Ws) (a : Nat), w.ok → a ≤ rs.length → w.told.length + n ≤ 100000 → (runM rs n w a).1.ok ∧ (runM rs n w a).2.2 ≤ rs.length
  | 0, w, a, hw, ha, _ => ⟨hw, ha⟩
  | n + 1, w, a, hw, ha, hl => by
    unfold runM
    by_cases h : stB rs a = true
    · rw [if_pos h]; exact ⟨hw, ha⟩
    · rw [if_neg h]
      have hal : a < rs.length := by
        rcases Nat.eq_or_lt_of_le ha with e | e
        · exact absurd ((stB_iff ha).mpr (.inl e)) h
        · exact e
      have er := List.getElem?_eq_getElem hal
      have e : stp rs w a = stpR rs[a] w a := by unfold stp; rw [List.getD_eq_getElem?_getD, er]; rfl
      rw [e]
      have ht := told_le (w := w) rs[a] a
      exact runM_ok hr n _ _ (stpR_ok hw (by omega)) (stpR_le (hr _ (List.getElem_mem hal)) hal) (by omega)
theorem row_ask (r : PRow) : ∃ nm, fIdx r.d (.int 0) = some (.str nm) ∧ decide (nm = [97, 115, 107]) = askB r := by
  cases r with
  | set s n => exact ⟨_, rfl, rfl⟩
  | two w s t => cases w <;> exact ⟨_, rfl, rfl⟩
  | one w s => cases w <;> exact ⟨_, rfl, rfl⟩
  | stop => exact ⟨_, rfl, rfl⟩
  | jump a => exact ⟨_, rfl, rfl⟩
  | zero s a => exact ⟨_, rfl, rfl⟩
theorem lasked_ok {rs : List PRow} {gs : List Int} {n : Nat} {Φ : T → Od.Env → Prop} {Ψ : Exn → Od.Env → Prop} (hr : ∀ r ∈ rs, r.ok rs.length) (hn : n ≤ 200)
    (q : Φ (.sh (.int (askN rs n (ws0 gs) 0 : Nat))) [none, none, none]) : satO (f__law_asked [.sh (progD rs), .sh (.lst (((ws0 gs, 0) :: trc rs 200 (ws0 gs) 0).map snD)), .sh (.int (n : Nat))]) Φ Ψ := by
  simp only [f__law_asked, B__law_asked]
  have hc := ask_cnt (rs := rs) 200 n (ws0 gs) 0 hn
  have hat := trc_at hr 200 (ws0 gs) 0 (Nat.zero_le _)
  generalize trc rs 200 (ws0 gs) 0 = ts at *
  obtain ⟨p0, hp0⟩ : ∃ d, d = progD rs := ⟨_, rfl⟩
  rw [← hp0]
  obtain ⟨S, hS⟩ : ∃ S, S = (ws0 gs, 0) :: ts := ⟨_, rfl⟩
  rw [← hS] at hc hat ⊢
  have hSl : S.length = ts.length + 1 := by rw [hS, List.length_cons]
  sizeOf_list_dec
  have em : min ((n : Nat) : Int) (((S.map snD).length : Nat) - 1) = ((min n ts.length : Nat) : Int) := by rw [List.length_map]; omega
  rw [em, cutD_take, ← List.map_take]
  refine ⟨rfl, ?_⟩
  refine cmp_map snD (fun p => askB (rs.getD p.2 .stop)) snD (by rw [List.length_take]; omega) ?_ ?_
  · rintro ⟨w, a⟩ hx
    have hal : a < rs.length := hat (w, a) (by
      rw [show S.take ts.length = S.take (max ts.length (min n ts.length)) by rw [Nat.max_eq_left (Nat.min_le_right _ _)]]
      exact (List.take_subset_take_left S (Nat.le_max_right _ _)) hx)
    obtain ⟨nm, e0, e1⟩ := row_ask rs[a]
    have hat2 : fIdx p0 (.int (a : Nat)) = some rs[a].d := by
      rw [hp0]
      show atI (rs.map PRow.d) _ = _
      rw [atI_k (x := rs[a].d) a rfl (by rw [List.getElem?_map, List.getElem?_eq_getElem hal]; rfl)]
    have eg : rs.getD a .stop = rs[a] := by rw [List.getD_eq_getElem?_getD, List.getElem?_eq_getElem hal]; rfl
    unfold snD
    sizeOf_list_dec
    rw [hat2, ex_some, e0, ex_some]
    sizeOf_list_dec
    rw [eg, ← e1]
    exact ⟨fun z => decide_eq_true z, fun z => decide_eq_false z⟩
  · sizeOf_list_dec
    rw [List.length_map, hc]
    exact q
theorem lspoilt_ok {N a : Nat} {gs : List Int} {fs : Fs} {Φ : T → Od.Env → Prop} {Ψ : Exn → Od.Env → Prop} (hb : Bx N fs) (hn : 1 ≤ N) (ha : a < gs.length) (hl : gs.length ≤ 1000) (hgb : ∀ g ∈ gs, 0 ≤ g ∧ g < 256)
    (q : ∀ (x : Int) fs', 0 ≤ x ∧ x < 256 → Bx (N - 1) fs' → Φ (.lst ((gs.set a x).map .int)) [some (.rcd fs'), none, none]) : satO (f__law_spoilt [.rcd fs, .sh (.lst (gs.map .int)), .sh (.int (a : Nat))]) Φ Ψ := by
  simp only [f__law_spoilt, B__law_spoilt]
  sizeOf_list_dec
  refine ⟨rfl, ?_⟩
  rw [atI_k (x := D.int gs[a]) a rfl (by rw [List.getElem?_map, List.getElem?_eq_getElem ha]; rfl), ex_some]
  sizeOf_list_dec
  refine ⟨rfl, take_ok hb (by omega) (by omega) (by omega) fun v fs v0 v1 hb => ?_⟩
  sizeOf_list_dec
  have ea : ((a : Nat) : Int) + 1 = ((a + 1 : Nat) : Int) := by omega
  rw [ea, cutD_take, cutD_drop]
  obtain ⟨x, hx⟩ : ∃ x, x = (gs[a] + 1 + v) % 256 := ⟨_, rfl⟩
  have hq := q x fs (by omega) hb
  rw [← hx]
  have e : (gs.map D.int).take a ++ [D.int x] ++ (gs.map D.int).drop (a + 1) = (gs.set a x).map .int := by
    rw [List.set_eq_take_append_cons_drop, if_pos ha, List.map_append, List.map_cons, List.map_take, List.map_drop, List.append_assoc]; rfl
  rw [e]
  have l1 : ((gs.map D.int).take a).length ≤ 1000 := by rw [List.length_take, List.length_map]; omega
  have l2 : ((gs.map D.int).drop (a + 1)).length ≤ 1000 := by rw [List.length_drop, List.length_map]; omega
  refine ⟨by decide, by show 1 ≤ 1000000; decide, by rw [List.length_singleton]; omega, by rw [List.length_append, List.length_singleton]; omega, hq⟩
theorem lasking_ok {N m : Nat} {rs : List PRow} {fs : Fs} {Φ : T → Od.Env → Prop} {Ψ : Exn → Od.Env → Prop} (hb : Bx N fs) (hn : 2 * rs.length ≤ N) (hl : rs.length ≤ 1000) (hr : ∀ r ∈ rs, r.ok m)
    (q : ∀ (us : List PRow) fs', us.length = rs.length → (∀ r ∈ us, r.ok m) → Bx (N - 2 * rs.length) fs' → Φ (.lst (us.map PRow.d)) [some (.rcd fs'), none]) : satO (f__law_asking [.rcd fs, .sh (progD rs)]) Φ Ψ := by
  simp only [f__law_asking, B__law_asking]
  unfold progD
  sizeOf_list_dec
  refine ⟨rfl, ?_⟩
  obtain ⟨p0, hp0⟩ : ∃ d, d = D.lst (rs.map PRow.d) := ⟨_, rfl⟩
  rw [← hp0]
  refine cmp_i (fun i acc ρ => ∃ (fs : Fs) (us : List PRow), ρ = [some (T.rcd fs), some (.sh p0), none] ∧ acc = us.map PRow.d ∧ us.length = i ∧ (∀ r ∈ us, r.ok m) ∧ Bx (N - 2 * i) fs) (by rw [List.length_map]; omega) ⟨fs, [], rfl, rfl, rfl, fun _ h => (by cases h), by simpa using hb⟩ ?_ ?_
  · rintro i y acc ρ hy hi ⟨fs, us, rfl, rfl, hul, hu, hb⟩
    obtain ⟨r, hrm, rfl⟩ : ∃ r ∈ rs, y = r.d := by
      have := List.mem_of_getElem? hy
      obtain ⟨r, h1, h2⟩ := List.mem_map.mp this
      exact ⟨r, h1, h2.symm⟩
    have hil : i < rs.length := by have := (List.getElem?_eq_some_iff.mp hy).1; rw [List.length_map] at this; exact this
    have fin : ∀ (r : PRow) (fs : Fs), r.ok m → Bx (N - 2 * (i + 1)) fs → ∃ (fs_1 : Fs) (us_1 : List PRow), [some (T.rcd fs), some (T.sh p0), none] = [some (T.rcd fs_1), some (T.sh p0), none] ∧ us.map PRow.d ++ [r.d] = us_1.map PRow.d ∧ us_1.length = i + 1 ∧ (∀ r ∈ us_1, r.ok m) ∧ Bx (N - 2 * (i + 1)) fs_1 := fun r fs h1 h2 => ⟨fs, us ++ [r], rfl, by rw [List.map_append]; rfl, by rw [List.length_append, hul]; rfl, fun u' h' => by
      rcases List.mem_append.mp h' with h' | h'
      · exact hu u' h'
      · rw [List.mem_singleton.mp h']; exact h1, h2⟩
    sizeOf_list_dec
    refine ⟨rfl, take_ok hb (by omega) (by omega) (by omega) fun v fs v0 v1 hb => ?_⟩
    sizeOf_list_dec
    refine ⟨fun _ => ⟨rfl, take_ok hb (by omega) (by omega) (by omega) fun z fs z0 z1 hb => ?_⟩, fun _ => fin r fs (hr r hrm) (hb.mono (by omega))⟩
    sizeOf_list_dec
    refine ⟨by decide, abcd_i z0 z1 fun s hs => ?_⟩
    exact ⟨by show 2 ≤ 1000000; decide, fin (.one true s) fs hs (hb.mono (by omega))⟩
  · rintro acc ρ hl2 ⟨fs, us, rfl, rfl, hul, hu, hb⟩
    sizeOf_list_dec
    rw [List.length_map] at hul hb
    exact q us fs hul hu hb
theorem stpR_tb {w : Ws} {r : PRow} {a : Nat} (hw : w.ok) (h : ∀ x ∈ w.told, x < 256) : ∀ x ∈ (stpR r w a).1.told, x < 256 := by
  cases r with
  | set s n => exact h
  | two t s u => cases t <;> exact h
  | one t s =>
    cases t with
    | true =>
      show ∀ x ∈ w.next.told, x < 256
      unfold Ws.next
      split <;> exact h
    | false =>
      intro x hx
      rcases List.mem_append.mp (show x ∈ w.told ++ [w.num s] from hx) with z | z
      · exact h x z
      · rw [List.mem_singleton.mp z]; exact Ws.num_lt hw s
  | stop => exact h
  | jump g => exact h
  | zero s g =>
    have e1 : (stpR (.zero s g) w a).1 = w := by show (if w.num s = 0 then (w, g) else (w, a + 1) : Ws × Nat).1 = w; split <;> rfl
    rw [e1]; exact h
theorem runM_tb {rs : List PRow} : ∀ (n : Nat) (w : Ws) (a : Nat), w.ok → w.told.length + n ≤ 100000 → (∀ x ∈ w.told, x < 256) → ∀ x ∈ (runM rs n w a).1.told, x < 256
  | 0, w, a, hw, _, h => h
  | n + 1, w, a, hw, hl, h => by
    unfold runM
    by_cases e : stB rs a = true
    · rw [if_pos e]; exact h
    · rw [if_neg e]
      have ht := told_le (w := w) (rs.getD a .stop) a
      have hk : (stp rs w a).1.told.length ≤ w.told.length + 1 := ht
      exact runM_tb n _ _ (stpR_ok hw (by omega)) (by omega) (stpR_tb hw h)
/-- what a run tells, as one datum -/
def rnD (rs : List PRow) (gs : List Int) (n : Nat) : D := stD (runM rs n (ws0 gs) 0).1 (runM rs n (ws0 gs) 0).2.1 (runM rs n (ws0 gs) 0).2.2
theorem okS_stD {w : Ws} (hw : w.ok) (ht : ∀ x ∈ w.told, x < 256) (b : Bool) {p : Nat} (hp : p ≤ 1000) : okS (stD w b p) = true := by
  have a1 := hw.l
  have a2 := hw.n
  have hn : ∀ xs : List Nat, (∀ x ∈ xs, x < 256) → ThL 0 (33 * xs.length) (natsD xs) := fun xs h => by
    have := thL_all (k := 0) (W := 31) (ds := natsD xs) (fun d hd => by
      obtain ⟨x, hx, rfl⟩ := List.mem_map.mp hd
      exact th_int (by have := h x hx; omega))
    refine this.mono (Nat.le_refl _) ?_
    unfold natsD; rw [List.length_map]; exact Nat.le_refl _
  have h1 := hn w.nums (fun x hx => hw.b x hx)
  have h2 := hn w.told ht
  have hb : Th 1 100 (.str (howT b)) := by
    cases b
    · exact th_str (by decide) (by decide)
    · exact th_str (by decide) (by decide)
  have hpp : Th 1 31 (.int (p : Nat)) := th_int (by omega)
  exact (th_tup (thL_cons (th_lst h2) (thL_cons hb (thL_cons (th_tup h1) (thL_cons hpp thL_nil))))).shows (by omega) (by omega)
theorem okS_rn {rs : List PRow} {gs : List Int} {n : Nat} (hr : ∀ r ∈ rs, r.ok rs.length) (hl : rs.length ≤ 1000) (hg : gs.length ≤ 1000) (hn : n ≤ 200) : okS (rnD rs gs n) = true := by
  have := runM_ok hr n (ws0 gs) 0 (ws0_ok hg) (Nat.zero_le _) (by show 0 + n ≤ _; omega)
  exact okS_stD this.1 (runM_tb n (ws0 gs) 0 (ws0_ok hg) (by show 0 + n ≤ _; omega) (fun x hx => by cases hx)) _ (by omega)
theorem rn_agree {rs : List PRow} {n : Nat} {gs hs : List Int} (h : ∀ i, i < askN rs n (ws0 gs) 0 → gs.getD i 0 = hs.getD i 0) : rnD rs gs n = rnD rs hs n := stD_agree h
theorem getD_app0 (gs : List Int) (k i : Nat) : gs.getD i 0 = (gs ++ List.replicate k 0).getD i 0 := by
  rw [List.getD_eq_getElem?_getD, List.getD_eq_getElem?_getD, List.getElem?_append]
  split
  · rfl
  · rename_i h
    rw [List.getElem?_eq_none (by omega), List.getElem?_replicate]
    split <;> rfl
theorem getD_take {gs : List Int} {k i : Nat} (h : i < k) : gs.getD i 0 = (gs.take k).getD i 0 := by
  rw [List.getD_eq_getElem?_getD, List.getD_eq_getElem?_getD, List.getElem?_take_of_lt h]
theorem getD_set {gs : List Int} {k i : Nat} {x : Int} (h : i ≠ k) : gs.getD i 0 = (gs.set k x).getD i 0 := by
  rw [List.getD_eq_getElem?_getD, List.getD_eq_getElem?_getD, List.getElem?_set_ne (Ne.symm h)]
def lastC (rs : List PRow) (gs : List Int) (n a c : Nat) (ds : List D) : Prop := c ≤ n ∧ askN rs c (ws0 gs) 0 ≤ a ∧ ds.getLast? = some (D.int (c : Nat))
noncomputable def rightB : SM :=
  sSeq (sSetV 9 (eFz (eCall f__law_take [.io 0, .v (eCB fLen [hSc 2])]))) <|
    sSeq (sSetV 10 (eFz (eCall f_run_rows [.v (eV 1), .v (eFz (eCall f__law_spoilt [.io 0, .v (eV 2), .v (eV 9)])), .v (eV 4)]))) <|
    sSeq (sIf (bAnd (b2 cGe (hSc 9) (hSc 5)) (b2 fNe (hV (eCB fStr [hSc 10])) (hSc 7))) (sRetV (eC (.bl false))) sNil) <|
    sSeq (sSet 11 (tComp [15] (gNm 15) (iArg rng1 [e2 fAdd (hSc 4) (hV (eC (.int 1)))]) (b2 cLe (hV (eFz (eCall f__law_asked [.v (eV 1), .v (eV 3), .v (eV 15)]))) (hSc 9)) (eV 15))) <|
    sSeq (sSetV 12 (eFz (eCall f__law_spoilt [.io 0, .v (eV 2), .v (eV 9)]))) <|
    sIf (b2 fNe (hV (eCB fStr [hV (eFz (eCall f_run_rows [.v (eV 1), .v (eV 12), .v (e2 fIdx (hSc 11) (hV (e1 fNeg (hV (eC (.int 1))))))]))])) (hV (eCB fStr [hV (eFz (eCall f_run_rows [.v (eV 1), .v (eV 2), .v (e2 fIdx (hSc 11) (hV (e1 fNeg (hV (eC (.int 1))))))]))]))) (sRetV (eC (.bl false))) sNil
theorem rightB_ok {N n k : Nat} {rs : List PRow} {gs : List Int} {fs : Fs} {t0 : D} {t6 t8 : T} {x0 : Tx} {Φ : Fl → Prop} {Ψ : Exn → Od.Env → Prop} (hb : Bx N fs) (hn : 3 ≤ N) (hr : ∀ r ∈ rs, r.ok rs.length) (hl : rs.length ≤ 40) (hg : gs.length ≤ 200) (hgl : 0 < gs.length) (hgb : ∀ g ∈ gs, 0 ≤ g ∧ g < 256) (hn39 : n ≤ 39)
    (ht0 : t0 = D.lst (((ws0 gs, 0) :: trc rs 200 (ws0 gs) 0).map snD)) (hk : k = askN rs n (ws0 gs) 0) (hx0 : x0 = shT (rnD rs gs n))
    (q : ∀ (o9 o10 o11 o12 : Option T) (fs : Fs), Bx (N - 3) fs → Φ (.nx [some (T.rcd fs), some (T.sh (progD rs)), some (T.sh (.lst (gs.map .int))), some (T.sh t0), some (T.sh (.int (n : Nat))), some (T.sh (.int (k : Nat))), some t6, some (T.sh (.str x0)), some t8, o9, o10, o11, o12, none, none, none])) :
    sat (rightB [some (T.rcd fs), some (T.sh (progD rs)), some (T.sh (.lst (gs.map .int))), some (T.sh t0), some (T.sh (.int (n : Nat))), some (T.sh (.int (k : Nat))), some t6, some (T.sh (.str x0)), some t8, none, none, none, none, none, none, none]) Φ Ψ := by
  obtain ⟨p0, hp0⟩ : ∃ d, d = progD rs := ⟨_, rfl⟩
  obtain ⟨g0, hg0⟩ : ∃ d, d = D.lst (gs.map .int) := ⟨_, rfl⟩
  have hak : ∀ {Φ Ψ} (n : Nat), n ≤ 200 → Φ (.sh (.int (askN rs n (ws0 gs) 0 : Nat))) [none, none, none] → satO (f__law_asked [.sh p0, .sh t0, .sh (.int (n : Nat))]) Φ Ψ := fun {Φ Ψ} n hn q => by rw [hp0, ht0]; exact lasked_ok hr hn q
  have hrr : ∀ {Φ Ψ} (hs : List Int) (n : Nat), hs.length ≤ 1000 → n ≤ 200 → Φ (stR (runM rs n (ws0 hs) 0).1 (runM rs n (ws0 hs) 0).2.1 (runM rs n (ws0 hs) 0).2.2) [none, none, none] → satO (f_run_rows [.sh p0, .sh (.lst (hs.map .int)), .sh (.int (n : Nat))]) Φ Ψ := fun {Φ Ψ} hs n hhl hn q => by rw [hp0]; exact runrows_ok hr (by omega) hhl (by omega) q
  have hso : ∀ (hs : List Int) (n : Nat), hs.length ≤ 1000 → n ≤ 200 → okS (rnD rs hs n) = true := fun hs n h1 h2 => okS_rn hr (by omega) h1 h2
  have hrt : ∀ {Φ : T → Od.Env → Prop} {Ψ : Exn → Od.Env → Prop} (hs : List Int) (m : Nat), hs.length ≤ 1000 → m ≤ 200 → (∀ t : T, frzT t = some (rnD rs hs m) → deepT t = true → Φ t [none, none, none]) → satO (f_run_rows [.sh p0, .sh (.lst (hs.map .int)), .sh (.int (m : Nat))]) Φ Ψ := fun {Φ Ψ} hs m hhl hn q => hrr hs m hhl hn (q (stR (runM rs m (ws0 hs) 0).1 (runM rs m (ws0 hs) 0).2.1 (runM rs m (ws0 hs) 0).2.2) rfl (by
    show (deepL (natsD (runM rs m (ws0 hs) 0).1.told) && (true && (deepL (natsD (runM rs m (ws0 hs) 0).1.nums) && (true && true)))) = true
    rw [deep_nats, deep_nats]; rfl))
  have hln : ∀ {Φ : D → Prop}, Φ (.int (gs.length : Nat)) → ex (fLen [g0]) Φ := fun {Φ} z => by
    rw [hg0]
    sizeOf_list_dec
    rw [List.length_map]
    exact z
  have hsp : ∀ {Φ : T → Od.Env → Prop} {Ψ : Exn → Od.Env → Prop} (M a : Nat) (fs : Fs), Bx M fs → 1 ≤ M → a < gs.length → (∀ (x : Int) fs', 0 ≤ x ∧ x < 256 → Bx (M - 1) fs' → Φ (.lst ((gs.set a x).map .int)) [some (.rcd fs'), none, none]) → satO (f__law_spoilt [.rcd fs, .sh g0, .sh (.int (a : Nat))]) Φ Ψ := fun {Φ Ψ} M a fs hb h1 h2 q => by rw [hg0]; exact lspoilt_ok hb h1 h2 (by omega) hgb q
  have hag : ∀ (hs : List Int), (∀ i, i < k → gs.getD i 0 = hs.getD i 0) → shT (rnD rs hs n) = x0 := fun hs h => by rw [hx0, rn_agree (rs := rs) (n := n) (gs := gs) (hs := hs) (by rw [← hk]; exact h)]
  rw [← hp0, ← hg0]
  rw [← hp0, ← hg0] at q
  have hrg : ∀ {Φ : T → Od.Env → Prop} {Ψ : Exn → Od.Env → Prop} (m : Nat), m ≤ 200 → (∀ t : T, frzT t = some (rnD rs gs m) → deepT t = true → Φ t [none, none, none]) → satO (f_run_rows [.sh p0, .sh g0, .sh (.int (m : Nat))]) Φ Ψ := fun {Φ Ψ} m hm q => by rw [hg0]; exact hrt gs m (by omega) hm q
  have hk1 : k ≤ n := by rw [hk]; exact askN_le n _ _
  clear hrr hx0 hk hp0 hg0 ht0
  unfold rightB
  refine seq_cut (fun ρ => ∃ (a : Nat) (fs : Fs), a < gs.length ∧ Bx (N - 1) fs ∧ ρ = [some (T.rcd fs), some (T.sh p0), some (T.sh g0), some (T.sh t0), some (T.sh (.int (n : Nat))), some (T.sh (.int (k : Nat))), some t6, some (T.sh (.str x0)), some t8, some (T.sh (.int (a : Nat))), none, none, none, none, none, none]) ?_ ?_
  · sizeOf_list_dec
    refine ⟨rfl, hln ?_⟩
    refine take_ok hb (by omega) (by omega) (by omega) fun v fs v0 v1 hb => ?_
    sizeOf_list_dec
    obtain ⟨v, rfl⟩ := Int.eq_ofNat_of_zero_le v0
    exact ⟨v, fs, by omega, hb.mono (by omega), rfl⟩
  rintro ρ ⟨a, fs, ha, hb, rfl⟩
  refine seq_cut (fun ρ => ∃ (d : D) (fs : Fs), okS d = true ∧ (k ≤ a → shT d = x0) ∧ Bx (N - 2) fs ∧ ρ = [some (T.rcd fs), some (T.sh p0), some (T.sh g0), some (T.sh t0), some (T.sh (.int (n : Nat))), some (T.sh (.int (k : Nat))), some t6, some (T.sh (.str x0)), some t8, some (T.sh (.int (a : Nat))), some (T.sh d), none, none, none, none, none]) ?_ ?_
  · sizeOf_list_dec
    refine ⟨rfl, rfl, hsp _ a fs hb (by omega) ha fun x fs hx hb => ?_⟩
    sizeOf_list_dec
    refine hrt _ n (by rw [List.length_set]; omega) (by omega) fun t ht _ => ?_
    sizeOf_list_dec
    rw [ht, ex_some]
    exact ⟨_, fs, hso _ n (by rw [List.length_set]; omega) (by omega), fun hka => hag _ (fun i hi => getD_set (by omega)), hb.mono (by omega), rfl⟩
  rintro ρ ⟨d, fs, hd1, hd2, hb, rfl⟩
  refine seq_cut (fun ρ => ρ = [some (T.rcd fs), some (T.sh p0), some (T.sh g0), some (T.sh t0), some (T.sh (.int (n : Nat))), some (T.sh (.int (k : Nat))), some t6, some (T.sh (.str x0)), some t8, some (T.sh (.int (a : Nat))), some (T.sh d), none, none, none, none, none]) ?_ ?_
  · sizeOf_list_dec
    exact fun hka => ⟨hd1, fun z => absurd (hd2 (by omega)) z⟩
  rintro ρ rfl
  generalize hAA : sSet 11 _ = AA
  refine seq_cut (fun ρ => ∃ (c : Nat) (ds : List D), lastC rs gs n a c ds ∧ ρ = [some (T.rcd fs), some (T.sh p0), some (T.sh g0), some (T.sh t0), some (T.sh (.int (n : Nat))), some (T.sh (.int (k : Nat))), some t6, some (T.sh (.str x0)), some t8, some (T.sh (.int (a : Nat))), some (T.sh d), some (T.lst ds), none, none, none, none]) ?_ ?_
  · rw [← hAA]
    sizeOf_list_dec
    have hxl : (rngD 0 ((n : Int) + 1).toNat).length = n + 1 := by rw [rngD_len]; omega
    refine ⟨okI_of (by omega) (by omega), ?_⟩
    refine cmp_i (fun i acc ρ => ρ = [some (T.rcd fs), some (T.sh p0), some (T.sh g0), some (T.sh t0), some (T.sh (.int (n : Nat))), some (T.sh (.int (k : Nat))), some t6, some (T.sh (.str x0)), some t8, some (T.sh (.int (a : Nat))), some (T.sh d), none, none, none, none, none] ∧ ((i = 0) ∨ ∃ c, c < i ∧ askN rs c (ws0 gs) 0 ≤ a ∧ acc.getLast? = some (D.int (c : Nat)))) (by omega) ⟨rfl, .inl rfl⟩ ?_ ?_
    · rintro i y acc ρ hy hi ⟨rfl, hI⟩
      have hxi : y = .int (i : Nat) := by rw [rngD_get hy, Int.zero_add]
      have hil : i < n + 1 := by rw [← hxl]; exact (List.getElem?_eq_some_iff.mp hy).1
      subst hxi
      sizeOf_list_dec
      refine ⟨rfl, hak i (by omega) ?_⟩
      sizeOf_list_dec
      refine ⟨fun z => ?_, fun z => ?_⟩
      · exact .inr ⟨i, Nat.lt_succ_self i, by omega, by simp⟩
      · refine .inr ?_
        rcases hI with rfl | ⟨c, h1, h2, h3⟩
        · have : askN rs 0 (ws0 gs) 0 = 0 := rfl
          omega
        · exact ⟨c, by omega, h2, h3⟩
    · rintro acc ρ _ ⟨rfl, hI⟩
      rw [hxl] at hI
      rcases hI with hI | ⟨c, h1, h2, h3⟩
      · omega
      · exact ⟨c, acc, ⟨by omega, h2, h3⟩, rfl⟩
  rintro ρ ⟨c, ds, ⟨hcn, hca, hds⟩, rfl⟩
  refine seq_cut (fun ρ => ∃ (x : Int) (fs : Fs), Bx (N - 3) fs ∧ ρ = [some (T.rcd fs), some (T.sh p0), some (T.sh g0), some (T.sh t0), some (T.sh (.int (n : Nat))), some (T.sh (.int (k : Nat))), some t6, some (T.sh (.str x0)), some t8, some (T.sh (.int (a : Nat))), some (T.sh d), some (T.lst ds), some (T.sh (.lst ((gs.set a x).map .int))), none, none, none]) ?_ ?_
  · sizeOf_list_dec
    refine ⟨rfl, hsp _ a fs hb (by omega) ha fun x fs hx hb => ?_⟩
    sizeOf_list_dec
    exact ⟨x, fs, hb.mono (by omega), rfl⟩
  rintro ρ ⟨x, fs, hb, rfl⟩
  have hcc : shT (rnD rs (gs.set a x) c) = shT (rnD rs gs c) := by
    rw [rn_agree (rs := rs) (n := c) (gs := gs) (hs := gs.set a x) (fun i hi => getD_set (by omega))]
  sizeOf_list_dec
  refine ⟨rfl, atI_last hds ?_⟩
  refine hrt _ c (by rw [List.length_set]; omega) (by omega) fun t ht _ => ?_
  sizeOf_list_dec
  rw [ht, ex_some]
  refine ⟨hso _ c (by rw [List.length_set]; omega) (by omega), rfl, ?_⟩
  show ex (atI ds (-1)) _
  refine atI_last hds ?_
  refine hrg c (by omega) fun t2 ht2 _ => ?_
  sizeOf_list_dec
  rw [ht2, ex_some]
  refine ⟨hso _ c (by omega) (by omega), fun z => absurd hcc z, fun _ => ?_⟩
  exact q _ _ _ _ _ hb
theorem lright_ok {N : Nat} {rs : List PRow} {gs : List Int} {fs : Fs} {Φ : T → Od.Env → Prop} {Ψ : Exn → Od.Env → Prop} (hb : Bx N fs) (hn : 10 ≤ N) (hr : ∀ r ∈ rs, r.ok rs.length) (hl : rs.length ≤ 40) (hg : gs.length ≤ 200) (hgb : ∀ g ∈ gs, 0 ≤ g ∧ g < 256)
    (q : ∀ fs', Bx (N - 10) fs' → Φ (.sh (.bl true)) [some (.rcd fs'), none, none]) : satO (f__law_right [.rcd fs, .sh (progD rs), .sh (.lst (gs.map .int))]) Φ Ψ := by
  simp only [f__law_right, B__law_right]
  obtain ⟨p0, hp0⟩ : ∃ d, d = progD rs := ⟨_, rfl⟩
  obtain ⟨g0, hg0⟩ : ∃ d, d = D.lst (gs.map .int) := ⟨_, rfl⟩
  obtain ⟨t0, ht0⟩ : ∃ d, d = D.lst (((ws0 gs, 0) :: trc rs 200 (ws0 gs) 0).map snD) := ⟨_, rfl⟩
  have hst : ∀ {Φ Ψ}, Φ (.lst (((ws0 gs, 0) :: trc rs 200 (ws0 gs) 0).map snD)) [none, none] → satO (f__law_stands [.sh p0, .sh g0]) Φ Ψ := fun {Φ Ψ} q => by rw [hp0, hg0]; exact lstands_ok hr (by omega) (by omega) hgb q
  have hak : ∀ {Φ Ψ} (n : Nat), n ≤ 200 → Φ (.sh (.int (askN rs n (ws0 gs) 0 : Nat))) [none, none, none] → satO (f__law_asked [.sh p0, .sh t0, .sh (.int (n : Nat))]) Φ Ψ := fun {Φ Ψ} n hn q => by rw [hp0, ht0]; exact lasked_ok hr hn q
  have hrr : ∀ {Φ Ψ} (hs : List Int) (n : Nat), hs.length ≤ 1000 → n ≤ 200 → Φ (stR (runM rs n (ws0 hs) 0).1 (runM rs n (ws0 hs) 0).2.1 (runM rs n (ws0 hs) 0).2.2) [none, none, none] → satO (f_run_rows [.sh p0, .sh (.lst (hs.map .int)), .sh (.int (n : Nat))]) Φ Ψ := fun {Φ Ψ} hs n hhl hn q => by rw [hp0]; exact runrows_ok hr (by omega) hhl (by omega) q
  have hso : ∀ (hs : List Int) (n : Nat), hs.length ≤ 1000 → n ≤ 200 → okS (rnD rs hs n) = true := fun hs n h1 h2 => okS_rn hr (by omega) h1 h2
  rw [← hp0, ← hg0]
  array_mem_dec
  refine ⟨rfl, ?_⟩
  refine seq_cut (fun ρ => ρ = [some (T.rcd fs), some (T.sh p0), some (T.sh g0), some (T.sh t0), none, none, none, none, none, none, none, none, none, none, none, none]) ?_ ?_
  · sizeOf_list_dec
    refine ⟨rfl, hst ?_⟩
    sizeOf_list_dec
    rw [ht0]
  rintro ρ rfl
  refine seq_cut (fun ρ => ∃ (n : Nat) (fs : Fs), n ≤ 39 ∧ Bx (N - 1) fs ∧ ρ = [some (T.rcd fs), some (T.sh p0), some (T.sh g0), some (T.sh t0), some (T.sh (.int (n : Nat))), none, none, none, none, none, none, none, none, none, none, none]) ?_ ?_
  · sizeOf_list_dec
    refine ⟨rfl, take_ok hb (by omega) (by omega) (by omega) fun v fs v0 v1 hb => ?_⟩
    sizeOf_list_dec
    obtain ⟨v, rfl⟩ := Int.eq_ofNat_of_zero_le v0
    exact ⟨v, fs, by omega, hb, rfl⟩
  rintro ρ ⟨n, fs, hn39, hb, rfl⟩
  obtain ⟨k, hk⟩ : ∃ k, k = askN rs n (ws0 gs) 0 := ⟨_, rfl⟩
  have hkn : k ≤ n := by rw [hk]; exact askN_le n _ _
  obtain ⟨x0, hx0⟩ : ∃ x, x = shT (rnD rs gs n) := ⟨_, rfl⟩
  refine seq_cut (fun ρ => ρ = [some (T.rcd fs), some (T.sh p0), some (T.sh g0), some (T.sh t0), some (T.sh (.int (n : Nat))), some (T.sh (.int (k : Nat))), none, none, none, none, none, none, none, none, none, none]) ?_ ?_
  · sizeOf_list_dec
    refine ⟨rfl, hak n (by omega) ?_⟩
    sizeOf_list_dec
    rw [hk]
  rintro ρ rfl
  refine seq_cut (fun ρ => ρ = [some (T.rcd fs), some (T.sh p0), some (T.sh g0), some (T.sh t0), some (T.sh (.int (n : Nat))), some (T.sh (.int (k : Nat))), some (stR (runM rs n (ws0 gs) 0).1 (runM rs n (ws0 gs) 0).2.1 (runM rs n (ws0 gs) 0).2.2), none, none, none, none, none, none, none, none, none]) ?_ ?_
  · sizeOf_list_dec
    refine ⟨rfl, ?_⟩
    rw [hg0]
    refine hrr gs n (by omega) (by omega) ?_
    rw [← hg0]
    sizeOf_list_dec
  rintro ρ rfl
  refine seq_cut (fun ρ => ρ = [some (T.rcd fs), some (T.sh p0), some (T.sh g0), some (T.sh t0), some (T.sh (.int (n : Nat))), some (T.sh (.int (k : Nat))), some (stR (runM rs n (ws0 gs) 0).1 (runM rs n (ws0 gs) 0).2.1 (runM rs n (ws0 gs) 0).2.2), some (T.sh (.str x0)), none, none, none, none, none, none, none, none]) ?_ ?_
  · sizeOf_list_dec
    refine ⟨hso gs n (by omega) (by omega), ?_⟩
    rw [hx0]
    rfl
  rintro ρ rfl
  obtain ⟨R, hR⟩ : ∃ R, R = runM rs n (ws0 gs) 0 := ⟨_, rfl⟩
  rw [← hR]
  have hrt : ∀ {Φ : T → Od.Env → Prop} {Ψ : Exn → Od.Env → Prop} (hs : List Int) (m : Nat), hs.length ≤ 1000 → m ≤ 200 → (∀ t : T, frzT t = some (rnD rs hs m) → deepT t = true → Φ t [none, none, none]) → satO (f_run_rows [.sh p0, .sh (.lst (hs.map .int)), .sh (.int (m : Nat))]) Φ Ψ := fun {Φ Ψ} hs m hhl hn q => hrr hs m hhl hn (q (stR (runM rs m (ws0 hs) 0).1 (runM rs m (ws0 hs) 0).2.1 (runM rs m (ws0 hs) 0).2.2) rfl (by
    show (deepL (natsD (runM rs m (ws0 hs) 0).1.told) && (true && (deepL (natsD (runM rs m (ws0 hs) 0).1.nums) && (true && true)))) = true
    rw [deep_nats, deep_nats]; rfl))
  have hcut : ∀ j : Nat, lCut none (some (j : Int)) g0 = some ((gs.take j).map .int) := fun j => by rw [hg0]; show some (cutD _ _ _) = _; rw [cutD_take, ← List.map_take]
  have hne : ∀ {Φ : Bool → Prop}, Φ (!decide (gs = [])) → ex (fNe g0 (D.lst [])) Φ := fun {Φ} q => by rw [hg0]; exact fNe_ints (ys := []) q
  have hln : ∀ {Φ : D → Prop}, Φ (.int (gs.length : Nat)) → ex (fLen [g0]) Φ := fun {Φ} z => by
    rw [hg0]
    sizeOf_list_dec
    rw [List.length_map]
    exact z
  have hsp : ∀ {Φ : T → Od.Env → Prop} {Ψ : Exn → Od.Env → Prop} (M a : Nat) (fs : Fs), Bx M fs → 1 ≤ M → a < gs.length → (∀ (x : Int) fs', 0 ≤ x ∧ x < 256 → Bx (M - 1) fs' → Φ (.lst ((gs.set a x).map .int)) [some (.rcd fs'), none, none]) → satO (f__law_spoilt [.rcd fs, .sh g0, .sh (.int (a : Nat))]) Φ Ψ := fun {Φ Ψ} M a fs hb h1 h2 q => by rw [hg0]; exact lspoilt_ok hb h1 h2 (by omega) hgb q
  have hag : ∀ (hs : List Int), (∀ i, i < k → gs.getD i 0 = hs.getD i 0) → shT (rnD rs hs n) = x0 := fun hs h => by rw [hx0, rn_agree (rs := rs) (n := n) (gs := gs) (hs := hs) (by rw [← hk]; exact h)]
  refine seq_cut (fun ρ => ∃ (z : Nat) (fs : Fs), z ≤ 5 ∧ Bx (N - 2) fs ∧ ρ = [some (T.rcd fs), some (T.sh p0), some (T.sh g0), some (T.sh t0), some (T.sh (.int (n : Nat))), some (T.sh (.int (k : Nat))), some (stR R.1 R.2.1 R.2.2), some (T.sh (.str x0)), some (T.sh (.lst ((gs ++ List.replicate z 0).map .int))), none, none, none, none, none, none, none]) ?_ ?_
  · sizeOf_list_dec
    refine ⟨by decide, rfl, take_ok hb (by omega) (by omega) (by omega) fun v fs v0 v1 hb => ?_⟩
    sizeOf_list_dec
    obtain ⟨v, rfl⟩ := Int.eq_ofNat_of_zero_le v0
    have ev : ((1 : Int) + (v : Nat)).toNat = 1 + v := by omega
    rw [hg0]
    sizeOf_list_dec
    rw [ev]
    have er : (List.replicate (1 + v) [D.int 0]).flatten = (List.replicate (1 + v) (0 : Int)).map .int := by
      rw [List.map_replicate]
      induction (1 + v) with
      | zero => rfl
      | succ n ih => rw [List.replicate_succ, List.flatten_cons, ih, List.replicate_succ]; rfl
    rw [er, ← List.map_append]
    refine ⟨⟨by omega, by omega, by simp only [List.length_cons, List.length_nil]; omega⟩, by rw [List.length_map, List.length_map, List.length_replicate]; omega, 1 + v, fs, by omega, hb.mono (by omega), rfl⟩
  rintro ρ ⟨z, fs, hz, hb, rfl⟩
  refine seq_cut (fun ρ => ρ = [some (T.rcd fs), some (T.sh p0), some (T.sh g0), some (T.sh t0), some (T.sh (.int (n : Nat))), some (T.sh (.int (k : Nat))), some (stR R.1 R.2.1 R.2.2), some (T.sh (.str x0)), some (T.sh (.lst ((gs ++ List.replicate z 0).map .int))), none, none, none, none, none, none, none]) ?_ ?_
  · sizeOf_list_dec
    refine ⟨fun h => by omega, fun _ => ⟨rfl, hrt _ n (by rw [List.length_append, List.length_replicate]; omega) (by omega) fun t ht _ => ?_⟩⟩
    sizeOf_list_dec
    rw [ht, ex_some]
    refine ⟨hso _ n (by rw [List.length_append, List.length_replicate]; omega) (by omega), ?_⟩
    rw [hag _ (fun i _ => getD_app0 gs z i)]
    sizeOf_list_dec
    exact fun y => absurd trivial y
  rintro ρ rfl
  refine seq_cut (fun ρ => ρ = [some (T.rcd fs), some (T.sh p0), some (T.sh g0), some (T.sh t0), some (T.sh (.int (n : Nat))), some (T.sh (.int (k : Nat))), some (stR R.1 R.2.1 R.2.2), some (T.sh (.str x0)), some (T.sh (.lst ((gs ++ List.replicate z 0).map .int))), none, none, none, none, none, none, none]) ?_ ?_
  · sizeOf_list_dec
    refine ⟨rfl, ?_⟩
    rw [hcut, ex_some]
    refine hrt _ n (by rw [List.length_take]; omega) (by omega) fun t ht _ => ?_
    sizeOf_list_dec
    rw [ht, ex_some]
    refine ⟨hso _ n (by rw [List.length_take]; omega) (by omega), ?_⟩
    rw [hag _ (fun i hi => getD_take hi)]
    sizeOf_list_dec
    exact fun y => absurd trivial y
  rintro ρ rfl
  refine seq_cut (fun ρ => ∃ (o9 o10 o11 o12 : Option T) (fs : Fs), Bx (N - 9) fs ∧ ρ = [some (T.rcd fs), some (T.sh p0), some (T.sh g0), some (T.sh t0), some (T.sh (.int (n : Nat))), some (T.sh (.int (k : Nat))), some (stR R.1 R.2.1 R.2.2), some (T.sh (.str x0)), some (T.sh (.lst ((gs ++ List.replicate z 0).map .int))), o9, o10, o11, o12, none, none, none]) ?_ ?_
  · array_mem_dec
    refine ⟨by decide, hne ⟨fun hgn => ?_, fun _ => ⟨none, none, none, none, fs, hb.mono (by omega), rfl⟩⟩⟩
    have hgl : 0 < gs.length := by
      rcases gs with _ | ⟨g, gs⟩
      · cases hgn
      · exact Nat.succ_pos _
    rw [hp0, hg0]
    exact rightB_ok hb (by omega) hr hl hg hgl hgb hn39 ht0 hk hx0 (fun o9 o10 o11 o12 fs hb => ⟨o9, o10, o11, o12, fs, hb.mono (by omega), rfl⟩)
  rintro ρ ⟨o9, o10, o11, o12, fs, hb, rfl⟩
  have cq : ∀ {α : Type} (x : α) (f : α → Prop), cps x f = f x := fun _ _ => rfl
  have hRl : R.1.told.length ≤ 100000 := by rw [hR]; exact (runM_ok hr n (ws0 gs) 0 (ws0_ok (by omega)) (Nat.zero_le _) (by show 0 + n ≤ _; omega)).1.l
  refine seq_cut (fun ρ => ∃ (t6 : T), ρ = [some (T.rcd fs), some (T.sh p0), some (T.sh g0), some (T.sh t0), some (T.sh (.int (n : Nat))), some (T.sh (.int (k : Nat))), some t6, some (T.sh (.str x0)), some (T.sh (.lst ((gs ++ List.replicate z 0).map .int))), o9, o10, o11, o12, none, none, none]) ?_ ?_
  · sizeOf_list_dec
    rw [cq (frzO4 (some (T.rcd fs))), cq (frzO4 o9), cq (frzO4 o10), cq (frzO4 o11), cq (frzO4 o12)]
    exact ⟨rfl, by have := hRl; unfold natsD; rw [List.length_map]; omega, _, rfl⟩
  rintro ρ ⟨t6, rfl⟩
  refine seq_cut (fun ρ => ρ = [some (T.rcd fs), some (T.sh p0), some (T.sh g0), some (T.sh t0), some (T.sh (.int (n : Nat))), some (T.sh (.int (k : Nat))), some t6, some (T.sh (.str x0)), some (T.sh (.lst ((gs ++ List.replicate z 0).map .int))), o9, o10, o11, o12, some (T.lst (gs.map .int)), none, none]) ?_ ?_
  · sizeOf_list_dec
    rw [hg0]
    sizeOf_list_dec
  rintro ρ rfl
  refine seq_cut (fun ρ => ∃ t : T, frzT t = some (rnD rs gs n) ∧ ρ = [some (T.rcd fs), some (T.sh p0), some (T.sh g0), some (T.sh t0), some (T.sh (.int (n : Nat))), some (T.sh (.int (k : Nat))), some t6, some (T.sh (.str x0)), some (T.sh (.lst ((gs ++ List.replicate z 0).map .int))), o9, o10, o11, o12, some (T.lst (gs.map .int)), some t, none]) ?_ ?_
  · sizeOf_list_dec
    rw [cq (frzO2 (some t6)), cq (frzO2 o9), cq (frzO2 o10), cq (frzO2 o11), cq (frzO2 o12)]
    refine ⟨rfl, hrt gs n (by omega) (by omega) fun t ht hd => ?_⟩
    rw [cq (putB _ _ _)]
    exact ⟨hd, t, ht, rfl⟩
  rintro ρ ⟨t, ht, rfl⟩
  refine seq_cut (fun ρ => ∃ t13 : T, ρ = [some (T.rcd fs), some (T.sh p0), some (T.sh g0), some (T.sh t0), some (T.sh (.int (n : Nat))), some (T.sh (.int (k : Nat))), some t6, some (T.sh (.str x0)), some (T.sh (.lst ((gs ++ List.replicate z 0).map .int))), o9, o10, o11, o12, some t13, some t, none]) ?_ ?_
  · sizeOf_list_dec
    exact ⟨by rw [List.length_map]; omega, _, rfl⟩
  rintro ρ ⟨t13, rfl⟩
  have hft : frzO (some t) = some (.sh (rnD rs gs n)) := by show (frzT t).map T.sh = _; rw [ht]; rfl
  sizeOf_list_dec
  rw [cq (frzO (some t6)), cq (frzO o9), cq (frzO o10), cq (frzO o11), cq (frzO o12), cq (frzO (some t13)), cq (frzO (some t)), hft]
  generalize frzO (some t6) = e6
  generalize frzO o9 = e9
  generalize frzO o10 = e10
  generalize frzO o11 = e11
  generalize frzO o12 = e12
  generalize frzO (some t13) = e13
  sizeOf_list_dec
  refine ⟨hso gs n (by omega) (by omega), fun _ => ⟨rfl, ?_⟩, fun z => absurd hx0.symm z⟩
  rw [hg0]
  refine hrt gs n (by omega) (by omega) fun t2 ht2 _ => ?_
  sizeOf_list_dec
  rw [ht2, ex_some]
  refine ⟨hso gs n (by omega) (by omega), ?_⟩
  rw [← hx0]
  sizeOf_list_dec
  rw [decide_eq_true trivial]
  exact q fs (hb.mono (by omega))
theorem law_fact (ns : List Int) (hns : ns.length ≤ 63) : ∃ os, f_law [.sh (.rol (ns.map .int))] = .ok (.sh (.bl true)) os := by
  have key : satO (f_law [T.sh (.rol (ns.map .int))]) (fun t os => t = .sh (.bl true)) (fun _ _ => False) := by
    simp only [f_law, B_law]
    obtain ⟨s0, hs0⟩ : ∃ s0, s0 = D.rol (ns.map .int) := ⟨_, rfl⟩
    rw [← hs0]
    array_mem_dec
    refine ⟨rfl, ?_⟩
    refine seq_cut (fun ρ => ∃ fs, Bx 900000000 fs ∧ ρ = [some (T.sh s0), some (T.rcd fs), none, none, none, none, none, none]) ?_ ?_
    · rw [hs0]
      sizeOf_list_dec
      refine ⟨rfl, begin_ok hns fun fs hb => ?_⟩
      rw [← hs0]
      sizeOf_list_dec
      exact ⟨fs, hb, rfl⟩
    rintro ρ ⟨fs, hb, rfl⟩
    generalize hAA : sSet 2 _ = AA
    refine seq_cut (fun ρ => ∃ (ps : List (List PRow)) (fs : Fs), ps.length = 2 ∧ (∀ rs ∈ ps, rs.length ≤ 40 ∧ ∀ r ∈ rs, r.ok rs.length) ∧ Bx 800000000 fs ∧ ρ = [some (T.sh s0), some (T.rcd fs), some (T.lst (ps.map progD)), none, none, none, none, none]) ?_ ?_
    · rw [← hAA]
      sizeOf_list_dec
      refine ⟨rfl, ?_⟩
      refine cmp_i (xs := rngD 0 (Int.toNat 2)) (fun i acc ρ => ∃ (ps : List (List PRow)) (fs : Fs), ρ = [some (T.sh s0), some (T.rcd fs), none, none, none, none, none, none] ∧ acc = ps.map progD ∧ ps.length = i ∧ (∀ rs ∈ ps, rs.length ≤ 40 ∧ ∀ r ∈ rs, r.ok rs.length) ∧ Bx (900000000 - 1000 * i) fs) (by rw [rngD_len]; decide) ⟨[], fs, rfl, rfl, rfl, fun _ h => (by cases h), hb⟩ ?_ ?_
      · rintro i y acc ρ hy hi ⟨ps, fs, rfl, rfl, hpl, hps, hb⟩
        have hi2 : i < 2 := by have := (List.getElem?_eq_some_iff.mp hy).1; rw [rngD_len] at this; omega
        sizeOf_list_dec
        refine ⟨rfl, rfl, rfl, lmany_ok hb (by omega) fun m fs hm hb => ?_⟩
        sizeOf_list_dec
        refine lprog_ok hb (by omega) (by omega) fun rs fs hl hr hb => ?_
        sizeOf_list_dec
        refine lasking_ok hb (by omega) (by omega) hr fun us fs hul hu hb => ?_
        sizeOf_list_dec
        exact ⟨ps ++ [us], fs, rfl, by rw [List.map_append]; rfl, by rw [List.length_append, hpl]; rfl, fun u' h' => by
          rcases List.mem_append.mp h' with h' | h'
          · exact hps u' h'
          · rw [List.mem_singleton.mp h']; exact ⟨by omega, by rw [show us.length = m by omega]; exact hu⟩, hb.mono (by omega)⟩
      · rintro acc ρ _ ⟨ps, fs, rfl, rfl, hpl, hps, hb⟩
        rw [rngD_len] at hpl
        sizeOf_list_dec
        exact ⟨ps, fs, hpl, hps, hb.mono (by rw [rngD_len]; omega), rfl⟩
    rintro ρ ⟨ps, fs, hpl, hps, hb, rfl⟩
    refine seq_cut (fun ρ => ∃ (m : Nat) (fs : Fs), m ≤ 195 ∧ Bx 700000000 fs ∧ ρ = [some (T.sh s0), some (T.rcd fs), some (T.lst (ps.map progD)), some (T.sh (.int (m : Nat))), none, none, none, none]) ?_ ?_
    · sizeOf_list_dec
      refine ⟨rfl, take_ok hb (by omega) (by omega) (by omega) fun u fs u0 u1 hb => ?_⟩
      sizeOf_list_dec
      refine ⟨rfl, take_ok hb (by omega) (by omega) (by omega) fun v fs v0 v1 hb => ?_⟩
      sizeOf_list_dec
      refine ⟨by show 2 ≤ 1000000; decide, rfl, take_ok hb (by omega) (by omega) (by omega) fun w fs w0 w1 hb => ?_⟩
      sizeOf_list_dec
      obtain ⟨u, rfl⟩ := Int.eq_ofNat_of_zero_le u0
      obtain ⟨v, rfl⟩ := Int.eq_ofNat_of_zero_le v0
      have hw : (0 : Int) ≤ (if w = 0 then 1 else 0) ∧ (if w = 0 then 1 else 0 : Int) < 2 := by split <;> omega
      refine two_at hw.1 hw.2 ?_ ?_
      · exact ⟨u, fs, by omega, hb.mono (by omega), rfl⟩
      · exact ⟨150 + v, fs, by omega, hb.mono (by omega), by rw [show (150 : Int) + (v : Nat) = ((150 + v : Nat) : Int) by omega]⟩
    rintro ρ ⟨m, fs, hm, hb, rfl⟩
    generalize hAA : sSet 4 _ = AA
    refine seq_cut (fun ρ => ∃ (gg : List (List Int)) (fs : Fs), gg.length = 2 ∧ (∀ gs ∈ gg, gs.length ≤ 200 ∧ ∀ g ∈ gs, 0 ≤ g ∧ g < 256) ∧ Bx 600000000 fs ∧ ρ = [some (T.sh s0), some (T.rcd fs), some (T.lst (ps.map progD)), some (T.sh (.int (m : Nat))), some (T.lst (gg.map fun gs => .lst (gs.map .int))), none, none, none]) ?_ ?_
    · rw [← hAA]
      sizeOf_list_dec
      refine ⟨rfl, take_ok hb (by omega) (by omega) (by omega) fun v fs v0 v1 hb => ?_⟩
      sizeOf_list_dec
      obtain ⟨v, rfl⟩ := Int.eq_ofNat_of_zero_le v0
      refine ⟨by show 2 ≤ 1000000; decide, ?_⟩
      refine cmp_i (xs := [D.int (m : Nat), D.int (v : Nat)]) (fun i acc ρ => ∃ (gg : List (List Int)) (fs : Fs), ρ = [some (T.sh s0), some (T.rcd fs), some (T.lst (ps.map progD)), some (T.sh (.int (m : Nat))), none, none, none, none] ∧ acc = (gg.map fun gs => D.lst (gs.map .int)) ∧ gg.length = i ∧ (∀ gs ∈ gg, gs.length ≤ 200 ∧ ∀ g ∈ gs, 0 ≤ g ∧ g < 256) ∧ Bx (690000000 - 1000 * i) fs) (by show 2 ≤ 1000000; decide) ⟨[], fs, rfl, rfl, rfl, fun _ h => (by cases h), hb.mono (by omega)⟩ ?_ ?_
      · rintro i y acc ρ hy hi ⟨gg, fs, rfl, rfl, hgl, hgg, hb⟩
        have hi2 : i < 2 := (List.getElem?_eq_some_iff.mp hy).1
        obtain ⟨j, hj, rfl⟩ : ∃ j : Nat, j ≤ 195 ∧ y = .int (j : Nat) := by
          have := List.mem_of_getElem? hy
          simp only [List.mem_cons, List.not_mem_nil, or_false] at this
          rcases this with rfl | rfl
          · exact ⟨m, hm, rfl⟩
          · exact ⟨v, by omega, rfl⟩
        sizeOf_list_dec
        obtain ⟨xs, hxs⟩ : ∃ xs, xs = rngD 0 ((j : Nat) : Int).toNat := ⟨_, rfl⟩
        have hxl : xs.length = j := by rw [hxs, rngD_len]; omega
        rw [← hxs]
        refine ⟨okI_of (by omega) (by omega), ?_⟩
        refine cmp_i (fun l acc ρ => ∃ (gs : List Int) (fs : Fs), ρ = [some (T.sh s0), some (T.rcd fs), some (T.lst (ps.map progD)), some (T.sh (.int (m : Nat))), none, none, some (T.sh (.int (j : Nat))), none] ∧ acc = gs.map .int ∧ gs.length = l ∧ (∀ g ∈ gs, 0 ≤ g ∧ g < 256) ∧ Bx (690000000 - 1000 * i - l) fs) (by omega) ⟨[], fs, rfl, rfl, rfl, fun _ h => (by cases h), hb.mono (by omega)⟩ ?_ ?_
        · rintro l y acc ρ hy hi ⟨gs, fs, rfl, rfl, hgl, hgb, hb⟩
          have hl2 : l < j := by rw [← hxl]; exact (List.getElem?_eq_some_iff.mp hy).1
          sizeOf_list_dec
          refine ⟨rfl, take_ok hb (by omega) (by omega) (by omega) fun z fs z0 z1 hb => ?_⟩
          sizeOf_list_dec
          exact ⟨gs ++ [z], fs, rfl, by rw [List.map_append]; rfl, by rw [List.length_append, hgl]; rfl, fun u' h' => by
            rcases List.mem_append.mp h' with h' | h'
            · exact hgb u' h'
            · rw [List.mem_singleton.mp h']; exact ⟨z0, z1⟩, hb.mono (by omega)⟩
        · rintro acc ρ _ ⟨gs, fs, rfl, rfl, hgl2, hgb, hb⟩
          rw [hxl] at hgl2 hb
          sizeOf_list_dec
          exact ⟨gg ++ [gs], fs, rfl, by rw [List.map_append]; rfl, by rw [List.length_append, hgl]; rfl, fun u' h' => by
            rcases List.mem_append.mp h' with h' | h'
            · exact hgg u' h'
            · rw [List.mem_singleton.mp h']; exact ⟨by omega, hgb⟩, hb.mono (by omega)⟩
      · rintro acc ρ _ ⟨gg, fs, rfl, rfl, hgl, hgg, hb⟩
        sizeOf_list_dec
        exact ⟨gg, fs, hgl, hgg, hb.mono (by show _ ≤ 690000000 - 1000 * 2; omega), rfl⟩
    rintro ρ ⟨gg, fs, hgl, hgg, hb, rfl⟩
    refine seq_cut (fun ρ => ∃ (fs : Fs), ρ = [some (T.sh s0), some (T.rcd fs), some (T.lst (ps.map progD)), some (T.sh (.int (m : Nat))), some (T.lst (gg.map fun gs => .lst (gs.map .int))), none, none, none]) ?_ ?_
    · sizeOf_list_dec
      refine ⟨rfl, ?_⟩
      refine for_inv (fun i ρ => ∃ fs, Bx (600000000 - 1000 * i) fs ∧ ρ = [some (T.sh s0), some (T.rcd fs), some (T.lst (ps.map progD)), some (T.sh (.int (m : Nat))), some (T.lst (gg.map fun gs => .lst (gs.map .int))), none, none, none]) ⟨fs, hb, rfl⟩ ?_ ?_
      · rintro i x ρ hx ⟨fs, hb, rfl⟩
        have hi2 : i < 4 := by have := (List.getElem?_eq_some_iff.mp hx).1; rw [rngD_len] at this; omega
        have hxi : x = .int (i : Nat) := by rw [rngD_get hx, Int.zero_add]
        subst hxi
        obtain ⟨rs, hrs⟩ : ∃ rs, ps[i % 2]? = some rs := ⟨_, List.getElem?_eq_getElem (by omega)⟩
        obtain ⟨gs, hgs⟩ : ∃ gs, gg[i / 2]? = some gs := ⟨_, List.getElem?_eq_getElem (by omega)⟩
        have h1 := hps rs (List.mem_of_getElem? hrs)
        have h2 := hgg gs (List.mem_of_getElem? hgs)
        sizeOf_list_dec
        rw [atI_k (x := progD rs) (i % 2) (by omega) (by rw [List.getElem?_map, hrs]; rfl), ex_some]
        refine ⟨rfl, by decide, by decide, ?_⟩
        rw [atI_k (x := D.lst (gs.map .int)) (i / 2) (by omega) (by rw [List.getElem?_map, hgs]; rfl), ex_some]
        refine lright_ok hb (by omega) h1.2 h1.1 h2.1 h2.2 fun fs hb => ?_
        sizeOf_list_dec
        exact ⟨fs, hb.mono (by omega), rfl⟩
      · rintro ρ ⟨fs, hb, rfl⟩
        exact ⟨fs, rfl⟩
    rintro ρ ⟨fs, rfl⟩
    sizeOf_list_dec
  obtain ⟨t, os, h, rfl⟩ := key.ex
  exact ⟨os, h⟩
end OdW

open PySem PySem.W PyProof.Rows
set_option maxHeartbeats 0 in
theorem PySem.Challenge.cw_oddlong_k45_numbers_given_holds : PySem.Challenge.rw_oddlong_k45_numbers_given.Holds := by
  w_on; o_law; k_head; (case hw => w_witness2)
  k_fill
  refine Od.walkG (l := PySem.Challenge.rw_oddlong_k45_numbers_given) (n := 63) (k := 6) (x := "_law_script") (CX := fun w => L2.CX PySem.Challenge.rw_oddlong_k45_numbers_given.prog w) (sp := fun w => Od.spLaw _) rfl (by decide) rfl ⟨⟨rfl, by decide, by decide⟩, rfl⟩ (fun w h Y => by first | exact PySem.W.kIn_of Y | exact PySem.W.km_in_of Y) ?F (fun _ _ a ns hl _ hS => ⟨a, ns, rfl, hS, hl, fun _ => rfl⟩) (fun _ _ _ _ _ ⟨_, _, _, _, _, _, _, _, _, _, _, _, h⟩ => h)
  case F =>
    intro w mg fa h KX G hmg
    refine' OdW.all_mk KX G hmg ?n_ROUND ?n_SPOTS ?on_Works ?opg_Works ?ohd_Works ?opo_Works ?osa_Works ?ona_Works_numbers ?ona_Works_given ?ona_Works_taken ?ona_Works_told ?omk_Works ?okp_Works ?mm_Works____init__ ?mf_Works____init__ ?l_Works____init__ ?q_Works____init__ ?k_Works____init__ ?mm_Works__stand ?mf_Works__stand ?l_Works__stand ?q_Works__stand ?k_Works__stand ?mm_Works__put_in ?mf_Works__put_in ?l_Works__put_in ?q_Works__put_in ?k_Works__put_in ?mm_Works__number_in ?mf_Works__number_in ?l_Works__number_in ?q_Works__number_in ?k_Works__number_in ?mm_Works__next_given ?mf_Works__next_given ?l_Works__next_given ?q_Works__next_given ?k_Works__next_given ?mm_Works__work ?mf_Works__work ?l_Works__work ?q_Works__work ?k_Works__work ?m__law_begin ?l__law_begin ?q__law_begin ?k__law_begin ?m__law_take ?l__law_take ?q__law_take ?k__law_take ?m__law_asking ?l__law_asking ?q__law_asking ?k__law_asking ?m__law_program ?l__law_program ?q__law_program ?k__law_program ?m__law_works ?l__law_works ?q__law_works ?k__law_works ?m__law_work ?l__law_work ?q__law_work ?k__law_work ?m__law_done ?l__law_done ?q__law_done ?k__law_done ?m__law_ended ?l__law_ended ?q__law_ended ?k__law_ended ?m__law_stands ?l__law_stands ?q__law_stands ?k__law_stands ?m__law_asked ?l__law_asked ?q__law_asked ?k__law_asked ?m_place_behind ?l_place_behind ?q_place_behind ?k_place_behind ?m_run_rows ?l_run_rows ?q_run_rows ?k_run_rows ?m__law_spoilt ?l__law_spoilt ?q__law_spoilt ?k__law_spoilt ?m__law_right ?l__law_right ?q__law_right ?k__law_right ?m__law_many ?l__law_many ?q__law_many ?k__law_many ?m_law ?l_law ?q_law ?k_law ?z_divmod ?z_int ?z_len ?z_list ?z_max ?z_min ?z_range ?z_str ?z_tuple OdW.law_fact
    (case n_ROUND => k_is); (case n_SPOTS => k_is); (case on_Works => k_is); (case opg_Works => k_is); (case ohd_Works => k_is); (case opo_Works => k_is); (case osa_Works => k_is); (case ona_Works_numbers => k_is); (case ona_Works_given => k_is); (case ona_Works_taken => k_is); (case ona_Works_told => k_is); (case omk_Works => k_is); (case okp_Works => k_is); (case mm_Works____init__ => k_is); (case mf_Works____init__ => k_is); (case l_Works____init__ => k_is); (case q_Works____init__ => k_is); (case k_Works____init__ => k_is); (case mm_Works__stand => k_is); (case mf_Works__stand => k_is); (case l_Works__stand => k_is); (case q_Works__stand => k_is); (case k_Works__stand => k_is); (case mm_Works__put_in => k_is); (case mf_Works__put_in => k_is); (case l_Works__put_in => k_is); (case q_Works__put_in => k_is); (case k_Works__put_in => k_is); (case mm_Works__number_in => k_is); (case mf_Works__number_in => k_is); (case l_Works__number_in => k_is); (case q_Works__number_in => k_is); (case k_Works__number_in => k_is); (case mm_Works__next_given => k_is); (case mf_Works__next_given => k_is); (case l_Works__next_given => k_is); (case q_Works__next_given => k_is); (case k_Works__next_given => k_is); (case mm_Works__work => k_is); (case mf_Works__work => k_is); (case l_Works__work => k_is); (case q_Works__work => k_is); (case k_Works__work => k_is); (case m__law_begin => k_is); (case l__law_begin => k_is); (case q__law_begin => k_is); (case k__law_begin => k_is); (case m__law_take => k_is); (case l__law_take => k_is); (case q__law_take => k_is); (case k__law_take => k_is); (case m__law_asking => k_is); (case l__law_asking => k_is); (case q__law_asking => k_is); (case k__law_asking => k_is); (case m__law_program => k_is); (case l__law_program => k_is); (case q__law_program => k_is); (case k__law_program => k_is); (case m__law_works => k_is); (case l__law_works => k_is); (case q__law_works => k_is); (case k__law_works => k_is); (case m__law_work => k_is); (case l__law_work => k_is); (case q__law_work => k_is); (case k__law_work => k_is); (case m__law_done => k_is); (case l__law_done => k_is); (case q__law_done => k_is); (case k__law_done => k_is); (case m__law_ended => k_is); (case l__law_ended => k_is); (case q__law_ended => k_is); (case k__law_ended => k_is); (case m__law_stands => k_is); (case l__law_stands => k_is); (case q__law_stands => k_is); (case k__law_stands => k_is); (case m__law_asked => k_is); (case l__law_asked => k_is); (case q__law_asked => k_is); (case k__law_asked => k_is); (case m_place_behind => k_is); (case l_place_behind => k_is); (case q_place_behind => k_is); (case k_place_behind => k_is); (case m_run_rows => k_is); (case l_run_rows => k_is); (case q_run_rows => k_is); (case k_run_rows => k_is); (case m__law_spoilt => k_is); (case l__law_spoilt => k_is); (case q__law_spoilt => k_is); (case k__law_spoilt => k_is); (case m__law_right => k_is); (case l__law_right => k_is); (case q__law_right => k_is); (case k__law_right => k_is); (case m__law_many => k_is); (case l__law_many => k_is); (case q__law_many => k_is); (case k__law_many => k_is); (case m_law => k_is); (case l_law => k_is); (case q_law => k_is); (case k_law => k_is); (case z_divmod => k_is); (case z_int => k_is); (case z_len => k_is); (case z_list => k_is); (case z_max => k_is); (case z_min => k_is); (case z_range => k_is); (case z_str => k_is); (case z_tuple => k_is)
